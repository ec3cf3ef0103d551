/- The texts Xf9, Xf44, Xf10, Xf45, Xf11, Xf46, Xf12, Xf16, Xf15, Xf3, YWords, Xf24, Xf29 of this claim, one behind the other. -/
import Derived.Test.YtgiehdhnhkmjfaaMG0
import Derived.Test.YtgiehdhnhkmjfaaMG1
import Init
-- Laid by xprint.py (wip/tools): printed contracts, and hand-written ones between them.
namespace Go.Proofs.Ytgiehdhnhkmjfaa.X
open Go.RowKit Go.Proofs.YtgiehdhnhkmjfaaW.PrintWords Go.Proofs.YtgiehdhnhkmjfaaW.PrintLast Go.Proofs.YtgiehdhnhkmjfaaW.PrintMore
attribute [local go_sem] max2_int min2_int max_two min_two max_three min_three max_four min_four   -- for this text's walks alone
set_option linter.unusedVariables false
set_option linter.unusedSimpArgs false

/-! ### spec_WeighingsOf: function 9 -/
mutual
def spec_WeighingsOf.l0 : Nat → List (List Int) → List (S50) → Int → Int → Option ((List (S50)) × Bool)
  | 0, _, _, _, _ => none
  | k + 1, x0, x4, x16, x17 => if x17 < x16 then (spec_WeighingsOf.l1 k x0 x4 x17 x16 x17 x0 (x0.length : Int) 0 ([] : List Int) ([] : List Int)) else (some (x4, true))
def spec_WeighingsOf.l1 : Nat → List (List Int) → List (S50) → Int → Int → Int → List (List Int) → Int → Int → List Int → List Int → Option ((List (S50)) × Bool)
  | 0, _, _, _, _, _, _, _, _, _, _ => none
  | k + 1, x0, x4, x5, x16, x17, x21, x22, x23, x10007000, x10007001 => if x23 < x22 then (if 0 ≤ x23 then (if x23 < (x21.length : Int) then (if 0 ≤ x5 then (if x5 < ((rd_L9 x21 x23).length : Int) then (if (rd (rd_L9 x21 x23) x5) = 1 then (if x10007000.length < 17592186044416 then ((some (x10007000 ++ [x23] : List Int)).bind fun y10012 => (if (rd (rd_L9 x21 x23) x5) = (-1) then (if x10007001.length < 17592186044416 then (spec_WeighingsOf.l1 k x0 x4 x5 x16 x17 x21 x22 (wrap64 (x23 + 1)) y10012 (x10007001 ++ [x23])) else (none)) else (spec_WeighingsOf.l1 k x0 x4 x5 x16 x17 x21 x22 (wrap64 (x23 + 1)) y10012 x10007001))) else (none)) else (if (rd (rd_L9 x21 x23) x5) = (-1) then (if x10007001.length < 17592186044416 then (spec_WeighingsOf.l1 k x0 x4 x5 x16 x17 x21 x22 (wrap64 (x23 + 1)) x10007000 (x10007001 ++ [x23])) else (none)) else (spec_WeighingsOf.l1 k x0 x4 x5 x16 x17 x21 x22 (wrap64 (x23 + 1)) x10007000 x10007001))) else (none)) else (none)) else (none)) else (none)) else (if x4.length < 2932031007402 then (spec_WeighingsOf.l0 k x0 (x4 ++ [(⟨x10007000, x10007001⟩ : S50)]) x16 (wrap64 (x17 + 1))) else (none))
end
def spec_WeighingsOf.f (k : Nat) (l0 : List (List Int)) : Option ((List (S50)) × Bool) := (spec_l8Words.f k l0).bind fun t10001 => (if t10001 = true then (if 0 < (l0.length : Int) then (spec_WeighingsOf.l0 k l0 (([] : List (S50))) ((rd_L9 l0 0).length : Int) 0) else (none)) else (some (([] : List (S50)), false)))
theorem spec_WeighingsOf.mono_l : ∀ k, (∀ y0 y1 y2 y3, LeO (spec_WeighingsOf.l0 k y0 y1 y2 y3) (spec_WeighingsOf.l0 (k + 1) y0 y1 y2 y3)) ∧ (∀ y0 y1 y2 y3 y4 y5 y6 y7 y8 y9, LeO (spec_WeighingsOf.l1 k y0 y1 y2 y3 y4 y5 y6 y7 y8 y9) (spec_WeighingsOf.l1 (k + 1) y0 y1 y2 y3 y4 y5 y6 y7 y8 y9))
  | 0 => ⟨fun _ _ _ _ r h => by simp [spec_WeighingsOf.l0] at h, fun _ _ _ _ _ _ _ _ _ _ r h => by simp [spec_WeighingsOf.l1] at h⟩
  | k + 1 => by
    obtain ⟨ih0, ih1⟩ := spec_WeighingsOf.mono_l k
    refine ⟨?_, ?_⟩
    · intro y0 y1 y2 y3
      unfold spec_WeighingsOf.l0
      repeat' first
      | (with_reducible exact ih0 _ _ _ _)
      | (with_reducible exact ih1 _ _ _ _ _ _ _ _ _ _)
      | (with_reducible exact spec_l8Words.mono _ _)
      | (with_reducible exact LeO.refl _)
      | (with_reducible exact LeO.none _)
      | (with_reducible refine LeO.ite ?_ ?_)
      | (with_reducible refine LeO.bind ?_ (fun _ => ?_))
      | exact ih0 _ _ _ _
      | exact ih1 _ _ _ _ _ _ _ _ _ _
      | exact spec_l8Words.mono _ _
      | exact LeO.none _
      | refine LeO.ite ?_ ?_
      | refine LeO.bind ?_ (fun _ => ?_)
    · intro y0 y1 y2 y3 y4 y5 y6 y7 y8 y9
      unfold spec_WeighingsOf.l1
      repeat' first
      | (with_reducible exact ih0 _ _ _ _)
      | (with_reducible exact ih1 _ _ _ _ _ _ _ _ _ _)
      | (with_reducible exact spec_l8Words.mono _ _)
      | (with_reducible exact LeO.refl _)
      | (with_reducible exact LeO.none _)
      | (with_reducible refine LeO.ite ?_ ?_)
      | (with_reducible refine LeO.bind ?_ (fun _ => ?_))
      | exact ih0 _ _ _ _
      | exact ih1 _ _ _ _ _ _ _ _ _ _
      | exact spec_l8Words.mono _ _
      | exact LeO.none _
      | refine LeO.ite ?_ ?_
      | refine LeO.bind ?_ (fun _ => ?_)
theorem spec_WeighingsOf.mono : ∀ a0 k, LeO (spec_WeighingsOf.f k a0) (spec_WeighingsOf.f (k + 1) a0) := by
  intro a0 k
  obtain ⟨ih0, ih1⟩ := spec_WeighingsOf.mono_l k
  unfold spec_WeighingsOf.f
  repeat' first
      | (with_reducible exact ih0 _ _ _ _)
      | (with_reducible exact ih1 _ _ _ _ _ _ _ _ _ _)
      | (with_reducible exact spec_l8Words.mono _ _)
      | (with_reducible exact LeO.refl _)
      | (with_reducible exact LeO.none _)
      | (with_reducible refine LeO.ite ?_ ?_)
      | (with_reducible refine LeO.bind ?_ (fun _ => ?_))
      | exact ih0 _ _ _ _
      | exact ih1 _ _ _ _ _ _ _ _ _ _
      | exact spec_l8Words.mono _ _
      | exact LeO.none _
      | refine LeO.ite ?_ ?_
      | refine LeO.bind ?_ (fun _ => ?_)
set_option maxHeartbeats 8000000 in
set_option maxRecDepth 100000 in
theorem spec_WeighingsOf.calls (k : Nat) (A0 : Option Addr) (c0 : Nat) (l0 : List (List Int)) (r1 : List (S50)) (r2 : Bool) (w : World) (hr0 : Kd.C (Kd.slice 3 (Kd.int .i64)) w A0 l0.length l0) (hc0 : l0.length ≤ c0) (h : spec_WeighingsOf.f k l0 = some (r1, r2)) :
    Calls Try.prog 9 #[.slice A0 l0.length c0] w fun e w' => ∃ v0_ : Value, e = .returned (.tuple #[v0_, .bool r2]) ∧ Kd.S k50 50 w' w.heap.size (fun _ => True) v0_ r1 ∧ Below w.heap.size w w' := by
  have hu50 := Try.underlying50
  have HR0 := Aside0.mk hr0
  have HC0 := Aside0.mk hc0
  clear hr0 hc0
  have HB := Aside0.mk (Below.refl w.heap.size w)
  have H : ((spec_l8Words.f k l0).bind fun t10001 => (if t10001 = true then (if 0 < (l0.length : Int) then (spec_WeighingsOf.l0 k l0 (([] : List (S50))) ((rd_L9 l0 0).length : Int) 0) else (none)) else (some (([] : List (S50)), false)))) = some (r1, r2) := h
  clear h
  replace H := Option.bind_eq_some_iff.mp H
  obtain ⟨t10001, A20, H⟩ := H
  replace H : (if t10001 = true then (if 0 < (l0.length : Int) then (spec_WeighingsOf.l0 k l0 (([] : List (S50))) ((rd_L9 l0 0).length : Int) 0) else (none)) else (some (([] : List (S50)), false))) = some (r1, r2) := H
  have A2 := Aside0.mk A20
  clear A20
  by_cases c3 : t10001 = true
  · subst c3
    have H1 : (if 0 < (l0.length : Int) then (spec_WeighingsOf.l0 k l0 (([] : List (S50))) ((rd_L9 l0 0).length : Int) 0) else (none)) = some (r1, r2) := by rw [if_pos rfl] at H; exact H
    clear H
    have H := H1
    clear H1
    obtain ⟨y10002, hy10002⟩ : ∃ y_ : List (S50), y_ = (([] : List (S50))) := ⟨_, rfl⟩
    replace H : (if 0 < (l0.length : Int) then (spec_WeighingsOf.l0 k l0 y10002 ((rd_L9 l0 0).length : Int) 0) else (none)) = some (r1, r2) := by first | (rw [hy10002]; with_reducible exact H) | (have H2_ := (Option.bind_some _ _).symm.trans H; rw [hy10002]; with_reducible exact H2_) | (have H2_ := (Option.bind_some _ _).symm.trans H; with_reducible exact H2_) | with_reducible exact H | (rw [hy10002]; exact H) | exact H
    have Ny10002 := Aside0.mk hy10002
    clear hy10002
    by_cases c4 : 0 < (l0.length : Int)
    · rw [if_pos c4] at H
      have c4b0 : decide (0 < (l0.length : Int)) = true := decide_eq_true c4
      have c4b1 : decide (0 < l0.length) = true := decide_eq_true (by omega)
      clear c4
      have H' := Aside0.mk H
      clear H
      go_enter Try.func9, Try.ntmps9
      go_wp2_with (first | ((with_reducible refine gate_callee (f := 43) rfl ?_); refine goesL_ (some 10) rfl rfl Try.func43 (by kernel_rfl) rfl #[.slice A0 l0.length c0] rfl (by (try simp only [List.map_toArray, List.map_cons, List.map_nil]); first | done | rfl | (simp only [List.length_drop, List.length_take]; rfl)) ?_; (with_reducible refine (spec_l8Words.calls k _ _ l0 true _ ?side1 ?side2 A2.out).mono ?_); (case side1 => repeat (first | exact HR0.out | (with_reducible refine Kd.C_alloc ?_ _) | (with_reducible refine Kd.C_drewN ?_ _) | (with_reducible refine Kd.C_drew ?_))); (case side2 => exact HC0.out); rintro e w' ⟨rfl, ⟨nd, rfl⟩⟩; refine ⟨_, rfl, ?_⟩) | ((with_reducible refine gate_dst (N := 12) rfl ?_); refine Kd.S_lit k50 _ 50 ?hg (N := 12) ?hd (xs := ([] : List (S50))) (inner := []) (ok := fun _ => True) (okp := fun _ => True) ?hr ?hp (fun _ hk => hk) trivial (Below.refl _ _) (Nat.le_refl _) (by simp) ?_; (case hd => rfl); (case hg => rfl); (case hr => first | (go_simp; done) | (go_simp; rfl)); (case hp => exact (Reps.none _ _)); intro v10003 w5 ho6 hb hg_ hnew_; clear hg_ hnew_; (first | rw [← Ny10002.out] at ho6 | (simp only [Int.reduceToNat] at ho6; rw [← Ny10002.out] at ho6)); have n0_ := Aside0.mk (Kd.S_lower ho6 (below_size (by repeat (first | (with_reducible first | exact HB.out | apply below_alloc | apply pw_below_drewN | apply below_drew1) | exact HB.out)))); have n1_ := Aside0.mk (below_step (by repeat (first | (with_reducible first | exact HB.out | apply below_alloc | apply pw_below_drewN | apply below_drew1) | exact HB.out)) hb); clear HB; have HO10004 := n0_; have HB := n1_; clear n0_ n1_; clear hb ho6; have p10005 : 0 ≤ (0 : Int) := (by omega); have q10005 : 0 < (l0.length : Int) := of_decide_eq_true (by first | (with_reducible assumption) | assumption); obtain ⟨ad10005, A10005_0, c10005_0, e10005, hx10005_0, hl10005_0, hi10005_0⟩ := at_L9 HR0.out 0 p10005 q10005; cases e10005; have qi10005 : (0 < l0.length) = True := eq_true (by omega); (try rw [show ((0 : Int)).toNat = 0 from rfl] at hx10005_0); (try rw [Addr.add_zero'] at hx10005_0); replace hx10005_0 := (HB.out.cell (World.block_lt_of_cell? w _ hx10005_0)).trans hx10005_0; have HR10005_0 := Aside0.mk hi10005_0; have HC10005_0 := Aside0.mk hl10005_0; clear hi10005_0 hl10005_0; replace p10005 := eq_true p10005; replace q10005 := eq_true q10005))
      go_loopg [4, 17] k (fun kq v4 v17 w' => ∃ (x4_1 : List (S50)) (x17_1 : Int), v17 = .int .i64 x17_1 ∧ Aside0 (spec_WeighingsOf.l0 kq l0 x4_1 ((rd_L9 l0 0).length : Int) x17_1 = some (r1, r2)) ∧ Aside0 (kq ≤ k) ∧ Aside0 (Kd.S k50 50 w' w.heap.size (fun _ => True) v4 x4_1) ∧ Aside0 (Below w.heap.size w w'))
      case atStart => exact ⟨(y10002), (0), (by first | rfl | (simp; done) | (simp [*]; done)), H', ⟨Nat.le_refl _⟩, ⟨by (with_reducible repeat (first | apply Kd.S_alloc | apply Kd.S_drewN | apply Kd.S_drew)); exact HO10004.out⟩, ⟨by repeat (first | (with_reducible first | exact HB.out | apply below_alloc | apply pw_below_drewN | apply below_drew1) | exact HB.out)⟩⟩
      case round =>
        clear H'
        try clear c1
        try clear p1
        try clear q1
        try clear hx1
        try clear qi1
        try clear p2
        try clear c3
        try clear c4
        try clear c4b0
        try clear c4b1
        try clear hx10005_0
        try clear p10005
        try clear q10005
        obtain ⟨x4_1, x17_1, rfl, HA, HK1, HO_4, HB⟩ := hrel
        cases gk with
        | zero => exact absurd HA.out (by simp [spec_WeighingsOf.l0])
        | succ k1 =>
          have H := HA.out
          clear HA
          simp only [spec_WeighingsOf.l0] at H
          by_cases c7 : x17_1 < ((rd_L9 l0 0).length : Int)
          · rw [if_pos c7] at H
            have c7b0 : decide (x17_1 < ((rd_L9 l0 0).length : Int)) = true := decide_eq_true c7
            clear c7
            have H' := Aside0.mk H
            clear H
            go_wp2_with (first | ((with_reducible refine gate_dst (N := 6) rfl ?_); refine box_event ?hg (N := 6) ?hd (cs := #[.slice none 0 0, .slice none 0 0]) (t := 50) ?hr ?_; (case hd => rfl); (case hg => rfl); (case hr => first | (go_simp; done) | (go_simp; rfl)); intro gb10006 hg w8 hbox hb; have n0_ := Aside0.mk (Kd.S_below (Kd.S_elderB (by (with_reducible repeat (first | apply Kd.S_alloc | apply Kd.S_drewN | apply Kd.S_drew)); exact HO_4.out) gb10006 (Nat.le_of_eq hg.symm)) hb); have n1_ := Aside0.mk (below_step (by repeat (first | (with_reducible first | exact HB.out | apply below_alloc | apply pw_below_drewN | apply below_drew1) | exact HB.out)) hb); have n2_ := Aside0.mk (hbox); have n3_ := Aside0.mk ((by rw [hg]; exact (below_size (by repeat (first | (with_reducible first | exact HB.out | apply below_alloc | apply pw_below_drewN | apply below_drew1) | exact HB.out))) : w.heap.size ≤ gb10006)); have n4_ := Aside0.mk ((by rw [hg]; exact (below_size (by repeat (first | (with_reducible first | exact HB.out | apply below_alloc | apply pw_below_drewN | apply below_drew1) | exact HB.out))) : w.heap.size ≤ gb10006)); clear HO_4; clear HB; have HO_4 := n0_; have HB := n1_; have BK10006 := n2_; have GW10006 := n3_; have GE10006 := n4_; clear n0_ n1_ n2_ n3_ n4_; clear hb hbox hg; have hcz9_0 : w8.cell? ⟨gb10006, 0, none⟩ = some (.slice none 0 0) := (blk_cell BK10006.out 0).trans rfl; have hcz9_1 : w8.cell? ⟨gb10006, 1, none⟩ = some (.slice none 0 0) := (blk_cell BK10006.out 1).trans rfl; have hfz9_0 := blk_frozen BK10006.out 0; have hfz9_1 := blk_frozen BK10006.out 1))
            go_loopg [23] k1 (fun kq v23 w' => ∃ (x23_2 : Int) (x10007000_2 : List Int) (x10007001_2 : List Int) (u10007000 : Value) (u10007001 : Value), v23 = .int .i64 x23_2 ∧ Aside0 (spec_WeighingsOf.l1 kq l0 x4_1 x17_1 ((rd_L9 l0 0).length : Int) x17_1 l0 (l0.length : Int) x23_2 x10007000_2 x10007001_2 = some (r1, r2)) ∧ Aside0 (kq ≤ k1) ∧ Aside0 (Kd.S k50 50 w' w.heap.size (fun k_ => some k_ ≠ (u10007000 : Value).ownBlock ∧ some k_ ≠ (u10007001 : Value).ownBlock ∧ k_ ≠ gb10006) u4 x4_1) ∧ Aside0 (Kd.R (Kd.int .i64) 3 w' w.heap.size (fun k_ => some k_ ≠ (u10007001 : Value).ownBlock) u10007000 x10007000_2) ∧ Aside0 (Kd.R (Kd.int .i64) 3 w' w.heap.size (fun k_ => some k_ ≠ (u10007000 : Value).ownBlock) u10007001 x10007001_2) ∧ Aside0 (w'.heap[gb10006]? = some (.cells #[u10007000, u10007001] 50 (0, 0))) ∧ Aside0 (Below w.heap.size w w'))
            case atStart => exact ⟨(0), (([] : List Int)), (([] : List Int)), (.slice none 0 0), (.slice none 0 0), (by first | rfl | (simp; done) | (simp [*]; done)), H', ⟨Nat.le_refl _⟩, ⟨by (with_reducible repeat (first | apply Kd.S_alloc | apply Kd.S_drewN | apply Kd.S_drew)); exact Kd.S_mono (Kd.S_far (p := ⟨gb10006, 1, none⟩) (Kd.S_far (p := ⟨gb10006, 0, none⟩) (Kd.S_mono HO_4.out (fun k_ hk => (⟨hk, hk.2⟩ : _ ∧ k_ ≠ gb10006))) (fun _ hk => hk.2) (.slice none 0 0)) (fun _ hk => hk.2) (.slice none 0 0)) (fun _ hk => ⟨(by simp [Value.ownBlock]), ⟨(by simp [Value.ownBlock]), hk.1.2⟩⟩)⟩, ⟨by first | exact Kd.R_nil _ _ _ _ _ | exact Kd.N_nil _ _ _ _ _ | exact Kd.V_nil _ _ _ _ _ | exact Kd.Q_nil _ _ _ _ _ | exact Kd.S_nil _ _ _ _ _⟩, ⟨by first | exact Kd.R_nil _ _ _ _ _ | exact Kd.N_nil _ _ _ _ _ | exact Kd.V_nil _ _ _ _ _ | exact Kd.Q_nil _ _ _ _ _ | exact Kd.S_nil _ _ _ _ _⟩, ⟨by (with_reducible repeat (first | refine blk_drewN ?_ _ | refine blk_drew ?_ | refine blk_alloc ?_ _)); refine blk_put (cs := #[.slice none 0 0, .slice none 0 0]) ?_ 1 _ rfl; (with_reducible repeat (first | refine blk_drewN ?_ _ | refine blk_drew ?_ | refine blk_alloc ?_ _)); refine blk_put (cs := #[.slice none 0 0, .slice none 0 0]) ?_ 0 _ rfl; (with_reducible repeat (first | refine blk_drewN ?_ _ | refine blk_drew ?_ | refine blk_alloc ?_ _)); exact BK10006.out⟩, ⟨by repeat (first | (with_reducible first | exact HB.out | apply below_alloc | apply pw_below_drewN | apply below_drew1 | refine below_set ?_ GE10006.out) | exact HB.out)⟩⟩
            case round =>
              clear H'
              try clear c1
              try clear p1
              try clear q1
              try clear hx1
              try clear qi1
              try clear p2
              try clear c3
              try clear c4
              try clear c4b0
              try clear c4b1
              try clear c7
              try clear c7b0
              try clear c9
              try clear hcz9_0
              try clear hcz9_1
              try clear hfz9_0
              try clear hfz9_1
              try clear hx10005_0
              try clear p1
              try clear p10005
              try clear p2
              try clear q1
              try clear q10005
              obtain ⟨x23_2, x10007000_2, x10007001_2, u10007000, u10007001, rfl, HA, HK2, HO_4, HO_10007000, HO_10007001, BK10006, HB⟩ := hrel
              cases gk with
              | zero => exact absurd HA.out (by simp [spec_WeighingsOf.l1])
              | succ k2 =>
                have H := HA.out
                clear HA
                simp only [spec_WeighingsOf.l1] at H
                by_cases c10 : x23_2 < (l0.length : Int)
                · rw [if_pos c10] at H
                  have c10b0 : decide (x23_2 < (l0.length : Int)) = true := decide_eq_true c10
                  clear c10
                  by_cases c11 : 0 ≤ x23_2
                  · rw [if_pos c11] at H
                    have c11b0 : decide (0 ≤ x23_2) = true := decide_eq_true c11
                    clear c11
                    by_cases c12 : x23_2 < (l0.length : Int)
                    · rw [if_pos c12] at H
                      have c12b0 : decide (x23_2 < (l0.length : Int)) = true := decide_eq_true c12
                      clear c12
                      by_cases c13 : 0 ≤ x17_1
                      · rw [if_pos c13] at H
                        have c13b0 : decide (0 ≤ x17_1) = true := decide_eq_true c13
                        clear c13
                        by_cases c14 : x17_1 < ((rd_L9 l0 x23_2).length : Int)
                        · rw [if_pos c14] at H
                          have c14b0 : decide (x17_1 < ((rd_L9 l0 x23_2).length : Int)) = true := decide_eq_true c14
                          clear c14
                          by_cases c15 : (rd (rd_L9 l0 x23_2) x17_1) = 1
                          · rw [if_pos c15] at H
                            have c15b0 : ((rd (rd_L9 l0 x23_2) x17_1) == 1) = true := beq_iff_eq.mpr c15
                            have c15b1 : ((rd (rd_L9 l0 x23_2) x17_1) != 1) = false := bne_eq_false_iff_eq.mpr c15
                            clear c15
                            by_cases c16 : x10007000_2.length < 17592186044416
                            · rw [if_pos c16] at H
                              have LMc16 := Aside0.mk c16
                              clear c16
                              obtain ⟨y10012, hy10012⟩ : ∃ y_ : List Int, y_ = (x10007000_2 ++ [x23_2]) := ⟨_, rfl⟩
                              replace H : (if (rd (rd_L9 l0 x23_2) x17_1) = (-1) then (if x10007001_2.length < 17592186044416 then (spec_WeighingsOf.l1 k2 l0 x4_1 x17_1 ((rd_L9 l0 0).length : Int) x17_1 l0 (l0.length : Int) (wrap64 (x23_2 + 1)) y10012 (x10007001_2 ++ [x23_2])) else (none)) else (spec_WeighingsOf.l1 k2 l0 x4_1 x17_1 ((rd_L9 l0 0).length : Int) x17_1 l0 (l0.length : Int) (wrap64 (x23_2 + 1)) y10012 x10007001_2)) = some (r1, r2) := by first | (rw [hy10012]; with_reducible exact H) | (have H2_ := (Option.bind_some _ _).symm.trans H; rw [hy10012]; with_reducible exact H2_) | (have H2_ := (Option.bind_some _ _).symm.trans H; with_reducible exact H2_) | with_reducible exact H | (rw [hy10012]; exact H) | exact H
                              have Ny10012 := Aside0.mk hy10012
                              clear hy10012
                              by_cases c17 : (rd (rd_L9 l0 x23_2) x17_1) = (-1)
                              · rw [if_pos c17] at H
                                have c17b0 : ((rd (rd_L9 l0 x23_2) x17_1) == (-1)) = true := beq_iff_eq.mpr c17
                                have c17b1 : ((rd (rd_L9 l0 x23_2) x17_1) != (-1)) = false := bne_eq_false_iff_eq.mpr c17
                                clear c17
                                by_cases c18 : x10007001_2.length < 17592186044416
                                · rw [if_pos c18] at H
                                  have LMc18 := Aside0.mk c18
                                  clear c18
                                  obtain ⟨y10016, hy10016⟩ : ∃ y_ : List Int, y_ = (x10007001_2 ++ [x23_2]) := ⟨_, rfl⟩
                                  replace H : (spec_WeighingsOf.l1 k2 l0 x4_1 x17_1 ((rd_L9 l0 0).length : Int) x17_1 l0 (l0.length : Int) (wrap64 (x23_2 + 1)) y10012 y10016) = some (r1, r2) := by first | (rw [hy10016]; with_reducible exact H) | (have H2_ := (Option.bind_some _ _).symm.trans H; rw [hy10016]; with_reducible exact H2_) | (have H2_ := (Option.bind_some _ _).symm.trans H; with_reducible exact H2_) | with_reducible exact H | (rw [hy10016]; exact H) | exact H
                                  have Ny10016 := Aside0.mk hy10016
                                  clear hy10016
                                  have H' := Aside0.mk H
                                  clear H
                                  have p10010 : 0 ≤ (x23_2 : Int) := of_decide_eq_true (by first | (with_reducible assumption) | assumption)
                                  have q10010 : x23_2 < (l0.length : Int) := of_decide_eq_true (by first | (with_reducible assumption) | assumption)
                                  obtain ⟨ad10010, A10010_0, c10010_0, e10010, hx10010_0, hl10010_0, hi10010_0⟩ := at_L9 HR0.out x23_2 p10010 q10010
                                  obtain rfl : ad10005 = ad10010 := (by injection e10010)
                                  replace hx10010_0 := (HB.out.cell (World.block_lt_of_cell? w _ hx10010_0)).trans hx10010_0
                                  have HR10010_0 := Aside0.mk hi10010_0
                                  have HC10010_0 := Aside0.mk hl10010_0
                                  clear hi10010_0 hl10010_0
                                  replace p10010 := eq_true p10010
                                  replace q10010 := eq_true q10010
                                  have p10011 : 0 ≤ (x17_1 : Int) := of_decide_eq_true (by first | (with_reducible assumption) | assumption)
                                  have q10011 : x17_1 < ((rd_L9 l0 x23_2).length : Int) := of_decide_eq_true (by first | (with_reducible assumption) | assumption)
                                  obtain ⟨ad10011, e10011, hx10011_0⟩ := Kd.at_int HR10010_0.out x17_1 p10011 q10011
                                  cases e10011
                                  replace hx10011_0 := (HB.out.cell (World.block_lt_of_cell? w _ hx10011_0)).trans hx10011_0
                                  replace p10011 := eq_true p10011
                                  replace q10011 := eq_true q10011
                                  have hcz19_0 : wr.cell? ⟨gb10006, 0, none⟩ = some (u10007000) := (blk_cell BK10006.out 0).trans rfl
                                  have hcz19_1 : wr.cell? ⟨gb10006, 1, none⟩ = some (u10007001) := (blk_cell BK10006.out 1).trans rfl
                                  have hfz19_0 := blk_frozen BK10006.out 0
                                  have hfz19_1 := blk_frozen BK10006.out 1
                                  go_wp2_with (first | ((with_reducible refine gate_builtin (b := .append) (xs := #[.tmp 34, .tmp 36]) rfl ?_); at_builtin; refine Kd.R_append (Kd.int .i64) (w0 := w) w.heap.size rfl (.tmp 34) (.tmp 36) 47 3 (.int .i64 0) 8 rfl Try.underlying47 info3 rfl (by decide) (by omega) u10007000 x10007000_2 x23_2 [.int .i64 x23_2] (fun k_ => some k_ ≠ (u10007001 : Value).ownBlock) (fun _ => False) rfl rfl ?aP (fun _ hk => hk.elim) ?aF ?aO ?aB ?aS ?aL ?_; (case aP => exact rfl); (case aB => exact (by repeat (first | (with_reducible first | exact HB.out | apply below_alloc | apply pw_below_drewN | apply below_drew1 | refine below_set ?_ GE10006.out) | exact HB.out))); (case aF => exact (fun k_ hk => Kd.fresh' (Kd.R_lt (by (with_reducible repeat (first | apply Kd.R_alloc | apply Kd.R_drewN | apply Kd.R_drew)); exact HO_10007001.out)) k_ hk)); (case aO => exact (by (with_reducible repeat (first | apply Kd.R_alloc | apply Kd.R_drewN | apply Kd.R_drew)); exact HO_10007000.out)); (case aS => exact (below_size (by repeat (first | (with_reducible first | exact HB.out | apply below_alloc | apply pw_below_drewN | apply below_drew1 | refine below_set ?_ GE10006.out) | exact HB.out)))); (case aL => have := LMc16.out; omega); intro v10013 w20 ho hb hg hat; rw [← Ny10012.out] at ho; have n0_ := Aside0.mk (Kd.S_after (ok := (fun k_ => some k_ ≠ (u10007001 : Value).ownBlock ∧ k_ ≠ gb10006)) (by (with_reducible repeat (first | apply Kd.S_alloc | apply Kd.S_drewN | apply Kd.S_drew)); exact Kd.S_mono HO_4.out (fun _ hk => ⟨⟨hk.2.1, hk.2.2⟩, hk.1⟩)) hg hat); have n1_ := Aside0.mk (Kd.R_after (ok := (fun _ => True)) (by (with_reducible repeat (first | apply Kd.R_alloc | apply Kd.R_drewN | apply Kd.R_drew)); exact Kd.R_mono HO_10007001.out (fun _ hk => ⟨trivial, hk⟩)) hg hat); have n2_ := Aside0.mk (blk_grown (g := gb10006) (o := .cells #[u10007000, u10007001] 50 (0, 0)) (by (with_reducible repeat (first | refine blk_drewN ?_ _ | refine blk_drew ?_ | refine blk_alloc ?_ _)); exact BK10006.out) hg (Kd.R_ne HO_10007000.out BK10006.out (by decide))); have n3_ := Aside0.mk (hb); have n4_ := Aside0.mk (ho); clear HO_4; clear HO_10007001; clear BK10006; clear HB; clear HO_10007000; have HO_4 := n0_; have HO_10007001 := n1_; have BK10006 := n2_; have HB := n3_; have HO10014 := n4_; clear n0_ n1_ n2_ n3_ n4_; clear ho hb hg hat; obtain ⟨Ao21, co21, eo21⟩ := Kd.R_slice HO10014.out; subst eo21; have hcz22_0 : w20.cell? ⟨gb10006, 0, none⟩ = some (u10007000) := (blk_cell BK10006.out 0).trans rfl; have hcz22_1 : w20.cell? ⟨gb10006, 1, none⟩ = some (u10007001) := (blk_cell BK10006.out 1).trans rfl; have hfz22_0 := blk_frozen BK10006.out 0; have hfz22_1 := blk_frozen BK10006.out 1; have p10015 : 0 ≤ (x17_1 : Int) := of_decide_eq_true (by first | (with_reducible assumption) | assumption); have q10015 : x17_1 < ((rd_L9 l0 x23_2).length : Int) := of_decide_eq_true (by first | (with_reducible assumption) | assumption); obtain ⟨ad10015, e10015, hx10015_0⟩ := Kd.at_int HR10010_0.out x17_1 p10015 q10015; obtain rfl : ad10011 = ad10015 := (by injection e10015); have hn10015_0 : ad10011.block ≠ gb10006 := Nat.ne_of_lt (Nat.lt_of_lt_of_le (by have := World.block_lt_of_cell? _ _ hx10015_0; first | rwa [add_block] at this | exact this) GW10006.out); replace hx10015_0 := (HB.out.cell (World.block_lt_of_cell? w _ hx10015_0)).trans hx10015_0; replace hx10015_0 := (cell_far (p := ⟨gb10006, 0, none⟩) (by first | (rw [add_block]; exact hn10015_0) | (show (Addr.add _ _).block ≠ _; rw [add_block]; exact hn10015_0) | exact hn10015_0) (.slice Ao21 y10012.length co21)).trans hx10015_0; clear hn10015_0; replace p10015 := eq_true p10015; replace q10015 := eq_true q10015) | ((with_reducible refine gate_builtin (b := .append) (xs := #[.tmp 45, .tmp 47]) rfl ?_); at_builtin; refine Kd.R_append (Kd.int .i64) (w0 := w) w.heap.size rfl (.tmp 45) (.tmp 47) 47 3 (.int .i64 0) 8 rfl Try.underlying47 info3 rfl (by decide) (by omega) u10007001 x10007001_2 x23_2 [.int .i64 x23_2] (fun k_ => some k_ ≠ (.slice Ao21 y10012.length co21 : Value).ownBlock) (fun _ => False) rfl (by first | (go_simp; done) | (go_simp; rfl)) ?aP (fun _ hk => hk.elim) ?aF ?aO ?aB ?aS ?aL ?_; (case aP => exact rfl); (case aB => exact (by repeat (first | (with_reducible first | exact HB.out | apply below_alloc | apply pw_below_drewN | apply below_drew1 | refine below_set ?_ GE10006.out) | exact HB.out))); (case aF => exact (fun k_ hk => Kd.fresh' (Kd.R_lt (by (with_reducible repeat (first | apply Kd.R_alloc | apply Kd.R_drewN | apply Kd.R_drew)); exact (Kd.R_mono (Kd.R_far (p := ⟨gb10006, 0, none⟩) (Kd.R_types HO10014.out BK10006.out (by decide)) (fun _ hk => hk.2) (.slice Ao21 y10012.length co21)) (fun _ h_ => h_.1)))) k_ hk)); (case aO => exact (by (with_reducible repeat (first | apply Kd.R_alloc | apply Kd.R_drewN | apply Kd.R_drew)); exact Kd.R_mono (Kd.R_far (p := ⟨gb10006, 0, none⟩) (Kd.R_types HO_10007001.out BK10006.out (by decide)) (fun _ hk => hk.2) (.slice Ao21 y10012.length co21)) (fun _ hk => hk.1.2))); (case aS => exact (below_size (by repeat (first | (with_reducible first | exact HB.out | apply below_alloc | apply pw_below_drewN | apply below_drew1 | refine below_set ?_ GE10006.out) | exact HB.out)))); (case aL => have := LMc18.out; omega); intro v10017 w23 ho hb hg hat; rw [← Ny10016.out] at ho; have n0_ := Aside0.mk (Kd.S_after (ok := (fun k_ => some k_ ≠ (.slice Ao21 y10012.length co21 : Value).ownBlock ∧ k_ ≠ gb10006)) (by (with_reducible repeat (first | apply Kd.S_alloc | apply Kd.S_drewN | apply Kd.S_drew)); exact Kd.S_mono (Kd.S_far (p := ⟨gb10006, 0, none⟩) (Kd.S_mono HO_4.out (fun k_ hk => (⟨hk, hk.1.2⟩ : _ ∧ k_ ≠ gb10006))) (fun _ hk => hk.2) (.slice Ao21 y10012.length co21)) (fun _ hk => ⟨⟨hk.1.2, hk.1.1.2⟩, hk.1.1.1⟩)) hg hat); have n1_ := Aside0.mk (blk_grown (g := gb10006) (o := .cells #[.slice Ao21 y10012.length co21, u10007001] 50 (0, 0)) (by (with_reducible repeat (first | refine blk_drewN ?_ _ | refine blk_drew ?_ | refine blk_alloc ?_ _)); refine blk_put (cs := #[u10007000, u10007001]) ?_ 0 _ rfl; (with_reducible repeat (first | refine blk_drewN ?_ _ | refine blk_drew ?_ | refine blk_alloc ?_ _)); exact BK10006.out) hg (Kd.R_ne HO_10007001.out BK10006.out (by decide))); have n2_ := Aside0.mk (Kd.R_after (ok := (fun _ => True)) (by (with_reducible repeat (first | apply Kd.R_alloc | apply Kd.R_drewN | apply Kd.R_drew)); exact Kd.R_mono (Kd.R_far (p := ⟨gb10006, 0, none⟩) (Kd.R_types HO10014.out BK10006.out (by decide)) (fun _ hk => hk.2) (.slice Ao21 y10012.length co21)) (fun _ hk => ⟨trivial, hk.1⟩)) hg hat); have n3_ := Aside0.mk (hb); have n4_ := Aside0.mk (ho); clear HO_4; clear BK10006; clear HO10014; clear HB; clear HO_10007001; have HO_4 := n0_; have BK10006 := n1_; have HO10014 := n2_; have HB := n3_; have HO10018 := n4_; clear n0_ n1_ n2_ n3_ n4_; clear ho hb hg hat; obtain ⟨Ao24, co24, eo24⟩ := Kd.R_slice HO10018.out; subst eo24; have hcz25_0 : w23.cell? ⟨gb10006, 0, none⟩ = some (.slice Ao21 y10012.length co21) := (blk_cell BK10006.out 0).trans rfl; have hcz25_1 : w23.cell? ⟨gb10006, 1, none⟩ = some (u10007001) := (blk_cell BK10006.out 1).trans rfl; have hfz25_0 := blk_frozen BK10006.out 0; have hfz25_1 := blk_frozen BK10006.out 1))
                                  go_roundg k2
                                  case measure => have := HK1.out; have := HK2.out; omega
                                  case rel => exact ⟨(wrap64 (x23_2 + 1)), (y10012), (y10016), (.slice Ao21 y10012.length co21), (.slice Ao24 y10016.length co24), (by first | rfl | (simp; done) | (simp [*]; done)), H', ⟨by have := HK1.out; have := HK2.out; omega⟩, ⟨by (with_reducible repeat (first | apply Kd.S_alloc | apply Kd.S_drewN | apply Kd.S_drew)); exact Kd.S_mono (Kd.S_far (p := ⟨gb10006, 1, none⟩) (Kd.S_mono HO_4.out (fun k_ hk => (⟨hk, hk.1.2⟩ : _ ∧ k_ ≠ gb10006))) (fun _ hk => hk.2) (.slice Ao24 y10016.length co24)) (fun _ hk => ⟨hk.1.1.1, ⟨hk.1.2, hk.1.1.2⟩⟩)⟩, ⟨by (with_reducible repeat (first | apply Kd.R_alloc | apply Kd.R_drewN | apply Kd.R_drew)); exact Kd.R_mono (Kd.R_far (p := ⟨gb10006, 1, none⟩) (Kd.R_types HO10014.out BK10006.out (by decide)) (fun _ hk => hk.2) (.slice Ao24 y10016.length co24)) (fun _ hk => hk.1.2)⟩, ⟨by (with_reducible repeat (first | apply Kd.R_alloc | apply Kd.R_drewN | apply Kd.R_drew)); exact Kd.R_mono (Kd.R_far (p := ⟨gb10006, 1, none⟩) (Kd.R_types HO10018.out BK10006.out (by decide)) (fun _ hk => hk.2) (.slice Ao24 y10016.length co24)) (fun _ hk => hk.1)⟩, ⟨by (with_reducible repeat (first | refine blk_drewN ?_ _ | refine blk_drew ?_ | refine blk_alloc ?_ _)); refine blk_put (cs := #[.slice Ao21 y10012.length co21, u10007001]) ?_ 1 _ rfl; (with_reducible repeat (first | refine blk_drewN ?_ _ | refine blk_drew ?_ | refine blk_alloc ?_ _)); exact BK10006.out⟩, ⟨by repeat (first | (with_reducible first | exact HB.out | apply below_alloc | apply pw_below_drewN | apply below_drew1 | refine below_set ?_ GE10006.out) | exact HB.out)⟩⟩
                                · rw [if_neg c18] at H
                                  exact absurd H (by simp)
                              · rw [if_neg c17] at H
                                have c17b0 : ((rd (rd_L9 l0 x23_2) x17_1) == (-1)) = false := beq_eq_false_iff_ne.mpr c17
                                have c17b1 : ((rd (rd_L9 l0 x23_2) x17_1) != (-1)) = true := bne_iff_ne.mpr c17
                                have H' := Aside0.mk H
                                clear H
                                have p10010 : 0 ≤ (x23_2 : Int) := of_decide_eq_true (by first | (with_reducible assumption) | assumption)
                                have q10010 : x23_2 < (l0.length : Int) := of_decide_eq_true (by first | (with_reducible assumption) | assumption)
                                obtain ⟨ad10010, A10010_0, c10010_0, e10010, hx10010_0, hl10010_0, hi10010_0⟩ := at_L9 HR0.out x23_2 p10010 q10010
                                obtain rfl : ad10005 = ad10010 := (by injection e10010)
                                replace hx10010_0 := (HB.out.cell (World.block_lt_of_cell? w _ hx10010_0)).trans hx10010_0
                                have HR10010_0 := Aside0.mk hi10010_0
                                have HC10010_0 := Aside0.mk hl10010_0
                                clear hi10010_0 hl10010_0
                                replace p10010 := eq_true p10010
                                replace q10010 := eq_true q10010
                                have p10011 : 0 ≤ (x17_1 : Int) := of_decide_eq_true (by first | (with_reducible assumption) | assumption)
                                have q10011 : x17_1 < ((rd_L9 l0 x23_2).length : Int) := of_decide_eq_true (by first | (with_reducible assumption) | assumption)
                                obtain ⟨ad10011, e10011, hx10011_0⟩ := Kd.at_int HR10010_0.out x17_1 p10011 q10011
                                cases e10011
                                replace hx10011_0 := (HB.out.cell (World.block_lt_of_cell? w _ hx10011_0)).trans hx10011_0
                                replace p10011 := eq_true p10011
                                replace q10011 := eq_true q10011
                                have hcz26_0 : wr.cell? ⟨gb10006, 0, none⟩ = some (u10007000) := (blk_cell BK10006.out 0).trans rfl
                                have hcz26_1 : wr.cell? ⟨gb10006, 1, none⟩ = some (u10007001) := (blk_cell BK10006.out 1).trans rfl
                                have hfz26_0 := blk_frozen BK10006.out 0
                                have hfz26_1 := blk_frozen BK10006.out 1
                                go_wp2_with (first | ((with_reducible refine gate_builtin (b := .append) (xs := #[.tmp 34, .tmp 36]) rfl ?_); at_builtin; refine Kd.R_append (Kd.int .i64) (w0 := w) w.heap.size rfl (.tmp 34) (.tmp 36) 47 3 (.int .i64 0) 8 rfl Try.underlying47 info3 rfl (by decide) (by omega) u10007000 x10007000_2 x23_2 [.int .i64 x23_2] (fun k_ => some k_ ≠ (u10007001 : Value).ownBlock) (fun _ => False) rfl rfl ?aP (fun _ hk => hk.elim) ?aF ?aO ?aB ?aS ?aL ?_; (case aP => exact rfl); (case aB => exact (by repeat (first | (with_reducible first | exact HB.out | apply below_alloc | apply pw_below_drewN | apply below_drew1 | refine below_set ?_ GE10006.out) | exact HB.out))); (case aF => exact (fun k_ hk => Kd.fresh' (Kd.R_lt (by (with_reducible repeat (first | apply Kd.R_alloc | apply Kd.R_drewN | apply Kd.R_drew)); exact HO_10007001.out)) k_ hk)); (case aO => exact (by (with_reducible repeat (first | apply Kd.R_alloc | apply Kd.R_drewN | apply Kd.R_drew)); exact HO_10007000.out)); (case aS => exact (below_size (by repeat (first | (with_reducible first | exact HB.out | apply below_alloc | apply pw_below_drewN | apply below_drew1 | refine below_set ?_ GE10006.out) | exact HB.out)))); (case aL => have := LMc16.out; omega); intro v10013 w27 ho hb hg hat; rw [← Ny10012.out] at ho; have n0_ := Aside0.mk (Kd.S_after (ok := (fun k_ => some k_ ≠ (u10007001 : Value).ownBlock ∧ k_ ≠ gb10006)) (by (with_reducible repeat (first | apply Kd.S_alloc | apply Kd.S_drewN | apply Kd.S_drew)); exact Kd.S_mono HO_4.out (fun _ hk => ⟨⟨hk.2.1, hk.2.2⟩, hk.1⟩)) hg hat); have n1_ := Aside0.mk (Kd.R_after (ok := (fun _ => True)) (by (with_reducible repeat (first | apply Kd.R_alloc | apply Kd.R_drewN | apply Kd.R_drew)); exact Kd.R_mono HO_10007001.out (fun _ hk => ⟨trivial, hk⟩)) hg hat); have n2_ := Aside0.mk (blk_grown (g := gb10006) (o := .cells #[u10007000, u10007001] 50 (0, 0)) (by (with_reducible repeat (first | refine blk_drewN ?_ _ | refine blk_drew ?_ | refine blk_alloc ?_ _)); exact BK10006.out) hg (Kd.R_ne HO_10007000.out BK10006.out (by decide))); have n3_ := Aside0.mk (hb); have n4_ := Aside0.mk (ho); clear HO_4; clear HO_10007001; clear BK10006; clear HB; clear HO_10007000; have HO_4 := n0_; have HO_10007001 := n1_; have BK10006 := n2_; have HB := n3_; have HO10014 := n4_; clear n0_ n1_ n2_ n3_ n4_; clear ho hb hg hat; obtain ⟨Ao28, co28, eo28⟩ := Kd.R_slice HO10014.out; subst eo28; have hcz29_0 : w27.cell? ⟨gb10006, 0, none⟩ = some (u10007000) := (blk_cell BK10006.out 0).trans rfl; have hcz29_1 : w27.cell? ⟨gb10006, 1, none⟩ = some (u10007001) := (blk_cell BK10006.out 1).trans rfl; have hfz29_0 := blk_frozen BK10006.out 0; have hfz29_1 := blk_frozen BK10006.out 1; have p10015 : 0 ≤ (x17_1 : Int) := of_decide_eq_true (by first | (with_reducible assumption) | assumption); have q10015 : x17_1 < ((rd_L9 l0 x23_2).length : Int) := of_decide_eq_true (by first | (with_reducible assumption) | assumption); obtain ⟨ad10015, e10015, hx10015_0⟩ := Kd.at_int HR10010_0.out x17_1 p10015 q10015; obtain rfl : ad10011 = ad10015 := (by injection e10015); have hn10015_0 : ad10011.block ≠ gb10006 := Nat.ne_of_lt (Nat.lt_of_lt_of_le (by have := World.block_lt_of_cell? _ _ hx10015_0; first | rwa [add_block] at this | exact this) GW10006.out); replace hx10015_0 := (HB.out.cell (World.block_lt_of_cell? w _ hx10015_0)).trans hx10015_0; replace hx10015_0 := (cell_far (p := ⟨gb10006, 0, none⟩) (by first | (rw [add_block]; exact hn10015_0) | (show (Addr.add _ _).block ≠ _; rw [add_block]; exact hn10015_0) | exact hn10015_0) (.slice Ao28 y10012.length co28)).trans hx10015_0; clear hn10015_0; replace p10015 := eq_true p10015; replace q10015 := eq_true q10015))
                                go_roundg k2
                                case measure => have := HK1.out; have := HK2.out; omega
                                case rel => exact ⟨(wrap64 (x23_2 + 1)), (y10012), (x10007001_2), (.slice Ao28 y10012.length co28), (u10007001), (by first | rfl | (simp; done) | (simp [*]; done)), H', ⟨by have := HK1.out; have := HK2.out; omega⟩, ⟨by (with_reducible repeat (first | apply Kd.S_alloc | apply Kd.S_drewN | apply Kd.S_drew)); exact Kd.S_mono (Kd.S_far (p := ⟨gb10006, 0, none⟩) (Kd.S_mono HO_4.out (fun k_ hk => (⟨hk, hk.1.2⟩ : _ ∧ k_ ≠ gb10006))) (fun _ hk => hk.2) (.slice Ao28 y10012.length co28)) (fun _ hk => ⟨hk.1.2, ⟨hk.1.1.1, hk.1.1.2⟩⟩)⟩, ⟨by (with_reducible repeat (first | apply Kd.R_alloc | apply Kd.R_drewN | apply Kd.R_drew)); exact Kd.R_mono (Kd.R_far (p := ⟨gb10006, 0, none⟩) (Kd.R_types HO10014.out BK10006.out (by decide)) (fun _ hk => hk.2) (.slice Ao28 y10012.length co28)) (fun _ hk => hk.1)⟩, ⟨by (with_reducible repeat (first | apply Kd.R_alloc | apply Kd.R_drewN | apply Kd.R_drew)); exact Kd.R_mono (Kd.R_far (p := ⟨gb10006, 0, none⟩) (Kd.R_types HO_10007001.out BK10006.out (by decide)) (fun _ hk => hk.2) (.slice Ao28 y10012.length co28)) (fun _ hk => hk.1.2)⟩, ⟨by (with_reducible repeat (first | refine blk_drewN ?_ _ | refine blk_drew ?_ | refine blk_alloc ?_ _)); refine blk_put (cs := #[u10007000, u10007001]) ?_ 0 _ rfl; (with_reducible repeat (first | refine blk_drewN ?_ _ | refine blk_drew ?_ | refine blk_alloc ?_ _)); exact BK10006.out⟩, ⟨by repeat (first | (with_reducible first | exact HB.out | apply below_alloc | apply pw_below_drewN | apply below_drew1 | refine below_set ?_ GE10006.out) | exact HB.out)⟩⟩
                            · rw [if_neg c16] at H
                              exact absurd H (by simp)
                          · rw [if_neg c15] at H
                            have c15b0 : ((rd (rd_L9 l0 x23_2) x17_1) == 1) = false := beq_eq_false_iff_ne.mpr c15
                            have c15b1 : ((rd (rd_L9 l0 x23_2) x17_1) != 1) = true := bne_iff_ne.mpr c15
                            by_cases c30 : (rd (rd_L9 l0 x23_2) x17_1) = (-1)
                            · rw [if_pos c30] at H
                              have c30b0 : ((rd (rd_L9 l0 x23_2) x17_1) == (-1)) = true := beq_iff_eq.mpr c30
                              have c30b1 : ((rd (rd_L9 l0 x23_2) x17_1) != (-1)) = false := bne_eq_false_iff_eq.mpr c30
                              clear c30
                              by_cases c31 : x10007001_2.length < 17592186044416
                              · rw [if_pos c31] at H
                                have LMc31 := Aside0.mk c31
                                clear c31
                                obtain ⟨y10020, hy10020⟩ : ∃ y_ : List Int, y_ = (x10007001_2 ++ [x23_2]) := ⟨_, rfl⟩
                                replace H : (spec_WeighingsOf.l1 k2 l0 x4_1 x17_1 ((rd_L9 l0 0).length : Int) x17_1 l0 (l0.length : Int) (wrap64 (x23_2 + 1)) x10007000_2 y10020) = some (r1, r2) := by first | (rw [hy10020]; with_reducible exact H) | (have H2_ := (Option.bind_some _ _).symm.trans H; rw [hy10020]; with_reducible exact H2_) | (have H2_ := (Option.bind_some _ _).symm.trans H; with_reducible exact H2_) | with_reducible exact H | (rw [hy10020]; exact H) | exact H
                                have Ny10020 := Aside0.mk hy10020
                                clear hy10020
                                have H' := Aside0.mk H
                                clear H
                                have p10010 : 0 ≤ (x23_2 : Int) := of_decide_eq_true (by first | (with_reducible assumption) | assumption)
                                have q10010 : x23_2 < (l0.length : Int) := of_decide_eq_true (by first | (with_reducible assumption) | assumption)
                                obtain ⟨ad10010, A10010_0, c10010_0, e10010, hx10010_0, hl10010_0, hi10010_0⟩ := at_L9 HR0.out x23_2 p10010 q10010
                                obtain rfl : ad10005 = ad10010 := (by injection e10010)
                                replace hx10010_0 := (HB.out.cell (World.block_lt_of_cell? w _ hx10010_0)).trans hx10010_0
                                have HR10010_0 := Aside0.mk hi10010_0
                                have HC10010_0 := Aside0.mk hl10010_0
                                clear hi10010_0 hl10010_0
                                replace p10010 := eq_true p10010
                                replace q10010 := eq_true q10010
                                have p10011 : 0 ≤ (x17_1 : Int) := of_decide_eq_true (by first | (with_reducible assumption) | assumption)
                                have q10011 : x17_1 < ((rd_L9 l0 x23_2).length : Int) := of_decide_eq_true (by first | (with_reducible assumption) | assumption)
                                obtain ⟨ad10011, e10011, hx10011_0⟩ := Kd.at_int HR10010_0.out x17_1 p10011 q10011
                                cases e10011
                                replace hx10011_0 := (HB.out.cell (World.block_lt_of_cell? w _ hx10011_0)).trans hx10011_0
                                replace p10011 := eq_true p10011
                                replace q10011 := eq_true q10011
                                have p10019 : 0 ≤ (x17_1 : Int) := of_decide_eq_true (by first | (with_reducible assumption) | assumption)
                                have q10019 : x17_1 < ((rd_L9 l0 x23_2).length : Int) := of_decide_eq_true (by first | (with_reducible assumption) | assumption)
                                obtain ⟨ad10019, e10019, hx10019_0⟩ := Kd.at_int HR10010_0.out x17_1 p10019 q10019
                                obtain rfl : ad10011 = ad10019 := (by injection e10019)
                                replace hx10019_0 := (HB.out.cell (World.block_lt_of_cell? w _ hx10019_0)).trans hx10019_0
                                replace p10019 := eq_true p10019
                                replace q10019 := eq_true q10019
                                have hcz32_0 : wr.cell? ⟨gb10006, 0, none⟩ = some (u10007000) := (blk_cell BK10006.out 0).trans rfl
                                have hcz32_1 : wr.cell? ⟨gb10006, 1, none⟩ = some (u10007001) := (blk_cell BK10006.out 1).trans rfl
                                have hfz32_0 := blk_frozen BK10006.out 0
                                have hfz32_1 := blk_frozen BK10006.out 1
                                go_wp2_with (first | ((with_reducible refine gate_builtin (b := .append) (xs := #[.tmp 45, .tmp 47]) rfl ?_); at_builtin; refine Kd.R_append (Kd.int .i64) (w0 := w) w.heap.size rfl (.tmp 45) (.tmp 47) 47 3 (.int .i64 0) 8 rfl Try.underlying47 info3 rfl (by decide) (by omega) u10007001 x10007001_2 x23_2 [.int .i64 x23_2] (fun k_ => some k_ ≠ (u10007000 : Value).ownBlock) (fun _ => False) rfl rfl ?aP (fun _ hk => hk.elim) ?aF ?aO ?aB ?aS ?aL ?_; (case aP => exact rfl); (case aB => exact (by repeat (first | (with_reducible first | exact HB.out | apply below_alloc | apply pw_below_drewN | apply below_drew1 | refine below_set ?_ GE10006.out) | exact HB.out))); (case aF => exact (fun k_ hk => Kd.fresh' (Kd.R_lt (by (with_reducible repeat (first | apply Kd.R_alloc | apply Kd.R_drewN | apply Kd.R_drew)); exact HO_10007000.out)) k_ hk)); (case aO => exact (by (with_reducible repeat (first | apply Kd.R_alloc | apply Kd.R_drewN | apply Kd.R_drew)); exact HO_10007001.out)); (case aS => exact (below_size (by repeat (first | (with_reducible first | exact HB.out | apply below_alloc | apply pw_below_drewN | apply below_drew1 | refine below_set ?_ GE10006.out) | exact HB.out)))); (case aL => have := LMc31.out; omega); intro v10021 w33 ho hb hg hat; rw [← Ny10020.out] at ho; have n0_ := Aside0.mk (Kd.S_after (ok := (fun k_ => some k_ ≠ (u10007000 : Value).ownBlock ∧ k_ ≠ gb10006)) (by (with_reducible repeat (first | apply Kd.S_alloc | apply Kd.S_drewN | apply Kd.S_drew)); exact Kd.S_mono HO_4.out (fun _ hk => ⟨⟨hk.1, hk.2.2⟩, hk.2.1⟩)) hg hat); have n1_ := Aside0.mk (Kd.R_after (ok := (fun _ => True)) (by (with_reducible repeat (first | apply Kd.R_alloc | apply Kd.R_drewN | apply Kd.R_drew)); exact Kd.R_mono HO_10007000.out (fun _ hk => ⟨trivial, hk⟩)) hg hat); have n2_ := Aside0.mk (blk_grown (g := gb10006) (o := .cells #[u10007000, u10007001] 50 (0, 0)) (by (with_reducible repeat (first | refine blk_drewN ?_ _ | refine blk_drew ?_ | refine blk_alloc ?_ _)); exact BK10006.out) hg (Kd.R_ne HO_10007001.out BK10006.out (by decide))); have n3_ := Aside0.mk (hb); have n4_ := Aside0.mk (ho); clear HO_4; clear HO_10007000; clear BK10006; clear HB; clear HO_10007001; have HO_4 := n0_; have HO_10007000 := n1_; have BK10006 := n2_; have HB := n3_; have HO10022 := n4_; clear n0_ n1_ n2_ n3_ n4_; clear ho hb hg hat; obtain ⟨Ao34, co34, eo34⟩ := Kd.R_slice HO10022.out; subst eo34; have hcz35_0 : w33.cell? ⟨gb10006, 0, none⟩ = some (u10007000) := (blk_cell BK10006.out 0).trans rfl; have hcz35_1 : w33.cell? ⟨gb10006, 1, none⟩ = some (u10007001) := (blk_cell BK10006.out 1).trans rfl; have hfz35_0 := blk_frozen BK10006.out 0; have hfz35_1 := blk_frozen BK10006.out 1))
                                go_roundg k2
                                case measure => have := HK1.out; have := HK2.out; omega
                                case rel => exact ⟨(wrap64 (x23_2 + 1)), (x10007000_2), (y10020), (u10007000), (.slice Ao34 y10020.length co34), (by first | rfl | (simp; done) | (simp [*]; done)), H', ⟨by have := HK1.out; have := HK2.out; omega⟩, ⟨by (with_reducible repeat (first | apply Kd.S_alloc | apply Kd.S_drewN | apply Kd.S_drew)); exact Kd.S_mono (Kd.S_far (p := ⟨gb10006, 1, none⟩) (Kd.S_mono HO_4.out (fun k_ hk => (⟨hk, hk.1.2⟩ : _ ∧ k_ ≠ gb10006))) (fun _ hk => hk.2) (.slice Ao34 y10020.length co34)) (fun _ hk => ⟨hk.1.1.1, ⟨hk.1.2, hk.1.1.2⟩⟩)⟩, ⟨by (with_reducible repeat (first | apply Kd.R_alloc | apply Kd.R_drewN | apply Kd.R_drew)); exact Kd.R_mono (Kd.R_far (p := ⟨gb10006, 1, none⟩) (Kd.R_types HO_10007000.out BK10006.out (by decide)) (fun _ hk => hk.2) (.slice Ao34 y10020.length co34)) (fun _ hk => hk.1.2)⟩, ⟨by (with_reducible repeat (first | apply Kd.R_alloc | apply Kd.R_drewN | apply Kd.R_drew)); exact Kd.R_mono (Kd.R_far (p := ⟨gb10006, 1, none⟩) (Kd.R_types HO10022.out BK10006.out (by decide)) (fun _ hk => hk.2) (.slice Ao34 y10020.length co34)) (fun _ hk => hk.1)⟩, ⟨by (with_reducible repeat (first | refine blk_drewN ?_ _ | refine blk_drew ?_ | refine blk_alloc ?_ _)); refine blk_put (cs := #[u10007000, u10007001]) ?_ 1 _ rfl; (with_reducible repeat (first | refine blk_drewN ?_ _ | refine blk_drew ?_ | refine blk_alloc ?_ _)); exact BK10006.out⟩, ⟨by repeat (first | (with_reducible first | exact HB.out | apply below_alloc | apply pw_below_drewN | apply below_drew1 | refine below_set ?_ GE10006.out) | exact HB.out)⟩⟩
                              · rw [if_neg c31] at H
                                exact absurd H (by simp)
                            · rw [if_neg c30] at H
                              have c30b0 : ((rd (rd_L9 l0 x23_2) x17_1) == (-1)) = false := beq_eq_false_iff_ne.mpr c30
                              have c30b1 : ((rd (rd_L9 l0 x23_2) x17_1) != (-1)) = true := bne_iff_ne.mpr c30
                              have H' := Aside0.mk H
                              clear H
                              have p10010 : 0 ≤ (x23_2 : Int) := of_decide_eq_true (by first | (with_reducible assumption) | assumption)
                              have q10010 : x23_2 < (l0.length : Int) := of_decide_eq_true (by first | (with_reducible assumption) | assumption)
                              obtain ⟨ad10010, A10010_0, c10010_0, e10010, hx10010_0, hl10010_0, hi10010_0⟩ := at_L9 HR0.out x23_2 p10010 q10010
                              obtain rfl : ad10005 = ad10010 := (by injection e10010)
                              replace hx10010_0 := (HB.out.cell (World.block_lt_of_cell? w _ hx10010_0)).trans hx10010_0
                              have HR10010_0 := Aside0.mk hi10010_0
                              have HC10010_0 := Aside0.mk hl10010_0
                              clear hi10010_0 hl10010_0
                              replace p10010 := eq_true p10010
                              replace q10010 := eq_true q10010
                              have p10011 : 0 ≤ (x17_1 : Int) := of_decide_eq_true (by first | (with_reducible assumption) | assumption)
                              have q10011 : x17_1 < ((rd_L9 l0 x23_2).length : Int) := of_decide_eq_true (by first | (with_reducible assumption) | assumption)
                              obtain ⟨ad10011, e10011, hx10011_0⟩ := Kd.at_int HR10010_0.out x17_1 p10011 q10011
                              cases e10011
                              replace hx10011_0 := (HB.out.cell (World.block_lt_of_cell? w _ hx10011_0)).trans hx10011_0
                              replace p10011 := eq_true p10011
                              replace q10011 := eq_true q10011
                              have p10019 : 0 ≤ (x17_1 : Int) := of_decide_eq_true (by first | (with_reducible assumption) | assumption)
                              have q10019 : x17_1 < ((rd_L9 l0 x23_2).length : Int) := of_decide_eq_true (by first | (with_reducible assumption) | assumption)
                              obtain ⟨ad10019, e10019, hx10019_0⟩ := Kd.at_int HR10010_0.out x17_1 p10019 q10019
                              obtain rfl : ad10011 = ad10019 := (by injection e10019)
                              replace hx10019_0 := (HB.out.cell (World.block_lt_of_cell? w _ hx10019_0)).trans hx10019_0
                              replace p10019 := eq_true p10019
                              replace q10019 := eq_true q10019
                              go_wp2
                              go_roundg k2
                              case measure => have := HK1.out; have := HK2.out; omega
                              case rel => exact ⟨(wrap64 (x23_2 + 1)), (x10007000_2), (x10007001_2), (u10007000), (u10007001), (by first | rfl | (simp; done) | (simp [*]; done)), H', ⟨by have := HK1.out; have := HK2.out; omega⟩, ⟨by (with_reducible repeat (first | apply Kd.S_alloc | apply Kd.S_drewN | apply Kd.S_drew)); exact HO_4.out⟩, ⟨by (with_reducible repeat (first | apply Kd.R_alloc | apply Kd.R_drewN | apply Kd.R_drew)); exact HO_10007000.out⟩, ⟨by (with_reducible repeat (first | apply Kd.R_alloc | apply Kd.R_drewN | apply Kd.R_drew)); exact HO_10007001.out⟩, ⟨by (with_reducible repeat (first | refine blk_drewN ?_ _ | refine blk_drew ?_ | refine blk_alloc ?_ _)); exact BK10006.out⟩, ⟨by repeat (first | (with_reducible first | exact HB.out | apply below_alloc | apply pw_below_drewN | apply below_drew1 | refine below_set ?_ GE10006.out) | exact HB.out)⟩⟩
                        · rw [if_neg c14] at H
                          exact absurd H (by simp)
                      · rw [if_neg c13] at H
                        exact absurd H (by simp)
                    · rw [if_neg c12] at H
                      exact absurd H (by simp)
                  · rw [if_neg c11] at H
                    exact absurd H (by simp)
                · rw [if_neg c10] at H
                  have c10b0 : decide (x23_2 < (l0.length : Int)) = false := decide_eq_false c10
                  clear c10
                  by_cases c36 : x4_1.length < 2932031007402
                  · rw [if_pos c36] at H
                    have LMc36 := Aside0.mk c36
                    clear c36
                    obtain ⟨y10007, hy10007⟩ : ∃ y_ : List (S50), y_ = (x4_1 ++ [(⟨x10007000_2, x10007001_2⟩ : S50)]) := ⟨_, rfl⟩
                    replace H : (spec_WeighingsOf.l0 k2 l0 y10007 ((rd_L9 l0 0).length : Int) (wrap64 (x17_1 + 1))) = some (r1, r2) := by first | (rw [hy10007]; with_reducible exact H) | (have H2_ := (Option.bind_some _ _).symm.trans H; rw [hy10007]; with_reducible exact H2_) | (have H2_ := (Option.bind_some _ _).symm.trans H; with_reducible exact H2_) | with_reducible exact H | (rw [hy10007]; exact H) | exact H
                    have Ny10007 := Aside0.mk hy10007
                    clear hy10007
                    have H' := Aside0.mk H
                    clear H
                    have hcz37_0 : wr.cell? ⟨gb10006, 0, none⟩ = some (u10007000) := (blk_cell BK10006.out 0).trans rfl
                    have hcz37_1 : wr.cell? ⟨gb10006, 1, none⟩ = some (u10007001) := (blk_cell BK10006.out 1).trans rfl
                    have hfz37_0 := blk_frozen BK10006.out 0
                    have hfz37_1 := blk_frozen BK10006.out 1
                    obtain ⟨Ao39, co39, eo39⟩ := Kd.R_slice HO_10007000.out
                    subst eo39
                    obtain ⟨Ao40, co40, eo40⟩ := Kd.R_slice HO_10007001.out
                    subst eo40
                    go_wp2_with (first | ((with_reducible refine gate_builtin (b := .append) (xs := #[.tmp 51, .tmp 53]) rfl ?_); at_builtin; refine Kd.S_append k50 (w0 := w) w.heap.size rfl (.tmp 51) (.tmp 53) 24 50 (.agg #[(.slice none 0 0), (.slice none 0 0)]) 48 rfl Try.underlying24 info50 rfl (by decide) (by omega) u4 x4_1 (⟨x10007000_2, x10007001_2⟩ : S50) [.slice Ao39 x10007000_2.length co39, .slice Ao40 x10007001_2.length co40] (fun k_ => k_ ≠ gb10006) (fun k_ => some k_ = (.slice Ao39 x10007000_2.length co39 : Value).ownBlock ∨ some k_ = (.slice Ao40 x10007001_2.length co40 : Value).ownBlock) rfl rfl ?aP (fun k_ hk_ => hk_.elim (fun h_ => ((Kd.R_mono (ok' := fun k_ => ((fun k_ => k_ ≠ gb10006)) k_ ∧ some k_ ≠ (u4 : Value).ownBlock) (Kd.R_types (Kd.R_apart' (HO_10007000.out) (Kd.S_typed HO_4.out) (by decide)) BK10006.out (by decide)) (fun k_ hk => ⟨hk.2, hk.1.2⟩))).1 k_ h_.symm) (fun h_ => ((Kd.R_mono (ok' := fun k_ => ((fun k_ => k_ ≠ gb10006)) k_ ∧ some k_ ≠ (u4 : Value).ownBlock) (Kd.R_types (Kd.R_apart' (HO_10007001.out) (Kd.S_typed HO_4.out) (by decide)) BK10006.out (by decide)) (fun k_ hk => ⟨hk.2, hk.1.2⟩))).1 k_ h_.symm)) ?aF ?aO ?aB ?aS ?aL ?_; (case aP => exact k50_mkM _ _ _ (⟨x10007000_2, x10007001_2⟩ : S50) (Kd.R_mono (Kd.R_tight rfl (Kd.R_mono (ok' := fun k_ => ((fun k_ => k_ ≠ gb10006)) k_ ∧ some k_ ≠ (u4 : Value).ownBlock) (Kd.R_types (Kd.R_apart' (HO_10007000.out) (Kd.S_typed HO_4.out) (by decide)) BK10006.out (by decide)) (fun k_ hk => ⟨hk.2, hk.1.2⟩))) (fun _ h_ => Or.inl h_)) (Kd.R_mono (Kd.R_tight rfl (Kd.R_mono (ok' := fun k_ => ((fun k_ => k_ ≠ gb10006)) k_ ∧ some k_ ≠ (u4 : Value).ownBlock) (Kd.R_types (Kd.R_apart' (HO_10007001.out) (Kd.S_typed HO_4.out) (by decide)) BK10006.out (by decide)) (fun k_ hk => ⟨hk.2, hk.1.2⟩))) (fun _ h_ => Or.inr (h_)))); (case aB => exact (by repeat (first | (with_reducible first | exact HB.out | apply below_alloc | apply pw_below_drewN | apply below_drew1 | refine below_set ?_ GE10006.out) | exact HB.out))); (case aF => exact (fun k_ hk => Kd.freshB (g := gb10006) (o := .cells #[.slice Ao39 x10007000_2.length co39, .slice Ao40 x10007001_2.length co40] 50 (0, 0)) (by (with_reducible repeat (first | refine blk_drewN ?_ _ | refine blk_drew ?_ | refine blk_alloc ?_ _)); exact BK10006.out) k_ hk)); (case aO => exact (by (with_reducible repeat (first | apply Kd.S_alloc | apply Kd.S_drewN | apply Kd.S_drew)); exact Kd.S_mono HO_4.out (fun k_ hk => ⟨hk.2.2, fun e_ => e_.elim (fun h_ => hk.1 h_) (fun h_ => hk.2.1 h_)⟩))); (case aS => exact (below_size (by repeat (first | (with_reducible first | exact HB.out | apply below_alloc | apply pw_below_drewN | apply below_drew1 | refine below_set ?_ GE10006.out) | exact HB.out)))); (case aL => have := LMc36.out; omega); intro v10008 w38 ho hb hg hat; rw [← Ny10007.out] at ho; have n0_ := Aside0.mk (blk_grown (g := gb10006) (o := .cells #[.slice Ao39 x10007000_2.length co39, .slice Ao40 x10007001_2.length co40] 50 (0, 0)) (by (with_reducible repeat (first | refine blk_drewN ?_ _ | refine blk_drew ?_ | refine blk_alloc ?_ _)); exact BK10006.out) hg (Kd.S_away HO_4.out (fun _ hk => hk.2.2))); have n1_ := Aside0.mk (hb); have n2_ := Aside0.mk (ho); clear BK10006; clear HB; clear HO_4; clear HO_10007000; clear HO_10007001; have BK10006 := n0_; have HB := n1_; have HO10009 := n2_; clear n0_ n1_ n2_; clear ho hb hg hat))
                    go_roundg k2
                    case measure => have := HK1.out; have := HK2.out; omega
                    case rel => exact ⟨(y10007), (wrap64 (x17_1 + 1)), (by first | rfl | (simp; done) | (simp [*]; done)), H', ⟨by have := HK1.out; have := HK2.out; omega⟩, ⟨by (with_reducible repeat (first | apply Kd.S_alloc | apply Kd.S_drewN | apply Kd.S_drew)); exact Kd.S_mono HO10009.out (fun _ hk => trivial)⟩, ⟨by repeat (first | (with_reducible first | exact HB.out | apply below_alloc | apply pw_below_drewN | apply below_drew1 | refine below_set ?_ GE10006.out) | exact HB.out)⟩⟩
                  · rw [if_neg c36] at H
                    exact absurd H (by simp)
          · rw [if_neg c7] at H
            have c7b0 : decide (x17_1 < ((rd_L9 l0 0).length : Int)) = false := decide_eq_false c7
            clear c7
            simp only [Option.some.injEq, Prod.mk.injEq] at H
            obtain ⟨rfl, rfl⟩ := H
            go_wp2
            go_ret2
            exact ⟨_, by first | rfl | (simp [errW_none, errW_some] <;> rfl) | (simp [*, errW_none, errW_some] <;> rfl), by (with_reducible repeat (first | apply Kd.S_alloc | apply Kd.S_drewN | apply Kd.S_drew)); exact HO_4.out, by repeat (first | (with_reducible first | exact HB.out | apply below_alloc | apply pw_below_drewN | apply below_drew1) | exact HB.out)⟩
    · rw [if_neg c4] at H
      exact absurd H (by simp)
  · replace c3 := Bool.eq_false_iff.mpr c3
    subst c3
    have H1 : (some (([] : List (S50)), false)) = some (r1, r2) := by rw [if_neg (show ¬ (false = true) by decide)] at H; exact H
    clear H
    have H := H1
    clear H1
    simp only [Option.some.injEq, Prod.mk.injEq] at H
    obtain ⟨rfl, rfl⟩ := H
    go_enter Try.func9, Try.ntmps9
    go_wp2_with (first | ((with_reducible refine gate_callee (f := 43) rfl ?_); refine goesL_ (some 10) rfl rfl Try.func43 (by kernel_rfl) rfl #[.slice A0 l0.length c0] rfl (by (try simp only [List.map_toArray, List.map_cons, List.map_nil]); first | done | rfl | (simp only [List.length_drop, List.length_take]; rfl)) ?_; (with_reducible refine (spec_l8Words.calls k _ _ l0 false _ ?side1 ?side2 A2.out).mono ?_); (case side1 => repeat (first | exact HR0.out | (with_reducible refine Kd.C_alloc ?_ _) | (with_reducible refine Kd.C_drewN ?_ _) | (with_reducible refine Kd.C_drew ?_))); (case side2 => exact HC0.out); rintro e w' ⟨rfl, ⟨nd, rfl⟩⟩; refine ⟨_, rfl, ?_⟩))
    go_ret2
    exact ⟨_, by first | rfl | (simp [errW_none, errW_some] <;> rfl) | (simp [*, errW_none, errW_some] <;> rfl), by first | exact Kd.S_nil _ _ _ _ _ | exact Kd.N_nil _ _ _ _ _ | exact Kd.V_nil _ _ _ _ _ | exact Kd.Q_nil _ _ _ _ _ | exact Kd.R_nil _ _ _ _ _, by repeat (first | (with_reducible first | exact HB.out | apply below_alloc | apply pw_below_drewN | apply below_drew1) | exact HB.out)⟩

end Go.Proofs.Ytgiehdhnhkmjfaa.X
-- Laid by xprint.py (wip/tools): printed contracts, and hand-written ones between them.
namespace Go.Proofs.Ytgiehdhnhkmjfaa.X
open Go.RowKit Go.Proofs.YtgiehdhnhkmjfaaW.PrintWords Go.Proofs.YtgiehdhnhkmjfaaW.PrintLast Go.Proofs.YtgiehdhnhkmjfaaW.PrintMore
attribute [local go_sem] max2_int min2_int max_two min_two max_three min_three max_four min_four   -- for this text's walks alone
set_option linter.unusedVariables false
set_option linter.unusedSimpArgs false

/-! ### laws_toIntS: function 44 -/
def laws_toIntS.l0 : Nat → List Int → List Int → Int → Option (List Int)
  | 0, _, _, _ => none
  | k + 1, x0, x3, x4 => if x4 < (x0.length : Int) then (if 0 ≤ x4 then (if x4 < (x3.length : Int) then (laws_toIntS.l0 k x0 (x3.set (x4 : Int).toNat (rd x0 x4)) (wrap64 (x4 + 1))) else (none)) else (none)) else (some x3)
def laws_toIntS.f (k : Nat) (l0 : List Int) : Option (List Int) := if 0 ≤ (l0.length : Int) then (if ((l0.length : Int) : Int).toNat ≤ 35184372088832 then (laws_toIntS.l0 k l0 (List.replicate ((l0.length : Int) : Int).toNat 0) 0) else (none)) else (none)
theorem laws_toIntS.mono_l : ∀ k, (∀ y0 y1 y2, LeO (laws_toIntS.l0 k y0 y1 y2) (laws_toIntS.l0 (k + 1) y0 y1 y2))
  | 0 => fun _ _ _ r h => by simp [laws_toIntS.l0] at h
  | k + 1 => by
    have ih0 := laws_toIntS.mono_l k
    · intro y0 y1 y2
      unfold laws_toIntS.l0
      repeat' first
      | (with_reducible exact ih0 _ _ _)
      | (with_reducible exact LeO.refl _)
      | (with_reducible exact LeO.none _)
      | (with_reducible refine LeO.ite ?_ ?_)
      | (with_reducible refine LeO.bind ?_ (fun _ => ?_))
      | exact ih0 _ _ _
      | exact LeO.none _
      | refine LeO.ite ?_ ?_
      | refine LeO.bind ?_ (fun _ => ?_)
theorem laws_toIntS.mono : ∀ a0 k, LeO (laws_toIntS.f k a0) (laws_toIntS.f (k + 1) a0) := by
  intro a0 k
  have ih0 := laws_toIntS.mono_l k
  unfold laws_toIntS.f
  repeat' first
      | (with_reducible exact ih0 _ _ _)
      | (with_reducible exact LeO.refl _)
      | (with_reducible exact LeO.none _)
      | (with_reducible refine LeO.ite ?_ ?_)
      | (with_reducible refine LeO.bind ?_ (fun _ => ?_))
      | exact ih0 _ _ _
      | exact LeO.none _
      | refine LeO.ite ?_ ?_
      | refine LeO.bind ?_ (fun _ => ?_)
set_option maxHeartbeats 8000000 in
set_option maxRecDepth 100000 in
theorem laws_toIntS.calls (k : Nat) (A0 : Option Addr) (c0 : Nat) (l0 : List Int) (r : List Int) (w : World) (hr0 : Kd.C (Kd.int .i64) w A0 l0.length l0) (hc0 : l0.length ≤ c0) (h : laws_toIntS.f k l0 = some r) :
    Calls Try.prog 44 #[.slice A0 l0.length c0] w fun e w' => ∃ v0_ : Value, e = .returned (v0_) ∧ Kd.R (Kd.int .i64) 3 w' w.heap.size (fun _ => True) v0_ r ∧ Below w.heap.size w w' := by
  have HR0 := Aside0.mk hr0
  have HC0 := Aside0.mk hc0
  clear hr0 hc0
  have HB := Aside0.mk (Below.refl w.heap.size w)
  have H : (if 0 ≤ (l0.length : Int) then (if ((l0.length : Int) : Int).toNat ≤ 35184372088832 then (laws_toIntS.l0 k l0 (List.replicate ((l0.length : Int) : Int).toNat 0) 0) else (none)) else (none)) = some r := h
  clear h
  by_cases c2 : 0 ≤ (l0.length : Int)
  · rw [if_pos c2] at H
    have c2b0 := eq_true c2
    have c2b1 : decide (0 ≤ (l0.length : Int)) = true := decide_eq_true c2
    clear c2
    by_cases c3 : ((l0.length : Int) : Int).toNat ≤ 35184372088832
    · rw [if_pos c3] at H
      have c3b0 := eq_true c3
      have c3b1 : decide (((l0.length : Int) : Int).toNat ≤ 35184372088832) = true := decide_eq_true c3
      clear c3
      obtain ⟨y45001, hy45001⟩ : ∃ y_ : List Int, y_ = (List.replicate ((l0.length : Int) : Int).toNat 0) := ⟨_, rfl⟩
      replace H : (laws_toIntS.l0 k l0 y45001 0) = some r := by first | (rw [hy45001]; with_reducible exact H) | (have H2_ := (Option.bind_some _ _).symm.trans H; rw [hy45001]; with_reducible exact H2_) | (have H2_ := (Option.bind_some _ _).symm.trans H; with_reducible exact H2_) | with_reducible exact H | (rw [hy45001]; exact H) | exact H
      have Ny45001 := Aside0.mk hy45001
      clear hy45001
      have H' := Aside0.mk H
      clear H
      go_enter Try.func44, Try.ntmps44
      go_wp2_with (first | ((with_reducible refine gate_dst (N := 7) rfl ?_); refine Kd.R_make (Kd.int .i64) _ 3 rfl (N := 7) rfl 47 _ _ rfl (l0.length : Int) rfl rfl Try.underlying47 (.int .i64 0) 8 info3 rfl (by decide) (by omega) 0 (ok := fun _ => True) (okp := fun _ => True) rfl (fun _ hk => hk) trivial (of_decide_eq_true (by first | (with_reducible assumption) | assumption)) (Nat.le_trans (Nat.mul_le_mul_right _ (of_decide_eq_true (by first | (with_reducible assumption) | assumption) : (l0.length : Int).toNat ≤ 35184372088832)) (by omega)) (Below.refl _ _) (Nat.le_refl _) ?_; intro v45002 w4 ho5 hb hg_ hnew_; clear hg_ hnew_; (first | rw [← Ny45001.out] at ho5 | (simp only [Int.reduceToNat] at ho5; rw [← Ny45001.out] at ho5)); have n0_ := Aside0.mk (Kd.R_lower ho5 (below_size (by repeat (first | (with_reducible first | exact HB.out | apply below_alloc | apply pw_below_drewN | apply below_drew1) | exact HB.out)))); have n1_ := Aside0.mk (below_step (by repeat (first | (with_reducible first | exact HB.out | apply below_alloc | apply pw_below_drewN | apply below_drew1) | exact HB.out)) hb); clear HB; have HO45003 := n0_; have HB := n1_; clear n0_ n1_; clear hb ho5))
      go_loopg [4] k (fun kq v4 w' => ∃ (x3_1 : List Int) (x4_1 : Int), v4 = .int .i64 x4_1 ∧ Aside0 (laws_toIntS.l0 kq l0 x3_1 x4_1 = some r) ∧ Aside0 (kq ≤ k) ∧ Aside0 (Kd.R (Kd.int .i64) 3 w' w.heap.size (fun _ => True) v45002 x3_1) ∧ Aside0 (Below w.heap.size w w'))
      case atStart => exact ⟨(y45001), (0), (by first | rfl | (simp; done) | (simp [*]; done)), H', ⟨Nat.le_refl _⟩, ⟨by (with_reducible repeat (first | apply Kd.R_alloc | apply Kd.R_drewN | apply Kd.R_drew)); exact HO45003.out⟩, ⟨by repeat (first | (with_reducible first | exact HB.out | apply below_alloc | apply pw_below_drewN | apply below_drew1) | exact HB.out)⟩⟩
      case round =>
        clear H'
        try clear c2
        try clear c2b0
        try clear c2b1
        try clear p2
        try clear c3
        try clear c3b0
        try clear c3b1
        try clear c4
        obtain ⟨x3_1, x4_1, rfl, HA, HK1, HO_3, HB⟩ := hrel
        cases gk with
        | zero => exact absurd HA.out (by simp [laws_toIntS.l0])
        | succ k1 =>
          have H := HA.out
          clear HA
          simp only [laws_toIntS.l0] at H
          by_cases c6 : x4_1 < (l0.length : Int)
          · rw [if_pos c6] at H
            have c6b0 : decide (x4_1 < (l0.length : Int)) = true := decide_eq_true c6
            clear c6
            by_cases c7 : 0 ≤ x4_1
            · rw [if_pos c7] at H
              have c7b0 : decide (0 ≤ x4_1) = true := decide_eq_true c7
              clear c7
              by_cases c8 : x4_1 < (x3_1.length : Int)
              · rw [if_pos c8] at H
                have c8b0 : decide (x4_1 < (x3_1.length : Int)) = true := decide_eq_true c8
                clear c8
                obtain ⟨y45005, hy45005⟩ : ∃ y_ : List Int, y_ = (x3_1.set (x4_1 : Int).toNat (rd l0 x4_1)) := ⟨_, rfl⟩
                replace H : (laws_toIntS.l0 k1 l0 y45005 (wrap64 (x4_1 + 1))) = some r := by first | (rw [hy45005]; with_reducible exact H) | (have H2_ := (Option.bind_some _ _).symm.trans H; rw [hy45005]; with_reducible exact H2_) | (have H2_ := (Option.bind_some _ _).symm.trans H; with_reducible exact H2_) | with_reducible exact H | (rw [hy45005]; exact H) | exact H
                have Ny45005 := Aside0.mk hy45005
                clear hy45005
                have H' := Aside0.mk H
                clear H
                have p45004 : 0 ≤ (x4_1 : Int) := of_decide_eq_true (by first | (with_reducible assumption) | assumption)
                have q45004 : x4_1 < (l0.length : Int) := of_decide_eq_true (by first | (with_reducible assumption) | assumption)
                obtain ⟨ad45004, e45004, hx45004_0⟩ := Kd.at_int HR0.out x4_1 p45004 q45004
                cases e45004
                replace hx45004_0 := (HB.out.cell (World.block_lt_of_cell? w _ hx45004_0)).trans hx45004_0
                replace p45004 := eq_true p45004
                replace q45004 := eq_true q45004
                have p9 : 0 ≤ (x4_1 : Int) := of_decide_eq_true (by first | (with_reducible assumption) | assumption)
                have q9 : (x4_1 : Int) < ((x3_1.length : Int) : Int) := of_decide_eq_true (by first | (with_reducible assumption) | assumption)
                obtain ⟨go9, co9, eo9, gb9, gl9, cl9, HG9⟩ := Kd.R_form HO_3.out (by omega)
                (first | cases eo9 | (injection eo9 with ea_ en_ ec_; (first | subst ea_ | (injection ea_ with ea_; subst ea_)); subst ec_; clear en_))
                have GB9 := Aside0.mk gb9
                have GG9 := Aside0.mk HG9
                clear gb9 gl9 HG9
                obtain ⟨hx9_0, hf9_0⟩ := Kd.R_celln 0 HO_3.out (x4_1 : Int) p9 q9
                replace p9 := eq_true p9
                replace q9 := eq_true q9
                have HP10 := Kd.R_putg HO_3.out (x4_1 : Int) (rd l0 x4_1)
                go_wp2_with (first | ((with_reducible refine gate_store (t := 3) (p := 20) rfl ?_); refine store_event (t := 3) (p := 20) (v := ?vo_w11) (w1 := (wr.setCell ⟨go9, (x4_1 : Int).toNat, none⟩ (.int .i64 (rd l0 x4_1)))) ?hg ?ho ?hn ?hr ?_; (case ho => rfl); (case hg => rfl); (case hn => rfl); (case hr => first | (go_simp; done) | (go_simp; rfl)); intro w11 hw; have hg : wr.grownBy w11 (some go9) := (by rw [hw]; exact HP10.2); have hp_ : Kd.R (Kd.int .i64) 3 w11 w.heap.size (fun _ => True) (.slice (some ⟨go9, 0, none⟩) x3_1.length co9) y45005 := (by rw [hw, Ny45005.out]; exact HP10.1); clear HP10; have n0_ := Aside0.mk (hp_); have n1_ := Aside0.mk ((by rw [hw]; exact below_set (HB.out) GB9.out : Below w.heap.size w w11)); clear HO_3; clear HB; have HO_3 := n0_; have HB := n1_; clear n0_ n1_; clear hg hw hp_))
                go_roundg k1
                case measure => have := HK1.out; omega
                case rel => exact ⟨(y45005), (wrap64 (x4_1 + 1)), (by first | rfl | (simp; done) | (simp [*]; done)), H', ⟨by have := HK1.out; omega⟩, ⟨by (with_reducible repeat (first | apply Kd.R_alloc | apply Kd.R_drewN | apply Kd.R_drew)); exact HO_3.out⟩, ⟨by repeat (first | (with_reducible first | exact HB.out | apply below_alloc | apply pw_below_drewN | apply below_drew1) | exact HB.out)⟩⟩
              · rw [if_neg c8] at H
                exact absurd H (by simp)
            · rw [if_neg c7] at H
              exact absurd H (by simp)
          · rw [if_neg c6] at H
            have c6b0 : decide (x4_1 < (l0.length : Int)) = false := decide_eq_false c6
            clear c6
            obtain rfl := Option.some.inj H
            go_wp2
            go_ret
            exact ⟨_, by first | rfl | (simp [errW_none, errW_some] <;> rfl) | (simp [*, errW_none, errW_some] <;> rfl), by (with_reducible repeat (first | apply Kd.R_alloc | apply Kd.R_drewN | apply Kd.R_drew)); exact HO_3.out, by repeat (first | (with_reducible first | exact HB.out | apply below_alloc | apply pw_below_drewN | apply below_drew1) | exact HB.out)⟩
    · rw [if_neg c3] at H
      exact absurd H (by simp)
  · rw [if_neg c2] at H
    exact absurd H (by simp)

end Go.Proofs.Ytgiehdhnhkmjfaa.X
-- Laid by xprint.py (wip/tools): printed contracts, and hand-written ones between them.
namespace Go.Proofs.Ytgiehdhnhkmjfaa.X
open Go.RowKit Go.Proofs.YtgiehdhnhkmjfaaW.PrintWords Go.Proofs.YtgiehdhnhkmjfaaW.PrintLast Go.Proofs.YtgiehdhnhkmjfaaW.PrintMore
attribute [local go_sem] max2_int min2_int max_two min_two max_three min_three max_four min_four   -- for this text's walks alone
set_option linter.unusedVariables false
set_option linter.unusedSimpArgs false

/-! ### laws_toIntSS: function 10 -/
theorem LV.put {e3 : Nat} {W W1 : World} {base g m N : Nat} {t : TypeId} {L : Nat → List Int} (h : LV e3 W base g m t N L) {j : Nat} (hj : j < m) (hb : Below W.heap.size W W1) {v1 : Value} {l' : List Int} (hr : Kd.R (Kd.int .i64) e3 W1 W.heap.size (fun _ => True) v1 l') (hbase : base ≤ W.heap.size) :
    (∃ x, W1.cell? ⟨g, j, none⟩ = some x) ∧ W1.frozen? ⟨g, j, none⟩ = false ∧ LV e3 (W1.setCell ⟨g, j, none⟩ v1) base g m t N (fun i => if i = j then l' else L i) := by
  obtain ⟨cur, f, hN, h1, h2, h3, h4⟩ := h
  have hg := blk_lt h1
  have hb1 : W1.heap[g]? = some (.cells cur t (0, 0)) := (hb.block g hg).trans h1
  obtain ⟨v, hv, _⟩ := h4 j hj
  refine ⟨⟨v, (blk_cell hb1 j).trans hv⟩, blk_frozen hb1 j, cur.setIfInBounds j v1, fun k => if W.heap.size ≤ k then j else f k, by simpa using hN, blk_set hb1 j v1, by simpa using h2, h3, fun i hi => ?_⟩
  by_cases e : i = j
  · subst e
    refine ⟨v1, by rw [Array.getElem?_setIfInBounds_self_of_lt (by omega)], ?_⟩
    show Kd.R _ _ _ _ _ _ (if i = i then l' else L i)
    rw [if_pos rfl]
    have hr2 := Kd.R_lower (Kd.R_mono (Kd.R_bound hr) (ok' := fun k => W.heap.size ≤ k) (fun k hk => hk.2.1)) hbase
    refine Kd.R_far (p := ⟨g, i, none⟩) (Kd.R_mono hr2 (fun k hk => ⟨by omega, if_pos hk⟩)) (fun k hk => hk.1) v1
  · obtain ⟨u, hu, hru⟩ := h4 i hi
    refine ⟨u, by rw [Array.getElem?_setIfInBounds_ne (fun h => e h.symm)]; exact hu, ?_⟩
    show Kd.R _ _ _ _ _ _ (if i = j then l' else L i)
    rw [if_neg e]
    refine Kd.R_far (p := ⟨g, j, none⟩) ?_ (fun k hk => hk.1) v1
    exact Kd.R_mono (Kd.R_below (Kd.R_bound hru) hb) (fun k hk => ⟨hk.1.1, (if_neg (by have := hk.2.2.1; omega)).trans hk.1.2⟩)
theorem raw_nil {e3 e : Nat} {W : World} {base : Nat} {ok : Nat → Prop} {v : Value} (h : Kd.R (Kd.raw 1) e W base ok v []) : Kd.S (Kd.slice e3 (Kd.int .i64)) e W base ok v [] := by
  obtain ⟨hok, inner, ⟨hlen, hown⟩, hrep⟩ := h
  exact ⟨fun _ => 0, hok, inner, ⟨hlen, hown⟩, hrep.1, fun j p hj => by simp at hj⟩
theorem raw1_zero (w : World) (base : Nat) (ok : Nat → Prop) : (Kd.raw 1).M w base ok [.slice none 0 0] [.slice none 0 0] := ⟨rfl, rfl, by simp [Value.oneCell']⟩
def toRows (k : Nat) (l0 : List (List Int)) : Nat → Bool
  | 0 => true
  | n + 1 => toRows k l0 n && decide (laws_toIntS.f k (l0.getD n []) = some (l0.getD n []))
theorem toRows_at {k : Nat} {l0 : List (List Int)} {n : Nat} (h : toRows k l0 n = true) {j : Nat} (hj : j < n) : laws_toIntS.f k (l0.getD j []) = some (l0.getD j []) := by
  induction n with
  | zero => omega
  | succ n ih =>
    simp only [toRows, Bool.and_eq_true, decide_eq_true_eq] at h
    by_cases e : j = n
    · subst e; exact h.2
    · exact ih h.1 (by omega)
theorem toRows_mono (k : Nat) (l0 : List (List Int)) (n : Nat) (h : toRows k l0 n = true) : toRows (k + 1) l0 n = true := by
  induction n with
  | zero => rfl
  | succ n ih =>
    simp only [toRows, Bool.and_eq_true, decide_eq_true_eq] at h ⊢
    exact ⟨ih h.1, laws_toIntS.mono _ _ _ h.2⟩
def laws_toIntSS.f (k : Nat) (l0 : List (List Int)) : Option (List (List Int)) := if l0.length ≤ 2000000 then (if toRows k l0 l0.length = true then some l0 else none) else none
theorem laws_toIntSS.mono : ∀ a0 k, LeO (laws_toIntSS.f k a0) (laws_toIntSS.f (k + 1) a0) := by
  intro a0 k r h
  unfold laws_toIntSS.f at h ⊢
  by_cases c : a0.length ≤ 2000000
  · rw [if_pos c] at h ⊢
    by_cases c2 : toRows k a0 a0.length = true
    · rw [if_pos c2] at h
      rw [if_pos (toRows_mono _ _ _ c2)]
      exact h
    · rw [if_neg c2] at h
      cases h
  · rw [if_neg c] at h
    cases h
set_option maxHeartbeats 8000000 in
set_option maxRecDepth 100000 in
theorem laws_toIntSS.calls (k : Nat) (A0 : Option Addr) (c0 : Nat) (l0 : List (List Int)) (r : List (List Int)) (w : World) (hr0 : Kd.C (Kd.slice 3 (Kd.int .i64)) w A0 l0.length l0) (hc0 : l0.length ≤ c0) (h : laws_toIntSS.f k l0 = some r) :
    Calls Try.prog 10 #[.slice A0 l0.length c0] w fun e w' => ∃ v0_ : Value, e = .returned (v0_) ∧ Kd.S (Kd.slice 3 (Kd.int .i64)) 47 w' w.heap.size (fun _ => True) v0_ r ∧ Below w.heap.size w w' := by
  unfold laws_toIntSS.f at h
  by_cases hn : l0.length ≤ 2000000
  rotate_left
  · rw [if_neg hn] at h; cases h
  rw [if_pos hn] at h
  by_cases ht : toRows k l0 l0.length = true
  rotate_left
  · rw [if_neg ht] at h; cases h
  rw [if_pos ht] at h
  obtain rfl := Option.some.inj h
  clear h
  have HT := Aside0.mk ht
  obtain ⟨vals, hv1, hv2⟩ := rows_vals hr0
  have HV1 := Aside0.mk hv1
  have HV2 := Aside0.mk hv2
  have HB := Aside0.mk (Below.refl w.heap.size w)
  clear ht hr0 hv1 hv2
  by_cases hp : 0 < l0.length
  · go_enter Try.func10, Try.ntmps10
    go_wp2_with (first | ((with_reducible refine gate_dst (N := 7) rfl ?_); refine Kd.R_make (Kd.raw 1) (w0 := w) w.heap.size 47 rfl (N := 7) rfl 22 _ _ rfl (l0.length : Int) rfl rfl Try.underlying22 (.slice none 0 0) 24 info47 rfl (by decide) (by omega) (List.replicate 1 (.slice none 0 0)) (ok := fun _ => True) (okp := fun _ => True) (raw1_zero _ _ _) (fun _ hk => hk) trivial (by omega) (by rw [Int.toNat_natCast]; omega) HB.out HB.out.size ?_; intro v4 w4 hR4 hB4 _ _; rw [Int.toNat_natCast] at hR4; obtain ⟨g, cap, rfl, hnc, hcm, hLV⟩ := LV.make (e3 := 3) (s := 1) (n := l0.length) (by decide) hp hR4; have HLV := Aside0.mk hLV; have HB4 := Aside0.mk hB4; have HNC := Aside0.mk hnc; have HCM := Aside0.mk hcm; clear hR4 hB4 hLV hnc hcm))
    go_loopg [4] l0.length (fun g1 v4 W => ∃ (i : Nat), v4 = .int .i64 (i : Int) ∧ Aside0 (i ≤ l0.length ∧ l0.length - i ≤ g1) ∧ Aside0 (LV 3 W w.heap.size g (l0.length * 1) 47 (cap * 1) (fun j => if j < i then l0.getD j [] else [])) ∧ Aside0 (Below w.heap.size w W))
    case atStart => exact ⟨0, rfl, ⟨Nat.zero_le _, by omega⟩, ⟨LV.ext HLV.out (fun j _ => by rw [if_neg (Nat.not_lt_zero j)])⟩, HB4⟩
    case round =>
      obtain ⟨i, rfl, HK1, HL1, HB1⟩ := hrel
      by_cases hlt : i < l0.length
      · have hlti : (i : Int) < ↑l0.length := by omega
        obtain ⟨ad, hAd, hcl⟩ := HV1.out i hlt
        obtain ⟨A1, c1, hve, hle1, hC1⟩ := HV2.out i hlt
        have HTO := Aside0.mk (toRows_at HT.out hlt)
        obtain ⟨row, hrow⟩ : ∃ row, l0.getD i [] = row := ⟨_, rfl⟩
        rw [hrow] at hve hle1 hC1 HTO
        rw [hve] at hcl
        have hcw := pw_cell_below HB1.out hcl
        have HC1 := Aside0.mk (Kd.C_below hC1 HB1.out)
        have HLE := Aside0.mk hle1
        have HX := Aside0.mk hlt
        have HROW := Aside0.mk hrow
        have hic : (i : Int) < (l0.length : Int) ∧ l0.length ≤ cap := ⟨hlti, HNC.out⟩
        subst hAd
        clear hve hle1 hC1 hcl hlt hrow hic
        go_wp2_with (go_at_call 44; refine (laws_toIntS.calls k A1 c1 row row _ HC1.out HLE.out HTO.out).mono ?_; rintro e w1 ⟨v1, rfl, hR1, hB1⟩; obtain ⟨⟨xc, hxc⟩, hfz, hLV1⟩ := LV.put HL1.out (j := i) (by have := HX.out; omega) hB1 hR1 HB1.out.size; have HLV1 := Aside0.mk hLV1; have HBN := Aside0.mk (below_then HB1.out HB1.out.size hB1); have HGE := Aside0.mk (show w.heap.size ≤ g from HL1.out.choose_spec.choose_spec.2.2.2.1); obtain ⟨A2, c2, rfl⟩ := Kd.R_slice hR1; clear hR1 hB1 hLV1)
        go_roundg (l0.length - (i + 1))
        case measure => have := HK1.out.2; have := HX.out; omega
        case rel => exact ⟨i + 1, by first | rfl | go_num | (simp; done), ⟨by have := HX.out; omega, by omega⟩, ⟨LV.ext HLV1.out (fun j _ => by
          show (if j = i then row else if j < i then l0.getD j [] else []) = if j < i + 1 then l0.getD j [] else []
          by_cases e : j = i
          · rw [if_pos e, if_pos (by omega), e, HROW.out]
          · rw [if_neg e]
            by_cases e2 : j < i
            · rw [if_pos e2, if_pos (by omega)]
            · rw [if_neg e2, if_neg (by omega)])⟩, ⟨below_set HBN.out HGE.out⟩⟩
      · have hlti : ¬ (i : Int) < ↑l0.length := by omega
        obtain rfl : i = l0.length := by have := HK1.out; omega
        clear hlt
        go_wp2
        go_ret
        refine ⟨_, rfl, ?_, HB1.out⟩
        have h1 := LW.to_S (LW.of_LV HL1.out) rfl (show l0.length * 1 ≤ cap by have := HNC.out; omega) HCM.out
        have e2 : (List.range (l0.length * 1)).map (fun j => if j < l0.length then l0.getD j [] else []) = l0 := by
          rw [Nat.mul_one]
          apply List.ext_getElem?
          intro j
          rw [List.getElem?_map]
          by_cases hj : j < l0.length
          · rw [List.getElem?_range hj, List.getElem?_eq_getElem hj]
            show some (if j < l0.length then l0.getD j [] else []) = _
            rw [if_pos hj, List.getD_eq_getElem?_getD, List.getElem?_eq_getElem hj]
            rfl
          · rw [List.getElem?_eq_none (by rw [List.length_range]; omega), List.getElem?_eq_none (by omega)]
            rfl
        rw [e2, Nat.mul_one] at h1
        exact Kd.S_mono h1 (fun _ _ => trivial)
  · obtain rfl : l0 = [] := by cases l0 with
      | nil => rfl
      | cons _ _ => simp at hp
    have h00 : decide ((0 : Int) < 0) = false := rfl
    clear hp
    go_enter Try.func10, Try.ntmps10
    go_wp2_with (first | ((with_reducible refine gate_dst (N := 7) rfl ?_); refine Kd.R_make (Kd.raw 1) (w0 := w) w.heap.size 47 rfl (N := 7) rfl 22 _ _ rfl (0 : Int) rfl rfl Try.underlying22 (.slice none 0 0) 24 info47 rfl (by decide) (by omega) (List.replicate 1 (.slice none 0 0)) (ok := fun _ => True) (okp := fun _ => True) (raw1_zero _ _ _) (fun _ hk => hk) trivial (by omega) (by decide) HB.out HB.out.size ?_; intro v4 w4 hR4 hB4 _ _; have hS4 := raw_nil (e3 := 3) hR4; obtain ⟨A4, c4, rfl⟩ := Kd.S_slice hS4; have HS4 := Aside0.mk hS4; have HB4 := Aside0.mk hB4; clear hR4 hB4 hS4))
    go_loopg [4] 1 (fun g1 v4 W => v4 = .int .i64 0 ∧ W = w4)
    case atStart => exact ⟨rfl, rfl⟩
    case round =>
      obtain ⟨rfl, rfl⟩ := hrel
      go_wp2
      go_ret
      exact ⟨_, rfl, HS4.out, HB4.out⟩

end Go.Proofs.Ytgiehdhnhkmjfaa.X
-- Laid by xprint.py (wip/tools): printed contracts, and hand-written ones between them.
namespace Go.Proofs.Ytgiehdhnhkmjfaa.X
open Go.RowKit Go.Proofs.YtgiehdhnhkmjfaaW.PrintWords Go.Proofs.YtgiehdhnhkmjfaaW.PrintLast Go.Proofs.YtgiehdhnhkmjfaaW.PrintMore
attribute [local go_sem] max2_int min2_int max_two min_two max_three min_three max_four min_four   -- for this text's walks alone
set_option linter.unusedVariables false
set_option linter.unusedSimpArgs false

/-! ### impl_sameLength: function 45 -/
theorem impl_IsTrit_tells (x : Int) : impl_IsTrit.f x = some (tritB x) := by
  unfold impl_IsTrit.f tritB
  by_cases h : x ≥ -1
  · rw [if_pos h, decide_eq_true (show -1 ≤ x from h), Bool.true_and]
  · rw [if_neg h, decide_eq_false (show ¬ -1 ≤ x from h), Bool.false_and]
theorem impl_trits_tells (xs : List Int) (hx : xs.length ≤ 9223372036854775806) (d : Nat) : ∀ (k i : Nat), i ≤ xs.length → xs.length - i = d → d < k → impl_trits.l0 k xs (xs.length : Int) (i : Int) = some ((xs.drop i).all tritB) := by
  induction d with
  | zero =>
    intro k i h1 h2 hk
    obtain ⟨k, rfl⟩ : ∃ m, k = m + 1 := ⟨k - 1, by omega⟩
    simp only [impl_trits.l0]
    rw [if_neg (by omega), List.drop_of_length_le (by omega)]
    rfl
  | succ d ih =>
    intro k i h1 h2 hk
    obtain ⟨k, rfl⟩ : ∃ m, k = m + 1 := ⟨k - 1, by omega⟩
    have hi : i < xs.length := by omega
    have e : rd xs (i : Int) = xs[i] := by simp [rd, List.getElem?_eq_getElem hi]
    simp only [impl_trits.l0]
    rw [if_pos (by omega), if_pos (by omega), if_pos (by omega), e, impl_IsTrit_tells, List.drop_eq_getElem_cons hi, List.all_cons]
    simp only [Option.bind_some]
    cases hb : tritB xs[i] with
    | true =>
      rw [if_pos rfl, Bool.true_and, show wrap64 ((i : Int) + 1) = ((i + 1 : Nat) : Int) by unfold wrap64; omega]
      exact ih k (i + 1) (by omega) (by omega) (by omega)
    | false => rfl
theorem impl_IsWord_tells (xs : List Int) (k : Nat) (hk : xs.length < k) : impl_IsWord.f k xs = some (wordB xs) := by
  unfold impl_IsWord.f wordB impl_trits.f
  by_cases h1 : (xs.length : Int) ≥ 1
  · rw [if_pos h1, decide_eq_true (show 1 ≤ xs.length by omega), Bool.true_and]
    by_cases h2 : (xs.length : Int) ≤ 30
    · have h := impl_trits_tells xs (by omega) xs.length k 0 (Nat.zero_le _) rfl hk
      rw [List.drop_zero] at h
      rw [if_pos h2, decide_eq_true (show xs.length ≤ 30 by omega), Bool.true_and, show ((0 : Int)) = ((0 : Nat) : Int) from rfl, h]
      rfl
    · rw [if_neg h2, decide_eq_false (show ¬ xs.length ≤ 30 by omega), Bool.false_and]
  · rw [if_neg h1, decide_eq_false (show ¬ 1 ≤ xs.length by omega), Bool.false_and, Bool.false_and]
/-- What the closure tells of the word at place j. -/
def oddB (l : List (List Int)) (j : Nat) : Bool := !wordB (l.getD j []) || decide ((l.getD j []).length ≠ (l.getD 0 []).length)
def sameB (l : List (List Int)) : Bool := decide (0 < l.length) && !((List.range l.length).any (oddB l))
set_option maxHeartbeats 8000000 in
theorem impl_sameLength_1.calls (B : Nat) (A0 : Option Addr) (c0 : Nat) (l0 : List (List Int)) (A1 : Option Addr) (c1 : Nat) (y : List Int) (w : World) (hr0 : Kd.C (Kd.slice 3 (Kd.int .i64)) w A0 l0.length l0) (hp : 0 < l0.length)
    (hr1 : Kd.C (Kd.int .i64) w A1 y.length y) (hc1 : y.length ≤ c1) (hB : w.cell? ⟨B, 0, none⟩ = some (.slice A0 l0.length c0)) :
    Calls Try.prog 89 #[.slice A1 y.length c1, .pointer (some ⟨B, 0, none⟩)] w fun e w' => e = .returned (.bool (!wordB y || decide (y.length ≠ (l0.getD 0 []).length))) ∧ ∃ q, w' = w.drewN q := by
  obtain ⟨ad, c, e, _, hK, hcell⟩ := Kd.C_get hr0 ([] : List Int) 0 (by omega) (by omega)
  obtain ⟨A2, c2, rfl, hl2, hr2⟩ := hK
  have hx0 : w.cell? (ad.add 0) = some (.slice A2 (l0.getD 0 []).length c2) := hcell 0 _ rfl
  have hx : w.cell? ad = some (.slice A2 (l0.getD 0 []).length c2) := by rwa [Addr.add_zero'] at hx0
  clear hx0
  obtain ⟨z, hz⟩ : ∃ z, l0.getD 0 [] = z := ⟨_, rfl⟩
  rw [hz] at hx ⊢
  have hcall := impl_IsWord.calls (y.length + 1) A1 c1 y (wordB y) w hr1 hc1 (impl_IsWord_tells y _ (by omega))
  have hm := hr0.2.1
  clear hcell hr2 hr0 hr1 hl2 hz
  subst e
  cases hb : wordB y with
  | false =>
    rw [hb] at hcall
    clear hb
    go_enter Try.func89, Try.ntmps89
    go_wp2_with (go_at_call 90; refine hcall.mono ?_; rintro e w' ⟨rfl, ⟨q, rfl⟩⟩)
    go_ret
    exact ⟨rfl, _, rfl⟩
  | true =>
    rw [hb] at hcall
    clear hb
    go_enter Try.func89, Try.ntmps89
    go_wp2_with (go_at_call 90; refine hcall.mono ?_; rintro e w' ⟨rfl, ⟨q, rfl⟩⟩)
    go_ret
    exact ⟨by simp [bne_nat], _, rfl⟩
def impl_sameLength.f (l0 : List (List Int)) : Option Bool := some (sameB l0)
theorem impl_sameLength.calls (A0 : Option Addr) (c0 : Nat) (l0 : List (List Int)) (r : Bool) (w : World) (hr0 : Kd.C (Kd.slice 3 (Kd.int .i64)) w A0 l0.length l0) (hc0 : l0.length ≤ c0) (h : impl_sameLength.f l0 = some r) :
    Calls Try.prog 45 #[.slice A0 l0.length c0] w fun e w' => e = .returned (.bool r) ∧ Below w.heap.size w w' := by
  obtain rfl := Option.some.inj h
  clear h
  unfold sameB
  by_cases hp : 0 < l0.length
  · rw [decide_eq_true hp, Bool.true_and]
    obtain ⟨vals, hv1, hv2⟩ := rows_vals hr0
    have hcall : ∀ W B, Below w.heap.size w W → W.cell? ⟨B, 0, none⟩ = some (.slice A0 l0.length c0) →
        Calls Try.prog 79 #[.slice A0 l0.length c0, .func (.func 89) #[] #[.pointer (some ⟨B, 0, none⟩)]] W fun e w' => e = .returned (.bool ((List.range l0.length).any (oddB l0))) ∧ ∃ q, w' = W.drewN q := by
      intro W B hb hB
      refine slices_ContainsFunc_int_int_79.gives 89 #[.pointer (some ⟨B, 0, none⟩)] vals (oddB l0) l0.length c0 A0 W hr0.2.1 ?_ (enters_of Try.func89 (by kernel_rfl) rfl) ?_
      · intro j hj
        obtain ⟨ad, e, hx⟩ := hv1 j hj
        exact ⟨ad, e, pw_cell_below hb hx⟩
      · intro j q hj
        obtain ⟨A1, c1, e, hl, hr⟩ := hv2 j hj
        rw [e]
        have hbq := pw_below_drewN hb q
        exact impl_sameLength_1.calls B A0 c0 l0 A1 c1 (l0.getD j []) (W.drewN q) (Kd.C_below hr0 hbq) hp (Kd.C_below hr hbq) hl hB
    clear hv1 hv2 hr0
    go_enter Try.func45, Try.ntmps45
    go_wp2_with (go_at_call 79; refine (hcall _ w.heap.size (by exact below_alloc (Below.refl _ _) _) (by simp)).mono ?_; rintro e w' ⟨rfl, q, rfl⟩)
    go_ret
    exact ⟨rfl, by repeat (first | exact Below.refl _ _ | apply below_alloc | apply pw_below_drewN)⟩
  · rw [decide_eq_false hp, Bool.false_and]
    have h0 : decide (0 < l0.length) = false := decide_eq_false hp
    clear hp hr0 hc0
    go_enter Try.func45, Try.ntmps45
    go_wp2
    go_ret
    exact ⟨rfl, by repeat (first | exact Below.refl _ _ | apply below_alloc | apply pw_below_drewN)⟩

end Go.Proofs.Ytgiehdhnhkmjfaa.X
-- Laid by xprint.py (wip/tools): printed contracts, and hand-written ones between them.
namespace Go.Proofs.Ytgiehdhnhkmjfaa.X
open Go.RowKit Go.Proofs.YtgiehdhnhkmjfaaW.PrintWords Go.Proofs.YtgiehdhnhkmjfaaW.PrintLast Go.Proofs.YtgiehdhnhkmjfaaW.PrintMore
attribute [local go_sem] max2_int min2_int max_two min_two max_three min_three max_four min_four   -- for this text's walks alone
set_option linter.unusedVariables false
set_option linter.unusedSimpArgs false

/-! ### impl_WeighingsOf: function 11 -/
/-- The coins below m whose words have c at place p. -/
def cntW (ws : List (List Int)) (c : Int) (p m : Nat) : List Int := ((List.range m).filter (fun j => (ws.getD j []).getD p 0 == c)).map (fun (j : Nat) => (j : Int))
theorem cntW_succ (ws : List (List Int)) (c : Int) (p m : Nat) : cntW ws c p (m + 1) = cntW ws c p m ++ if (ws.getD m []).getD p 0 = c then [(m : Int)] else [] := by
  unfold cntW
  rw [List.range_succ, List.filter_append, List.map_append]
  congr 1
  by_cases h : (ws.getD m []).getD p 0 = c
  · rw [if_pos h, List.filter_cons_of_pos (by rw [h]; exact beq_self_eq_true c)]
    rfl
  · rw [if_neg h, List.filter_cons_of_neg (by simpa using h)]
    rfl
theorem cntW_length (ws : List (List Int)) (c : Int) (p m : Nat) : (cntW ws c p m).length ≤ m := by
  unfold cntW
  rw [List.length_map]
  exact Nat.le_trans (List.length_filter_le _ _) (by rw [List.length_range]; exact Nat.le_refl _)
def rowsW (ws : List (List Int)) (coin i : Nat) (j : Nat) : List Int := cntW ws (if j % 2 = 0 then 1 else -1) (j / 2) (if j / 2 < i then coin + 1 else coin)
theorem rowsW_zero (ws : List (List Int)) (j : Nat) : rowsW ws 0 0 j = [] := by unfold rowsW; rw [if_neg (show ¬ j / 2 < 0 by omega)]; rfl
theorem rowsW_next (ws : List (List Int)) (coin n j : Nat) (hj : j < n * 2) : rowsW ws coin n j = rowsW ws (coin + 1) 0 j := by
  unfold rowsW
  rw [if_pos (show j / 2 < n by omega), if_neg (show ¬ j / 2 < 0 by omega)]
theorem rowsW_one (ws : List (List Int)) (coin i j : Nat) (h : (ws.getD coin []).getD i 0 = 1) : (if j = i * 2 then rowsW ws coin i (i * 2) ++ [(coin : Int)] else rowsW ws coin i j) = rowsW ws coin (i + 1) j := by
  by_cases e : j = i * 2
  · subst e
    rw [if_pos rfl]
    unfold rowsW
    rw [if_pos (show i * 2 % 2 = 0 by omega), show i * 2 / 2 = i by omega, if_neg (Nat.lt_irrefl i), if_pos (Nat.lt_succ_self i), cntW_succ, if_pos h]
  · rw [if_neg e]
    unfold rowsW
    by_cases e2 : j / 2 = i
    · rw [if_neg (show ¬ j % 2 = 0 by omega), e2, if_neg (Nat.lt_irrefl i), if_pos (Nat.lt_succ_self i), cntW_succ, if_neg (by omega), List.append_nil]
    · congr 1
      by_cases e3 : j / 2 < i
      · rw [if_pos e3, if_pos (by omega)]
      · rw [if_neg e3, if_neg (by omega)]
theorem rowsW_neg (ws : List (List Int)) (coin i j : Nat) (h : (ws.getD coin []).getD i 0 = -1) : (if j = i * 2 + 1 then rowsW ws coin i (i * 2 + 1) ++ [(coin : Int)] else rowsW ws coin i j) = rowsW ws coin (i + 1) j := by
  by_cases e : j = i * 2 + 1
  · subst e
    rw [if_pos rfl]
    unfold rowsW
    rw [if_neg (show ¬ (i * 2 + 1) % 2 = 0 by omega), show (i * 2 + 1) / 2 = i by omega, if_neg (Nat.lt_irrefl i), if_pos (Nat.lt_succ_self i), cntW_succ, if_pos h]
  · rw [if_neg e]
    unfold rowsW
    by_cases e2 : j / 2 = i
    · rw [if_pos (show j % 2 = 0 by omega), e2, if_neg (Nat.lt_irrefl i), if_pos (Nat.lt_succ_self i), cntW_succ, if_neg (by omega), List.append_nil]
    · congr 1
      by_cases e3 : j / 2 < i
      · rw [if_pos e3, if_pos (by omega)]
      · rw [if_neg e3, if_neg (by omega)]
theorem rowsW_none (ws : List (List Int)) (coin i j : Nat) (h1 : (ws.getD coin []).getD i 0 ≠ 1) (h2 : (ws.getD coin []).getD i 0 ≠ -1) : rowsW ws coin i j = rowsW ws coin (i + 1) j := by
  unfold rowsW
  have hc : ¬ (ws.getD coin []).getD i 0 = (if j % 2 = 0 then 1 else -1) := by split <;> assumption
  by_cases e2 : j / 2 = i
  · rw [e2, if_neg (Nat.lt_irrefl i), if_pos (Nat.lt_succ_self i), cntW_succ, if_neg hc, List.append_nil]
  · congr 1
    by_cases e3 : j / 2 < i
    · rw [if_pos e3, if_pos (by omega)]
    · rw [if_neg e3, if_neg (by omega)]
theorem sameB_len {ws : List (List Int)} (h : sameB ws = true) {j : Nat} (hj : j < ws.length) : (ws.getD j []).length = (ws.getD 0 []).length ∧ 1 ≤ (ws.getD j []).length ∧ (ws.getD j []).length ≤ 30 := by
  unfold sameB at h
  simp only [Bool.and_eq_true, Bool.not_eq_true'] at h
  have := List.any_eq_false.1 h.2 j (List.mem_range.2 hj)
  unfold oddB wordB at this
  simp only [Bool.or_eq_true, not_or, Bool.not_eq_true', Bool.not_eq_false, Bool.and_eq_true, decide_eq_true_eq, ne_eq, Decidable.not_not, Bool.not_eq_eq_eq_not, Bool.not_true] at this
  exact ⟨this.2, by simpa using this.1.1.1, by simpa using this.1.1.2⟩
theorem raw2_zero (W : World) (base : Nat) (ok : Nat → Prop) : (Kd.raw 2).M W base ok (List.replicate 2 (.slice none 0 0)) (Value.agg #[.slice none 0 0, .slice none 0 0]).cells.toList := by
  refine ⟨rfl, rfl, fun u hu => ?_⟩
  have : u = .slice none 0 0 := List.eq_of_mem_replicate (n := 2) hu
  rw [this]
  rfl
set_option maxHeartbeats 8000000 in
set_option maxRecDepth 100000 in
theorem impl_WeighingsOf.strong (A0 : Option Addr) (c0 : Nat) (l0 : List (List Int)) (w : World) (hr0 : Kd.C (Kd.slice 3 (Kd.int .i64)) w A0 l0.length l0) (hc0 : l0.length ≤ c0) (hs : sameB l0 = true) (hn : l0.length ≤ 2000000) :
    Calls Try.prog 11 #[.slice A0 l0.length c0] w fun e w' => ∃ g cap, e = .returned (.tuple #[.slice (some ⟨g, 0, none⟩) (l0.getD 0 []).length cap, .bool true]) ∧ (l0.getD 0 []).length ≤ cap ∧ cap ≤ maxLen ∧ LV 3 w' w.heap.size g ((l0.getD 0 []).length * 2) 50 (cap * 2) (rowsW l0 l0.length 0) ∧ Below w.heap.size w w' := by
  have hu := Try.underlying50
  have hS : impl_sameLength.f l0 = some true := by unfold impl_sameLength.f; rw [hs]
  have HS := Aside0.mk hS
  have HR0 := Aside0.mk hr0
  have HC0 := Aside0.mk hc0
  have hpos : 0 < l0.length := by
    unfold sameB at hs
    simp only [Bool.and_eq_true, decide_eq_true_eq] at hs
    exact hs.1
  have HLEN := Aside0.mk (fun j (hj : j < l0.length) => sameB_len hs hj)
  obtain ⟨ad, c, e, _, hK, hcell⟩ := Kd.C_get hr0 ([] : List Int) 0 (by omega) (by omega)
  obtain ⟨A2, c2, rfl, hl2, hr2⟩ := hK
  have hx0 : w.cell? (ad.add 0) = some (.slice A2 (l0.getD 0 []).length c2) := hcell 0 _ rfl
  have hx : w.cell? ad = some (.slice A2 (l0.getD 0 []).length c2) := by rwa [Addr.add_zero'] at hx0
  obtain ⟨vals, hv1, hv2⟩ := rows_vals hr0
  have HV1 := Aside0.mk hv1
  have HV2 := Aside0.mk hv2
  clear hx0 hcell hS hr0 hc0 hs hl2 hv1 hv2
  subst e
  obtain ⟨n, hn2⟩ : ∃ n, (l0.getD 0 []).length = n := ⟨_, rfl⟩
  have hn30 : 1 ≤ n ∧ n ≤ 30 := by rw [← hn2]; exact (HLEN.out 0 hpos).2
  rw [hn2] at hx HLEN ⊢
  have HN := Aside0.mk hn30
  have hn30' : n ≤ 30 := hn30.2
  have hn1 : 0 < n := hn30.1
  clear hn2 hr2 hn30
  go_enter Try.func11, Try.ntmps11
  go_upto_region 3 with (go_at_call 45; refine (impl_sameLength.calls _ c0 l0 true _ HR0.out HC0.out HS.out).mono ?_; rintro e w1 ⟨rfl, hB1⟩)
  have hx1 := pw_cell_below hB1 hx
  have HB1 := Aside0.mk hB1
  clear hx hB1
  go_wp2_with (first | ((with_reducible refine gate_dst (N := 16) rfl ?_); refine Kd.R_make (Kd.raw 2) (w0 := w) w.heap.size 50 rfl (N := 16) rfl 24 _ _ rfl (n : Int) rfl rfl Try.underlying24 (.agg #[.slice none 0 0, .slice none 0 0]) 48 info50 rfl (by decide) (by omega) (List.replicate 2 (.slice none 0 0)) (ok := fun _ => True) (okp := fun _ => True) (raw2_zero _ _ _) (fun _ hk => hk) trivial (by omega) (by rw [Int.toNat_natCast]; omega) HB1.out HB1.out.size ?_; intro v4 w4 hR4 hB4 _ _; rw [Int.toNat_natCast] at hR4; obtain ⟨g, cap, rfl, hnc, hcm, hLV⟩ := LV.make (e3 := 3) (s := 2) (n := n) (by decide) hn1 hR4; have HLV := Aside0.mk hLV; have HB4 := Aside0.mk hB4; have HNC := Aside0.mk hnc; have HCM := Aside0.mk hcm; clear hR4 hB4 hLV hnc hcm))
  go_loopg [19] l0.length (fun g1 v19 W => ∃ (coin : Nat), v19 = .int .i64 (coin : Int) ∧ Aside0 (coin ≤ l0.length ∧ l0.length - coin ≤ g1) ∧ Aside0 (LV 3 W w.heap.size g (n * 2) 50 (cap * 2) (rowsW l0 coin 0)) ∧ Aside0 (Below w.heap.size w W))
  case atStart => exact ⟨0, rfl, ⟨Nat.zero_le _, by omega⟩, ⟨LV.ext HLV.out (fun j _ => (rowsW_zero l0 j).symm)⟩, HB4⟩
  case round =>
    obtain ⟨coin, rfl, HK1, HL1, HB1'⟩ := hrel
    by_cases hlt : coin < l0.length
    · have hlti : (coin : Int) < ↑l0.length := by omega
      obtain ⟨ad0, hAd, hcl⟩ := HV1.out coin hlt
      obtain rfl : ad = ad0 := by simpa using hAd
      obtain ⟨A1, c1, hve, hle1, hC1⟩ := HV2.out coin hlt
      obtain ⟨word, hwd⟩ : ∃ word, l0.getD coin [] = word := ⟨_, rfl⟩
      have hwl : word.length = n := by rw [← hwd]; exact (HLEN.out coin hlt).1
      rw [hwd] at hve hle1 hC1
      rw [hwl] at hve hle1
      rw [hve] at hcl
      have hcw := pw_cell_below HB1'.out hcl
      have HC1 := Aside0.mk hC1
      have HX := Aside0.mk hlt
      have HWD := Aside0.mk hwd
      have HWL := Aside0.mk hwl
      clear hAd hve hle1 hC1 hcl hlt hwd hwl
      go_wp2
      go_loopg [26] n (fun g2 v26 W => ∃ (i : Nat), v26 = .int .i64 (i : Int) ∧ Aside0 (i ≤ n ∧ n - i ≤ g2) ∧ Aside0 (LV 3 W w.heap.size g (n * 2) 50 (cap * 2) (rowsW l0 coin i)) ∧ Aside0 (Below w.heap.size w W))
      case atStart => exact ⟨0, rfl, ⟨Nat.zero_le _, by omega⟩, HL1, HB1'⟩
      case round =>
        obtain ⟨i, rfl, HK2, HL2, HB2⟩ := hrel
        by_cases hlt2 : i < n
        · have hlti2 : (i : Int) < ↑n := by omega
          obtain ⟨ad1, hA1, hci⟩ := ints_at (Kd.C_below HC1.out HB2.out) i (by rw [HWL.out]; exact hlt2)
          subst hA1
          obtain ⟨x, hx⟩ : ∃ x, word.getD i 0 = x := ⟨_, rfl⟩
          rw [hx] at hci
          have HX2 := Aside0.mk hlt2
          have HXX := Aside0.mk hx
          by_cases t1 : x = 1
          · subst t1
            obtain ⟨Ar, cr, okr, hcr, hfr, HRr, hok, Hput⟩ := LV.open_ HL2.out (j := i * 2) (by have := HX2.out; omega)
            obtain ⟨row, hrow⟩ : ∃ row, rowsW l0 coin i (i * 2) = row := ⟨_, rfl⟩
            have hrl : row.length ≤ 2000001 := by rw [← hrow]; unfold rowsW; refine Nat.le_trans (cntW_length _ _ _ _) ?_; have := HX.out; split <;> omega
            rw [hrow] at hcr HRr Hput
            have HROW := Aside0.mk hrow
            have HRL := Aside0.mk hrl
            have HRr' := Aside0.mk HRr
            have HOK := Aside0.mk hok
            have HPUT := Aside0.mk Hput
            clear HRr hok Hput hrow hrl hx hlt2
            go_wp2_with (first | ((with_reducible refine gate_builtin (b := .append) (xs := #[.tmp 40, .tmp 42]) rfl ?_); at_builtin; refine Kd.R_append (Kd.int .i64) (w0 := w) w.heap.size rfl (.tmp 40) (.tmp 42) 47 3 (.int .i64 0) 8 rfl Try.underlying47 info3 rfl (by decide) (by omega) (.slice Ar row.length cr) row (coin : Int) [.int .i64 (coin : Int)] okr (fun _ => False) rfl rfl ?aP (fun _ hk => hk.elim) ?aF ?aO ?aB ?aS ?aL ?_; (case aP => exact rfl); (case aF => exact HOK.out); (case aO => exact HRr'.out); (case aB => exact HB2.out); (case aS => exact HB2.out.size); (case aL => have := HRL.out; omega); intro v5 w5 hR5 hB5 hg5 hat5; obtain ⟨row2, hr2⟩ : ∃ row2, row ++ [(coin : Int)] = row2 := ⟨_, rfl⟩; rw [hr2] at hR5; obtain ⟨A5, c5, rfl⟩ := Kd.R_slice hR5; have HR2 := Aside0.mk hr2; obtain ⟨_, hf5, ⟨y5, hc5⟩, hLV5⟩ := HPUT.out _ w5 _ (Kd.R_mono hR5 (fun _ h => h)) hg5; have HLV5 := Aside0.mk hLV5; have HB5 := Aside0.mk hB5; have HGE := Aside0.mk (show w.heap.size ≤ g from HL2.out.choose_spec.choose_spec.2.2.2.1); clear hR5 hB5 hg5 hat5 hLV5 hr2))
            have HL3 : Aside0 (LV 3 (w5.setCell ⟨g, i * 2, none⟩ (.slice A5 row2.length c5)) w.heap.size g (n * 2) 50 (cap * 2) (rowsW l0 coin (i + 1))) := ⟨LV.ext HLV5.out (fun j _ => by have h := rowsW_one l0 coin i j (by rw [HWD.out]; exact HXX.out); rw [HROW.out, HR2.out] at h; exact h)⟩
            go_roundg (n - (i + 1))
            case measure => have := HK2.out.2; have := HX2.out; omega
            case rel => exact ⟨i + 1, by first | rfl | go_num | (simp; done), ⟨by have := HX2.out; omega, by omega⟩, HL3, ⟨below_set HB5.out HGE.out⟩⟩
          · by_cases t2 : x = -1
            · subst t2
              obtain ⟨Ar, cr, okr, hcr, hfr, HRr, hok, Hput⟩ := LV.open_ HL2.out (j := i * 2 + 1) (by have := HX2.out; omega)
              obtain ⟨row, hrow⟩ : ∃ row, rowsW l0 coin i (i * 2 + 1) = row := ⟨_, rfl⟩
              have hrl : row.length ≤ 2000001 := by rw [← hrow]; unfold rowsW; refine Nat.le_trans (cntW_length _ _ _ _) ?_; have := HX.out; split <;> omega
              rw [hrow] at hcr HRr Hput
              have HROW := Aside0.mk hrow
              have HRL := Aside0.mk hrl
              have HRr' := Aside0.mk HRr
              have HOK := Aside0.mk hok
              have HPUT := Aside0.mk Hput
              clear HRr hok Hput hrow hrl hx hlt2
              go_wp2_with (first | ((with_reducible refine gate_builtin (b := .append) (xs := #[.tmp 54, .tmp 56]) rfl ?_); at_builtin; refine Kd.R_append (Kd.int .i64) (w0 := w) w.heap.size rfl (.tmp 54) (.tmp 56) 47 3 (.int .i64 0) 8 rfl Try.underlying47 info3 rfl (by decide) (by omega) (.slice Ar row.length cr) row (coin : Int) [.int .i64 (coin : Int)] okr (fun _ => False) rfl rfl ?aP (fun _ hk => hk.elim) ?aF ?aO ?aB ?aS ?aL ?_; (case aP => exact rfl); (case aF => exact HOK.out); (case aO => exact HRr'.out); (case aB => exact HB2.out); (case aS => exact HB2.out.size); (case aL => have := HRL.out; omega); intro v5 w5 hR5 hB5 hg5 hat5; obtain ⟨row2, hr2⟩ : ∃ row2, row ++ [(coin : Int)] = row2 := ⟨_, rfl⟩; rw [hr2] at hR5; obtain ⟨A5, c5, rfl⟩ := Kd.R_slice hR5; have HR2 := Aside0.mk hr2; obtain ⟨_, hf5, ⟨y5, hc5⟩, hLV5⟩ := HPUT.out _ w5 _ (Kd.R_mono hR5 (fun _ h => h)) hg5; have HLV5 := Aside0.mk hLV5; have HB5 := Aside0.mk hB5; have HGE := Aside0.mk (show w.heap.size ≤ g from HL2.out.choose_spec.choose_spec.2.2.2.1); clear hR5 hB5 hg5 hat5 hLV5 hr2))
              have HL3 : Aside0 (LV 3 (w5.setCell ⟨g, i * 2 + 1, none⟩ (.slice A5 row2.length c5)) w.heap.size g (n * 2) 50 (cap * 2) (rowsW l0 coin (i + 1))) := ⟨LV.ext HLV5.out (fun j _ => by have h := rowsW_neg l0 coin i j (by rw [HWD.out]; exact HXX.out); rw [HROW.out, HR2.out] at h; exact h)⟩
              go_roundg (n - (i + 1))
              case measure => have := HK2.out.2; have := HX2.out; omega
              case rel => exact ⟨i + 1, by first | rfl | go_num | (simp; done), ⟨by have := HX2.out; omega, by omega⟩, HL3, ⟨below_set HB5.out HGE.out⟩⟩
            · have b1 : decide (x = 1) = false := decide_eq_false t1
              have b2 : decide (x = -1) = false := decide_eq_false t2
              have HL3 : Aside0 (LV 3 wr w.heap.size g (n * 2) 50 (cap * 2) (rowsW l0 coin (i + 1))) := ⟨LV.ext HL2.out (fun j _ => rowsW_none l0 coin i j (by rw [HWD.out, hx]; exact t1) (by rw [HWD.out, hx]; exact t2))⟩
              clear hx hlt2
              go_wp2
              go_roundg (n - (i + 1))
              case measure => have := HK2.out.2; have := HX2.out; omega
              case rel => exact ⟨i + 1, by first | rfl | go_num | (simp; done), ⟨by have := HX2.out; omega, by omega⟩, HL3, HB2⟩
        · have hlti2 : ¬ (i : Int) < ↑n := by omega
          obtain rfl : i = n := by have := HK2.out; omega
          clear hlt2
          go_wp2
          go_roundg (l0.length - (coin + 1))
          case measure => have := HK1.out.2; have := HX.out; omega
          case rel => exact ⟨coin + 1, by first | rfl | go_num | (simp; done), ⟨by have := HX.out; omega, by omega⟩, ⟨LV.ext HL2.out (fun j hj => rowsW_next l0 coin i j hj)⟩, HB2⟩
    · have hlti : ¬ (coin : Int) < ↑l0.length := by omega
      obtain rfl : coin = l0.length := by have := HK1.out; omega
      clear hlt
      go_wp2
      go_ret2
      exact ⟨g, cap, rfl, HNC.out, HCM.out, HL1.out, HB1'.out⟩
theorem weighS_of {W : World} {base g n cap : Nat} {L : Nat → List Int} (h : LV 3 W base g (n * 2) 50 (cap * 2) L) (hnc : n ≤ cap) (hcm : cap ≤ maxLen) :
    Kd.S k50 50 W base (fun _ => True) (.slice (some ⟨g, 0, none⟩) n cap) ((List.range n).map fun i => (⟨L (i * 2), L (i * 2 + 1)⟩ : S50)) := by
  obtain ⟨cur, f, hN, h1, h2, h3, h4⟩ := h
  have hl : ((List.range n).map fun i => (⟨L (i * 2), L (i * 2 + 1)⟩ : S50)).zipIdx.length = n := by simp
  refine ⟨fun k => f k / 2, fun _ _ => trivial, cur.toList.take (n * 2), ?_, ?_, fun j p hj => ?_⟩
  · rw [hl]
    exact ⟨by rw [List.length_take, Array.length_toList]; exact Nat.min_eq_left h2, .inr ⟨g, cap, cur, rfl, h3, h1, hnc, hcm, hN, rfl⟩⟩
  · rw [hl, List.length_take, Array.length_toList]
    exact Nat.min_eq_left h2
  · have hjn : j < n := by
      rcases Nat.lt_or_ge j n with h | h
      · exact h
      · rw [List.getElem?_eq_none (by omega)] at hj
        cases hj
    rw [List.getElem?_zipIdx, List.getElem?_map, List.getElem?_range hjn] at hj
    simp only [Option.map_some, Option.some.injEq, Nat.zero_add] at hj
    subst hj
    obtain ⟨v0, hv0, hr0⟩ := h4 (j * 2) (by omega)
    obtain ⟨v1, hv1, hr1⟩ := h4 (j * 2 + 1) (by omega)
    have e : ((cur.toList.take (n * 2)).drop (j * 2)).take 2 = [v0, v1] := by
      apply List.ext_getElem?
      intro i
      match i with
      | 0 =>
        rw [List.getElem?_take, if_pos (by decide), List.getElem?_drop, List.getElem?_take, if_pos (by omega), Array.getElem?_toList]
        exact hv0
      | 1 =>
        rw [List.getElem?_take, if_pos (by decide), List.getElem?_drop, List.getElem?_take, if_pos (by omega), Array.getElem?_toList]
        exact hv1
      | i + 2 =>
        rw [List.getElem?_take, if_neg (by omega)]
        rfl
    have e' : ((cur.toList.take (n * 2)).drop (j * (Kd.tag (fun k => f k / 2) k50).sz)).take (Kd.tag (fun k => f k / 2) k50).sz = [v0, v1] := e
    rw [e']
    have ow : ∀ k, k ≠ g → some k ≠ (Value.slice (some ⟨g, 0, none⟩) n cap).ownBlock := fun k hk he => hk (Option.some.inj (he.trans rfl))
    exact k50_mkM _ _ _ _ (Kd.R_mono hr0 (fun k hk => ⟨⟨trivial, ow k hk.1⟩, by show f k / 2 = j; rw [hk.2]; omega⟩)) (Kd.R_mono hr1 (fun k hk => ⟨⟨trivial, ow k hk.1⟩, by show f k / 2 = j; rw [hk.2]; omega⟩))
def weighW (l0 : List (List Int)) : List (S50) := (List.range (l0.getD 0 []).length).map fun i => (⟨rowsW l0 l0.length 0 (i * 2), rowsW l0 l0.length 0 (i * 2 + 1)⟩ : S50)
def impl_WeighingsOf.f (l0 : List (List Int)) : Option (List (S50) × Bool) := if sameB l0 then if l0.length ≤ 2000000 then some (weighW l0, true) else none else some ([], false)
set_option maxRecDepth 100000 in
theorem impl_WeighingsOf.calls (A0 : Option Addr) (c0 : Nat) (l0 : List (List Int)) (r1 : List (S50)) (r2 : Bool) (w : World) (hr0 : Kd.C (Kd.slice 3 (Kd.int .i64)) w A0 l0.length l0) (hc0 : l0.length ≤ c0) (h : impl_WeighingsOf.f l0 = some (r1, r2)) :
    Calls Try.prog 11 #[.slice A0 l0.length c0] w fun e w' => ∃ v0_ : Value, e = .returned (.tuple #[v0_, .bool r2]) ∧ Kd.S k50 50 w' w.heap.size (fun _ => True) v0_ r1 ∧ Below w.heap.size w w' := by
  unfold impl_WeighingsOf.f at h
  by_cases hs : sameB l0 = true
  · rw [if_pos hs] at h
    by_cases hn : l0.length ≤ 2000000
    · rw [if_pos hn] at h
      simp only [Option.some.injEq, Prod.mk.injEq] at h
      obtain ⟨rfl, rfl⟩ := h
      refine (impl_WeighingsOf.strong A0 c0 l0 w hr0 hc0 hs hn).mono ?_
      rintro e w' ⟨g, cap, rfl, hnc, hcm, hL, hB⟩
      exact ⟨_, rfl, weighS_of hL hnc hcm, hB⟩
    · rw [if_neg hn] at h
      cases h
  · rw [if_neg hs] at h
    simp only [Option.some.injEq, Prod.mk.injEq] at h
    obtain ⟨rfl, rfl⟩ := h
    have hS : impl_sameLength.f l0 = some false := by unfold impl_sameLength.f; rw [Bool.eq_false_iff.2 hs]
    have HS := Aside0.mk hS
    have HR0 := Aside0.mk hr0
    have HC0 := Aside0.mk hc0
    clear hr0 hc0 hS hs
    go_enter Try.func11, Try.ntmps11
    go_wp2_with (go_at_call 45; refine (impl_sameLength.calls _ c0 l0 false _ HR0.out HC0.out HS.out).mono ?_; rintro e w1 ⟨rfl, hB1⟩; have HB1 := Aside0.mk hB1)
    go_ret2
    exact ⟨_, rfl, Kd.S_nil _ _ _ _ _, HB1.out⟩

end Go.Proofs.Ytgiehdhnhkmjfaa.X
-- Laid by xprint.py (wip/tools): printed contracts, and hand-written ones between them.
namespace Go.Proofs.Ytgiehdhnhkmjfaa.X
open Go.RowKit Go.Proofs.YtgiehdhnhkmjfaaW.PrintWords Go.Proofs.YtgiehdhnhkmjfaaW.PrintLast Go.Proofs.YtgiehdhnhkmjfaaW.PrintMore
attribute [local go_sem] max2_int min2_int max_two min_two max_three min_three max_four min_four   -- for this text's walks alone
set_option linter.unusedVariables false
set_option linter.unusedSimpArgs false

/-! ### laws_eqWeighing: function 46 -/
def laws_eqWeighing.f (k : Nat) (l0_0 : List Int) (l0_1 : List Int) (l1_0 : List Int) (l1_1 : List Int) : Option (Bool) := (laws_eqIntS.f k l0_0 l1_0).bind fun t47003 => (if t47003 = true then ((laws_eqIntS.f k l0_1 l1_1).bind fun t47004 => (if t47004 = true then (some true) else (some false))) else (some false))
theorem laws_eqWeighing.mono : ∀ a0 a1 a2 a3 k, LeO (laws_eqWeighing.f k a0 a1 a2 a3) (laws_eqWeighing.f (k + 1) a0 a1 a2 a3) := by
  intro a0 a1 a2 a3 k
  unfold laws_eqWeighing.f
  repeat' first
      | (with_reducible exact laws_eqIntS.mono _ _ _)
      | (with_reducible exact LeO.refl _)
      | (with_reducible exact LeO.none _)
      | (with_reducible refine LeO.ite ?_ ?_)
      | (with_reducible refine LeO.bind ?_ (fun _ => ?_))
      | exact laws_eqIntS.mono _ _ _
      | exact LeO.none _
      | refine LeO.ite ?_ ?_
      | refine LeO.bind ?_ (fun _ => ?_)
set_option maxHeartbeats 8000000 in
set_option maxRecDepth 100000 in
theorem laws_eqWeighing.calls (k : Nat) (A0_0 : Option Addr) (c0_0 : Nat) (l0_0 : List Int) (A0_1 : Option Addr) (c0_1 : Nat) (l0_1 : List Int) (A1_0 : Option Addr) (c1_0 : Nat) (l1_0 : List Int) (A1_1 : Option Addr) (c1_1 : Nat) (l1_1 : List Int) (r : Bool) (w : World) (hr0_0 : Kd.C (Kd.int .i64) w A0_0 l0_0.length l0_0) (hc0_0 : l0_0.length ≤ c0_0) (hr0_1 : Kd.C (Kd.int .i64) w A0_1 l0_1.length l0_1) (hc0_1 : l0_1.length ≤ c0_1) (hr1_0 : Kd.C (Kd.int .i64) w A1_0 l1_0.length l1_0) (hc1_0 : l1_0.length ≤ c1_0) (hr1_1 : Kd.C (Kd.int .i64) w A1_1 l1_1.length l1_1) (hc1_1 : l1_1.length ≤ c1_1) (h : laws_eqWeighing.f k l0_0 l0_1 l1_0 l1_1 = some r) :
    Calls Try.prog 46 #[.agg #[.slice A0_0 l0_0.length c0_0, .slice A0_1 l0_1.length c0_1], .agg #[.slice A1_0 l1_0.length c1_0, .slice A1_1 l1_1.length c1_1]] w fun e w' => e = .returned (.bool r) ∧ Below w.heap.size w w' := by
  have hu50 := Try.underlying50
  have HR0_0 := Aside0.mk hr0_0
  have HC0_0 := Aside0.mk hc0_0
  clear hr0_0 hc0_0
  have HR0_1 := Aside0.mk hr0_1
  have HC0_1 := Aside0.mk hc0_1
  clear hr0_1 hc0_1
  have HR1_0 := Aside0.mk hr1_0
  have HC1_0 := Aside0.mk hc1_0
  clear hr1_0 hc1_0
  have HR1_1 := Aside0.mk hr1_1
  have HC1_1 := Aside0.mk hc1_1
  clear hr1_1 hc1_1
  have HB := Aside0.mk (Below.refl w.heap.size w)
  have H : ((laws_eqIntS.f k l0_0 l1_0).bind fun t47003 => (if t47003 = true then ((laws_eqIntS.f k l0_1 l1_1).bind fun t47004 => (if t47004 = true then (some true) else (some false))) else (some false))) = some r := h
  clear h
  replace H := Option.bind_eq_some_iff.mp H
  obtain ⟨t47003, A30, H⟩ := H
  replace H : (if t47003 = true then ((laws_eqIntS.f k l0_1 l1_1).bind fun t47004 => (if t47004 = true then (some true) else (some false))) else (some false)) = some r := H
  have A3 := Aside0.mk A30
  clear A30
  by_cases c4 : t47003 = true
  · subst c4
    have H1 : ((laws_eqIntS.f k l0_1 l1_1).bind fun t47004 => (if t47004 = true then (some true) else (some false))) = some r := by rw [if_pos rfl] at H; exact H
    clear H
    have H := H1
    clear H1
    replace H := Option.bind_eq_some_iff.mp H
    obtain ⟨t47004, A50, H⟩ := H
    replace H : (if t47004 = true then (some true) else (some false)) = some r := H
    have A5 := Aside0.mk A50
    clear A50
    by_cases c6 : t47004 = true
    · subst c6
      have H1 : (some true) = some r := by rw [if_pos rfl] at H; exact H
      clear H
      have H := H1
      clear H1
      obtain rfl := Option.some.inj H
      go_enter Try.func46, Try.ntmps46
      go_wp2_with (first | ((with_reducible refine gate_dst (N := 2) rfl ?_); refine box_event ?hg (N := 2) ?hd (cs := #[.slice A0_0 l0_0.length c0_0, .slice A0_1 l0_1.length c0_1]) (t := 50) ?hr ?_; (case hd => rfl); (case hg => rfl); (case hr => first | (go_simp; done) | (go_simp; rfl)); intro gb47001 hg w7 hbox hb; have n0_ := Aside0.mk (below_step (by repeat (first | (with_reducible first | exact HB.out | apply below_alloc | apply pw_below_drewN | apply below_drew1) | exact HB.out)) hb); have n1_ := Aside0.mk (hbox); have n2_ := Aside0.mk ((by rw [hg]; exact (below_size (by repeat (first | (with_reducible first | exact HB.out | apply below_alloc | apply pw_below_drewN | apply below_drew1) | exact HB.out))) : w.heap.size ≤ gb47001)); have n3_ := Aside0.mk ((by rw [hg]; exact (below_size (by repeat (first | (with_reducible first | exact HB.out | apply below_alloc | apply pw_below_drewN | apply below_drew1) | exact HB.out))) : w.heap.size ≤ gb47001)); clear HB; have HB := n0_; have BK47001 := n1_; have GW47001 := n2_; have GE47001 := n3_; clear n0_ n1_ n2_ n3_; clear hb hbox hg) | ((with_reducible refine gate_dst (N := 3) rfl ?_); refine box_event ?hg (N := 3) ?hd (cs := #[.slice A1_0 l1_0.length c1_0, .slice A1_1 l1_1.length c1_1]) (t := 50) ?hr ?_; (case hd => rfl); (case hg => rfl); (case hr => first | (go_simp; done) | (go_simp; rfl)); intro gb47002 hg w8 hbox hb; have n0_ := Aside0.mk (blk_below (g := gb47001) (o := .cells #[.slice A0_0 l0_0.length c0_0, .slice A0_1 l0_1.length c0_1] 50 (0, 0)) (by (with_reducible repeat (first | refine blk_drewN ?_ _ | refine blk_drew ?_ | refine blk_alloc ?_ _)); exact BK47001.out) hb); have n1_ := Aside0.mk (below_step (by repeat (first | (with_reducible first | exact HB.out | apply below_alloc | apply pw_below_drewN | apply below_drew1 | refine below_set ?_ GE47001.out) | exact HB.out)) hb); have n2_ := Aside0.mk (hbox); have n3_ := Aside0.mk ((by rw [hg]; exact (below_size (by repeat (first | (with_reducible first | exact HB.out | apply below_alloc | apply pw_below_drewN | apply below_drew1 | refine below_set ?_ GE47001.out) | exact HB.out))) : w.heap.size ≤ gb47002)); have n4_ := Aside0.mk ((by rw [hg]; exact (below_size (by repeat (first | (with_reducible first | exact HB.out | apply below_alloc | apply pw_below_drewN | apply below_drew1 | refine below_set ?_ GE47001.out) | exact HB.out))) : w.heap.size ≤ gb47002)); have n5_ := Aside0.mk ((by rw [hg]; exact Nat.ne_of_lt (blk_lt (g := gb47001) (o := .cells #[.slice A0_0 l0_0.length c0_0, .slice A0_1 l0_1.length c0_1] 50 (0, 0)) (by (with_reducible repeat (first | refine blk_drewN ?_ _ | refine blk_drew ?_ | refine blk_alloc ?_ _)); exact BK47001.out)) : gb47001 ≠ gb47002)); have n6_ := Aside0.mk ((by rw [hg]; exact Nat.ne_of_gt (blk_lt (g := gb47001) (o := .cells #[.slice A0_0 l0_0.length c0_0, .slice A0_1 l0_1.length c0_1] 50 (0, 0)) (by (with_reducible repeat (first | refine blk_drewN ?_ _ | refine blk_drew ?_ | refine blk_alloc ?_ _)); exact BK47001.out)) : gb47002 ≠ gb47001)); clear BK47001; clear HB; have BK47001 := n0_; have HB := n1_; have BK47002 := n2_; have GW47002 := n3_; have GE47002 := n4_; have NB47001_47002 := n5_; have NB47002_47001 := n6_; clear n0_ n1_ n2_ n3_ n4_ n5_ n6_; clear hb hbox hg; have hnb9 := NB47001_47002.out; have hnc9 := NB47002_47001.out; have hcz10_0 : w8.cell? ⟨gb47001, 0, none⟩ = some (.slice A0_0 l0_0.length c0_0) := (blk_cell BK47001.out 0).trans rfl; have hcz10_1 : w8.cell? ⟨gb47001, 1, none⟩ = some (.slice A0_1 l0_1.length c0_1) := (blk_cell BK47001.out 1).trans rfl; have hfz10_0 := blk_frozen BK47001.out 0; have hfz10_1 := blk_frozen BK47001.out 1; have hcz11_0 : w8.cell? ⟨gb47002, 0, none⟩ = some (.slice A1_0 l1_0.length c1_0) := (blk_cell BK47002.out 0).trans rfl; have hcz11_1 : w8.cell? ⟨gb47002, 1, none⟩ = some (.slice A1_1 l1_1.length c1_1) := (blk_cell BK47002.out 1).trans rfl; have hfz11_0 := blk_frozen BK47002.out 0; have hfz11_1 := blk_frozen BK47002.out 1) | ((with_reducible refine gate_callee (f := 47) rfl ?_); refine goesL_ (some 9) rfl rfl Try.func47 (by kernel_rfl) rfl #[.slice A0_0 l0_0.length c0_0, .slice A1_0 l1_0.length c1_0] rfl (by (try simp only [List.map_toArray, List.map_cons, List.map_nil]); first | done | rfl | (simp only [List.length_drop, List.length_take]; rfl)) ?_; (with_reducible refine (laws_eqIntS.calls k _ _ l0_0 _ _ l1_0 true _ ?side1 ?side2 ?side3 ?side4 A3.out).mono ?_); (case side1 => repeat (first | exact (Kd.C_below HR0_0.out HB.out) | (with_reducible refine Kd.C_alloc ?_ _) | (with_reducible refine Kd.C_drewN ?_ _) | (with_reducible refine Kd.C_drew ?_))); (case side2 => exact HC0_0.out); (case side3 => repeat (first | exact (Kd.C_below HR1_0.out HB.out) | (with_reducible refine Kd.C_alloc ?_ _) | (with_reducible refine Kd.C_drewN ?_ _) | (with_reducible refine Kd.C_drew ?_))); (case side4 => exact HC1_0.out); rintro e w' ⟨rfl, ⟨nd, rfl⟩⟩; refine ⟨_, rfl, ?_⟩) | ((with_reducible refine gate_callee (f := 47) rfl ?_); refine goesL_ (some 15) rfl rfl Try.func47 (by kernel_rfl) rfl #[.slice A0_1 l0_1.length c0_1, .slice A1_1 l1_1.length c1_1] rfl (by (try simp only [List.map_toArray, List.map_cons, List.map_nil]); first | done | rfl | (simp only [List.length_drop, List.length_take]; rfl)) ?_; (with_reducible refine (laws_eqIntS.calls k _ _ l0_1 _ _ l1_1 true _ ?side1 ?side2 ?side3 ?side4 A5.out).mono ?_); (case side1 => repeat (first | exact (Kd.C_below HR0_1.out (by repeat (first | (with_reducible first | exact HB.out | apply below_alloc | apply pw_below_drewN | apply below_drew1 | refine below_set ?_ GE47001.out | refine below_set ?_ GE47002.out) | exact HB.out))) | (with_reducible refine Kd.C_alloc ?_ _) | (with_reducible refine Kd.C_drewN ?_ _) | (with_reducible refine Kd.C_drew ?_))); (case side2 => exact HC0_1.out); (case side3 => repeat (first | exact (Kd.C_below HR1_1.out (by repeat (first | (with_reducible first | exact HB.out | apply below_alloc | apply pw_below_drewN | apply below_drew1 | refine below_set ?_ GE47001.out | refine below_set ?_ GE47002.out) | exact HB.out))) | (with_reducible refine Kd.C_alloc ?_ _) | (with_reducible refine Kd.C_drewN ?_ _) | (with_reducible refine Kd.C_drew ?_))); (case side4 => exact HC1_1.out); rintro e w' ⟨rfl, ⟨nd, rfl⟩⟩; refine ⟨_, rfl, ?_⟩))
      go_ret
      exact ⟨by first | rfl | (simp [errW_none, errW_some] <;> rfl) | (simp [*, errW_none, errW_some] <;> rfl), by repeat (first | (with_reducible first | exact HB.out | apply below_alloc | apply pw_below_drewN | apply below_drew1 | refine below_set ?_ GE47001.out | refine below_set ?_ GE47002.out) | exact HB.out)⟩
    · replace c6 := Bool.eq_false_iff.mpr c6
      subst c6
      have H1 : (some false) = some r := by rw [if_neg (show ¬ (false = true) by decide)] at H; exact H
      clear H
      have H := H1
      clear H1
      obtain rfl := Option.some.inj H
      go_enter Try.func46, Try.ntmps46
      go_wp2_with (first | ((with_reducible refine gate_dst (N := 2) rfl ?_); refine box_event ?hg (N := 2) ?hd (cs := #[.slice A0_0 l0_0.length c0_0, .slice A0_1 l0_1.length c0_1]) (t := 50) ?hr ?_; (case hd => rfl); (case hg => rfl); (case hr => first | (go_simp; done) | (go_simp; rfl)); intro gb47001 hg w12 hbox hb; have n0_ := Aside0.mk (below_step (by repeat (first | (with_reducible first | exact HB.out | apply below_alloc | apply pw_below_drewN | apply below_drew1) | exact HB.out)) hb); have n1_ := Aside0.mk (hbox); have n2_ := Aside0.mk ((by rw [hg]; exact (below_size (by repeat (first | (with_reducible first | exact HB.out | apply below_alloc | apply pw_below_drewN | apply below_drew1) | exact HB.out))) : w.heap.size ≤ gb47001)); have n3_ := Aside0.mk ((by rw [hg]; exact (below_size (by repeat (first | (with_reducible first | exact HB.out | apply below_alloc | apply pw_below_drewN | apply below_drew1) | exact HB.out))) : w.heap.size ≤ gb47001)); clear HB; have HB := n0_; have BK47001 := n1_; have GW47001 := n2_; have GE47001 := n3_; clear n0_ n1_ n2_ n3_; clear hb hbox hg) | ((with_reducible refine gate_dst (N := 3) rfl ?_); refine box_event ?hg (N := 3) ?hd (cs := #[.slice A1_0 l1_0.length c1_0, .slice A1_1 l1_1.length c1_1]) (t := 50) ?hr ?_; (case hd => rfl); (case hg => rfl); (case hr => first | (go_simp; done) | (go_simp; rfl)); intro gb47002 hg w13 hbox hb; have n0_ := Aside0.mk (blk_below (g := gb47001) (o := .cells #[.slice A0_0 l0_0.length c0_0, .slice A0_1 l0_1.length c0_1] 50 (0, 0)) (by (with_reducible repeat (first | refine blk_drewN ?_ _ | refine blk_drew ?_ | refine blk_alloc ?_ _)); exact BK47001.out) hb); have n1_ := Aside0.mk (below_step (by repeat (first | (with_reducible first | exact HB.out | apply below_alloc | apply pw_below_drewN | apply below_drew1 | refine below_set ?_ GE47001.out) | exact HB.out)) hb); have n2_ := Aside0.mk (hbox); have n3_ := Aside0.mk ((by rw [hg]; exact (below_size (by repeat (first | (with_reducible first | exact HB.out | apply below_alloc | apply pw_below_drewN | apply below_drew1 | refine below_set ?_ GE47001.out) | exact HB.out))) : w.heap.size ≤ gb47002)); have n4_ := Aside0.mk ((by rw [hg]; exact (below_size (by repeat (first | (with_reducible first | exact HB.out | apply below_alloc | apply pw_below_drewN | apply below_drew1 | refine below_set ?_ GE47001.out) | exact HB.out))) : w.heap.size ≤ gb47002)); have n5_ := Aside0.mk ((by rw [hg]; exact Nat.ne_of_lt (blk_lt (g := gb47001) (o := .cells #[.slice A0_0 l0_0.length c0_0, .slice A0_1 l0_1.length c0_1] 50 (0, 0)) (by (with_reducible repeat (first | refine blk_drewN ?_ _ | refine blk_drew ?_ | refine blk_alloc ?_ _)); exact BK47001.out)) : gb47001 ≠ gb47002)); have n6_ := Aside0.mk ((by rw [hg]; exact Nat.ne_of_gt (blk_lt (g := gb47001) (o := .cells #[.slice A0_0 l0_0.length c0_0, .slice A0_1 l0_1.length c0_1] 50 (0, 0)) (by (with_reducible repeat (first | refine blk_drewN ?_ _ | refine blk_drew ?_ | refine blk_alloc ?_ _)); exact BK47001.out)) : gb47002 ≠ gb47001)); clear BK47001; clear HB; have BK47001 := n0_; have HB := n1_; have BK47002 := n2_; have GW47002 := n3_; have GE47002 := n4_; have NB47001_47002 := n5_; have NB47002_47001 := n6_; clear n0_ n1_ n2_ n3_ n4_ n5_ n6_; clear hb hbox hg; have hnb14 := NB47001_47002.out; have hnc14 := NB47002_47001.out; have hcz15_0 : w13.cell? ⟨gb47001, 0, none⟩ = some (.slice A0_0 l0_0.length c0_0) := (blk_cell BK47001.out 0).trans rfl; have hcz15_1 : w13.cell? ⟨gb47001, 1, none⟩ = some (.slice A0_1 l0_1.length c0_1) := (blk_cell BK47001.out 1).trans rfl; have hfz15_0 := blk_frozen BK47001.out 0; have hfz15_1 := blk_frozen BK47001.out 1; have hcz16_0 : w13.cell? ⟨gb47002, 0, none⟩ = some (.slice A1_0 l1_0.length c1_0) := (blk_cell BK47002.out 0).trans rfl; have hcz16_1 : w13.cell? ⟨gb47002, 1, none⟩ = some (.slice A1_1 l1_1.length c1_1) := (blk_cell BK47002.out 1).trans rfl; have hfz16_0 := blk_frozen BK47002.out 0; have hfz16_1 := blk_frozen BK47002.out 1) | ((with_reducible refine gate_callee (f := 47) rfl ?_); refine goesL_ (some 9) rfl rfl Try.func47 (by kernel_rfl) rfl #[.slice A0_0 l0_0.length c0_0, .slice A1_0 l1_0.length c1_0] rfl (by (try simp only [List.map_toArray, List.map_cons, List.map_nil]); first | done | rfl | (simp only [List.length_drop, List.length_take]; rfl)) ?_; (with_reducible refine (laws_eqIntS.calls k _ _ l0_0 _ _ l1_0 true _ ?side1 ?side2 ?side3 ?side4 A3.out).mono ?_); (case side1 => repeat (first | exact (Kd.C_below HR0_0.out HB.out) | (with_reducible refine Kd.C_alloc ?_ _) | (with_reducible refine Kd.C_drewN ?_ _) | (with_reducible refine Kd.C_drew ?_))); (case side2 => exact HC0_0.out); (case side3 => repeat (first | exact (Kd.C_below HR1_0.out HB.out) | (with_reducible refine Kd.C_alloc ?_ _) | (with_reducible refine Kd.C_drewN ?_ _) | (with_reducible refine Kd.C_drew ?_))); (case side4 => exact HC1_0.out); rintro e w' ⟨rfl, ⟨nd, rfl⟩⟩; refine ⟨_, rfl, ?_⟩) | ((with_reducible refine gate_callee (f := 47) rfl ?_); refine goesL_ (some 15) rfl rfl Try.func47 (by kernel_rfl) rfl #[.slice A0_1 l0_1.length c0_1, .slice A1_1 l1_1.length c1_1] rfl (by (try simp only [List.map_toArray, List.map_cons, List.map_nil]); first | done | rfl | (simp only [List.length_drop, List.length_take]; rfl)) ?_; (with_reducible refine (laws_eqIntS.calls k _ _ l0_1 _ _ l1_1 false _ ?side1 ?side2 ?side3 ?side4 A5.out).mono ?_); (case side1 => repeat (first | exact (Kd.C_below HR0_1.out (by repeat (first | (with_reducible first | exact HB.out | apply below_alloc | apply pw_below_drewN | apply below_drew1 | refine below_set ?_ GE47001.out | refine below_set ?_ GE47002.out) | exact HB.out))) | (with_reducible refine Kd.C_alloc ?_ _) | (with_reducible refine Kd.C_drewN ?_ _) | (with_reducible refine Kd.C_drew ?_))); (case side2 => exact HC0_1.out); (case side3 => repeat (first | exact (Kd.C_below HR1_1.out (by repeat (first | (with_reducible first | exact HB.out | apply below_alloc | apply pw_below_drewN | apply below_drew1 | refine below_set ?_ GE47001.out | refine below_set ?_ GE47002.out) | exact HB.out))) | (with_reducible refine Kd.C_alloc ?_ _) | (with_reducible refine Kd.C_drewN ?_ _) | (with_reducible refine Kd.C_drew ?_))); (case side4 => exact HC1_1.out); rintro e w' ⟨rfl, ⟨nd, rfl⟩⟩; refine ⟨_, rfl, ?_⟩))
      go_ret
      exact ⟨by first | rfl | (simp [errW_none, errW_some] <;> rfl) | (simp [*, errW_none, errW_some] <;> rfl), by repeat (first | (with_reducible first | exact HB.out | apply below_alloc | apply pw_below_drewN | apply below_drew1 | refine below_set ?_ GE47001.out | refine below_set ?_ GE47002.out) | exact HB.out)⟩
  · replace c4 := Bool.eq_false_iff.mpr c4
    subst c4
    have H1 : (some false) = some r := by rw [if_neg (show ¬ (false = true) by decide)] at H; exact H
    clear H
    have H := H1
    clear H1
    obtain rfl := Option.some.inj H
    go_enter Try.func46, Try.ntmps46
    go_wp2_with (first | ((with_reducible refine gate_dst (N := 2) rfl ?_); refine box_event ?hg (N := 2) ?hd (cs := #[.slice A0_0 l0_0.length c0_0, .slice A0_1 l0_1.length c0_1]) (t := 50) ?hr ?_; (case hd => rfl); (case hg => rfl); (case hr => first | (go_simp; done) | (go_simp; rfl)); intro gb47001 hg w17 hbox hb; have n0_ := Aside0.mk (below_step (by repeat (first | (with_reducible first | exact HB.out | apply below_alloc | apply pw_below_drewN | apply below_drew1) | exact HB.out)) hb); have n1_ := Aside0.mk (hbox); have n2_ := Aside0.mk ((by rw [hg]; exact (below_size (by repeat (first | (with_reducible first | exact HB.out | apply below_alloc | apply pw_below_drewN | apply below_drew1) | exact HB.out))) : w.heap.size ≤ gb47001)); have n3_ := Aside0.mk ((by rw [hg]; exact (below_size (by repeat (first | (with_reducible first | exact HB.out | apply below_alloc | apply pw_below_drewN | apply below_drew1) | exact HB.out))) : w.heap.size ≤ gb47001)); clear HB; have HB := n0_; have BK47001 := n1_; have GW47001 := n2_; have GE47001 := n3_; clear n0_ n1_ n2_ n3_; clear hb hbox hg) | ((with_reducible refine gate_dst (N := 3) rfl ?_); refine box_event ?hg (N := 3) ?hd (cs := #[.slice A1_0 l1_0.length c1_0, .slice A1_1 l1_1.length c1_1]) (t := 50) ?hr ?_; (case hd => rfl); (case hg => rfl); (case hr => first | (go_simp; done) | (go_simp; rfl)); intro gb47002 hg w18 hbox hb; have n0_ := Aside0.mk (blk_below (g := gb47001) (o := .cells #[.slice A0_0 l0_0.length c0_0, .slice A0_1 l0_1.length c0_1] 50 (0, 0)) (by (with_reducible repeat (first | refine blk_drewN ?_ _ | refine blk_drew ?_ | refine blk_alloc ?_ _)); exact BK47001.out) hb); have n1_ := Aside0.mk (below_step (by repeat (first | (with_reducible first | exact HB.out | apply below_alloc | apply pw_below_drewN | apply below_drew1 | refine below_set ?_ GE47001.out) | exact HB.out)) hb); have n2_ := Aside0.mk (hbox); have n3_ := Aside0.mk ((by rw [hg]; exact (below_size (by repeat (first | (with_reducible first | exact HB.out | apply below_alloc | apply pw_below_drewN | apply below_drew1 | refine below_set ?_ GE47001.out) | exact HB.out))) : w.heap.size ≤ gb47002)); have n4_ := Aside0.mk ((by rw [hg]; exact (below_size (by repeat (first | (with_reducible first | exact HB.out | apply below_alloc | apply pw_below_drewN | apply below_drew1 | refine below_set ?_ GE47001.out) | exact HB.out))) : w.heap.size ≤ gb47002)); have n5_ := Aside0.mk ((by rw [hg]; exact Nat.ne_of_lt (blk_lt (g := gb47001) (o := .cells #[.slice A0_0 l0_0.length c0_0, .slice A0_1 l0_1.length c0_1] 50 (0, 0)) (by (with_reducible repeat (first | refine blk_drewN ?_ _ | refine blk_drew ?_ | refine blk_alloc ?_ _)); exact BK47001.out)) : gb47001 ≠ gb47002)); have n6_ := Aside0.mk ((by rw [hg]; exact Nat.ne_of_gt (blk_lt (g := gb47001) (o := .cells #[.slice A0_0 l0_0.length c0_0, .slice A0_1 l0_1.length c0_1] 50 (0, 0)) (by (with_reducible repeat (first | refine blk_drewN ?_ _ | refine blk_drew ?_ | refine blk_alloc ?_ _)); exact BK47001.out)) : gb47002 ≠ gb47001)); clear BK47001; clear HB; have BK47001 := n0_; have HB := n1_; have BK47002 := n2_; have GW47002 := n3_; have GE47002 := n4_; have NB47001_47002 := n5_; have NB47002_47001 := n6_; clear n0_ n1_ n2_ n3_ n4_ n5_ n6_; clear hb hbox hg; have hnb19 := NB47001_47002.out; have hnc19 := NB47002_47001.out; have hcz20_0 : w18.cell? ⟨gb47001, 0, none⟩ = some (.slice A0_0 l0_0.length c0_0) := (blk_cell BK47001.out 0).trans rfl; have hcz20_1 : w18.cell? ⟨gb47001, 1, none⟩ = some (.slice A0_1 l0_1.length c0_1) := (blk_cell BK47001.out 1).trans rfl; have hfz20_0 := blk_frozen BK47001.out 0; have hfz20_1 := blk_frozen BK47001.out 1; have hcz21_0 : w18.cell? ⟨gb47002, 0, none⟩ = some (.slice A1_0 l1_0.length c1_0) := (blk_cell BK47002.out 0).trans rfl; have hcz21_1 : w18.cell? ⟨gb47002, 1, none⟩ = some (.slice A1_1 l1_1.length c1_1) := (blk_cell BK47002.out 1).trans rfl; have hfz21_0 := blk_frozen BK47002.out 0; have hfz21_1 := blk_frozen BK47002.out 1) | ((with_reducible refine gate_callee (f := 47) rfl ?_); refine goesL_ (some 9) rfl rfl Try.func47 (by kernel_rfl) rfl #[.slice A0_0 l0_0.length c0_0, .slice A1_0 l1_0.length c1_0] rfl (by (try simp only [List.map_toArray, List.map_cons, List.map_nil]); first | done | rfl | (simp only [List.length_drop, List.length_take]; rfl)) ?_; (with_reducible refine (laws_eqIntS.calls k _ _ l0_0 _ _ l1_0 false _ ?side1 ?side2 ?side3 ?side4 A3.out).mono ?_); (case side1 => repeat (first | exact (Kd.C_below HR0_0.out HB.out) | (with_reducible refine Kd.C_alloc ?_ _) | (with_reducible refine Kd.C_drewN ?_ _) | (with_reducible refine Kd.C_drew ?_))); (case side2 => exact HC0_0.out); (case side3 => repeat (first | exact (Kd.C_below HR1_0.out HB.out) | (with_reducible refine Kd.C_alloc ?_ _) | (with_reducible refine Kd.C_drewN ?_ _) | (with_reducible refine Kd.C_drew ?_))); (case side4 => exact HC1_0.out); rintro e w' ⟨rfl, ⟨nd, rfl⟩⟩; refine ⟨_, rfl, ?_⟩))
    go_ret
    exact ⟨by first | rfl | (simp [errW_none, errW_some] <;> rfl) | (simp [*, errW_none, errW_some] <;> rfl), by repeat (first | (with_reducible first | exact HB.out | apply below_alloc | apply pw_below_drewN | apply below_drew1 | refine below_set ?_ GE47001.out | refine below_set ?_ GE47002.out) | exact HB.out)⟩

end Go.Proofs.Ytgiehdhnhkmjfaa.X
-- Laid by xprint.py (wip/tools): printed contracts, and hand-written ones between them.
namespace Go.Proofs.Ytgiehdhnhkmjfaa.X
open Go.RowKit Go.Proofs.YtgiehdhnhkmjfaaW.PrintWords Go.Proofs.YtgiehdhnhkmjfaaW.PrintLast Go.Proofs.YtgiehdhnhkmjfaaW.PrintMore
attribute [local go_sem] max2_int min2_int max_two min_two max_three min_three max_four min_four   -- for this text's walks alone
set_option linter.unusedVariables false
set_option linter.unusedSimpArgs false

/-! ### laws_eqWeighingS: function 12 -/
def laws_eqWeighingS.l0 : Nat → List (S50) → List (S50) → Int → Option (Bool)
  | 0, _, _, _ => none
  | k + 1, x0, x1, x5 => if x5 < (x0.length : Int) then (if 0 ≤ x5 then (if x5 < (x1.length : Int) then ((laws_eqWeighing.f k ((rd_T50 x0 x5).f0) ((rd_T50 x0 x5).f1) ((rd_T50 x1 x5).f0) ((rd_T50 x1 x5).f1)).bind fun t13003 => (if t13003 = true then (laws_eqWeighingS.l0 k x0 x1 (wrap64 (x5 + 1))) else (some false))) else (none)) else (none)) else (some true)
def laws_eqWeighingS.f (k : Nat) (l0 : List (S50)) (l1 : List (S50)) : Option (Bool) := if (l0.length : Int) = (l1.length : Int) then (laws_eqWeighingS.l0 k l0 l1 0) else (some false)
theorem laws_eqWeighingS.mono_l : ∀ k, (∀ y0 y1 y2, LeO (laws_eqWeighingS.l0 k y0 y1 y2) (laws_eqWeighingS.l0 (k + 1) y0 y1 y2))
  | 0 => fun _ _ _ r h => by simp [laws_eqWeighingS.l0] at h
  | k + 1 => by
    have ih0 := laws_eqWeighingS.mono_l k
    · intro y0 y1 y2
      unfold laws_eqWeighingS.l0
      repeat' first
      | (with_reducible exact ih0 _ _ _)
      | (with_reducible exact laws_eqWeighing.mono _ _ _ _ _)
      | (with_reducible exact LeO.refl _)
      | (with_reducible exact LeO.none _)
      | (with_reducible refine LeO.ite ?_ ?_)
      | (with_reducible refine LeO.bind ?_ (fun _ => ?_))
      | exact ih0 _ _ _
      | exact laws_eqWeighing.mono _ _ _ _ _
      | exact LeO.none _
      | refine LeO.ite ?_ ?_
      | refine LeO.bind ?_ (fun _ => ?_)
theorem laws_eqWeighingS.mono : ∀ a0 a1 k, LeO (laws_eqWeighingS.f k a0 a1) (laws_eqWeighingS.f (k + 1) a0 a1) := by
  intro a0 a1 k
  have ih0 := laws_eqWeighingS.mono_l k
  unfold laws_eqWeighingS.f
  repeat' first
      | (with_reducible exact ih0 _ _ _)
      | (with_reducible exact laws_eqWeighing.mono _ _ _ _ _)
      | (with_reducible exact LeO.refl _)
      | (with_reducible exact LeO.none _)
      | (with_reducible refine LeO.ite ?_ ?_)
      | (with_reducible refine LeO.bind ?_ (fun _ => ?_))
      | exact ih0 _ _ _
      | exact laws_eqWeighing.mono _ _ _ _ _
      | exact LeO.none _
      | refine LeO.ite ?_ ?_
      | refine LeO.bind ?_ (fun _ => ?_)
def laws_eqWeighingS.T6 : Bool × List (List Nat × List Nat) := (true, [([], []), ([], []), ([0, 1], [0, 1]), ([2], [2]), ([], []), ([], []), ([4, 5], [4, 5]), ([6], [6]), ([3, 7], [3, 7]), ([8], [8])])
def laws_eqWeighingS.B6 : List Nat := [0, 0, 3, 7, 0, 0, 48, 112, 255, 511]
theorem laws_eqWeighingS.tab6 : rtab .any (opsOf Try.f12 6) = laws_eqWeighingS.T6 := by kernel_rfl
theorem laws_eqWeighingS.bits6 : waitsOk laws_eqWeighingS.T6.2 laws_eqWeighingS.B6 = true := by kernel_rfl
set_option maxHeartbeats 8000000 in
set_option maxRecDepth 100000 in
theorem laws_eqWeighingS.calls (k : Nat) (A0 : Option Addr) (c0 : Nat) (l0 : List (S50)) (A1 : Option Addr) (c1 : Nat) (l1 : List (S50)) (r : Bool) (w : World) (hr0 : Kd.C k50 w A0 l0.length l0) (hc0 : l0.length ≤ c0) (hr1 : Kd.C k50 w A1 l1.length l1) (hc1 : l1.length ≤ c1) (h : laws_eqWeighingS.f k l0 l1 = some r) :
    Calls Try.prog 12 #[.slice A0 l0.length c0, .slice A1 l1.length c1] w fun e w' => e = .returned (.bool r) ∧ Below w.heap.size w w' := by
  have hu50 := Try.underlying50
  have HR0 := Aside0.mk hr0
  have HC0 := Aside0.mk hc0
  clear hr0 hc0
  have HR1 := Aside0.mk hr1
  have HC1 := Aside0.mk hc1
  clear hr1 hc1
  have HB := Aside0.mk (Below.refl w.heap.size w)
  have H : (if (l0.length : Int) = (l1.length : Int) then (laws_eqWeighingS.l0 k l0 l1 0) else (some false)) = some r := h
  clear h
  by_cases c3 : (l0.length : Int) = (l1.length : Int)
  · rw [if_pos c3] at H
    have c3b0 : ((l0.length : Int) == (l1.length : Int)) = true := beq_iff_eq.mpr c3
    have c3b1 : ((l0.length : Int) != (l1.length : Int)) = false := bne_eq_false_iff_eq.mpr c3
    have c3b2 : (l0.length == l1.length) = true := by first | simpa using c3 | (simp at c3 ⊢; omega)
    clear c3
    have H' := Aside0.mk H
    clear H
    go_enter Try.func12, Try.ntmps12
    go_wp2
    go_loopg [5] k (fun kq v5 w' => ∃ (x5_1 : Int), v5 = .int .i64 x5_1 ∧ Aside0 (laws_eqWeighingS.l0 kq l0 l1 x5_1 = some r) ∧ Aside0 (kq ≤ k) ∧ Aside0 (Below w.heap.size w w'))
    case atStart => exact ⟨(0), (by first | rfl | (simp; done) | (simp [*]; done)), H', ⟨Nat.le_refl _⟩, ⟨by repeat (first | (with_reducible first | exact HB.out | apply below_alloc | apply pw_below_drewN | apply below_drew1) | exact HB.out)⟩⟩
    case round =>
      clear H'
      try clear c1
      try clear p2
      try clear c3
      try clear c3b0
      try clear c3b1
      try clear c3b2
      obtain ⟨x5_1, rfl, HA, HK1, HB⟩ := hrel
      cases gk with
      | zero => exact absurd HA.out (by simp [laws_eqWeighingS.l0])
      | succ k1 =>
        have H := HA.out
        clear HA
        simp only [laws_eqWeighingS.l0] at H
        by_cases c4 : x5_1 < (l0.length : Int)
        · rw [if_pos c4] at H
          have c4b0 : decide (x5_1 < (l0.length : Int)) = true := decide_eq_true c4
          clear c4
          by_cases c5 : 0 ≤ x5_1
          · rw [if_pos c5] at H
            have c5b0 : decide (0 ≤ x5_1) = true := decide_eq_true c5
            clear c5
            by_cases c6 : x5_1 < (l1.length : Int)
            · rw [if_pos c6] at H
              have c6b0 : decide (x5_1 < (l1.length : Int)) = true := decide_eq_true c6
              clear c6
              replace H := Option.bind_eq_some_iff.mp H
              obtain ⟨t13003, A70, H⟩ := H
              replace H : (if t13003 = true then (laws_eqWeighingS.l0 k1 l0 l1 (wrap64 (x5_1 + 1))) else (some false)) = some r := H
              have A7 := Aside0.mk A70
              clear A70
              by_cases c8 : t13003 = true
              · subst c8
                have H1 : (laws_eqWeighingS.l0 k1 l0 l1 (wrap64 (x5_1 + 1))) = some r := by rw [if_pos rfl] at H; exact H
                clear H
                have H := H1
                clear H1
                have H' := Aside0.mk H
                clear H
                try go_wp2
                have n0_ := Aside0.mk (below_drew1 HB.out)
                clear HB
                have HB := n0_
                clear n0_
                have p13001 : 0 ≤ (x5_1 : Int) := of_decide_eq_true (by first | (with_reducible assumption) | assumption)
                have q13001 : x5_1 < (l0.length : Int) := of_decide_eq_true (by first | (with_reducible assumption) | assumption)
                obtain ⟨ad13001, A13001_0, c13001_0, A13001_1, c13001_1, e13001, hx13001_0, hx13001_1, hl13001_0, hi13001_0, hl13001_1, hi13001_1⟩ := at_T50 HR0.out x5_1 p13001 q13001
                have hw13001_1 := hx13001_1
                have hw13001_0 := hx13001_0
                cases e13001
                replace hx13001_0 := (HB.out.cell (World.block_lt_of_cell? w _ hx13001_0)).trans hx13001_0
                replace hx13001_1 := (HB.out.cell (World.block_lt_of_cell? w _ hx13001_1)).trans hx13001_1
                have HR13001_0 := Aside0.mk hi13001_0
                have HC13001_0 := Aside0.mk hl13001_0
                clear hi13001_0 hl13001_0
                have HR13001_1 := Aside0.mk hi13001_1
                have HC13001_1 := Aside0.mk hl13001_1
                clear hi13001_1 hl13001_1
                replace p13001 := eq_true p13001
                replace q13001 := eq_true q13001
                have p13002 : 0 ≤ (x5_1 : Int) := of_decide_eq_true (by first | (with_reducible assumption) | assumption)
                have q13002 : x5_1 < (l1.length : Int) := of_decide_eq_true (by first | (with_reducible assumption) | assumption)
                obtain ⟨ad13002, A13002_0, c13002_0, A13002_1, c13002_1, e13002, hx13002_0, hx13002_1, hl13002_0, hi13002_0, hl13002_1, hi13002_1⟩ := at_T50 HR1.out x5_1 p13002 q13002
                have hw13002_1 := hx13002_1
                have hw13002_0 := hx13002_0
                cases e13002
                replace hx13002_0 := (HB.out.cell (World.block_lt_of_cell? w _ hx13002_0)).trans hx13002_0
                replace hx13002_1 := (HB.out.cell (World.block_lt_of_cell? w _ hx13002_1)).trans hx13002_1
                have HR13002_0 := Aside0.mk hi13002_0
                have HC13002_0 := Aside0.mk hl13002_0
                clear hi13002_0 hl13002_0
                have HR13002_1 := Aside0.mk hi13002_1
                have HC13002_1 := Aside0.mk hl13002_1
                clear hi13002_1 hl13002_1
                replace p13002 := eq_true p13002
                replace q13002 := eq_true q13002
                refine start_ (n := 10) (S := fun w' => w'.cell? (ad13001.add ((x5_1).toNat * 2)) = some (.slice A13001_0 ((rd_T50 l0 x5_1).f0).length c13001_0) ∧ w'.cell? ⟨(ad13001.add ((x5_1).toNat * 2)).block, (ad13001.add ((x5_1).toNat * 2)).off + 1, none⟩ = some (.slice A13001_1 ((rd_T50 l0 x5_1).f1).length c13001_1) ∧ w'.cell? (ad13002.add ((x5_1).toNat * 2)) = some (.slice A13002_0 ((rd_T50 l1 x5_1).f0).length c13002_0) ∧ w'.cell? ⟨(ad13002.add ((x5_1).toNat * 2)).block, (ad13002.add ((x5_1).toNat * 2)).off + 1, none⟩ = some (.slice A13002_1 ((rd_T50 l1 x5_1).f1).length c13002_1)) (ds := []) #[false, false, false, false, false, false, false, false, false, false] (by kernel_rfl) rfl rfl ⟨((HB.out.cell (World.block_lt_of_cell? w _ hw13001_0)).trans hw13001_0), ((HB.out.cell (World.block_lt_of_cell? w _ hw13001_1)).trans hw13001_1), ((HB.out.cell (World.block_lt_of_cell? w _ hw13002_0)).trans hw13002_0), ((HB.out.cell (World.block_lt_of_cell? w _ hw13002_1)).trans hw13002_1)⟩ (fun hHeld => ?_); refine with_tabW laws_eqWeighingS.tab6 laws_eqWeighingS.bits6 (fun HT_ HW_ => ?_)
                generalize wr.drew = w9 at HB HR13001_0 HR13001_1 HR13002_0 HR13002_1 hx13001_0 hx13001_1 hx13002_0 hx13002_1 hHeld ⊢
                refine pure_ (i := 0) (N := some 17) (v := ?_) (a' := ?_) #[true, false, false, false, false, false, false, false, false, false] rfl rfl (any_of HT_.out (by kernel_rfl)) (fun _ _ _ h => h) (Or.inl ⟨by rfl, ?_⟩) ?_ ?_
                rotate_left
                · intro w'
                  go_simp
                  with_reducible rfl
                rotate_left
                · simp only [Act.put, List.setIfInBounds_toArray, List.set_cons_zero, List.set_cons_succ, i64_w, i32_w]
                  rfl
                refine pure_ (i := 1) (N := some 18) (v := ?_) (a' := ?_) #[true, true, false, false, false, false, false, false, false, false] rfl rfl (any_of HT_.out (by kernel_rfl)) (fun _ _ _ h => h) (Or.inl ⟨by rfl, ?_⟩) ?_ ?_
                rotate_left
                · intro w'
                  go_simp
                  with_reducible rfl
                rotate_left
                · simp only [Act.put, List.setIfInBounds_toArray, List.set_cons_zero, List.set_cons_succ, i64_w, i32_w]
                  rfl
                refine pure_ (i := 2) (N := some 19) (v := ?_) (a' := ?_) #[true, true, true, false, false, false, false, false, false, false] rfl rfl (any_of HT_.out (by kernel_rfl)) (fun _ _ _ h => h) (Or.inl ⟨by rfl, ?_⟩) ?_ ?_
                rotate_left
                · intro w'
                  go_simp
                  with_reducible rfl
                rotate_left
                · simp only [Act.put, List.setIfInBounds_toArray, List.set_cons_zero, List.set_cons_succ, i64_w, i32_w]
                  rfl
                refine pure_ (i := 4) (N := some 21) (v := ?_) (a' := ?_) #[true, true, true, false, true, false, false, false, false, false] rfl rfl (any_of HT_.out (by kernel_rfl)) (fun _ _ _ h => h) (Or.inl ⟨by rfl, ?_⟩) ?_ ?_
                rotate_left
                · intro w'
                  go_simp
                  with_reducible rfl
                rotate_left
                · simp only [Act.put, List.setIfInBounds_toArray, List.set_cons_zero, List.set_cons_succ, i64_w, i32_w]
                  rfl
                refine pure_ (i := 5) (N := some 22) (v := ?_) (a' := ?_) #[true, true, true, false, true, true, false, false, false, false] rfl rfl (any_of HT_.out (by kernel_rfl)) (fun _ _ _ h => h) (Or.inl ⟨by rfl, ?_⟩) ?_ ?_
                rotate_left
                · intro w'
                  go_simp
                  with_reducible rfl
                rotate_left
                · simp only [Act.put, List.setIfInBounds_toArray, List.set_cons_zero, List.set_cons_succ, i64_w, i32_w]
                  rfl
                refine pure_ (i := 6) (N := some 23) (v := ?_) (a' := ?_) #[true, true, true, false, true, true, true, false, false, false] rfl rfl (any_of HT_.out (by kernel_rfl)) (fun _ _ _ h => h) (Or.inl ⟨by rfl, ?_⟩) ?_ ?_
                rotate_left
                · intro w'
                  go_simp
                  with_reducible rfl
                rotate_left
                · simp only [Act.put, List.setIfInBounds_toArray, List.set_cons_zero, List.set_cons_succ, i64_w, i32_w]
                  rfl
                refine take_ (i := 3) (N := some 20) (v := ?_) (a' := ?_) #[true, true, true, true, true, true, true, false, false, false] rfl rfl (take_ofW HT_.out HW_.out (by kernel_rfl)) (fun _ _ _ h => h) (Or.inl ⟨by rfl, ?_⟩) hHeld ?_ ?_
                rotate_left
                · rintro w' ⟨s0, s1, s2, s3⟩
                  go_simp
                  with_reducible rfl
                rotate_left
                · simp only [Act.put, List.setIfInBounds_toArray, List.set_cons_zero, List.set_cons_succ, i64_w, i32_w]
                  rfl
                refine take_ (i := 7) (N := some 24) (v := ?_) (a' := ?_) #[true, true, true, true, true, true, true, true, false, false] rfl rfl (take_ofW HT_.out HW_.out (by kernel_rfl)) (fun _ _ _ h => h) (Or.inl ⟨by rfl, ?_⟩) hHeld ?_ ?_
                rotate_left
                · rintro w' ⟨s0, s1, s2, s3⟩
                  go_simp
                  with_reducible rfl
                rotate_left
                · simp only [Act.put, List.setIfInBounds_toArray, List.set_cons_zero, List.set_cons_succ, i64_w, i32_w]
                  rfl
                refine one_ (i := 8) (N := some 25) #[true, true, true, true, true, true, true, true, true, false] rfl rfl (one_of HT_.out (by kernel_rfl)) (by decide) (fun K hK => ?_)
                refine goes_ Try.func46 (by kernel_rfl) rfl #[.agg #[.slice A13001_0 ((rd_T50 l0 x5_1).f0).length c13001_0, .slice A13001_1 ((rd_T50 l0 x5_1).f1).length c13001_1], .agg #[.slice A13002_0 ((rd_T50 l1 x5_1).f0).length c13002_0, .slice A13002_1 ((rd_T50 l1 x5_1).f1).length c13002_1]] (by rfl) rfl rfl (by (try simp only [List.map_toArray, List.map_cons, List.map_nil]); first | done | rfl | (simp only [List.length_drop, List.length_take]; rfl)) ?_
                with_reducible refine (laws_eqWeighing.calls k1 _ _ ((rd_T50 l0 x5_1).f0) _ _ ((rd_T50 l0 x5_1).f1) _ _ ((rd_T50 l1 x5_1).f0) _ _ ((rd_T50 l1 x5_1).f1) true _ ?side1 ?side2 ?side3 ?side4 ?side5 ?side6 ?side7 ?side8 A7.out).mono ?_
                (case side1 => repeat (first | exact (Kd.C_below HR13001_0.out HB.out) | (with_reducible refine Kd.C_alloc ?_ _) | (with_reducible refine Kd.C_drewN ?_ _) | (with_reducible refine Kd.C_drew ?_)))
                (case side2 => exact HC13001_0.out)
                (case side3 => repeat (first | exact (Kd.C_below HR13001_1.out HB.out) | (with_reducible refine Kd.C_alloc ?_ _) | (with_reducible refine Kd.C_drewN ?_ _) | (with_reducible refine Kd.C_drew ?_)))
                (case side4 => exact HC13001_1.out)
                (case side5 => repeat (first | exact (Kd.C_below HR13002_0.out HB.out) | (with_reducible refine Kd.C_alloc ?_ _) | (with_reducible refine Kd.C_drewN ?_ _) | (with_reducible refine Kd.C_drew ?_)))
                (case side6 => exact HC13002_0.out)
                (case side7 => repeat (first | exact (Kd.C_below HR13002_1.out HB.out) | (with_reducible refine Kd.C_alloc ?_ _) | (with_reducible refine Kd.C_drewN ?_ _) | (with_reducible refine Kd.C_drew ?_)))
                (case side8 => exact HC13002_1.out)
                rintro e w10 ⟨rfl, hb⟩
                refine ⟨_, rfl, ?_⟩
                have n0_ := Aside0.mk (below_step (by repeat (first | (with_reducible first | exact HB.out | apply below_alloc | apply pw_below_drewN | apply below_drew1) | exact HB.out)) hb)
                clear HB
                have HB := n0_
                clear n0_
                (try clear hb)
                (try clear hb2)
                (try clear hk)
                (try clear hi)
                refine hK.out _ _ ⟨((HB.out.cell (World.block_lt_of_cell? w _ hw13001_0)).trans hw13001_0), ((HB.out.cell (World.block_lt_of_cell? w _ hw13001_1)).trans hw13001_1), ((HB.out.cell (World.block_lt_of_cell? w _ hw13002_0)).trans hw13002_0), ((HB.out.cell (World.block_lt_of_cell? w _ hw13002_1)).trans hw13002_1)⟩ (fun hHeld => ?_)
                clear hK K
                refine norm_ (a' := ?_) ?_ ?_
                rotate_left
                · show Act.put _ (some 25) _ = _
                  simp only [Act.put, List.setIfInBounds_toArray, List.set_cons_zero, List.set_cons_succ, i64_w, i32_w]
                  rfl
                refine pure_ (i := 9) (N := some 26) (v := ?_) (a' := ?_) #[true, true, true, true, true, true, true, true, true, true] rfl rfl (any_of HT_.out (by kernel_rfl)) (fun _ _ _ h => h) (Or.inl ⟨by rfl, ?_⟩) ?_ ?_
                rotate_left
                · intro w'
                  go_simp
                  with_reducible rfl
                rotate_left
                · simp only [Act.put, List.setIfInBounds_toArray, List.set_cons_zero, List.set_cons_succ, i64_w, i32_w]
                  rfl
                refine done_ (done_of HT_.out (by kernel_rfl)) ?_
                try go_wp2
                go_roundg k1
                case measure => have := HK1.out; omega
                case rel => exact ⟨(wrap64 (x5_1 + 1)), (by first | rfl | (simp; done) | (simp [*]; done)), H', ⟨by have := HK1.out; omega⟩, ⟨by repeat (first | (with_reducible first | exact HB.out | apply below_alloc | apply pw_below_drewN | apply below_drew1) | exact HB.out)⟩⟩
              · replace c8 := Bool.eq_false_iff.mpr c8
                subst c8
                have H1 : (some false) = some r := by rw [if_neg (show ¬ (false = true) by decide)] at H; exact H
                clear H
                have H := H1
                clear H1
                obtain rfl := Option.some.inj H
                try go_wp2
                have n0_ := Aside0.mk (below_drew1 HB.out)
                clear HB
                have HB := n0_
                clear n0_
                have p13001 : 0 ≤ (x5_1 : Int) := of_decide_eq_true (by first | (with_reducible assumption) | assumption)
                have q13001 : x5_1 < (l0.length : Int) := of_decide_eq_true (by first | (with_reducible assumption) | assumption)
                obtain ⟨ad13001, A13001_0, c13001_0, A13001_1, c13001_1, e13001, hx13001_0, hx13001_1, hl13001_0, hi13001_0, hl13001_1, hi13001_1⟩ := at_T50 HR0.out x5_1 p13001 q13001
                have hw13001_1 := hx13001_1
                have hw13001_0 := hx13001_0
                cases e13001
                replace hx13001_0 := (HB.out.cell (World.block_lt_of_cell? w _ hx13001_0)).trans hx13001_0
                replace hx13001_1 := (HB.out.cell (World.block_lt_of_cell? w _ hx13001_1)).trans hx13001_1
                have HR13001_0 := Aside0.mk hi13001_0
                have HC13001_0 := Aside0.mk hl13001_0
                clear hi13001_0 hl13001_0
                have HR13001_1 := Aside0.mk hi13001_1
                have HC13001_1 := Aside0.mk hl13001_1
                clear hi13001_1 hl13001_1
                replace p13001 := eq_true p13001
                replace q13001 := eq_true q13001
                have p13002 : 0 ≤ (x5_1 : Int) := of_decide_eq_true (by first | (with_reducible assumption) | assumption)
                have q13002 : x5_1 < (l1.length : Int) := of_decide_eq_true (by first | (with_reducible assumption) | assumption)
                obtain ⟨ad13002, A13002_0, c13002_0, A13002_1, c13002_1, e13002, hx13002_0, hx13002_1, hl13002_0, hi13002_0, hl13002_1, hi13002_1⟩ := at_T50 HR1.out x5_1 p13002 q13002
                have hw13002_1 := hx13002_1
                have hw13002_0 := hx13002_0
                cases e13002
                replace hx13002_0 := (HB.out.cell (World.block_lt_of_cell? w _ hx13002_0)).trans hx13002_0
                replace hx13002_1 := (HB.out.cell (World.block_lt_of_cell? w _ hx13002_1)).trans hx13002_1
                have HR13002_0 := Aside0.mk hi13002_0
                have HC13002_0 := Aside0.mk hl13002_0
                clear hi13002_0 hl13002_0
                have HR13002_1 := Aside0.mk hi13002_1
                have HC13002_1 := Aside0.mk hl13002_1
                clear hi13002_1 hl13002_1
                replace p13002 := eq_true p13002
                replace q13002 := eq_true q13002
                refine start_ (n := 10) (S := fun w' => w'.cell? (ad13001.add ((x5_1).toNat * 2)) = some (.slice A13001_0 ((rd_T50 l0 x5_1).f0).length c13001_0) ∧ w'.cell? ⟨(ad13001.add ((x5_1).toNat * 2)).block, (ad13001.add ((x5_1).toNat * 2)).off + 1, none⟩ = some (.slice A13001_1 ((rd_T50 l0 x5_1).f1).length c13001_1) ∧ w'.cell? (ad13002.add ((x5_1).toNat * 2)) = some (.slice A13002_0 ((rd_T50 l1 x5_1).f0).length c13002_0) ∧ w'.cell? ⟨(ad13002.add ((x5_1).toNat * 2)).block, (ad13002.add ((x5_1).toNat * 2)).off + 1, none⟩ = some (.slice A13002_1 ((rd_T50 l1 x5_1).f1).length c13002_1)) (ds := []) #[false, false, false, false, false, false, false, false, false, false] (by kernel_rfl) rfl rfl ⟨((HB.out.cell (World.block_lt_of_cell? w _ hw13001_0)).trans hw13001_0), ((HB.out.cell (World.block_lt_of_cell? w _ hw13001_1)).trans hw13001_1), ((HB.out.cell (World.block_lt_of_cell? w _ hw13002_0)).trans hw13002_0), ((HB.out.cell (World.block_lt_of_cell? w _ hw13002_1)).trans hw13002_1)⟩ (fun hHeld => ?_); refine with_tabW laws_eqWeighingS.tab6 laws_eqWeighingS.bits6 (fun HT_ HW_ => ?_)
                generalize wr.drew = w11 at HB HR13001_0 HR13001_1 HR13002_0 HR13002_1 hx13001_0 hx13001_1 hx13002_0 hx13002_1 hHeld ⊢
                refine pure_ (i := 0) (N := some 17) (v := ?_) (a' := ?_) #[true, false, false, false, false, false, false, false, false, false] rfl rfl (any_of HT_.out (by kernel_rfl)) (fun _ _ _ h => h) (Or.inl ⟨by rfl, ?_⟩) ?_ ?_
                rotate_left
                · intro w'
                  go_simp
                  with_reducible rfl
                rotate_left
                · simp only [Act.put, List.setIfInBounds_toArray, List.set_cons_zero, List.set_cons_succ, i64_w, i32_w]
                  rfl
                refine pure_ (i := 1) (N := some 18) (v := ?_) (a' := ?_) #[true, true, false, false, false, false, false, false, false, false] rfl rfl (any_of HT_.out (by kernel_rfl)) (fun _ _ _ h => h) (Or.inl ⟨by rfl, ?_⟩) ?_ ?_
                rotate_left
                · intro w'
                  go_simp
                  with_reducible rfl
                rotate_left
                · simp only [Act.put, List.setIfInBounds_toArray, List.set_cons_zero, List.set_cons_succ, i64_w, i32_w]
                  rfl
                refine pure_ (i := 2) (N := some 19) (v := ?_) (a' := ?_) #[true, true, true, false, false, false, false, false, false, false] rfl rfl (any_of HT_.out (by kernel_rfl)) (fun _ _ _ h => h) (Or.inl ⟨by rfl, ?_⟩) ?_ ?_
                rotate_left
                · intro w'
                  go_simp
                  with_reducible rfl
                rotate_left
                · simp only [Act.put, List.setIfInBounds_toArray, List.set_cons_zero, List.set_cons_succ, i64_w, i32_w]
                  rfl
                refine pure_ (i := 4) (N := some 21) (v := ?_) (a' := ?_) #[true, true, true, false, true, false, false, false, false, false] rfl rfl (any_of HT_.out (by kernel_rfl)) (fun _ _ _ h => h) (Or.inl ⟨by rfl, ?_⟩) ?_ ?_
                rotate_left
                · intro w'
                  go_simp
                  with_reducible rfl
                rotate_left
                · simp only [Act.put, List.setIfInBounds_toArray, List.set_cons_zero, List.set_cons_succ, i64_w, i32_w]
                  rfl
                refine pure_ (i := 5) (N := some 22) (v := ?_) (a' := ?_) #[true, true, true, false, true, true, false, false, false, false] rfl rfl (any_of HT_.out (by kernel_rfl)) (fun _ _ _ h => h) (Or.inl ⟨by rfl, ?_⟩) ?_ ?_
                rotate_left
                · intro w'
                  go_simp
                  with_reducible rfl
                rotate_left
                · simp only [Act.put, List.setIfInBounds_toArray, List.set_cons_zero, List.set_cons_succ, i64_w, i32_w]
                  rfl
                refine pure_ (i := 6) (N := some 23) (v := ?_) (a' := ?_) #[true, true, true, false, true, true, true, false, false, false] rfl rfl (any_of HT_.out (by kernel_rfl)) (fun _ _ _ h => h) (Or.inl ⟨by rfl, ?_⟩) ?_ ?_
                rotate_left
                · intro w'
                  go_simp
                  with_reducible rfl
                rotate_left
                · simp only [Act.put, List.setIfInBounds_toArray, List.set_cons_zero, List.set_cons_succ, i64_w, i32_w]
                  rfl
                refine take_ (i := 3) (N := some 20) (v := ?_) (a' := ?_) #[true, true, true, true, true, true, true, false, false, false] rfl rfl (take_ofW HT_.out HW_.out (by kernel_rfl)) (fun _ _ _ h => h) (Or.inl ⟨by rfl, ?_⟩) hHeld ?_ ?_
                rotate_left
                · rintro w' ⟨s0, s1, s2, s3⟩
                  go_simp
                  with_reducible rfl
                rotate_left
                · simp only [Act.put, List.setIfInBounds_toArray, List.set_cons_zero, List.set_cons_succ, i64_w, i32_w]
                  rfl
                refine take_ (i := 7) (N := some 24) (v := ?_) (a' := ?_) #[true, true, true, true, true, true, true, true, false, false] rfl rfl (take_ofW HT_.out HW_.out (by kernel_rfl)) (fun _ _ _ h => h) (Or.inl ⟨by rfl, ?_⟩) hHeld ?_ ?_
                rotate_left
                · rintro w' ⟨s0, s1, s2, s3⟩
                  go_simp
                  with_reducible rfl
                rotate_left
                · simp only [Act.put, List.setIfInBounds_toArray, List.set_cons_zero, List.set_cons_succ, i64_w, i32_w]
                  rfl
                refine one_ (i := 8) (N := some 25) #[true, true, true, true, true, true, true, true, true, false] rfl rfl (one_of HT_.out (by kernel_rfl)) (by decide) (fun K hK => ?_)
                refine goes_ Try.func46 (by kernel_rfl) rfl #[.agg #[.slice A13001_0 ((rd_T50 l0 x5_1).f0).length c13001_0, .slice A13001_1 ((rd_T50 l0 x5_1).f1).length c13001_1], .agg #[.slice A13002_0 ((rd_T50 l1 x5_1).f0).length c13002_0, .slice A13002_1 ((rd_T50 l1 x5_1).f1).length c13002_1]] (by rfl) rfl rfl (by (try simp only [List.map_toArray, List.map_cons, List.map_nil]); first | done | rfl | (simp only [List.length_drop, List.length_take]; rfl)) ?_
                with_reducible refine (laws_eqWeighing.calls k1 _ _ ((rd_T50 l0 x5_1).f0) _ _ ((rd_T50 l0 x5_1).f1) _ _ ((rd_T50 l1 x5_1).f0) _ _ ((rd_T50 l1 x5_1).f1) false _ ?side1 ?side2 ?side3 ?side4 ?side5 ?side6 ?side7 ?side8 A7.out).mono ?_
                (case side1 => repeat (first | exact (Kd.C_below HR13001_0.out HB.out) | (with_reducible refine Kd.C_alloc ?_ _) | (with_reducible refine Kd.C_drewN ?_ _) | (with_reducible refine Kd.C_drew ?_)))
                (case side2 => exact HC13001_0.out)
                (case side3 => repeat (first | exact (Kd.C_below HR13001_1.out HB.out) | (with_reducible refine Kd.C_alloc ?_ _) | (with_reducible refine Kd.C_drewN ?_ _) | (with_reducible refine Kd.C_drew ?_)))
                (case side4 => exact HC13001_1.out)
                (case side5 => repeat (first | exact (Kd.C_below HR13002_0.out HB.out) | (with_reducible refine Kd.C_alloc ?_ _) | (with_reducible refine Kd.C_drewN ?_ _) | (with_reducible refine Kd.C_drew ?_)))
                (case side6 => exact HC13002_0.out)
                (case side7 => repeat (first | exact (Kd.C_below HR13002_1.out HB.out) | (with_reducible refine Kd.C_alloc ?_ _) | (with_reducible refine Kd.C_drewN ?_ _) | (with_reducible refine Kd.C_drew ?_)))
                (case side8 => exact HC13002_1.out)
                rintro e w12 ⟨rfl, hb⟩
                refine ⟨_, rfl, ?_⟩
                have n0_ := Aside0.mk (below_step (by repeat (first | (with_reducible first | exact HB.out | apply below_alloc | apply pw_below_drewN | apply below_drew1) | exact HB.out)) hb)
                clear HB
                have HB := n0_
                clear n0_
                (try clear hb)
                (try clear hb2)
                (try clear hk)
                (try clear hi)
                refine hK.out _ _ ⟨((HB.out.cell (World.block_lt_of_cell? w _ hw13001_0)).trans hw13001_0), ((HB.out.cell (World.block_lt_of_cell? w _ hw13001_1)).trans hw13001_1), ((HB.out.cell (World.block_lt_of_cell? w _ hw13002_0)).trans hw13002_0), ((HB.out.cell (World.block_lt_of_cell? w _ hw13002_1)).trans hw13002_1)⟩ (fun hHeld => ?_)
                clear hK K
                refine norm_ (a' := ?_) ?_ ?_
                rotate_left
                · show Act.put _ (some 25) _ = _
                  simp only [Act.put, List.setIfInBounds_toArray, List.set_cons_zero, List.set_cons_succ, i64_w, i32_w]
                  rfl
                refine pure_ (i := 9) (N := some 26) (v := ?_) (a' := ?_) #[true, true, true, true, true, true, true, true, true, true] rfl rfl (any_of HT_.out (by kernel_rfl)) (fun _ _ _ h => h) (Or.inl ⟨by rfl, ?_⟩) ?_ ?_
                rotate_left
                · intro w'
                  go_simp
                  with_reducible rfl
                rotate_left
                · simp only [Act.put, List.setIfInBounds_toArray, List.set_cons_zero, List.set_cons_succ, i64_w, i32_w]
                  rfl
                refine done_ (done_of HT_.out (by kernel_rfl)) ?_
                try go_wp2
                go_ret
                exact ⟨by first | rfl | (simp [errW_none, errW_some] <;> rfl) | (simp [*, errW_none, errW_some] <;> rfl), by repeat (first | (with_reducible first | exact HB.out | apply below_alloc | apply pw_below_drewN | apply below_drew1) | exact HB.out)⟩
            · rw [if_neg c6] at H
              exact absurd H (by simp)
          · rw [if_neg c5] at H
            exact absurd H (by simp)
        · rw [if_neg c4] at H
          have c4b0 : decide (x5_1 < (l0.length : Int)) = false := decide_eq_false c4
          clear c4
          obtain rfl := Option.some.inj H
          go_wp2
          go_ret
          exact ⟨by first | rfl | (simp [errW_none, errW_some] <;> rfl) | (simp [*, errW_none, errW_some] <;> rfl), by repeat (first | (with_reducible first | exact HB.out | apply below_alloc | apply pw_below_drewN | apply below_drew1) | exact HB.out)⟩
  · rw [if_neg c3] at H
    have c3b0 : ((l0.length : Int) == (l1.length : Int)) = false := beq_eq_false_iff_ne.mpr c3
    have c3b1 : ((l0.length : Int) != (l1.length : Int)) = true := bne_iff_ne.mpr c3
    have c3b2 : (l0.length == l1.length) = false := by first | simpa using c3 | (simp at c3 ⊢; omega)
    obtain rfl := Option.some.inj H
    go_enter Try.func12, Try.ntmps12
    go_wp2
    go_ret
    exact ⟨by first | rfl | (simp [errW_none, errW_some] <;> rfl) | (simp [*, errW_none, errW_some] <;> rfl), by repeat (first | (with_reducible first | exact HB.out | apply below_alloc | apply pw_below_drewN | apply below_drew1) | exact HB.out)⟩

end Go.Proofs.Ytgiehdhnhkmjfaa.X
-- Laid by xprint.py (wip/tools): printed contracts, and hand-written ones between them.
namespace Go.Proofs.Ytgiehdhnhkmjfaa.X
open Go.RowKit Go.Proofs.YtgiehdhnhkmjfaaW.PrintWords Go.Proofs.YtgiehdhnhkmjfaaW.PrintLast Go.Proofs.YtgiehdhnhkmjfaaW.PrintMore
attribute [local go_sem] max2_int min2_int max_two min_two max_three min_three max_four min_four   -- for this text's walks alone
set_option linter.unusedVariables false
set_option linter.unusedSimpArgs false

/-! ### laws_heldWeighingS: function 16 -/
def laws_heldWeighingS.l0 : Nat → List (S50) → Int → Int → Option (Int)
  | 0, _, _, _ => none
  | k + 1, x0, x1, x5 => if x5 < (x0.length : Int) then (if 0 ≤ x5 then ((laws_heldIntS.f k ((rd_T50 x0 x5).f0) x1).bind fun t17002 => (if t17002 < 0 then (some (-1)) else ((laws_heldIntS.f k ((rd_T50 x0 x5).f1) t17002).bind fun t17004 => (if t17004 < 0 then (some (-1)) else (laws_heldWeighingS.l0 k x0 t17004 (wrap64 (x5 + 1))))))) else (none)) else (some x1)
def laws_heldWeighingS.f (k : Nat) (l0 : List (S50)) (a1 : Int) : Option (Int) := laws_heldWeighingS.l0 k l0 a1 0
theorem laws_heldWeighingS.mono_l : ∀ k, (∀ y0 y1 y2, LeO (laws_heldWeighingS.l0 k y0 y1 y2) (laws_heldWeighingS.l0 (k + 1) y0 y1 y2))
  | 0 => fun _ _ _ r h => by simp [laws_heldWeighingS.l0] at h
  | k + 1 => by
    have ih0 := laws_heldWeighingS.mono_l k
    · intro y0 y1 y2
      unfold laws_heldWeighingS.l0
      repeat' first
      | (with_reducible exact ih0 _ _ _)
      | (with_reducible exact laws_heldIntS.mono _ _ _)
      | (with_reducible exact LeO.refl _)
      | (with_reducible exact LeO.none _)
      | (with_reducible refine LeO.ite ?_ ?_)
      | (with_reducible refine LeO.bind ?_ (fun _ => ?_))
      | exact ih0 _ _ _
      | exact laws_heldIntS.mono _ _ _
      | exact LeO.none _
      | refine LeO.ite ?_ ?_
      | refine LeO.bind ?_ (fun _ => ?_)
theorem laws_heldWeighingS.mono : ∀ a0 a1 k, LeO (laws_heldWeighingS.f k a0 a1) (laws_heldWeighingS.f (k + 1) a0 a1) := by
  intro a0 a1 k
  have ih0 := laws_heldWeighingS.mono_l k
  unfold laws_heldWeighingS.f
  repeat' first
      | (with_reducible exact ih0 _ _ _)
      | (with_reducible exact laws_heldIntS.mono _ _ _)
      | (with_reducible exact LeO.refl _)
      | (with_reducible exact LeO.none _)
      | (with_reducible refine LeO.ite ?_ ?_)
      | (with_reducible refine LeO.bind ?_ (fun _ => ?_))
      | exact ih0 _ _ _
      | exact laws_heldIntS.mono _ _ _
      | exact LeO.none _
      | refine LeO.ite ?_ ?_
      | refine LeO.bind ?_ (fun _ => ?_)
set_option maxHeartbeats 8000000 in
set_option maxRecDepth 100000 in
theorem laws_heldWeighingS.calls (k : Nat) (A0 : Option Addr) (c0 : Nat) (l0 : List (S50)) (a1 : Int) (r : Int) (w : World) (hr0 : Kd.C k50 w A0 l0.length l0) (hc0 : l0.length ≤ c0) (h : laws_heldWeighingS.f k l0 a1 = some r) :
    Calls Try.prog 16 #[.slice A0 l0.length c0, .int .i64 a1] w fun e w' => e = .returned (.int .i64 r) ∧ Drawn0 w w' := by
  have HR0 := Aside0.mk hr0
  have HC0 := Aside0.mk hc0
  clear hr0 hc0
  have H : (laws_heldWeighingS.l0 k l0 a1 0) = some r := h
  clear h
  have H' := Aside0.mk H
  clear H
  go_enter Try.func16, Try.ntmps16
  go_wp2
  go_loopg [1, 5] k (fun kq v1 v5 w' => ∃ (x1_1 : Int) (x5_1 : Int), v1 = .int .i64 x1_1 ∧ v5 = .int .i64 x5_1 ∧ Aside0 (laws_heldWeighingS.l0 kq l0 x1_1 x5_1 = some r) ∧ Aside0 (kq ≤ k) ∧ Drawn0 w w')
  case atStart => exact ⟨(a1), (0), (by first | rfl | (simp; done) | (simp [*]; done)), (by first | rfl | (simp; done) | (simp [*]; done)), H', ⟨Nat.le_refl _⟩, by repeat (first | exact Drawn0.refl _ | apply Drawn0.step)⟩
  case round =>
    clear H'
    try clear c1
    try clear p2
    obtain ⟨x1_1, x5_1, rfl, rfl, HA, HK1, ⟨m1, rfl⟩⟩ := hrel
    cases gk with
    | zero => exact absurd HA.out (by simp [laws_heldWeighingS.l0])
    | succ k1 =>
      have H := HA.out
      clear HA
      simp only [laws_heldWeighingS.l0] at H
      by_cases c3 : x5_1 < (l0.length : Int)
      · rw [if_pos c3] at H
        have c3b0 : decide (x5_1 < (l0.length : Int)) = true := decide_eq_true c3
        clear c3
        by_cases c4 : 0 ≤ x5_1
        · rw [if_pos c4] at H
          have c4b0 : decide (0 ≤ x5_1) = true := decide_eq_true c4
          clear c4
          replace H := Option.bind_eq_some_iff.mp H
          obtain ⟨t17002, A50, H⟩ := H
          replace H : (if t17002 < 0 then (some (-1)) else ((laws_heldIntS.f k1 ((rd_T50 l0 x5_1).f1) t17002).bind fun t17004 => (if t17004 < 0 then (some (-1)) else (laws_heldWeighingS.l0 k1 l0 t17004 (wrap64 (x5_1 + 1)))))) = some r := H
          have A5 := Aside0.mk A50
          clear A50
          by_cases c6 : t17002 < 0
          · rw [if_pos c6] at H
            have c6b0 : decide (t17002 < 0) = true := decide_eq_true c6
            clear c6
            obtain rfl := Option.some.inj H
            have p17001 : 0 ≤ (x5_1 : Int) := of_decide_eq_true (by first | (with_reducible assumption) | assumption)
            have q17001 : x5_1 < (l0.length : Int) := of_decide_eq_true (by first | (with_reducible assumption) | assumption)
            obtain ⟨ad17001, A17001_0, c17001_0, A17001_1, c17001_1, e17001, hx17001_0, hx17001_1, hl17001_0, hi17001_0, hl17001_1, hi17001_1⟩ := at_T50 HR0.out x5_1 p17001 q17001
            cases e17001
            have HR17001_0 := Aside0.mk hi17001_0
            have HC17001_0 := Aside0.mk hl17001_0
            clear hi17001_0 hl17001_0
            have HR17001_1 := Aside0.mk hi17001_1
            have HC17001_1 := Aside0.mk hl17001_1
            clear hi17001_1 hl17001_1
            replace p17001 := eq_true p17001
            replace q17001 := eq_true q17001
            go_wp2_with (first | ((with_reducible refine gate_callee (f := 49) rfl ?_); refine goesL_ (some 18) rfl rfl Try.func49 (by kernel_rfl) rfl #[.slice A17001_0 ((rd_T50 l0 x5_1).f0).length c17001_0, .int .i64 x1_1] rfl (by (try simp only [List.map_toArray, List.map_cons, List.map_nil]); first | done | rfl | (simp only [List.length_drop, List.length_take]; rfl)) ?_; (with_reducible refine (laws_heldIntS.calls k1 _ _ ((rd_T50 l0 x5_1).f0) x1_1 t17002 _ ?side1 ?side2 A5.out).mono ?_); (case side1 => repeat (first | exact HR17001_0.out | (with_reducible refine Kd.C_alloc ?_ _) | (with_reducible refine Kd.C_drewN ?_ _) | (with_reducible refine Kd.C_drew ?_))); (case side2 => exact HC17001_0.out); rintro e w' ⟨rfl, ⟨nd, rfl⟩⟩; refine ⟨_, rfl, ?_⟩))
            go_ret
            exact ⟨by first | rfl | (simp; done) | (simp [*]; done), by repeat (first | exact Drawn0.refl _ | apply Drawn0.step)⟩
          · rw [if_neg c6] at H
            have c6b0 : decide (t17002 < 0) = false := decide_eq_false c6
            clear c6
            replace H := Option.bind_eq_some_iff.mp H
            obtain ⟨t17004, A70, H⟩ := H
            replace H : (if t17004 < 0 then (some (-1)) else (laws_heldWeighingS.l0 k1 l0 t17004 (wrap64 (x5_1 + 1)))) = some r := H
            have A7 := Aside0.mk A70
            clear A70
            by_cases c8 : t17004 < 0
            · rw [if_pos c8] at H
              have c8b0 : decide (t17004 < 0) = true := decide_eq_true c8
              clear c8
              obtain rfl := Option.some.inj H
              have p17001 : 0 ≤ (x5_1 : Int) := of_decide_eq_true (by first | (with_reducible assumption) | assumption)
              have q17001 : x5_1 < (l0.length : Int) := of_decide_eq_true (by first | (with_reducible assumption) | assumption)
              obtain ⟨ad17001, A17001_0, c17001_0, A17001_1, c17001_1, e17001, hx17001_0, hx17001_1, hl17001_0, hi17001_0, hl17001_1, hi17001_1⟩ := at_T50 HR0.out x5_1 p17001 q17001
              cases e17001
              have HR17001_0 := Aside0.mk hi17001_0
              have HC17001_0 := Aside0.mk hl17001_0
              clear hi17001_0 hl17001_0
              have HR17001_1 := Aside0.mk hi17001_1
              have HC17001_1 := Aside0.mk hl17001_1
              clear hi17001_1 hl17001_1
              replace p17001 := eq_true p17001
              replace q17001 := eq_true q17001
              go_wp2_with (first | ((with_reducible refine gate_callee (f := 49) rfl ?_); refine goesL_ (some 18) rfl rfl Try.func49 (by kernel_rfl) rfl #[.slice A17001_0 ((rd_T50 l0 x5_1).f0).length c17001_0, .int .i64 x1_1] rfl (by (try simp only [List.map_toArray, List.map_cons, List.map_nil]); first | done | rfl | (simp only [List.length_drop, List.length_take]; rfl)) ?_; (with_reducible refine (laws_heldIntS.calls k1 _ _ ((rd_T50 l0 x5_1).f0) x1_1 t17002 _ ?side1 ?side2 A5.out).mono ?_); (case side1 => repeat (first | exact HR17001_0.out | (with_reducible refine Kd.C_alloc ?_ _) | (with_reducible refine Kd.C_drewN ?_ _) | (with_reducible refine Kd.C_drew ?_))); (case side2 => exact HC17001_0.out); rintro e w' ⟨rfl, ⟨nd, rfl⟩⟩; refine ⟨_, rfl, ?_⟩; have p17003 : 0 ≤ (x5_1 : Int) := of_decide_eq_true (by first | (with_reducible assumption) | assumption); have q17003 : x5_1 < (l0.length : Int) := of_decide_eq_true (by first | (with_reducible assumption) | assumption); obtain ⟨ad17003, A17003_0, c17003_0, A17003_1, c17003_1, e17003, hx17003_0, hx17003_1, hl17003_0, hi17003_0, hl17003_1, hi17003_1⟩ := at_T50 HR0.out x5_1 p17003 q17003; obtain rfl : ad17001 = ad17003 := (by injection e17003); have HR17003_0 := Aside0.mk hi17003_0; have HC17003_0 := Aside0.mk hl17003_0; clear hi17003_0 hl17003_0; have HR17003_1 := Aside0.mk hi17003_1; have HC17003_1 := Aside0.mk hl17003_1; clear hi17003_1 hl17003_1; replace p17003 := eq_true p17003; replace q17003 := eq_true q17003; have ea_ := Option.some.inj (hx17001_0.symm.trans hx17003_0); injection ea_ with ea_ en_ ec_; subst ea_; subst ec_; clear en_; have ea_ := Option.some.inj (hx17001_1.symm.trans hx17003_1); injection ea_ with ea_ en_ ec_; subst ea_; subst ec_; clear en_) | ((with_reducible refine gate_callee (f := 49) rfl ?_); refine goesL_ (some 27) rfl rfl Try.func49 (by kernel_rfl) rfl #[.slice A17001_1 ((rd_T50 l0 x5_1).f1).length c17001_1, .int .i64 t17002] rfl (by (try simp only [List.map_toArray, List.map_cons, List.map_nil]); first | done | rfl | (simp only [List.length_drop, List.length_take]; rfl)) ?_; (with_reducible refine (laws_heldIntS.calls k1 _ _ ((rd_T50 l0 x5_1).f1) t17002 t17004 _ ?side1 ?side2 A7.out).mono ?_); (case side1 => repeat (first | exact HR17003_1.out | (with_reducible refine Kd.C_alloc ?_ _) | (with_reducible refine Kd.C_drewN ?_ _) | (with_reducible refine Kd.C_drew ?_))); (case side2 => exact HC17003_1.out); rintro e w' ⟨rfl, ⟨nd, rfl⟩⟩; refine ⟨_, rfl, ?_⟩))
              go_ret
              exact ⟨by first | rfl | (simp; done) | (simp [*]; done), by repeat (first | exact Drawn0.refl _ | apply Drawn0.step)⟩
            · rw [if_neg c8] at H
              have c8b0 : decide (t17004 < 0) = false := decide_eq_false c8
              clear c8
              have H' := Aside0.mk H
              clear H
              have p17001 : 0 ≤ (x5_1 : Int) := of_decide_eq_true (by first | (with_reducible assumption) | assumption)
              have q17001 : x5_1 < (l0.length : Int) := of_decide_eq_true (by first | (with_reducible assumption) | assumption)
              obtain ⟨ad17001, A17001_0, c17001_0, A17001_1, c17001_1, e17001, hx17001_0, hx17001_1, hl17001_0, hi17001_0, hl17001_1, hi17001_1⟩ := at_T50 HR0.out x5_1 p17001 q17001
              cases e17001
              have HR17001_0 := Aside0.mk hi17001_0
              have HC17001_0 := Aside0.mk hl17001_0
              clear hi17001_0 hl17001_0
              have HR17001_1 := Aside0.mk hi17001_1
              have HC17001_1 := Aside0.mk hl17001_1
              clear hi17001_1 hl17001_1
              replace p17001 := eq_true p17001
              replace q17001 := eq_true q17001
              go_wp2_with (first | ((with_reducible refine gate_callee (f := 49) rfl ?_); refine goesL_ (some 18) rfl rfl Try.func49 (by kernel_rfl) rfl #[.slice A17001_0 ((rd_T50 l0 x5_1).f0).length c17001_0, .int .i64 x1_1] rfl (by (try simp only [List.map_toArray, List.map_cons, List.map_nil]); first | done | rfl | (simp only [List.length_drop, List.length_take]; rfl)) ?_; (with_reducible refine (laws_heldIntS.calls k1 _ _ ((rd_T50 l0 x5_1).f0) x1_1 t17002 _ ?side1 ?side2 A5.out).mono ?_); (case side1 => repeat (first | exact HR17001_0.out | (with_reducible refine Kd.C_alloc ?_ _) | (with_reducible refine Kd.C_drewN ?_ _) | (with_reducible refine Kd.C_drew ?_))); (case side2 => exact HC17001_0.out); rintro e w' ⟨rfl, ⟨nd, rfl⟩⟩; refine ⟨_, rfl, ?_⟩; have p17003 : 0 ≤ (x5_1 : Int) := of_decide_eq_true (by first | (with_reducible assumption) | assumption); have q17003 : x5_1 < (l0.length : Int) := of_decide_eq_true (by first | (with_reducible assumption) | assumption); obtain ⟨ad17003, A17003_0, c17003_0, A17003_1, c17003_1, e17003, hx17003_0, hx17003_1, hl17003_0, hi17003_0, hl17003_1, hi17003_1⟩ := at_T50 HR0.out x5_1 p17003 q17003; obtain rfl : ad17001 = ad17003 := (by injection e17003); have HR17003_0 := Aside0.mk hi17003_0; have HC17003_0 := Aside0.mk hl17003_0; clear hi17003_0 hl17003_0; have HR17003_1 := Aside0.mk hi17003_1; have HC17003_1 := Aside0.mk hl17003_1; clear hi17003_1 hl17003_1; replace p17003 := eq_true p17003; replace q17003 := eq_true q17003; have ea_ := Option.some.inj (hx17001_0.symm.trans hx17003_0); injection ea_ with ea_ en_ ec_; subst ea_; subst ec_; clear en_; have ea_ := Option.some.inj (hx17001_1.symm.trans hx17003_1); injection ea_ with ea_ en_ ec_; subst ea_; subst ec_; clear en_) | ((with_reducible refine gate_callee (f := 49) rfl ?_); refine goesL_ (some 27) rfl rfl Try.func49 (by kernel_rfl) rfl #[.slice A17001_1 ((rd_T50 l0 x5_1).f1).length c17001_1, .int .i64 t17002] rfl (by (try simp only [List.map_toArray, List.map_cons, List.map_nil]); first | done | rfl | (simp only [List.length_drop, List.length_take]; rfl)) ?_; (with_reducible refine (laws_heldIntS.calls k1 _ _ ((rd_T50 l0 x5_1).f1) t17002 t17004 _ ?side1 ?side2 A7.out).mono ?_); (case side1 => repeat (first | exact HR17003_1.out | (with_reducible refine Kd.C_alloc ?_ _) | (with_reducible refine Kd.C_drewN ?_ _) | (with_reducible refine Kd.C_drew ?_))); (case side2 => exact HC17003_1.out); rintro e w' ⟨rfl, ⟨nd, rfl⟩⟩; refine ⟨_, rfl, ?_⟩))
              go_roundg k1
              case measure => have := HK1.out; omega
              case rel => exact ⟨(t17004), (wrap64 (x5_1 + 1)), (by first | rfl | (simp; done) | (simp [*]; done)), (by first | rfl | (simp; done) | (simp [*]; done)), H', ⟨by have := HK1.out; omega⟩, by repeat (first | exact Drawn0.refl _ | apply Drawn0.step)⟩
        · rw [if_neg c4] at H
          exact absurd H (by simp)
      · rw [if_neg c3] at H
        have c3b0 : decide (x5_1 < (l0.length : Int)) = false := decide_eq_false c3
        clear c3
        obtain rfl := Option.some.inj H
        go_wp2
        go_ret
        exact ⟨by first | rfl | (simp; done) | (simp [*]; done), by repeat (first | exact Drawn0.refl _ | apply Drawn0.step)⟩

end Go.Proofs.Ytgiehdhnhkmjfaa.X
-- Laid by xprint.py (wip/tools): printed contracts, and hand-written ones between them.
namespace Go.Proofs.Ytgiehdhnhkmjfaa.X
open Go.RowKit Go.Proofs.YtgiehdhnhkmjfaaW.PrintWords Go.Proofs.YtgiehdhnhkmjfaaW.PrintLast Go.Proofs.YtgiehdhnhkmjfaaW.PrintMore
attribute [local go_sem] max2_int min2_int max_two min_two max_three min_three max_four min_four   -- for this text's walks alone
set_option linter.unusedVariables false
set_option linter.unusedSimpArgs false

/-! ### laws_markWeighingS: function 15 -/
/-! marking weighings that lie apart -/
def rowsOf (xs : List (S50)) (j : Nat) : List Int := if j % 2 = 0 then (xs.getD (j / 2) z50).f0 else (xs.getD (j / 2) z50).f1
def unrows (L : Nat → List Int) (n : Nat) : List (S50) := (List.range n).map fun i => (⟨L (i * 2), L (i * 2 + 1)⟩ : S50)
theorem unrows_length (L : Nat → List Int) (n : Nat) : (unrows L n).length = n := by unfold unrows; rw [List.length_map, List.length_range]
theorem unrows_get (L : Nat → List Int) {n i : Nat} (h : i < n) : (unrows L n).getD i z50 = ⟨L (i * 2), L (i * 2 + 1)⟩ := by
  unfold unrows
  rw [List.getD_eq_getElem?_getD, List.getElem?_map, List.getElem?_range h]
  rfl
theorem rowsOf_unrows (L : Nat → List Int) {n j : Nat} (h : j < n * 2) : rowsOf (unrows L n) j = L j := by
  unfold rowsOf
  rw [unrows_get L (show j / 2 < n by omega)]
  by_cases e : j % 2 = 0
  · rw [if_pos e]
    show L (j / 2 * 2) = L j
    rw [show j / 2 * 2 = j by omega]
  · rw [if_neg e]
    show L (j / 2 * 2 + 1) = L j
    rw [show j / 2 * 2 + 1 = j by omega]
theorem unrows_rowsOf (xs : List (S50)) : unrows (rowsOf xs) xs.length = xs := by
  apply List.ext_getElem?
  intro i
  unfold unrows
  rw [List.getElem?_map]
  by_cases h : i < xs.length
  · rw [List.getElem?_range h, List.getElem?_eq_getElem h]
    show some (S50.mk (rowsOf xs (i * 2)) (rowsOf xs (i * 2 + 1))) = _
    unfold rowsOf
    rw [if_pos (by omega), if_neg (by omega), show i * 2 / 2 = i by omega, show (i * 2 + 1) / 2 = i by omega, List.getD_eq_getElem?_getD, List.getElem?_eq_getElem h]
    rfl
  · rw [List.getElem?_eq_none (by rw [List.length_range]; omega), List.getElem?_eq_none (by omega)]
    rfl
/-- Weighings of the call's own, all of whose rows lie apart, within ok. -/
def OW (W : World) (base : Nat) (ok : Nat → Prop) (v : Value) (xs : List (S50)) : Prop :=
  (xs = [] ∧ ∃ A c, v = .slice A 0 c ∧ 0 ≤ c) ∨ ∃ g c, v = .slice (some ⟨g, 0, none⟩) xs.length c ∧ xs.length ≤ c ∧ c ≤ maxLen ∧ LW 3 W base ok g (xs.length * 2) 50 (c * 2) (rowsOf xs)
theorem OW.reads {W : World} {base : Nat} {ok : Nat → Prop} {v : Value} {xs : List (S50)} (h : OW W base ok v xs) : ∃ A c, v = .slice A xs.length c ∧ xs.length ≤ c ∧ Kd.C k50 W A xs.length xs := by
  rcases h with ⟨rfl, A, c, rfl, hc⟩ | ⟨g, c, rfl, hc, hm, cur, f, hN, h1, h2, h3, h3', h4⟩
  · exact ⟨A, c, rfl, hc, rfl, by simp, fun h => absurd h (Nat.lt_irrefl 0)⟩
  · have hLV : LV 3 W base g (xs.length * 2) 50 (c * 2) (rowsOf xs) := ⟨cur, f, hN, h1, by omega, h3, fun j hj => by
      obtain ⟨v, hv, hr⟩ := h4 j hj
      exact ⟨v, hv, Kd.R_mono hr (fun k hk => ⟨hk.1.2, hk.2⟩)⟩⟩
    have hS := weighS_of hLV hc hm
    obtain ⟨A, c', he, hl, hr⟩ := Kd.S_reads hS
    have e : ((List.range xs.length).map fun i => (⟨rowsOf xs (i * 2), rowsOf xs (i * 2 + 1)⟩ : S50)) = xs := unrows_rowsOf xs
    rw [e] at he hl hr
    exact ⟨A, c', he, hl, hr⟩
theorem OW.step {W W1 : World} {base : Nat} {ok : Nat → Prop} {v : Value} {xs : List (S50)} (h : OW W base ok v xs) (hm : ∀ k, ok k → k < W.heap.size → W1.heap[k]? = W.heap[k]?) : OW W1 base ok v xs := by
  rcases h with h | ⟨g, c, rfl, hc, hcm, hL⟩
  · exact .inl h
  · exact .inr ⟨g, c, rfl, hc, hcm, hL.step hm⟩
/-- All rows, numbered on from a. -/
def markedW (xs : List (S50)) (a : Int) : List (S50) := unrows (markedN (rowsOf xs) a (xs.length * 2)) xs.length
theorem markedW_length (xs : List (S50)) (a : Int) : (markedW xs a).length = xs.length := unrows_length _ _
def lenW (xs : List (S50)) : Nat := offN (rowsOf xs) (xs.length * 2)
set_option maxHeartbeats 8000000 in
set_option maxRecDepth 100000 in
theorem markLWW_calls {w0 w : World} {g n c N : Nat} {ok : Nat → Prop} {L : Nat → List Int} (a : Int) (hB : Below w0.heap.size w0 w) (h : LW 3 w w0.heap.size ok g (n * 2) 50 N L) (hc : n ≤ c) (hc2 : c ≤ maxLen) (ha : 0 ≤ a) (hb : a + offN L (n * 2) < 4611686018427387904) :
    Calls Try.prog 15 #[.slice (some ⟨g, 0, none⟩) n c, .int .i64 a] w fun e w' => e = .returned (.int .i64 (a + (offN L (n * 2) : Nat))) ∧ LW 3 w' w0.heap.size ok g (n * 2) 50 N (markedN L a (n * 2)) ∧ Below w0.heap.size w0 w' ∧ Kept w w' ok := by
  have HB0 := Aside0.mk hB
  have HL0 := Aside0.mk h
  have HKP := Aside0.mk (Kept.refl w ok)
  have hcm : n ≤ 9223372036854775807 := by have : maxLen = 9223372036854775807 := rfl; omega
  clear hB h
  go_enter Try.func15, Try.ntmps15
  go_wp2
  go_loopg [1, 5] n (fun g1 v1 v5 W => ∃ (i : Nat), v1 = .int .i64 (a + (offN L (i * 2) : Nat)) ∧ v5 = .int .i64 (i : Int) ∧ Aside0 (i ≤ n ∧ n - i ≤ g1) ∧ Aside0 (LW 3 W w0.heap.size ok g (n * 2) 50 N (markedN L a (i * 2))) ∧ Aside0 (Below w0.heap.size w0 W) ∧ Aside0 (Kept w W ok))
  case atStart => exact ⟨0, by simp [offN], rfl, ⟨Nat.zero_le _, by omega⟩, ⟨LW.ext HL0.out (fun j _ => by unfold markedN; rw [if_neg (Nat.not_lt_zero j)])⟩, HB0, HKP⟩
  case round =>
    obtain ⟨i, rfl, rfl, HK1, HL1, HB1, HKP1⟩ := hrel
    by_cases hlt : i < n
    · have hlti : (i : Int) < ↑n := by omega
      obtain ⟨A, c1, P1, hcell, hR, hP, hput⟩ := LW.mark HL1.out (show i * 2 < n * 2 by omega)
      have hLi : markedN L a (i * 2) (i * 2) = L (i * 2) := by unfold markedN; rw [if_neg (Nat.lt_irrefl _)]
      rw [hLi] at hcell hR hput
      have ho := offN_le L (show i * 2 + 1 + 1 ≤ n * 2 by omega)
      have ho1 := offN_le L (show i * 2 + 1 ≤ n * 2 by omega)
      have ho2 : offN L (i * 2 + 1) = offN L (i * 2) + (L (i * 2)).length := rfl
      have ho3 : offN L (i * 2 + 1 + 1) = offN L (i * 2 + 1) + (L (i * 2 + 1)).length := rfl
      have HF := Aside0.mk (markS_tells (L (i * 2)) (a + (offN L (i * 2) : Nat)) (by omega) (by omega) ((L (i * 2)).length + 1) (Nat.lt_succ_self _))
      have HF2 := Aside0.mk (markS_tells (L (i * 2 + 1)) (a + (offN L (i * 2 + 1) : Nat)) (by omega) (by omega) ((L (i * 2 + 1)).length + 1) (Nat.lt_succ_self _))
      have HR := Aside0.mk hR
      have HPUT := Aside0.mk hput
      have HP := Aside0.mk hP
      have HX := Aside0.mk hlt
      have HO2 := Aside0.mk ho2
      have HO3 := Aside0.mk ho3
      have HOA := Aside0.mk (show a + (offN L (i * 2) : Nat) + ((L (i * 2)).length : Int) = a + (offN L (i * 2 + 1) : Nat) by omega)
      have HOB := Aside0.mk (show a + (offN L (i * 2 + 1) : Nat) + ((L (i * 2 + 1)).length : Int) = a + (offN L ((i + 1) * 2) : Nat) by rw [show (i + 1) * 2 = i * 2 + 1 + 1 by omega]; omega)
      clear hR hput hP hLi ho ho1 ho2 ho3 hlt
      go_upto_region 5 with (go_at_call 48; refine (laws_markIntS.calls _ P1 _ (L (i * 2)) _ _ _ w0 _ HB1.out HR.out HF.out).mono ?_; rintro e w1 ⟨rfl, hR1, hB1, hK1⟩; rw [HOA.out]; have HL2 := Aside0.mk (HPUT.out w1 _ hR1 hK1); have HB2 := Aside0.mk hB1; have HKP2 := Aside0.mk (HKP1.out.then_ hK1 (fun k hk => .inl (HP.out k hk))); clear hR1 hB1 hK1)
      obtain ⟨A2, c2, P2, hcell2, hR2, hP2, hput2⟩ := LW.mark HL2.out (show i * 2 + 1 < n * 2 by have := HX.out; omega)
      have hLi2 : (if i * 2 + 1 = i * 2 then numR (a + (offN L (i * 2) : Nat)) (L (i * 2)).length else markedN L a (i * 2) (i * 2 + 1)) = L (i * 2 + 1) := by rw [if_neg (by omega)]; unfold markedN; rw [if_neg (by omega)]
      rw [hLi2] at hcell2 hR2 hput2
      have HR2 := Aside0.mk hR2
      have HP2 := Aside0.mk hP2
      have HPUT2 := Aside0.mk hput2
      clear hR2 hput2 hP2 hLi2
      go_wp2_with (go_at_call 48; refine (laws_markIntS.calls _ P2 _ (L (i * 2 + 1)) _ _ _ w0 _ HB2.out HR2.out HF2.out).mono ?_; rintro e w3 ⟨rfl, hR1, hB1, hK1⟩; rw [HOB.out]; have HL4 := Aside0.mk (HPUT2.out w3 _ hR1 hK1); have HB4 := Aside0.mk hB1; have HKP4 := Aside0.mk (HKP2.out.then_ hK1 (fun k hk => .inl (HP2.out k hk))); clear hR1 hB1 hK1)
      go_roundg (n - (i + 1))
      case measure => have := HK1.out.2; have := HX.out; omega
      case rel => exact ⟨i + 1, rfl, by first | rfl | go_num | (simp; done), ⟨by have := HX.out; omega, by omega⟩, ⟨LW.ext HL4.out (fun j _ => by
        show (if j = i * 2 + 1 then numR (a + (offN L (i * 2 + 1) : Nat)) (L (i * 2 + 1)).length else if j = i * 2 then numR (a + (offN L (i * 2) : Nat)) (L (i * 2)).length else markedN L a (i * 2) j) = markedN L a ((i + 1) * 2) j
        unfold markedN
        by_cases e : j = i * 2 + 1
        · rw [if_pos e, if_pos (by omega), e]
        · rw [if_neg e]
          by_cases e1 : j = i * 2
          · rw [if_pos e1, if_pos (by omega), e1]
          · rw [if_neg e1]
            by_cases e2 : j < i * 2
            · rw [if_pos e2, if_pos (by omega)]
            · rw [if_neg e2, if_neg (by omega)])⟩, HB4, HKP4⟩
    · have hlti : ¬ (i : Int) < ↑n := by omega
      obtain rfl : i = n := by have := HK1.out; omega
      clear hlt
      go_wp2
      go_ret
      exact ⟨rfl, HL1.out, HB1.out, HKP1.out⟩
set_option maxRecDepth 100000 in
theorem markWS_nil {w : World} {A : Option Addr} {c : Nat} (a : Int) : Calls Try.prog 15 #[.slice A 0 c, .int .i64 a] w fun e w' => e = .returned (.int .i64 a) ∧ ∃ q, w' = w.drewN q := by
  go_enter Try.func15, Try.ntmps15
  go_wp2
  go_loopg [1, 5] 1 (fun g1 v1 v5 W => v1 = .int .i64 a ∧ v5 = .int .i64 0 ∧ ∃ q, W = w.drewN q)
  case atStart => exact ⟨rfl, rfl, 0, rfl⟩
  case round =>
    obtain ⟨rfl, rfl, q, rfl⟩ := hrel
    go_wp2
    go_ret
    exact ⟨rfl, _, rfl⟩
theorem markW_own {w0 w : World} {ok : Nat → Prop} {v : Value} {xs : List (S50)} (a : Int) (hB : Below w0.heap.size w0 w) (h : OW w w0.heap.size ok v xs) (ha : 0 ≤ a) (hb : a + lenW xs < 4611686018427387904) :
    Calls Try.prog 15 #[v, .int .i64 a] w fun e' w' => e' = .returned (.int .i64 (a + (lenW xs : Nat))) ∧ OW w' w0.heap.size ok v (markedW xs a) ∧ Below w0.heap.size w0 w' ∧ Kept w w' ok := by
  rcases h with ⟨rfl, A, c, rfl, hc0⟩ | ⟨g, c, rfl, hc, hm, hL⟩
  · refine (markWS_nil (A := A) (c := c) a).mono ?_
    rintro e' w' ⟨rfl, q, rfl⟩
    refine ⟨?_, .inl ⟨rfl, A, c, rfl, hc0⟩, pw_below_drewN hB q, Kept.drewN (Kept.refl _ _) q⟩
    have : a + ((lenW [] : Nat) : Int) = a := by simp [lenW, offN]
    rw [this]
  · refine (markLWW_calls a hB hL hc hm ha hb).mono ?_
    rintro e' w' ⟨rfl, hL', hB', hK'⟩
    refine ⟨rfl, .inr ⟨g, c, by rw [markedW_length], by rw [markedW_length]; exact hc, hm, ?_⟩, hB', hK'⟩
    rw [markedW_length]
    exact hL'.ext (fun j hj => (rowsOf_unrows _ hj).symm)

end Go.Proofs.Ytgiehdhnhkmjfaa.X
-- Laid by xprint.py (wip/tools): printed contracts, and hand-written ones between them.
namespace Go.Proofs.Ytgiehdhnhkmjfaa.X
open Go.RowKit Go.Proofs.YtgiehdhnhkmjfaaW.PrintWords Go.Proofs.YtgiehdhnhkmjfaaW.PrintLast Go.Proofs.YtgiehdhnhkmjfaaW.PrintMore
attribute [local go_sem] max2_int min2_int max_two min_two max_three min_three max_four min_four   -- for this text's walks alone
set_option linter.unusedVariables false
set_option linter.unusedSimpArgs false

/-! ### laws_FnExactWeighingsOf: function 3 -/
theorem eqWS_l0 (l : List (S50)) (B : Nat) (hB : B < 4611686018427387904) (hl : l.length < 4611686018427387904) (hr : ∀ i : Int, (rd_T50 l i).f0.length ≤ B ∧ (rd_T50 l i).f1.length ≤ B) : ∀ (d i K : Nat), i + d = l.length → d + B + 1 < K → laws_eqWeighingS.l0 K l l (i : Int) = some true
  | 0, i, 0, _, h => absurd h (by omega)
  | d + 1, i, 0, _, h => absurd h (by omega)
  | 0, i, K + 1, hd, h => by rw [laws_eqWeighingS.l0, if_neg (by omega)]
  | d + 1, i, K + 1, hd, h => by
    have hb := hr (i : Int)
    have he : laws_eqWeighing.f K (rd_T50 l i).f0 (rd_T50 l i).f1 (rd_T50 l i).f0 (rd_T50 l i).f1 = some true := by
      unfold laws_eqWeighing.f
      rw [eqS_tells _ (by omega) K (by omega)]
      simp only [Option.bind_some, if_true]
      rw [eqS_tells _ (by omega) K (by omega)]
      rfl
    rw [laws_eqWeighingS.l0, if_pos (by omega), if_pos (by omega), if_pos (by omega), he]
    have e2 : wrap64 ((i : Int) + 1) = ((i + 1 : Nat) : Int) := by unfold wrap64; omega
    rw [e2]
    exact eqWS_l0 l B hB hl hr d (i + 1) K (by omega) (by omega)
theorem eqWS_tells (l : List (S50)) (B : Nat) (hB : B < 4611686018427387904) (hl : l.length < 4611686018427387904) (hr : ∀ i : Int, (rd_T50 l i).f0.length ≤ B ∧ (rd_T50 l i).f1.length ≤ B) : ∃ K, laws_eqWeighingS.f K l l = some true := by
  refine ⟨l.length + B + 2, ?_⟩
  unfold laws_eqWeighingS.f
  rw [if_pos rfl]
  exact eqWS_l0 l B hB hl hr l.length 0 _ (by omega) (by omega)
theorem heldWS_l0 (L : Nat → List Int) (a : Int) (n B : Nat) (ha : 0 ≤ a) (hb : a + offN L (n * 2) < 4611686018427387904) (hm : n < 4611686018427387904) (hB : ∀ i, (L i).length ≤ B) : ∀ (d i K : Nat), i + d = n → d + B + 1 < K → laws_heldWeighingS.l0 K (unrows (markedN L a (n * 2)) n) (a + (offN L (i * 2) : Nat)) (i : Int) = some (a + (offN L (n * 2) : Nat))
  | 0, i, 0, _, h => absurd h (by omega)
  | d + 1, i, 0, _, h => absurd h (by omega)
  | 0, i, K + 1, hd, h => by
    obtain rfl : i = n := by omega
    rw [laws_heldWeighingS.l0, if_neg (by rw [unrows_length]; omega)]
  | d + 1, i, K + 1, hd, h => by
    have hlen := hB (i * 2)
    have hlen1 := hB (i * 2 + 1)
    have ho := offN_le L (show i * 2 + 1 + 1 ≤ n * 2 by omega)
    have ho2 : offN L (i * 2 + 1) = offN L (i * 2) + (L (i * 2)).length := rfl
    have ho3 : offN L (i * 2 + 1 + 1) = offN L (i * 2 + 1) + (L (i * 2 + 1)).length := rfl
    have hr : rd_T50 (unrows (markedN L a (n * 2)) n) (i : Int) = ⟨numR (a + (offN L (i * 2) : Nat)) (L (i * 2)).length, numR (a + (offN L (i * 2 + 1) : Nat)) (L (i * 2 + 1)).length⟩ := by
      unfold rd_T50
      rw [Int.toNat_natCast, unrows_get _ (show i < n by omega)]
      unfold markedN
      rw [if_pos (by omega), if_pos (by omega)]
    rw [laws_heldWeighingS.l0, if_pos (by rw [unrows_length]; omega), if_pos (by omega), hr]
    show ((laws_heldIntS.f K (numR (a + (offN L (i * 2) : Nat)) (L (i * 2)).length) (a + (offN L (i * 2) : Nat))).bind fun t => _) = _
    rw [heldS_tells _ _ (by omega) (by omega) K (by omega)]
    have e1 : a + (offN L (i * 2) : Nat) + ((L (i * 2)).length : Nat) = a + (offN L (i * 2 + 1) : Nat) := by omega
    rw [e1]
    show (if a + (offN L (i * 2 + 1) : Nat) < 0 then _ else _) = _
    rw [if_neg (by omega)]
    show ((laws_heldIntS.f K (numR (a + (offN L (i * 2 + 1) : Nat)) (L (i * 2 + 1)).length) (a + (offN L (i * 2 + 1) : Nat))).bind fun t => _) = _
    rw [heldS_tells _ _ (by omega) (by omega) K (by omega)]
    have e3 : a + (offN L (i * 2 + 1) : Nat) + ((L (i * 2 + 1)).length : Nat) = a + (offN L ((i + 1) * 2) : Nat) := by rw [show (i + 1) * 2 = i * 2 + 1 + 1 by omega]; omega
    rw [e3]
    show (if a + (offN L ((i + 1) * 2) : Nat) < 0 then _ else _) = _
    rw [if_neg (by omega)]
    have e2 : wrap64 ((i : Int) + 1) = ((i + 1 : Nat) : Int) := by unfold wrap64; omega
    rw [e2]
    exact heldWS_l0 L a n B ha hb hm hB d (i + 1) K (by omega) (by omega)
theorem heldWS_tells (l : List (S50)) (B : Nat) (hl : l.length < 4611686018427387904) (hs : lenW l < 1000000000000000) (hB : ∀ i, (rowsOf l i).length ≤ B) : ∃ K, laws_heldWeighingS.f K (markedW l 1) 1 = some (1 + ((lenW l : Nat) : Int)) := by
  have h := heldWS_l0 (rowsOf l) 1 l.length B (by decide) (by unfold lenW at hs; omega) hl hB l.length 0 (l.length + B + 2) (by omega) (by omega)
  refine ⟨l.length + B + 2, ?_⟩
  unfold laws_heldWeighingS.f markedW lenW
  have e : (1 : Int) + (offN (rowsOf l) (0 * 2) : Nat) = 1 := rfl
  rw [e] at h
  exact h
theorem OW.reads' {W : World} {base n c : Nat} {A : Option Addr} {ok : Nat → Prop} {xs : List (S50)} (h : OW W base ok (.slice A n c) xs) : n = xs.length ∧ n ≤ c ∧ Kd.C k50 W A xs.length xs := by
  obtain ⟨A', c', he, hl, hC⟩ := OW.reads h
  injection he with h1 h2 h3
  subst h1 h2 h3
  exact ⟨rfl, hl, hC⟩
theorem OW.lower {W : World} {base base' : Nat} {ok : Nat → Prop} {v : Value} {xs : List (S50)} (h : OW W base ok v xs) (hb : base' ≤ base) : OW W base' ok v xs := by
  rcases h with h | ⟨g, c, rfl, hc, hcm, cur, f, hN, h1, h2, h3, h3', h4⟩
  · exact .inl h
  · exact .inr ⟨g, c, rfl, hc, hcm, cur, f, hN, h1, h2, Nat.le_trans hb h3, h3', fun j hj => by
      obtain ⟨v, hv, hr⟩ := h4 j hj
      exact ⟨v, hv, Kd.R_lower hr hb⟩⟩
/-- What impl.WeighingsOf makes lies apart, all of it. -/
theorem weighings_own (A0 : Option Addr) (c0 : Nat) (l0 : List (List Int)) (r1 : List (S50)) (r2 : Bool) (w : World) (hr0 : Kd.C (Kd.slice 3 (Kd.int .i64)) w A0 l0.length l0) (hc0 : l0.length ≤ c0) (h : impl_WeighingsOf.f l0 = some (r1, r2)) :
    Calls Try.prog 11 #[.slice A0 l0.length c0] w fun e w' => ∃ v : Value, e = .returned (.tuple #[v, .bool r2]) ∧ OW w' w.heap.size (fun k => w.heap.size ≤ k ∧ k < w'.heap.size) v r1 ∧ Below w.heap.size w w' := by
  have h0 := h
  unfold impl_WeighingsOf.f at h
  by_cases hs : sameB l0 = true
  · rw [if_pos hs] at h
    by_cases hn : l0.length ≤ 2000000
    · rw [if_pos hn] at h
      simp only [Option.some.injEq, Prod.mk.injEq] at h
      obtain ⟨rfl, rfl⟩ := h
      refine (impl_WeighingsOf.strong A0 c0 l0 w hr0 hc0 hs hn).mono ?_
      rintro e w' ⟨g, cap, rfl, hnc, hcm, hL, hB⟩
      have hl : (weighW l0).length = (l0.getD 0 []).length := by unfold weighW; rw [List.length_map, List.length_range]
      refine ⟨_, rfl, .inr ⟨g, cap, by rw [hl], by rw [hl]; exact hnc, hcm, ?_⟩, hB⟩
      rw [hl]
      exact (LW.of_LV hL).ext (fun j hj => by
        have e : weighW l0 = unrows (rowsW l0 l0.length 0) (l0.getD 0 []).length := rfl
        rw [e, rowsOf_unrows _ hj])
    · rw [if_neg hn] at h
      cases h
  · rw [if_neg hs] at h
    simp only [Option.some.injEq, Prod.mk.injEq] at h
    obtain ⟨rfl, rfl⟩ := h
    refine (impl_WeighingsOf.calls A0 c0 l0 _ _ w hr0 hc0 h0).mono ?_
    rintro e w' ⟨v, rfl, hS, hB⟩
    obtain ⟨A, c, rfl, hl, _⟩ := Kd.S_reads hS
    exact ⟨_, rfl, .inl ⟨rfl, A, c, rfl, hl⟩, hB⟩
theorem laws_FnExactWeighingsOf.opens0 (N : Nat) : OpensN Try.prog N (Kd.slice 47 (Kd.slice 3 (Kd.int .i64))) 22 (fun xs => xs.length ≤ maxLen ∧ ∀ x ∈ xs, x.length ≤ maxLen ∧ ∀ n ∈ x, (Lit.int .i64 n).wf = true) := by
  intro H enc w fuel cs x hN h
  exact (opens_slice Try.underlying22 (by kernel_rfl) (opens_slice Try.underlying47 (by kernel_rfl) (opens_int (N := fuel) Try.underlying3))) enc w fuel cs x (by omega) h
/-- The plain law. -/
def laws_FnExactWeighingsOf.Pure : Prop := ∀ (l0 : List (List Int)), l0.length ≤ maxLen → (∀ x ∈ l0, x.length ≤ maxLen) → ∃ (K : Nat) (r : Int), laws_szIntSS.f K l0 1048576 = some r ∧ (r < 0 ∨ (0 ≤ r ∧ laws_toIntSS.f K l0 = some l0 ∧ l0.length ≤ 1048576 ∧ l0.flatten.length ≤ 1048576 ∧
  ∃ ws ok, spec_WeighingsOf.f K l0 = some (ws, ok) ∧ impl_WeighingsOf.f l0 = some (ws, ok) ∧ ws.length ≤ 1048576 ∧ lenW ws < 1000000000000000 ∧ ∀ i, (rowsOf ws i).length ≤ 1048576))
set_option maxHeartbeats 16000000 in
set_option maxRecDepth 100000 in
theorem laws_FnExactWeighingsOf.walk (P : laws_FnExactWeighingsOf.Pure) (A0 : Option Addr) (c0 : Nat) (l0 : List (List Int)) (w : World) (hr0 : Kd.C (Kd.slice 3 (Kd.int .i64)) w A0 l0.length l0) (hc0 : l0.length ≤ c0) (wf0 : l0.length ≤ maxLen ∧ ∀ x ∈ l0, x.length ≤ maxLen ∧ ∀ n ∈ x, (Lit.int .i64 n).wf = true) :
    Calls Try.prog 3 #[.slice A0 l0.length c0] w fun e w' => e = .returned (.bool true) ∧ Below w.heap.size w w' := by
  obtain ⟨K, r, hz, hP⟩ := P l0 wf0.1 (fun x hx => (wf0.2 x hx).1)
  have HZ := Aside0.mk hz
  have HR0 := Aside0.mk hr0
  have HC0 := Aside0.mk hc0
  clear P wf0 hz hr0 hc0
  rcases hP with hneg | ⟨hr, hto, hn, hf, ws, ok, hs, hi, hwn, hwl, hrow⟩
  · have g : decide (r < 0) = true := decide_eq_true hneg
    clear hneg
    go_enter Try.func3, Try.ntmps3
    go_wp2_with (go_at_call 8; refine (laws_szIntSS.calls K A0 c0 l0 1048576 r _ HR0.out HC0.out HZ.out).mono ?_; rintro e w1 ⟨rfl, ⟨q1, rfl⟩⟩)
    go_ret
    exact ⟨rfl, pw_below_drewN (Below.refl _ _) _⟩
  · have g : decide (r < 0) = false := decide_eq_false (by omega)
    have hrowB : ∀ i : Int, (rd_T50 ws i).f0.length ≤ 1048576 ∧ (rd_T50 ws i).f1.length ≤ 1048576 := fun i => by
      have h0 := hrow (i.toNat * 2)
      have h1 := hrow (i.toNat * 2 + 1)
      unfold rowsOf at h0 h1
      rw [if_pos (by omega), show i.toNat * 2 / 2 = i.toNat by omega] at h0
      rw [if_neg (by omega), show (i.toNat * 2 + 1) / 2 = i.toNat by omega] at h1
      exact ⟨h0, h1⟩
    obtain ⟨KE, hE⟩ := eqWS_tells ws 1048576 (by omega) (by omega) hrowB
    obtain ⟨KH, hH⟩ := heldWS_tells ws 1048576 (by omega) hwl hrow
    obtain ⟨KI, hI⟩ := eqSS_tells l0 (by omega) (by omega)
    have HLL := Aside0.mk (show (1 : Int) + lenL l0 < 4611686018427387904 by have := lenL_flatten l0; omega)
    obtain ⟨tk, htk⟩ : ∃ tk : Int, 1 + ((lenL l0 : Nat) : Int) = tk := ⟨_, rfl⟩
    have hkneg : decide (tk < 0) = false := decide_eq_false (by omega)
    have HTK := Aside0.mk htk
    have HSUM := Aside0.mk (show (1 : Int) + lenW ws < 4611686018427387904 by omega)
    obtain ⟨tot, htot⟩ : ∃ tot : Int, 1 + ((lenW ws : Nat) : Int) = tot := ⟨_, rfl⟩
    have hneg : decide (tot < 0) = false := decide_eq_false (by omega)
    have heq : (tot != tot) = false := by simp
    rw [htot] at hH
    have HTOT := Aside0.mk htot
    have HE := Aside0.mk hE
    have HH := Aside0.mk hH
    have HI := Aside0.mk hI
    have HTO := Aside0.mk hto
    have HS := Aside0.mk hs
    have HIM := Aside0.mk hi
    have hok : (ok != ok) = false := by cases ok <;> rfl
    clear hr hto hn hf hs hi hwn hwl hrow hrowB hE hH hI htk htot
    go_enter Try.func3, Try.ntmps3
    go_upto_region 5 with (go_at_call 8; refine (laws_szIntSS.calls K A0 c0 l0 1048576 r _ HR0.out HC0.out HZ.out).mono ?_; rintro e w1 ⟨rfl, ⟨q1, rfl⟩⟩)
    go_upto_region 6 with (first | (go_at_call 10; refine (laws_toIntSS.calls K A0 c0 l0 l0 _ (Kd.C_drewN HR0.out q1) HC0.out HTO.out).mono ?_; rintro e w5 ⟨v5, rfl, hS5, hB5⟩; obtain ⟨A5, c5, rfl, hl5, hC5⟩ := Kd.S_reads hS5; have HC5 := Aside0.mk hC5; have HL5 := Aside0.mk hl5; have HB5 := Aside0.mk (show Below w.heap.size w w5 from below_then (pw_below_drewN (Below.refl _ _) q1) (Nat.le_refl _) hB5); clear hS5 hC5 hl5 hB5) | (go_at_call 9; refine (spec_WeighingsOf.calls K A5 c5 l0 ws ok _ HC5.out HL5.out HS.out).mono ?_; rintro e w6 ⟨v6, rfl, hS6, hB6⟩; obtain ⟨A6, c6, rfl, hl6, hC6⟩ := Kd.S_reads hS6; have HC6 := Aside0.mk hC6; have HL6 := Aside0.mk hl6; have HB6 := Aside0.mk (below_then HB5.out HB5.out.size hB6); clear hS6 hC6 hl6 hB6))
    go_upto_region 7 with (go_at_call 10; refine (laws_toIntSS.calls K A0 c0 l0 l0 _ (Kd.C_below HR0.out HB6.out) HC0.out HTO.out).mono ?_; rintro e w7 ⟨v7, rfl, hS7, hB7⟩; have HS7 := Aside0.mk (Kd.S_mono (Kd.S_bound hS7) (fun k hk => (show k < w7.heap.size from hk.2.2.1))); obtain ⟨A7, c7, rfl, hl7, hC7⟩ := Kd.S_reads hS7; have HC7 := Aside0.mk hC7; have HL7 := Aside0.mk hl7; have HB7 := Aside0.mk hB7; clear hS7 hC7 hl7 hB7)
    go_upto_region 8 with (go_at_call 11; refine (weighings_own A7 c7 l0 ws ok _ HC7.out HL7.out HIM.out).mono ?_; rintro e w8 ⟨v8, rfl, hO8, hB8⟩; obtain ⟨A8, c8, rfl, hl8, hC8⟩ := OW.reads hO8; have HO8 := Aside0.mk hO8; have HC8 := Aside0.mk hC8; have HL8 := Aside0.mk hl8; have HB8 := Aside0.mk (below_then HB7.out HB7.out.size hB8); have HB78 := Aside0.mk hB8; clear hO8 hC8 hl8 hB8)
    go_upto_region 10 with (go_at_call 12; refine (laws_eqWeighingS.calls KE A8 c8 ws A6 c6 ws true _ HC8.out HL8.out (Kd.C_below HC6.out HB8.out) HL6.out HE.out).mono ?_; rintro e w9 ⟨rfl, hB9⟩; have HB9 := Aside0.mk (below_then HB8.out HB8.out.size hB9); have HS9 := Aside0.mk (below_then HB78.out HB78.out.size hB9); have HG9 := Aside0.mk hB9; clear hB9)
    go_upto_region 13 with (first | (go_at_call 10; refine (laws_toIntSS.calls K A0 c0 l0 l0 _ (Kd.C_below HR0.out (below_then HB6.out HB6.out.size HB9.out)) HC0.out HTO.out).mono ?_; rintro e w10 ⟨v10, rfl, hS10, hB10⟩; obtain ⟨A10, c10, rfl, hl10, hC10⟩ := Kd.S_reads hS10; have HC10 := Aside0.mk hC10; have HL10 := Aside0.mk hl10; have HB10 := Aside0.mk (below_then HB9.out HB9.out.size hB10); have HS10 := Aside0.mk (below_then HS9.out HS9.out.size hB10); have HG10 := Aside0.mk (below_then HG9.out HG9.out.size hB10); clear hS10 hC10 hl10 hB10) | (go_at_call 13; refine (laws_eqIntSS.calls KI A7 c7 l0 A10 c10 l0 true _ (Kd.C_below HC7.out HS10.out) HL7.out HC10.out HL10.out HI.out).mono ?_; rintro e w11 ⟨rfl, ⟨q11, rfl⟩⟩))
    go_upto_region 14 with (go_at_call 14; refine (markSS_S (w0 := w6) 1 (pw_below_drewN HB10.out q11) (Kd.S_drewN (Kd.S_below HS7.out HS10.out) q11) (by decide) HLL.out).mono ?_; rintro e w13 ⟨rfl, hS13, hB13, hK13⟩; rw [HTK.out]; have HB13 := Aside0.mk hB13; have HO13 := Aside0.mk (OW.lower (OW.step (OW.step HO8.out (fun k _ hlt => ((pw_below_drewN HG10.out q11).block k hlt))) (fun k hk hlt => hK13.2 k hlt (fun h => absurd h (by have := hk.1; omega)))) HB7.out.size); have HC13 := Aside0.mk (OW.reads' HO13.out).2.2; clear hS13 hB13 hK13)
    go_upto_region 17 with (go_at_call 12; refine (laws_eqWeighingS.calls KE A8 c8 ws A6 c6 ws true _ HC13.out HL8.out (Kd.C_below HC6.out HB13.out) HL6.out HE.out).mono ?_; rintro e w14 ⟨rfl, hB14⟩; have HB14 := Aside0.mk (below_then HB13.out HB13.out.size hB14); have HO14 := Aside0.mk (OW.step HO13.out (fun k _ hlt => hB14.block k hlt)); clear hB14)
    go_upto_region 19 with (go_at_call 15; refine (markW_own (w0 := w6) 1 HB14.out HO14.out (by decide) HSUM.out).mono ?_; rintro e w17 ⟨rfl, hO17, hB17, hK17⟩; rw [HTOT.out]; have HO17 := Aside0.mk hO17; have HB17 := Aside0.mk hB17; clear hO17 hB17 hK17)
    go_upto_region 24 with (go_at_call 16; have hh := laws_heldWeighingS.calls KH A8 c8 (markedW ws 1) 1 tot w17 (OW.reads' HO17.out).2.2 (Nat.le_trans (Nat.le_of_eq (markedW_length ws 1)) HL8.out) HH.out; rw [markedW_length] at hh; refine hh.mono ?_; clear hh; rintro e w19 ⟨rfl, ⟨q19, rfl⟩⟩)
    go_upto_region 25 with (first | (go_at_call 10; refine (laws_toIntSS.calls K A0 c0 l0 l0 _ (Kd.C_below HR0.out (below_then HB6.out HB6.out.size (pw_below_drewN HB17.out q19))) HC0.out HTO.out).mono ?_; rintro e w20 ⟨v20, rfl, hS20, hB20⟩; obtain ⟨A20, c20, rfl, hl20, hC20⟩ := Kd.S_reads hS20; have HC20 := Aside0.mk hC20; have HL20 := Aside0.mk hl20; have HG20 := Aside0.mk (below_then (pw_below_drewN (Below.refl _ _) q19) (Nat.le_refl _) hB20); clear hS20 hC20 hl20 hB20) | (go_at_call 11; refine (weighings_own A20 c20 l0 ws ok _ HC20.out HL20.out HIM.out).mono ?_; rintro e w21 ⟨v21, rfl, hO21, hB21⟩; obtain ⟨A21, c21, rfl, hl21, hC21⟩ := OW.reads hO21; have HC21 := Aside0.mk hC21; have HL21 := Aside0.mk hl21; have HG21 := Aside0.mk (below_then HG20.out HG20.out.size hB21); clear hO21 hC21 hl21 hB21))
    go_upto_region 28 with (go_at_call 12; refine (laws_eqWeighingS.calls KE A21 c21 ws A6 c6 ws true _ HC21.out HL21.out (Kd.C_below HC6.out (below_then HB17.out HB17.out.size HG21.out)) HL6.out HE.out).mono ?_; rintro e w22 ⟨rfl, hB22⟩; have HG22 := Aside0.mk (below_then HG21.out HG21.out.size hB22); have HO22 := Aside0.mk (OW.step HO17.out (fun k _ hlt => HG22.out.block k hlt)); clear hB22)
    go_wp2_with (go_at_call 16; have hh := laws_heldWeighingS.calls KH A8 c8 (markedW ws 1) 1 tot w22 (OW.reads' HO22.out).2.2 (Nat.le_trans (Nat.le_of_eq (markedW_length ws 1)) HL8.out) HH.out; rw [markedW_length] at hh; refine hh.mono ?_; clear hh; rintro e w23 ⟨rfl, ⟨q23, rfl⟩⟩)
    go_ret
    exact ⟨rfl, pw_below_drewN (below_then HB6.out HB6.out.size (below_then HB17.out HB17.out.size HG22.out)) q23⟩

end Go.Proofs.Ytgiehdhnhkmjfaa.X
/- Plain laws of balanced ternary words: values, digits, limits. No program in sight. -/
namespace Go.Proofs.Ytgiehdhnhkmjfaa.Plain
/-- The value of trits, the lowest first. -/
def val : List Int → Int
  | [] => 0
  | a :: r => a + 3 * val r
def Trits (w : List Int) : Prop := ∀ x ∈ w, -1 ≤ x ∧ x ≤ 1
/-- (3^k - 1) / 2 -/
def lim : Nat → Int
  | 0 => 0
  | k + 1 => 3 * lim k + 1
theorem lim_nonneg (k : Nat) : 0 ≤ lim k := by
  induction k with
  | zero => exact Int.le_refl _
  | succ k ih => unfold lim; omega
theorem lim_mono {j k : Nat} (h : j ≤ k) : lim j ≤ lim k := by
  induction k with
  | zero => obtain rfl : j = 0 := by omega
            exact Int.le_refl _
  | succ k ih =>
    by_cases e : j = k + 1
    · subst e; exact Int.le_refl _
    · have h1 := ih (by omega)
      have h2 := lim_nonneg k
      have h3 : lim (k + 1) = 3 * lim k + 1 := rfl
      omega
theorem lim_lt {j k : Nat} (h : j < k) : lim j < lim k := by
  have h1 : lim (j + 1) ≤ lim k := lim_mono h
  have h2 := lim_nonneg j
  have h3 : lim (j + 1) = 3 * lim j + 1 := rfl
  omega
theorem pow_lim (k : Nat) : (3 : Int) ^ k = 2 * lim k + 1 := by
  induction k with
  | zero => rfl
  | succ k ih =>
    rw [Int.pow_succ, ih]
    show (2 * lim k + 1) * 3 = 2 * (3 * lim k + 1) + 1
    omega
theorem lim30 : lim 30 = 102945566047324 := by decide
theorem lim_le30 {k : Nat} (h : k ≤ 30) : lim k ≤ 102945566047324 := by rw [← lim30]; exact lim_mono h
theorem val_bound : ∀ {w : List Int}, Trits w → -lim w.length ≤ val w ∧ val w ≤ lim w.length
  | [], _ => ⟨Int.le_refl _, Int.le_refl _⟩
  | a :: r, h => by
    have h1 := h a List.mem_cons_self
    have h2 := val_bound (w := r) (fun x hx => h x (List.mem_cons_of_mem _ hx))
    simp only [val, List.length_cons, lim]
    omega
/-- The trit that differs from n by a multiple of 3. -/
def dig (n : Int) : Int := if n.tmod 3 > 1 then n.tmod 3 - 3 else if n.tmod 3 < -1 then n.tmod 3 + 3 else n.tmod 3
theorem dig_range (n : Int) : -1 ≤ dig n ∧ dig n ≤ 1 := by
  have h1 := Int.tmod_lt_of_pos n (b := 3) (by omega)
  have h2 : -3 < n.tmod 3 := Int.lt_tmod_of_pos n (by omega)
  unfold dig
  split
  · omega
  · split <;> omega
theorem dig_dvd (n : Int) : ∃ q, n = dig n + 3 * q := by
  have h := Int.tmod_add_mul_tdiv n 3
  unfold dig
  split
  · exact ⟨n.tdiv 3 + 1, by omega⟩
  · split
    · exact ⟨n.tdiv 3 - 1, by omega⟩
    · exact ⟨n.tdiv 3, by omega⟩
theorem dig_unique {a q n : Int} (h : n = a + 3 * q) (h1 : -1 ≤ a) (h2 : a ≤ 1) : dig n = a := by
  obtain ⟨p, hp⟩ := dig_dvd n
  have := dig_range n
  omega
/-- What is left behind the lowest trit. -/
def rest (n : Int) : Int := (n - dig n).tdiv 3
theorem rest_eq (n : Int) : n = dig n + 3 * rest n := by
  obtain ⟨q, hq⟩ := dig_dvd n
  unfold rest
  have : n - dig n = 3 * q := by omega
  rw [this, Int.mul_tdiv_cancel_left _ (by omega)]
  omega
theorem rest_bound {n : Int} {k : Nat} (h : -lim (k + 1) ≤ n ∧ n ≤ lim (k + 1)) : -lim k ≤ rest n ∧ rest n ≤ lim k := by
  have h1 := rest_eq n
  have h2 := dig_range n
  have h3 : lim (k + 1) = 3 * lim k + 1 := rfl
  omega
/-- The word of k trits of a value. -/
def word : Nat → Int → List Int
  | 0, _ => []
  | k + 1, n => dig n :: word k (rest n)
theorem word_length (k : Nat) : ∀ n, (word k n).length = k := by
  induction k with
  | zero => intro n; rfl
  | succ k ih => intro n; simp [word, ih]
theorem word_trits (k : Nat) : ∀ n, Trits (word k n) := by
  induction k with
  | zero => intro n x hx; cases hx
  | succ k ih =>
    intro n x hx
    rcases List.mem_cons.1 hx with rfl | hx
    · exact dig_range n
    · exact ih _ x hx
theorem val_word (k : Nat) : ∀ n, -lim k ≤ n ∧ n ≤ lim k → val (word k n) = n := by
  induction k with
  | zero => intro n h; unfold lim at h; simp only [word, val]; omega
  | succ k ih =>
    intro n h
    simp only [word, val]
    rw [ih _ (rest_bound h)]
    have := rest_eq n
    omega
theorem word_val : ∀ {w : List Int}, Trits w → word w.length (val w) = w
  | [], _ => rfl
  | a :: r, h => by
    have h1 := h a List.mem_cons_self
    have h2 : dig (a + 3 * val r) = a := dig_unique rfl h1.1 h1.2
    have h3 : rest (a + 3 * val r) = val r := by have := rest_eq (a + 3 * val r); omega
    simp only [List.length_cons, val, word, h2, h3]
    rw [word_val (fun x hx => h x (List.mem_cons_of_mem _ hx))]
theorem val_inj {v w : List Int} (hv : Trits v) (hw : Trits w) (hl : v.length = w.length) (h : val v = val w) : v = w := by
  rw [← word_val hv, ← word_val hw, hl, h]
/-- Trits that are not 0. -/
def weight : List Int → Int
  | [] => 0
  | a :: r => a * a + weight r
theorem word_more (k : Nat) : ∀ (j : Nat) (n : Int), -lim k ≤ n ∧ n ≤ lim k → word (k + j) n = word k n ++ List.replicate j 0 := by
  induction k with
  | zero =>
    intro j n h
    obtain rfl : n = 0 := by unfold lim at h; omega
    induction j with
    | zero => rfl
    | succ j ih =>
      have e : rest 0 = 0 := by decide
      have e2 : dig 0 = 0 := by decide
      rw [show 0 + (j + 1) = (0 + j) + 1 by omega]
      simp only [word, e, e2]
      rw [ih]
      rfl
  | succ k ih =>
    intro j n h
    rw [show k + 1 + j = (k + j) + 1 by omega]
    simp only [word]
    rw [ih j _ (rest_bound h)]
    rfl
theorem weight_append (a b : List Int) : weight (a ++ b) = weight a + weight b := by
  induction a with
  | nil => simp [weight]
  | cons x r ih => simp only [List.cons_append, weight, ih]; omega
theorem weight_zeros (j : Nat) : weight (List.replicate j 0) = 0 := by
  induction j with
  | zero => rfl
  | succ j ih => simp [List.replicate_succ, weight, ih]
theorem weight_bound : ∀ {w : List Int}, Trits w → 0 ≤ weight w ∧ weight w ≤ w.length
  | [], _ => ⟨Int.le_refl _, Int.le_refl _⟩
  | a :: r, h => by
    have h1 := h a List.mem_cons_self
    have h2 := weight_bound (w := r) (fun x hx => h x (List.mem_cons_of_mem _ hx))
    simp only [weight, List.length_cons]
    have : a * a = 0 ∨ a * a = 1 := by
      rcases (show a = -1 ∨ a = 0 ∨ a = 1 by omega) with rfl | rfl | rfl <;> simp
    omega
/-- The least number of trits, from j on, below 31; 0 if there is none. -/
def lenFrom (n : Int) : Nat → Nat → Nat
  | 0, _ => 0
  | d + 1, j => if -lim j ≤ n ∧ n ≤ lim j then j else lenFrom n d (j + 1)
def len (n : Int) : Nat := lenFrom n 30 1
theorem lenFrom_spec (n : Int) (d : Nat) : ∀ j, j + d = 31 → (lenFrom n d j = 0 ∧ ∀ i, j ≤ i → i ≤ 30 → ¬ (-lim i ≤ n ∧ n ≤ lim i)) ∨ (j ≤ lenFrom n d j ∧ lenFrom n d j ≤ 30 ∧ (-lim (lenFrom n d j) ≤ n ∧ n ≤ lim (lenFrom n d j))) := by
  induction d with
  | zero => intro j h; exact .inl ⟨rfl, fun i h1 h2 => by omega⟩
  | succ d ih =>
    intro j h
    unfold lenFrom
    by_cases hc : -lim j ≤ n ∧ n ≤ lim j
    · rw [if_pos hc]
      exact .inr ⟨Nat.le_refl _, by omega, hc⟩
    · rw [if_neg hc]
      rcases ih (j + 1) (by omega) with ⟨h1, h2⟩ | ⟨h1, h2, h3⟩
      · refine .inl ⟨h1, fun i hi hi2 => ?_⟩
        by_cases e : i = j
        · subst e; exact hc
        · exact h2 i (by omega) hi2
      · exact .inr ⟨by omega, h2, h3⟩
theorem len_spec {n : Int} (h : -lim 30 ≤ n ∧ n ≤ lim 30) : 1 ≤ len n ∧ len n ≤ 30 ∧ (-lim (len n) ≤ n ∧ n ≤ lim (len n)) := by
  rcases lenFrom_spec n 30 1 rfl with ⟨_, h2⟩ | h2
  · exact absurd h (h2 30 (by omega) (Nat.le_refl _))
  · exact h2
theorem len_zero {n : Int} (h : ¬ (-lim 30 ≤ n ∧ n ≤ lim 30)) : len n = 0 := by
  rcases lenFrom_spec n 30 1 rfl with ⟨h1, _⟩ | ⟨_, h2, h3⟩
  · exact h1
  · have := lim_mono h2
    have h4 := lim_nonneg (lenFrom n 30 1)
    exact absurd (show -lim 30 ≤ n ∧ n ≤ lim 30 by omega) h
end Go.Proofs.Ytgiehdhnhkmjfaa.Plain
-- Laid by xprint.py (wip/tools): printed contracts, and hand-written ones between them.
namespace Go.Proofs.Ytgiehdhnhkmjfaa.X
open Go.RowKit Go.Proofs.YtgiehdhnhkmjfaaW.PrintWords Go.Proofs.YtgiehdhnhkmjfaaW.PrintLast Go.Proofs.YtgiehdhnhkmjfaaW.PrintMore
attribute [local go_sem] max2_int min2_int max_two min_two max_three min_three max_four min_four   -- for this text's walks alone
set_option linter.unusedVariables false
set_option linter.unusedSimpArgs false

/-! ### spec_ValueOf: function 24 -/
def spec_ValueOf.f (k : Nat) (l0 : List Int) : Option (Int) := (spec_IsWord.f k l0).bind fun t25001 => (if t25001 = true then ((spec_l2Value.f k l0).bind fun t25002 => (some t25002)) else (some 0))
theorem spec_ValueOf.mono : ∀ a0 k, LeO (spec_ValueOf.f k a0) (spec_ValueOf.f (k + 1) a0) := by
  intro a0 k
  unfold spec_ValueOf.f
  repeat' first
      | (with_reducible exact spec_IsWord.mono _ _)
      | (with_reducible exact spec_l2Value.mono _ _)
      | (with_reducible exact LeO.refl _)
      | (with_reducible exact LeO.none _)
      | (with_reducible refine LeO.ite ?_ ?_)
      | (with_reducible refine LeO.bind ?_ (fun _ => ?_))
      | exact spec_IsWord.mono _ _
      | exact spec_l2Value.mono _ _
      | exact LeO.none _
      | refine LeO.ite ?_ ?_
      | refine LeO.bind ?_ (fun _ => ?_)
set_option maxHeartbeats 8000000 in
set_option maxRecDepth 100000 in
theorem spec_ValueOf.calls (k : Nat) (A0 : Option Addr) (c0 : Nat) (l0 : List Int) (r : Int) (w : World) (hr0 : Kd.C (Kd.int .i64) w A0 l0.length l0) (hc0 : l0.length ≤ c0) (h : spec_ValueOf.f k l0 = some r) :
    Calls Try.prog 24 #[.slice A0 l0.length c0] w fun e w' => e = .returned (.int .i64 r) ∧ Drawn0 w w' := by
  have HR0 := Aside0.mk hr0
  have HC0 := Aside0.mk hc0
  clear hr0 hc0
  have H : ((spec_IsWord.f k l0).bind fun t25001 => (if t25001 = true then ((spec_l2Value.f k l0).bind fun t25002 => (some t25002)) else (some 0))) = some r := h
  clear h
  replace H := Option.bind_eq_some_iff.mp H
  obtain ⟨t25001, A20, H⟩ := H
  replace H : (if t25001 = true then ((spec_l2Value.f k l0).bind fun t25002 => (some t25002)) else (some 0)) = some r := H
  have A2 := Aside0.mk A20
  clear A20
  by_cases c3 : t25001 = true
  · subst c3
    have H1 : ((spec_l2Value.f k l0).bind fun t25002 => (some t25002)) = some r := by rw [if_pos rfl] at H; exact H
    clear H
    have H := H1
    clear H1
    replace H := Option.bind_eq_some_iff.mp H
    obtain ⟨t25002, A40, H⟩ := H
    replace H : (some t25002) = some r := H
    have A4 := Aside0.mk A40
    clear A40
    obtain rfl := Option.some.inj H
    go_enter Try.func24, Try.ntmps24
    go_wp2_with (first | ((with_reducible refine gate_callee (f := 60) rfl ?_); refine goesL_ (some 4) rfl rfl Try.func60 (by kernel_rfl) rfl #[.slice A0 l0.length c0] rfl (by (try simp only [List.map_toArray, List.map_cons, List.map_nil]); first | done | rfl | (simp only [List.length_drop, List.length_take]; rfl)) ?_; (with_reducible refine (spec_IsWord.calls k _ _ l0 true _ ?side1 ?side2 A2.out).mono ?_); (case side1 => repeat (first | exact HR0.out | (with_reducible refine Kd.C_alloc ?_ _) | (with_reducible refine Kd.C_drewN ?_ _) | (with_reducible refine Kd.C_drew ?_))); (case side2 => exact HC0.out); rintro e w' ⟨rfl, ⟨nd, rfl⟩⟩; refine ⟨_, rfl, ?_⟩) | ((with_reducible refine gate_callee (f := 61) rfl ?_); refine goesL_ (some 7) rfl rfl Try.func61 (by kernel_rfl) rfl #[.slice A0 l0.length c0] rfl (by (try simp only [List.map_toArray, List.map_cons, List.map_nil]); first | done | rfl | (simp only [List.length_drop, List.length_take]; rfl)) ?_; (with_reducible refine (spec_l2Value.calls k _ _ l0 t25002 _ ?side1 ?side2 A4.out).mono ?_); (case side1 => repeat (first | exact HR0.out | (with_reducible refine Kd.C_alloc ?_ _) | (with_reducible refine Kd.C_drewN ?_ _) | (with_reducible refine Kd.C_drew ?_))); (case side2 => exact HC0.out); rintro e w' ⟨rfl, ⟨nd, rfl⟩⟩; refine ⟨_, rfl, ?_⟩))
    go_ret
    exact ⟨by first | rfl | (simp; done) | (simp [*]; done), by repeat (first | exact Drawn0.refl _ | apply Drawn0.step)⟩
  · replace c3 := Bool.eq_false_iff.mpr c3
    subst c3
    have H1 : (some 0) = some r := by rw [if_neg (show ¬ (false = true) by decide)] at H; exact H
    clear H
    have H := H1
    clear H1
    obtain rfl := Option.some.inj H
    go_enter Try.func24, Try.ntmps24
    go_wp2_with (first | ((with_reducible refine gate_callee (f := 60) rfl ?_); refine goesL_ (some 4) rfl rfl Try.func60 (by kernel_rfl) rfl #[.slice A0 l0.length c0] rfl (by (try simp only [List.map_toArray, List.map_cons, List.map_nil]); first | done | rfl | (simp only [List.length_drop, List.length_take]; rfl)) ?_; (with_reducible refine (spec_IsWord.calls k _ _ l0 false _ ?side1 ?side2 A2.out).mono ?_); (case side1 => repeat (first | exact HR0.out | (with_reducible refine Kd.C_alloc ?_ _) | (with_reducible refine Kd.C_drewN ?_ _) | (with_reducible refine Kd.C_drew ?_))); (case side2 => exact HC0.out); rintro e w' ⟨rfl, ⟨nd, rfl⟩⟩; refine ⟨_, rfl, ?_⟩))
    go_ret
    exact ⟨by first | rfl | (simp; done) | (simp [*]; done), by repeat (first | exact Drawn0.refl _ | apply Drawn0.step)⟩

end Go.Proofs.Ytgiehdhnhkmjfaa.X
-- Laid by xprint.py (wip/tools): printed contracts, and hand-written ones between them.
namespace Go.Proofs.Ytgiehdhnhkmjfaa.X
open Go.RowKit Go.Proofs.YtgiehdhnhkmjfaaW.PrintWords Go.Proofs.YtgiehdhnhkmjfaaW.PrintLast Go.Proofs.YtgiehdhnhkmjfaaW.PrintMore
attribute [local go_sem] max2_int min2_int max_two min_two max_three min_three max_four min_four   -- for this text's walks alone
set_option linter.unusedVariables false
set_option linter.unusedSimpArgs false

/-! ### spec_WordOf: function 29 -/
def spec_WordOf.f (k : Nat) (a0 : Int) (a1 : Int) : Option (List Int × Bool) := (spec_l1In.f a1 1 30).bind fun t30001 => (if t30001 = true then ((spec_LimitOf.f k a1).bind fun t30002 => ((spec_l1In.f a0 (wrap64 (-t30002)) t30002).bind fun t30003 => (if t30003 = true then ((spec_l2Word.f k a0 a1).bind fun t30004 => (some (t30004, true))) else (some (([] : List Int), false))))) else (some (([] : List Int), false)))
theorem spec_WordOf.mono : ∀ a0 a1 k, LeO (spec_WordOf.f k a0 a1) (spec_WordOf.f (k + 1) a0 a1) := by
  intro a0 a1 k
  unfold spec_WordOf.f
  repeat' first
      | (with_reducible exact spec_LimitOf.mono _ _)
      | (with_reducible exact spec_l2Word.mono _ _ _)
      | (with_reducible exact LeO.refl _)
      | (with_reducible exact LeO.none _)
      | (with_reducible refine LeO.ite ?_ ?_)
      | (with_reducible refine LeO.bind ?_ (fun _ => ?_))
      | exact spec_LimitOf.mono _ _
      | exact spec_l2Word.mono _ _ _
      | exact LeO.none _
      | refine LeO.ite ?_ ?_
      | refine LeO.bind ?_ (fun _ => ?_)
set_option maxHeartbeats 8000000 in
set_option maxRecDepth 100000 in
theorem spec_WordOf.calls (k : Nat) (a0 : Int) (a1 : Int) (r1 : List Int) (r2 : Bool) (w : World) (h : spec_WordOf.f k a0 a1 = some (r1, r2)) :
    Calls Try.prog 29 #[.int .i64 a0, .int .i64 a1] w fun e w' => ∃ v0_ : Value, e = .returned (.tuple #[v0_, .bool r2]) ∧ Kd.R (Kd.int .i64) 3 w' w.heap.size (fun _ => True) v0_ r1 ∧ Below w.heap.size w w' := by
  have HB := Aside0.mk (Below.refl w.heap.size w)
  have H : ((spec_l1In.f a1 1 30).bind fun t30001 => (if t30001 = true then ((spec_LimitOf.f k a1).bind fun t30002 => ((spec_l1In.f a0 (wrap64 (-t30002)) t30002).bind fun t30003 => (if t30003 = true then ((spec_l2Word.f k a0 a1).bind fun t30004 => (some (t30004, true))) else (some (([] : List Int), false))))) else (some (([] : List Int), false)))) = some (r1, r2) := h
  clear h
  replace H := Option.bind_eq_some_iff.mp H
  obtain ⟨t30001, A30, H⟩ := H
  replace H : (if t30001 = true then ((spec_LimitOf.f k a1).bind fun t30002 => ((spec_l1In.f a0 (wrap64 (-t30002)) t30002).bind fun t30003 => (if t30003 = true then ((spec_l2Word.f k a0 a1).bind fun t30004 => (some (t30004, true))) else (some (([] : List Int), false))))) else (some (([] : List Int), false))) = some (r1, r2) := H
  have A3 := Aside0.mk A30
  clear A30
  by_cases c4 : t30001 = true
  · subst c4
    have H1 : ((spec_LimitOf.f k a1).bind fun t30002 => ((spec_l1In.f a0 (wrap64 (-t30002)) t30002).bind fun t30003 => (if t30003 = true then ((spec_l2Word.f k a0 a1).bind fun t30004 => (some (t30004, true))) else (some (([] : List Int), false))))) = some (r1, r2) := by rw [if_pos rfl] at H; exact H
    clear H
    have H := H1
    clear H1
    replace H := Option.bind_eq_some_iff.mp H
    obtain ⟨t30002, A50, H⟩ := H
    replace H : ((spec_l1In.f a0 (wrap64 (-t30002)) t30002).bind fun t30003 => (if t30003 = true then ((spec_l2Word.f k a0 a1).bind fun t30004 => (some (t30004, true))) else (some (([] : List Int), false)))) = some (r1, r2) := H
    have A5 := Aside0.mk A50
    clear A50
    replace H := Option.bind_eq_some_iff.mp H
    obtain ⟨t30003, A60, H⟩ := H
    replace H : (if t30003 = true then ((spec_l2Word.f k a0 a1).bind fun t30004 => (some (t30004, true))) else (some (([] : List Int), false))) = some (r1, r2) := H
    have A6 := Aside0.mk A60
    clear A60
    by_cases c7 : t30003 = true
    · subst c7
      have H1 : ((spec_l2Word.f k a0 a1).bind fun t30004 => (some (t30004, true))) = some (r1, r2) := by rw [if_pos rfl] at H; exact H
      clear H
      have H := H1
      clear H1
      replace H := Option.bind_eq_some_iff.mp H
      obtain ⟨t30004, A80, H⟩ := H
      replace H : (some (t30004, true)) = some (r1, r2) := H
      have A8 := Aside0.mk A80
      clear A80
      simp only [Option.some.injEq, Prod.mk.injEq] at H
      obtain ⟨rfl, rfl⟩ := H
      go_enter Try.func29, Try.ntmps29
      go_wp2_with (first | ((with_reducible refine gate_callee (f := 70) rfl ?_); refine goesL_ (some 7) rfl rfl Try.func70 (by kernel_rfl) rfl #[.int .i64 a1, .int .i64 1, .int .i64 30] rfl (by (try simp only [List.map_toArray, List.map_cons, List.map_nil]); first | done | rfl | (simp only [List.length_drop, List.length_take]; rfl)) ?_; (with_reducible refine (spec_l1In.calls a1 1 30 true _ A3.out).mono ?_); rintro e w' ⟨rfl, ⟨nd, rfl⟩⟩; refine ⟨_, rfl, ?_⟩) | (go_at_call 71; (with_reducible refine (spec_LimitOf.calls k a1 t30002 _ A5.out).mono ?_); rintro e w' ⟨rfl, ⟨nd, rfl⟩⟩) | (go_at_call 70; (with_reducible refine (spec_l1In.calls a0 (wrap64 (-t30002)) t30002 true _ A6.out).mono ?_); rintro e w' ⟨rfl, ⟨nd, rfl⟩⟩) | ((with_reducible refine gate_callee (f := 72) rfl ?_); refine goesL_ (some 21) rfl rfl Try.func72 (by kernel_rfl) rfl #[.int .i64 a0, .int .i64 a1] rfl (by (try simp only [List.map_toArray, List.map_cons, List.map_nil]); first | done | rfl | (simp only [List.length_drop, List.length_take]; rfl)) ?_; (with_reducible refine (spec_l2Word.calls k a0 a1 t30004 _ A8.out).mono ?_); rintro e w9 ⟨v30005, rfl, ho0, hb⟩; refine ⟨_, rfl, ?_⟩; have n0_ := Aside0.mk (Kd.R_lower ho0 (below_size (by repeat (first | (with_reducible first | exact HB.out | apply below_alloc | apply pw_below_drewN | apply below_drew1) | exact HB.out)))); have n1_ := Aside0.mk (below_step (by repeat (first | (with_reducible first | exact HB.out | apply below_alloc | apply pw_below_drewN | apply below_drew1) | exact HB.out)) hb); clear HB; have HO30006 := n0_; have HB := n1_; clear n0_ n1_; (try clear hb); (try clear hb2); (try clear hk); (try clear hi); (try clear ho0)))
      go_ret2
      exact ⟨_, by first | rfl | (simp [errW_none, errW_some] <;> rfl) | (simp [*, errW_none, errW_some] <;> rfl), by (with_reducible repeat (first | apply Kd.R_alloc | apply Kd.R_drewN | apply Kd.R_drew)); exact HO30006.out, by repeat (first | (with_reducible first | exact HB.out | apply below_alloc | apply pw_below_drewN | apply below_drew1) | exact HB.out)⟩
    · replace c7 := Bool.eq_false_iff.mpr c7
      subst c7
      have H1 : (some (([] : List Int), false)) = some (r1, r2) := by rw [if_neg (show ¬ (false = true) by decide)] at H; exact H
      clear H
      have H := H1
      clear H1
      simp only [Option.some.injEq, Prod.mk.injEq] at H
      obtain ⟨rfl, rfl⟩ := H
      go_enter Try.func29, Try.ntmps29
      go_wp2_with (first | ((with_reducible refine gate_callee (f := 70) rfl ?_); refine goesL_ (some 7) rfl rfl Try.func70 (by kernel_rfl) rfl #[.int .i64 a1, .int .i64 1, .int .i64 30] rfl (by (try simp only [List.map_toArray, List.map_cons, List.map_nil]); first | done | rfl | (simp only [List.length_drop, List.length_take]; rfl)) ?_; (with_reducible refine (spec_l1In.calls a1 1 30 true _ A3.out).mono ?_); rintro e w' ⟨rfl, ⟨nd, rfl⟩⟩; refine ⟨_, rfl, ?_⟩) | (go_at_call 71; (with_reducible refine (spec_LimitOf.calls k a1 t30002 _ A5.out).mono ?_); rintro e w' ⟨rfl, ⟨nd, rfl⟩⟩) | (go_at_call 70; (with_reducible refine (spec_l1In.calls a0 (wrap64 (-t30002)) t30002 false _ A6.out).mono ?_); rintro e w' ⟨rfl, ⟨nd, rfl⟩⟩))
      go_ret2
      exact ⟨_, by first | rfl | (simp [errW_none, errW_some] <;> rfl) | (simp [*, errW_none, errW_some] <;> rfl), by first | exact Kd.R_nil _ _ _ _ _ | exact Kd.N_nil _ _ _ _ _ | exact Kd.V_nil _ _ _ _ _ | exact Kd.Q_nil _ _ _ _ _ | exact Kd.S_nil _ _ _ _ _, by repeat (first | (with_reducible first | exact HB.out | apply below_alloc | apply pw_below_drewN | apply below_drew1) | exact HB.out)⟩
  · replace c4 := Bool.eq_false_iff.mpr c4
    subst c4
    have H1 : (some (([] : List Int), false)) = some (r1, r2) := by rw [if_neg (show ¬ (false = true) by decide)] at H; exact H
    clear H
    have H := H1
    clear H1
    simp only [Option.some.injEq, Prod.mk.injEq] at H
    obtain ⟨rfl, rfl⟩ := H
    go_enter Try.func29, Try.ntmps29
    go_wp2_with (first | ((with_reducible refine gate_callee (f := 70) rfl ?_); refine goesL_ (some 7) rfl rfl Try.func70 (by kernel_rfl) rfl #[.int .i64 a1, .int .i64 1, .int .i64 30] rfl (by (try simp only [List.map_toArray, List.map_cons, List.map_nil]); first | done | rfl | (simp only [List.length_drop, List.length_take]; rfl)) ?_; (with_reducible refine (spec_l1In.calls a1 1 30 false _ A3.out).mono ?_); rintro e w' ⟨rfl, ⟨nd, rfl⟩⟩; refine ⟨_, rfl, ?_⟩))
    go_ret2
    exact ⟨_, by first | rfl | (simp [errW_none, errW_some] <;> rfl) | (simp [*, errW_none, errW_some] <;> rfl), by first | exact Kd.R_nil _ _ _ _ _ | exact Kd.N_nil _ _ _ _ _ | exact Kd.V_nil _ _ _ _ _ | exact Kd.Q_nil _ _ _ _ _ | exact Kd.S_nil _ _ _ _ _, by repeat (first | (with_reducible first | exact HB.out | apply below_alloc | apply pw_below_drewN | apply below_drew1) | exact HB.out)⟩

end Go.Proofs.Ytgiehdhnhkmjfaa.X
