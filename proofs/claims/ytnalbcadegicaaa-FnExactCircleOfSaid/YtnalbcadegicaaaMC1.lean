/- The law FnExactCircleOf over numbers and lists: where there is a circle, both sides are computed. -/
import Derived.Test.YtnalbcadegicaaaMC0
import Init
import Derived.Test.YtnalbcadegicaaaRows
import Derived.WalkKit
import Derived.ProofKit
import Derived.OpenShut
import Derived.ShutString
import Derived.ChangeOld
import Derived.Below
import Derived.SizedLaws
-- Laid by xprint.py (wip/tools): printed contracts, and hand-written ones between them.
namespace Go.Proofs.Ytnalbcadegicaaa.X
open Go.RowKit Go.Proofs.YtnalbcadegicaaaW.PrintWords Go.Proofs.YtnalbcadegicaaaW.PrintLast Go.Proofs.YtnalbcadegicaaaW.PrintMore
attribute [local go_sem] max2_int min2_int max_two min_two max_three min_three max_four min_four   -- for this text's walks alone
set_option linter.unusedVariables false
set_option linter.unusedSimpArgs false

/-! ### spec_l2Copy: function 71 -/
def spec_l2Copy.f (l0 : List Int) : Option (List Int) := (some (([] : List Int) : List Int)).bind fun y72001 => (if y72001.length + l0.length < 17592186044416 then (some (y72001 ++ l0)) else (none))
set_option maxHeartbeats 8000000 in
set_option maxRecDepth 100000 in
theorem spec_l2Copy.calls (A0 : Option Addr) (c0 : Nat) (l0 : List Int) (r : List Int) (w : World) (hr0 : Kd.C (Kd.int .i64) w A0 l0.length l0) (hc0 : l0.length ≤ c0) (h : spec_l2Copy.f l0 = some r) :
    Calls Try.prog 71 #[.slice A0 l0.length c0] w fun e w' => ∃ v0_ : Value, e = .returned (v0_) ∧ Kd.R (Kd.int .i64) 3 w' w.heap.size (fun _ => True) v0_ r ∧ Below w.heap.size w w' := by
  have HR0 := Aside0.mk hr0
  have HC0 := Aside0.mk hc0
  clear hr0 hc0
  have HB := Aside0.mk (Below.refl w.heap.size w)
  have H : ((some (([] : List Int) : List Int)).bind fun y72001 => (if y72001.length + l0.length < 17592186044416 then (some (y72001 ++ l0)) else (none))) = some r := h
  clear h
  obtain ⟨y72001, hy72001⟩ : ∃ y_ : List Int, y_ = (([] : List Int)) := ⟨_, rfl⟩
  replace H : (if y72001.length + l0.length < 17592186044416 then (some (y72001 ++ l0)) else (none)) = some r := by first | (rw [hy72001]; with_reducible exact H) | (have H2_ := (Option.bind_some _ _).symm.trans H; rw [hy72001]; with_reducible exact H2_) | (have H2_ := (Option.bind_some _ _).symm.trans H; with_reducible exact H2_) | with_reducible exact H | (rw [hy72001]; exact H) | exact H
  have Ny72001 := Aside0.mk hy72001
  clear hy72001
  by_cases c2 : y72001.length + l0.length < 17592186044416
  · rw [if_pos c2] at H
    have LMc2 := Aside0.mk c2
    clear c2
    obtain ⟨y72004, hy72004⟩ : ∃ y_ : List Int, y_ = (y72001 ++ l0) := ⟨_, rfl⟩
    replace H : (some y72004) = some r := by first | (rw [hy72004]; with_reducible exact H) | (have H2_ := (Option.bind_some _ _).symm.trans H; rw [hy72004]; with_reducible exact H2_) | (have H2_ := (Option.bind_some _ _).symm.trans H; with_reducible exact H2_) | with_reducible exact H | (rw [hy72004]; exact H) | exact H
    have Ny72004 := Aside0.mk hy72004
    clear hy72004
    obtain rfl := Option.some.inj H
    go_enter Try.func71, Try.ntmps71
    go_wp2_with (first | ((with_reducible refine gate_dst (N := 3) rfl ?_); refine Kd.R_lit (Kd.int .i64) _ 3 ?hg (N := 3) ?hd (xs := ([] : List Int)) (inner := []) (ok := fun _ => True) (okp := fun _ => True) ?hr ?hp (fun _ hk => hk) trivial (Below.refl _ _) (Nat.le_refl _) (by simp) ?_; (case hd => rfl); (case hg => rfl); (case hr => first | (go_simp; done) | (go_simp; rfl)); (case hp => exact (Reps.none _ _)); intro v72002 w3 ho4 hb hg_ hnew_; clear hg_ hnew_; (first | rw [← Ny72001.out] at ho4 | (simp only [Int.reduceToNat] at ho4; rw [← Ny72001.out] at ho4)); have n0_ := Aside0.mk (Kd.R_lower ho4 (below_size (by repeat (first | (with_reducible first | exact HB.out | apply below_alloc | apply pw_below_drewN | apply below_drew1) | exact HB.out)))); have n1_ := Aside0.mk (below_step (by repeat (first | (with_reducible first | exact HB.out | apply below_alloc | apply pw_below_drewN | apply below_drew1) | exact HB.out)) hb); clear HB; have HO72003 := n0_; have HB := n1_; clear n0_ n1_; clear hb ho4) | ((with_reducible refine gate_builtin (b := .append) (xs := #[.tmp 3, .tmp 4]) rfl ?_); at_builtin; refine Kd.R_append_rows (Kd.int .i64) (w0 := w) w.heap.size rfl (.tmp 3) (.tmp 4) 27 3 (.int .i64 0) 8 rfl Try.underlying27 info3 rfl (by decide) (by omega) v72002 y72001 l0 _ _ _ (fun _ => True) (fun _ => False) rfl rfl ?aO ?aR (fun _ _ h => h) (fun _ h => h.elim) ?aF ?aB ?aS ?aL ?_; (case aR => repeat (first | exact (Kd.C_below HR0.out HB.out) | (with_reducible refine Kd.C_alloc ?_ _) | (with_reducible refine Kd.C_drewN ?_ _) | (with_reducible refine Kd.C_drew ?_))); (case aB => exact (by repeat (first | (with_reducible first | exact HB.out | apply below_alloc | apply pw_below_drewN | apply below_drew1) | exact HB.out))); (case aF => exact (fun _ _ => trivial)); (case aO => exact (by (with_reducible repeat (first | apply Kd.R_alloc | apply Kd.R_drewN | apply Kd.R_drew)); exact HO72003.out)); (case aS => exact (below_size (by repeat (first | (with_reducible first | exact HB.out | apply below_alloc | apply pw_below_drewN | apply below_drew1) | exact HB.out)))); (case aL => have := LMc2.out; omega); intro v72005 w5 ho hb hg hat; rw [← Ny72004.out] at ho; have n0_ := Aside0.mk (hb); have n1_ := Aside0.mk (ho); clear HB; clear HO72003; have HB := n0_; have HO72006 := n1_; clear n0_ n1_; clear ho hb hg hat))
    go_ret
    exact ⟨_, by first | rfl | (simp [errW_none, errW_some] <;> rfl) | (simp [*, errW_none, errW_some] <;> rfl), by (with_reducible repeat (first | apply Kd.R_alloc | apply Kd.R_drewN | apply Kd.R_drew)); exact HO72006.out, by repeat (first | (with_reducible first | exact HB.out | apply below_alloc | apply pw_below_drewN | apply below_drew1) | exact HB.out)⟩
  · rw [if_neg c2] at H
    exact absurd H (by simp)

end Go.Proofs.Ytnalbcadegicaaa.X
-- Laid by xprint.py (wip/tools): printed contracts, and hand-written ones between them.
namespace Go.Proofs.Ytnalbcadegicaaa.X
open Go.RowKit Go.Proofs.YtnalbcadegicaaaW.PrintWords Go.Proofs.YtnalbcadegicaaaW.PrintLast Go.Proofs.YtnalbcadegicaaaW.PrintMore
attribute [local go_sem] max2_int min2_int max_two min_two max_three min_three max_four min_four   -- for this text's walks alone
set_option linter.unusedVariables false
set_option linter.unusedSimpArgs false

/-! ### spec_LyndonWords: function 35 -/
def spec_LyndonWords.l0 : Nat → Int → List (List Int) → List Int → Option ((List (List Int)) × Bool)
  | 0, _, _, _ => none
  | k + 1, x0, x4, x5 => if (x5.length : Int) > 0 then (if (x5.length : Int) = 0 then (none) else (if (Int.tmod x0 (x5.length : Int)) = 0 then ((spec_l2Copy.f x5).bind fun t36008 => (if x4.length < 5864062014805 then ((spec_l9Next.f k x5 x0).bind fun t36014 => (spec_LyndonWords.l0 k x0 (x4 ++ [t36008]) t36014)) else (none))) else ((spec_l9Next.f k x5 x0).bind fun t36017 => (spec_LyndonWords.l0 k x0 x4 t36017)))) else (some (x4, true))
def spec_LyndonWords.f (k : Nat) (a0 : Int) : Option ((List (List Int)) × Bool) := (spec_l1In.f a0 1 7).bind fun t36001 => (if t36001 = true then (spec_LyndonWords.l0 k a0 (([] : List (List Int))) (([(-1)] : List Int))) else (some (([] : List (List Int)), false)))
theorem spec_LyndonWords.mono_l : ∀ k, (∀ y0 y1 y2, LeO (spec_LyndonWords.l0 k y0 y1 y2) (spec_LyndonWords.l0 (k + 1) y0 y1 y2))
  | 0 => fun _ _ _ r h => by simp [spec_LyndonWords.l0] at h
  | k + 1 => by
    have ih0 := spec_LyndonWords.mono_l k
    · intro y0 y1 y2
      unfold spec_LyndonWords.l0
      repeat' first
      | (with_reducible exact ih0 _ _ _)
      | (with_reducible exact spec_l9Next.mono _ _ _)
      | (with_reducible exact LeO.refl _)
      | (with_reducible exact LeO.none _)
      | (with_reducible refine LeO.ite ?_ ?_)
      | (with_reducible refine LeO.bind ?_ (fun _ => ?_))
      | exact ih0 _ _ _
      | exact spec_l9Next.mono _ _ _
      | exact LeO.none _
      | refine LeO.ite ?_ ?_
      | refine LeO.bind ?_ (fun _ => ?_)
theorem spec_LyndonWords.mono : ∀ a0 k, LeO (spec_LyndonWords.f k a0) (spec_LyndonWords.f (k + 1) a0) := by
  intro a0 k
  have ih0 := spec_LyndonWords.mono_l k
  unfold spec_LyndonWords.f
  repeat' first
      | (with_reducible exact ih0 _ _ _)
      | (with_reducible exact spec_l9Next.mono _ _ _)
      | (with_reducible exact LeO.refl _)
      | (with_reducible exact LeO.none _)
      | (with_reducible refine LeO.ite ?_ ?_)
      | (with_reducible refine LeO.bind ?_ (fun _ => ?_))
      | exact ih0 _ _ _
      | exact spec_l9Next.mono _ _ _
      | exact LeO.none _
      | refine LeO.ite ?_ ?_
      | refine LeO.bind ?_ (fun _ => ?_)
set_option maxHeartbeats 8000000 in
set_option maxRecDepth 100000 in
theorem spec_LyndonWords.calls (k : Nat) (a0 : Int) (r1 : List (List Int)) (r2 : Bool) (w : World) (h : spec_LyndonWords.f k a0 = some (r1, r2)) :
    Calls Try.prog 35 #[.int .i64 a0] w fun e w' => ∃ v0_ : Value, e = .returned (.tuple #[v0_, .bool r2]) ∧ Kd.S (Kd.slice 3 (Kd.int .i64)) 27 w' w.heap.size (fun _ => True) v0_ r1 ∧ Below w.heap.size w w' := by
  have HB := Aside0.mk (Below.refl w.heap.size w)
  have H : ((spec_l1In.f a0 1 7).bind fun t36001 => (if t36001 = true then (spec_LyndonWords.l0 k a0 (([] : List (List Int))) (([(-1)] : List Int))) else (some (([] : List (List Int)), false)))) = some (r1, r2) := h
  clear h
  replace H := Option.bind_eq_some_iff.mp H
  obtain ⟨t36001, A20, H⟩ := H
  replace H : (if t36001 = true then (spec_LyndonWords.l0 k a0 (([] : List (List Int))) (([(-1)] : List Int))) else (some (([] : List (List Int)), false))) = some (r1, r2) := H
  have A2 := Aside0.mk A20
  clear A20
  by_cases c3 : t36001 = true
  · subst c3
    have H1 : (spec_LyndonWords.l0 k a0 (([] : List (List Int))) (([(-1)] : List Int))) = some (r1, r2) := by rw [if_pos rfl] at H; exact H
    clear H
    have H := H1
    clear H1
    obtain ⟨y36002, hy36002⟩ : ∃ y_ : List (List Int), y_ = (([] : List (List Int))) := ⟨_, rfl⟩
    replace H : (spec_LyndonWords.l0 k a0 y36002 (([(-1)] : List Int))) = some (r1, r2) := by first | (rw [hy36002]; with_reducible exact H) | (have H2_ := (Option.bind_some _ _).symm.trans H; rw [hy36002]; with_reducible exact H2_) | (have H2_ := (Option.bind_some _ _).symm.trans H; with_reducible exact H2_) | with_reducible exact H | (rw [hy36002]; exact H) | exact H
    have Ny36002 := Aside0.mk hy36002
    clear hy36002
    obtain ⟨y36005, hy36005⟩ : ∃ y_ : List Int, y_ = (([(-1)] : List Int)) := ⟨_, rfl⟩
    replace H : (spec_LyndonWords.l0 k a0 y36002 y36005) = some (r1, r2) := by first | (rw [hy36005]; with_reducible exact H) | (have H2_ := (Option.bind_some _ _).symm.trans H; rw [hy36005]; with_reducible exact H2_) | (have H2_ := (Option.bind_some _ _).symm.trans H; with_reducible exact H2_) | with_reducible exact H | (rw [hy36005]; exact H) | exact H
    have Ny36005 := Aside0.mk hy36005
    clear hy36005
    have H' := Aside0.mk H
    clear H
    go_enter Try.func35, Try.ntmps35
    go_wp2_with (first | ((with_reducible refine gate_callee (f := 53) rfl ?_); refine goesL_ (some 7) rfl rfl Try.func53 (by kernel_rfl) rfl #[.int .i64 a0, .int .i64 1, .int .i64 7] rfl (by (try simp only [List.map_toArray, List.map_cons, List.map_nil]); first | done | rfl | (simp only [List.length_drop, List.length_take]; rfl)) ?_; (with_reducible refine (spec_l1In.calls a0 1 7 true _ A2.out).mono ?_); rintro e w' ⟨rfl, ⟨nd, rfl⟩⟩; refine ⟨_, rfl, ?_⟩) | ((with_reducible refine gate_dst (N := 9) rfl ?_); refine Kd.S_lit (Kd.slice 3 (Kd.int .i64)) _ 27 ?hg (N := 9) ?hd (xs := ([] : List (List Int))) (inner := []) (ok := fun _ => True) (okp := fun _ => True) ?hr ?hp (fun _ hk => hk) trivial (Below.refl _ _) (Nat.le_refl _) (by simp) ?_; (case hd => rfl); (case hg => rfl); (case hr => first | (go_simp; done) | (go_simp; rfl)); (case hp => exact (Reps.none _ _)); intro v36003 w4 ho5 hb hg_ hnew_; clear hg_ hnew_; (first | rw [← Ny36002.out] at ho5 | (simp only [Int.reduceToNat] at ho5; rw [← Ny36002.out] at ho5)); have n0_ := Aside0.mk (Kd.S_lower ho5 (below_size (by repeat (first | (with_reducible first | exact HB.out | apply below_alloc | apply pw_below_drewN | apply below_drew1) | exact HB.out)))); have n1_ := Aside0.mk (below_step (by repeat (first | (with_reducible first | exact HB.out | apply below_alloc | apply pw_below_drewN | apply below_drew1) | exact HB.out)) hb); clear HB; have HO36004 := n0_; have HB := n1_; clear n0_ n1_; clear hb ho5) | ((with_reducible refine gate_dst (N := 10) rfl ?_); refine Kd.R_lit (Kd.int .i64) _ 3 ?hg (N := 10) ?hd (xs := ([(-1)] : List Int)) (inner := [.int .i64 (-1)]) (ok := fun _ => True) (okp := fun _ => True) ?hr ?hp (fun _ hk => hk) trivial (Below.refl _ _) (Nat.le_refl _) (by simp) ?_; (case hd => rfl); (case hg => rfl); (case hr => first | (go_simp; done) | (go_simp; rfl)); (case hp => exact (Reps.one (show Kd.M (Kd.int .i64) _ _ _ (-1) [.int .i64 (-1)] from rfl) (Reps.none _ _))); intro v36006 w6 ho7 hb hg_ hnew_; clear hg_ hnew_; (first | rw [← Ny36005.out] at ho7 | (simp only [Int.reduceToNat] at ho7; rw [← Ny36005.out] at ho7)); have n0_ := Aside0.mk (Kd.S_elder' (by (with_reducible repeat (first | apply Kd.S_alloc | apply Kd.S_drewN | apply Kd.S_drew)); exact HO36004.out) (Kd.R_base ho7) hb); have n1_ := Aside0.mk (Kd.R_lower ho7 (below_size (by repeat (first | (with_reducible first | exact HB.out | apply below_alloc | apply pw_below_drewN | apply below_drew1) | exact HB.out)))); have n2_ := Aside0.mk (below_step (by repeat (first | (with_reducible first | exact HB.out | apply below_alloc | apply pw_below_drewN | apply below_drew1) | exact HB.out)) hb); clear HO36004; clear HB; have HO36004 := n0_; have HO36007 := n1_; have HB := n2_; clear n0_ n1_ n2_; clear hb ho7))
    go_loopg [4, 5] k (fun kq v4 v5 w' => ∃ (x4_1 : List (List Int)) (x5_1 : List Int), Aside0 (spec_LyndonWords.l0 kq a0 x4_1 x5_1 = some (r1, r2)) ∧ Aside0 (kq ≤ k) ∧ Aside0 (Kd.S (Kd.slice 3 (Kd.int .i64)) 27 w' w.heap.size (fun k_ => some k_ ≠ (v5 : Value).ownBlock) v4 x4_1) ∧ Aside0 (Kd.R (Kd.int .i64) 3 w' w.heap.size (fun _ => True) v5 x5_1) ∧ Aside0 (Below w.heap.size w w'))
    case atStart => exact ⟨(y36002), (y36005), H', ⟨Nat.le_refl _⟩, ⟨by (with_reducible repeat (first | apply Kd.S_alloc | apply Kd.S_drewN | apply Kd.S_drew)); exact Kd.S_mono HO36004.out (fun _ hk => hk.2)⟩, ⟨by (with_reducible repeat (first | apply Kd.R_alloc | apply Kd.R_drewN | apply Kd.R_drew)); exact HO36007.out⟩, ⟨by repeat (first | (with_reducible first | exact HB.out | apply below_alloc | apply pw_below_drewN | apply below_drew1) | exact HB.out)⟩⟩
    case round =>
      clear H'
      try clear p2
      try clear c3
      try clear c5
      obtain ⟨x4_1, x5_1, HA, HK1, HO_4, HO_5, HB⟩ := hrel
      cases gk with
      | zero => exact absurd HA.out (by simp [spec_LyndonWords.l0])
      | succ k1 =>
        have H := HA.out
        clear HA
        simp only [spec_LyndonWords.l0] at H
        by_cases c8 : (x5_1.length : Int) > 0
        · rw [if_pos c8] at H
          have c8b0 : decide (0 < (x5_1.length : Int)) = true := decide_eq_true c8
          have c8b1 : decide (0 < x5_1.length) = true := decide_eq_true (by omega)
          clear c8
          by_cases c9 : (x5_1.length : Int) = 0
          · rw [if_pos c9] at H
            exact absurd H (by simp)
          · rw [if_neg c9] at H
            have c9b0 : ((x5_1.length : Int) == 0) = false := beq_eq_false_iff_ne.mpr c9
            have c9b1 : ((x5_1.length : Int) != 0) = true := bne_iff_ne.mpr c9
            have c9b2 : ¬ (x5_1 = []) := fun h_ => c9 (by rw [h_]; rfl)
            by_cases c10 : (Int.tmod a0 (x5_1.length : Int)) = 0
            · rw [if_pos c10] at H
              have c10b0 : ((Int.tmod a0 (x5_1.length : Int)) == 0) = true := beq_iff_eq.mpr c10
              have c10b1 : ((Int.tmod a0 (x5_1.length : Int)) != 0) = false := bne_eq_false_iff_eq.mpr c10
              clear c10
              replace H := Option.bind_eq_some_iff.mp H
              obtain ⟨t36008, A110, H⟩ := H
              replace H : (if x4_1.length < 5864062014805 then ((spec_l9Next.f k1 x5_1 a0).bind fun t36014 => (spec_LyndonWords.l0 k1 a0 (x4_1 ++ [t36008]) t36014)) else (none)) = some (r1, r2) := H
              have A11 := Aside0.mk A110
              clear A110
              by_cases c12 : x4_1.length < 5864062014805
              · rw [if_pos c12] at H
                have LMc12 := Aside0.mk c12
                clear c12
                obtain ⟨y36011, hy36011⟩ : ∃ y_ : List (List Int), y_ = (x4_1 ++ [t36008]) := ⟨_, rfl⟩
                replace H : ((spec_l9Next.f k1 x5_1 a0).bind fun t36014 => (spec_LyndonWords.l0 k1 a0 y36011 t36014)) = some (r1, r2) := by first | (rw [hy36011]; with_reducible exact H) | (have H2_ := (Option.bind_some _ _).symm.trans H; rw [hy36011]; with_reducible exact H2_) | (have H2_ := (Option.bind_some _ _).symm.trans H; with_reducible exact H2_) | with_reducible exact H | (rw [hy36011]; exact H) | exact H
                have Ny36011 := Aside0.mk hy36011
                clear hy36011
                replace H := Option.bind_eq_some_iff.mp H
                obtain ⟨t36014, A130, H⟩ := H
                replace H : (spec_LyndonWords.l0 k1 a0 y36011 t36014) = some (r1, r2) := H
                have A13 := Aside0.mk A130
                clear A130
                have H' := Aside0.mk H
                clear H
                obtain ⟨Ao14, co14, eo14⟩ := Kd.R_slice HO_5.out
                subst eo14
                go_wp2_with (first | ((with_reducible refine gate_callee (f := 71) rfl ?_); refine goesL_ (some 24) rfl rfl Try.func71 (by kernel_rfl) rfl #[.slice Ao14 x5_1.length co14] rfl (by (try simp only [List.map_toArray, List.map_cons, List.map_nil]); first | done | rfl | (simp only [List.length_drop, List.length_take]; rfl)) ?_; (with_reducible refine (spec_l2Copy.calls _ _ x5_1 t36008 _ ?side1 ?side2 A11.out).mono ?_); (case side1 => repeat (first | exact (Kd.R_reads' HO_5.out).2.2 | (with_reducible refine Kd.C_alloc ?_ _) | (with_reducible refine Kd.C_drewN ?_ _) | (with_reducible refine Kd.C_drew ?_))); (case side2 => exact (Kd.R_reads' HO_5.out).2.1); rintro e w15 ⟨v36009, rfl, ho0, hb⟩; refine ⟨_, rfl, ?_⟩; have n0_ := Aside0.mk (Kd.S_elder' (by (with_reducible repeat (first | apply Kd.S_alloc | apply Kd.S_drewN | apply Kd.S_drew)); exact HO_4.out) (Kd.R_base ho0) hb); have n1_ := Aside0.mk (Kd.R_elder' (by (with_reducible repeat (first | apply Kd.R_alloc | apply Kd.R_drewN | apply Kd.R_drew)); exact HO_5.out) (Kd.R_base ho0) hb); have n2_ := Aside0.mk (Kd.R_lower (Kd.R_new' ho0 (Kd.R_lt (by (with_reducible repeat (first | apply Kd.R_alloc | apply Kd.R_drewN | apply Kd.R_drew)); exact HO_5.out))) (below_size (by repeat (first | (with_reducible first | exact HB.out | apply below_alloc | apply pw_below_drewN | apply below_drew1) | exact HB.out)))); have n3_ := Aside0.mk (below_step (by repeat (first | (with_reducible first | exact HB.out | apply below_alloc | apply pw_below_drewN | apply below_drew1) | exact HB.out)) hb); clear HO_4; clear HO_5; clear HB; have HO_4 := n0_; have HO_5 := n1_; have HO36010 := n2_; have HB := n3_; clear n0_ n1_ n2_ n3_; (try clear hb); (try clear hb2); (try clear hk); (try clear hi); (try clear ho0); obtain ⟨Ao17, co17, eo17⟩ := Kd.R_slice HO36010.out; subst eo17) | ((with_reducible refine gate_builtin (b := .append) (xs := #[.tmp 22, .tmp 25]) rfl ?_); at_builtin; refine Kd.S_append (Kd.slice 3 (Kd.int .i64)) (w0 := w) w.heap.size rfl (.tmp 22) (.tmp 25) 56 27 (.slice none 0 0) 24 rfl Try.underlying56 info27 rfl (by decide) (by omega) u4 x4_1 t36008 [.slice Ao17 t36008.length co17] (fun k_ => some k_ ≠ (.slice Ao14 x5_1.length co14 : Value).ownBlock) (fun k_ => some k_ = (.slice Ao17 t36008.length co17 : Value).ownBlock) rfl rfl ?aP (fun k_ hk_ => ((Kd.R_mono (ok' := fun k_ => ((fun k_ => some k_ ≠ (.slice Ao14 x5_1.length co14 : Value).ownBlock)) k_ ∧ some k_ ≠ (u4 : Value).ownBlock) (Kd.R_apart' (HO36010.out) (Kd.S_typed HO_4.out) (by decide)) (fun k_ hk => ⟨hk.1.2, hk.2⟩))).1 k_ hk_.symm) ?aF ?aO ?aB ?aS ?aL ?_; (case aP => exact Kd.M_row (Kd.R_mono (Kd.R_tight rfl (Kd.R_mono (ok' := fun k_ => ((fun k_ => some k_ ≠ (.slice Ao14 x5_1.length co14 : Value).ownBlock)) k_ ∧ some k_ ≠ (u4 : Value).ownBlock) (Kd.R_apart' (HO36010.out) (Kd.S_typed HO_4.out) (by decide)) (fun k_ hk => ⟨hk.1.2, hk.2⟩))) (fun _ h_ => h_))); (case aB => exact (by repeat (first | (with_reducible first | exact HB.out | apply below_alloc | apply pw_below_drewN | apply below_drew1) | exact HB.out))); (case aF => exact (fun k_ hk => Kd.fresh' (Kd.R_lt (by (with_reducible repeat (first | apply Kd.R_alloc | apply Kd.R_drewN | apply Kd.R_drew)); exact HO_5.out)) k_ hk)); (case aO => exact (by (with_reducible repeat (first | apply Kd.S_alloc | apply Kd.S_drewN | apply Kd.S_drew)); exact Kd.S_mono HO_4.out (fun k_ hk => ⟨hk.1, fun e_ => hk.2 e_⟩))); (case aS => exact (below_size (by repeat (first | (with_reducible first | exact HB.out | apply below_alloc | apply pw_below_drewN | apply below_drew1) | exact HB.out)))); (case aL => have := LMc12.out; omega); intro v36012 w16 ho hb hg hat; rw [← Ny36011.out] at ho; have n0_ := Aside0.mk (Kd.R_over' (by (with_reducible repeat (first | apply Kd.R_alloc | apply Kd.R_drewN | apply Kd.R_drew)); exact HO_5.out) (Kd.S_typed (by (with_reducible repeat (first | apply Kd.S_alloc | apply Kd.S_drewN | apply Kd.S_drew)); exact HO_4.out)) (by decide) hg); have n1_ := Aside0.mk (hb); have n2_ := Aside0.mk (ho); clear HO_5; clear HB; clear HO_4; clear HO36010; have HO_5 := n0_; have HB := n1_; have HO36013 := n2_; clear n0_ n1_ n2_; clear ho hb hg hat) | ((with_reducible refine gate_callee (f := 70) rfl ?_); refine goesL_ (some 16) rfl rfl Try.func70 (by kernel_rfl) rfl #[.slice Ao14 x5_1.length co14, .int .i64 a0] rfl (by (try simp only [List.map_toArray, List.map_cons, List.map_nil]); first | done | rfl | (simp only [List.length_drop, List.length_take]; rfl)) ?_; (with_reducible refine (spec_l9Next.calls k1 _ _ x5_1 a0 t36014 _ ?side1 ?side2 A13.out).mono ?_); (case side1 => repeat (first | exact (Kd.R_reads' HO_5.out).2.2 | (with_reducible refine Kd.C_alloc ?_ _) | (with_reducible refine Kd.C_drewN ?_ _) | (with_reducible refine Kd.C_drew ?_))); (case side2 => exact (Kd.R_reads' HO_5.out).2.1); rintro e w18 ⟨v36015, rfl, ho0, hb⟩; refine ⟨_, rfl, ?_⟩; have n0_ := Aside0.mk (Kd.R_elder' (by (with_reducible repeat (first | apply Kd.R_alloc | apply Kd.R_drewN | apply Kd.R_drew)); exact HO_5.out) (Kd.R_base ho0) hb); have n1_ := Aside0.mk (Kd.S_elder' (by (with_reducible repeat (first | apply Kd.S_alloc | apply Kd.S_drewN | apply Kd.S_drew)); exact HO36013.out) (Kd.R_base ho0) hb); have n2_ := Aside0.mk (Kd.R_lower (Kd.R_new' ho0 (Kd.R_lt (by (with_reducible repeat (first | apply Kd.R_alloc | apply Kd.R_drewN | apply Kd.R_drew)); exact HO_5.out))) (below_size (by repeat (first | (with_reducible first | exact HB.out | apply below_alloc | apply pw_below_drewN | apply below_drew1) | exact HB.out)))); have n3_ := Aside0.mk (below_step (by repeat (first | (with_reducible first | exact HB.out | apply below_alloc | apply pw_below_drewN | apply below_drew1) | exact HB.out)) hb); clear HO_5; clear HO36013; clear HB; have HO_5 := n0_; have HO36013 := n1_; have HO36016 := n2_; have HB := n3_; clear n0_ n1_ n2_ n3_; (try clear hb); (try clear hb2); (try clear hk); (try clear hi); (try clear ho0)))
                go_roundg k1
                case measure => have := HK1.out; omega
                case rel => exact ⟨(y36011), (t36014), H', ⟨by have := HK1.out; omega⟩, ⟨by (with_reducible repeat (first | apply Kd.S_alloc | apply Kd.S_drewN | apply Kd.S_drew)); exact Kd.S_mono HO36013.out (fun _ hk => hk.2)⟩, ⟨by (with_reducible repeat (first | apply Kd.R_alloc | apply Kd.R_drewN | apply Kd.R_drew)); exact Kd.R_mono HO36016.out (fun _ hk => trivial)⟩, ⟨by repeat (first | (with_reducible first | exact HB.out | apply below_alloc | apply pw_below_drewN | apply below_drew1) | exact HB.out)⟩⟩
              · rw [if_neg c12] at H
                exact absurd H (by simp)
            · rw [if_neg c10] at H
              have c10b0 : ((Int.tmod a0 (x5_1.length : Int)) == 0) = false := beq_eq_false_iff_ne.mpr c10
              have c10b1 : ((Int.tmod a0 (x5_1.length : Int)) != 0) = true := bne_iff_ne.mpr c10
              replace H := Option.bind_eq_some_iff.mp H
              obtain ⟨t36017, A190, H⟩ := H
              replace H : (spec_LyndonWords.l0 k1 a0 x4_1 t36017) = some (r1, r2) := H
              have A19 := Aside0.mk A190
              clear A190
              have H' := Aside0.mk H
              clear H
              obtain ⟨Ao20, co20, eo20⟩ := Kd.R_slice HO_5.out
              subst eo20
              go_wp2_with (first | ((with_reducible refine gate_callee (f := 70) rfl ?_); refine goesL_ (some 16) rfl rfl Try.func70 (by kernel_rfl) rfl #[.slice Ao20 x5_1.length co20, .int .i64 a0] rfl (by (try simp only [List.map_toArray, List.map_cons, List.map_nil]); first | done | rfl | (simp only [List.length_drop, List.length_take]; rfl)) ?_; (with_reducible refine (spec_l9Next.calls k1 _ _ x5_1 a0 t36017 _ ?side1 ?side2 A19.out).mono ?_); (case side1 => repeat (first | exact (Kd.R_reads' HO_5.out).2.2 | (with_reducible refine Kd.C_alloc ?_ _) | (with_reducible refine Kd.C_drewN ?_ _) | (with_reducible refine Kd.C_drew ?_))); (case side2 => exact (Kd.R_reads' HO_5.out).2.1); rintro e w21 ⟨v36018, rfl, ho0, hb⟩; refine ⟨_, rfl, ?_⟩; have n0_ := Aside0.mk (Kd.S_elder' (by (with_reducible repeat (first | apply Kd.S_alloc | apply Kd.S_drewN | apply Kd.S_drew)); exact HO_4.out) (Kd.R_base ho0) hb); have n1_ := Aside0.mk (Kd.R_elder' (by (with_reducible repeat (first | apply Kd.R_alloc | apply Kd.R_drewN | apply Kd.R_drew)); exact HO_5.out) (Kd.R_base ho0) hb); have n2_ := Aside0.mk (Kd.R_lower (Kd.R_new' ho0 (Kd.R_lt (by (with_reducible repeat (first | apply Kd.R_alloc | apply Kd.R_drewN | apply Kd.R_drew)); exact HO_5.out))) (below_size (by repeat (first | (with_reducible first | exact HB.out | apply below_alloc | apply pw_below_drewN | apply below_drew1) | exact HB.out)))); have n3_ := Aside0.mk (below_step (by repeat (first | (with_reducible first | exact HB.out | apply below_alloc | apply pw_below_drewN | apply below_drew1) | exact HB.out)) hb); clear HO_4; clear HO_5; clear HB; have HO_4 := n0_; have HO_5 := n1_; have HO36019 := n2_; have HB := n3_; clear n0_ n1_ n2_ n3_; (try clear hb); (try clear hb2); (try clear hk); (try clear hi); (try clear ho0)))
              go_roundg k1
              case measure => have := HK1.out; omega
              case rel => exact ⟨(x4_1), (t36017), H', ⟨by have := HK1.out; omega⟩, ⟨by (with_reducible repeat (first | apply Kd.S_alloc | apply Kd.S_drewN | apply Kd.S_drew)); exact Kd.S_mono HO_4.out (fun _ hk => hk.2)⟩, ⟨by (with_reducible repeat (first | apply Kd.R_alloc | apply Kd.R_drewN | apply Kd.R_drew)); exact Kd.R_mono HO36019.out (fun _ hk => trivial)⟩, ⟨by repeat (first | (with_reducible first | exact HB.out | apply below_alloc | apply pw_below_drewN | apply below_drew1) | exact HB.out)⟩⟩
        · rw [if_neg c8] at H
          have c8b0 : decide (0 < (x5_1.length : Int)) = false := decide_eq_false c8
          have c8b1 : decide (0 < x5_1.length) = false := decide_eq_false (by omega)
          clear c8
          simp only [Option.some.injEq, Prod.mk.injEq] at H
          obtain ⟨rfl, rfl⟩ := H
          obtain ⟨Ao22, co22, eo22⟩ := Kd.R_slice HO_5.out
          subst eo22
          go_wp2
          go_ret2
          exact ⟨_, by first | rfl | (simp [errW_none, errW_some] <;> rfl) | (simp [*, errW_none, errW_some] <;> rfl), by (with_reducible repeat (first | apply Kd.S_alloc | apply Kd.S_drewN | apply Kd.S_drew)); exact Kd.S_mono HO_4.out (fun _ hk => trivial), by repeat (first | (with_reducible first | exact HB.out | apply below_alloc | apply pw_below_drewN | apply below_drew1) | exact HB.out)⟩
  · replace c3 := Bool.eq_false_iff.mpr c3
    subst c3
    have H1 : (some (([] : List (List Int)), false)) = some (r1, r2) := by rw [if_neg (show ¬ (false = true) by decide)] at H; exact H
    clear H
    have H := H1
    clear H1
    simp only [Option.some.injEq, Prod.mk.injEq] at H
    obtain ⟨rfl, rfl⟩ := H
    go_enter Try.func35, Try.ntmps35
    go_wp2_with (first | ((with_reducible refine gate_callee (f := 53) rfl ?_); refine goesL_ (some 7) rfl rfl Try.func53 (by kernel_rfl) rfl #[.int .i64 a0, .int .i64 1, .int .i64 7] rfl (by (try simp only [List.map_toArray, List.map_cons, List.map_nil]); first | done | rfl | (simp only [List.length_drop, List.length_take]; rfl)) ?_; (with_reducible refine (spec_l1In.calls a0 1 7 false _ A2.out).mono ?_); rintro e w' ⟨rfl, ⟨nd, rfl⟩⟩; refine ⟨_, rfl, ?_⟩))
    go_ret2
    exact ⟨_, by first | rfl | (simp [errW_none, errW_some] <;> rfl) | (simp [*, errW_none, errW_some] <;> rfl), by first | exact Kd.S_nil _ _ _ _ _ | exact Kd.N_nil _ _ _ _ _ | exact Kd.V_nil _ _ _ _ _ | exact Kd.Q_nil _ _ _ _ _ | exact Kd.R_nil _ _ _ _ _, by repeat (first | (with_reducible first | exact HB.out | apply below_alloc | apply pw_below_drewN | apply below_drew1) | exact HB.out)⟩

end Go.Proofs.Ytnalbcadegicaaa.X
-- Laid by xprint.py (wip/tools): printed contracts, and hand-written ones between them.
namespace Go.Proofs.Ytnalbcadegicaaa.X
open Go.RowKit Go.Proofs.YtnalbcadegicaaaW.PrintWords Go.Proofs.YtnalbcadegicaaaW.PrintLast Go.Proofs.YtnalbcadegicaaaW.PrintMore
attribute [local go_sem] max2_int min2_int max_two min_two max_three min_three max_four min_four   -- for this text's walks alone
set_option linter.unusedVariables false
set_option linter.unusedSimpArgs false

/-! ### spec_CircleOf: function 31 -/
def spec_CircleOf.l0 : Nat → Bool → List Int → List (List Int) → Int → Int → Option (List Int × Bool)
  | 0, _, _, _, _, _ => none
  | k + 1, x5, x6, x15, x16, x17 => if x17 < x16 then (if 0 ≤ x17 then (if x17 < (x15.length : Int) then (if x6.length + (rd_L10 x15 x17).length < 17592186044416 then (spec_CircleOf.l0 k x5 (x6 ++ (rd_L10 x15 x17)) x15 x16 (wrap64 (x17 + 1))) else (none)) else (none)) else (none)) else (some (x6, x5))
def spec_CircleOf.f (k : Nat) (a0 : Int) : Option (List Int × Bool) := (spec_LyndonWords.f k a0).bind fun bt32001 => (spec_CircleOf.l0 k bt32001.2 (([] : List Int)) bt32001.1 (bt32001.1.length : Int) 0)
theorem spec_CircleOf.mono_l : ∀ k, (∀ y0 y1 y2 y3 y4, LeO (spec_CircleOf.l0 k y0 y1 y2 y3 y4) (spec_CircleOf.l0 (k + 1) y0 y1 y2 y3 y4))
  | 0 => fun _ _ _ _ _ r h => by simp [spec_CircleOf.l0] at h
  | k + 1 => by
    have ih0 := spec_CircleOf.mono_l k
    · intro y0 y1 y2 y3 y4
      unfold spec_CircleOf.l0
      repeat' first
      | (with_reducible exact ih0 _ _ _ _ _)
      | (with_reducible exact spec_LyndonWords.mono _ _)
      | (with_reducible exact LeO.refl _)
      | (with_reducible exact LeO.none _)
      | (with_reducible refine LeO.ite ?_ ?_)
      | (with_reducible refine LeO.bind ?_ (fun _ => ?_))
      | exact ih0 _ _ _ _ _
      | exact spec_LyndonWords.mono _ _
      | exact LeO.none _
      | refine LeO.ite ?_ ?_
      | refine LeO.bind ?_ (fun _ => ?_)
theorem spec_CircleOf.mono : ∀ a0 k, LeO (spec_CircleOf.f k a0) (spec_CircleOf.f (k + 1) a0) := by
  intro a0 k
  have ih0 := spec_CircleOf.mono_l k
  unfold spec_CircleOf.f
  repeat' first
      | (with_reducible exact ih0 _ _ _ _ _)
      | (with_reducible exact spec_LyndonWords.mono _ _)
      | (with_reducible exact LeO.refl _)
      | (with_reducible exact LeO.none _)
      | (with_reducible refine LeO.ite ?_ ?_)
      | (with_reducible refine LeO.bind ?_ (fun _ => ?_))
      | exact ih0 _ _ _ _ _
      | exact spec_LyndonWords.mono _ _
      | exact LeO.none _
      | refine LeO.ite ?_ ?_
      | refine LeO.bind ?_ (fun _ => ?_)
set_option maxHeartbeats 8000000 in
set_option maxRecDepth 100000 in
theorem spec_CircleOf.calls (k : Nat) (a0 : Int) (r1 : List Int) (r2 : Bool) (w : World) (h : spec_CircleOf.f k a0 = some (r1, r2)) :
    Calls Try.prog 31 #[.int .i64 a0] w fun e w' => ∃ v0_ : Value, e = .returned (.tuple #[v0_, .bool r2]) ∧ Kd.R (Kd.int .i64) 3 w' w.heap.size (fun _ => True) v0_ r1 ∧ Below w.heap.size w w' := by
  have HB := Aside0.mk (Below.refl w.heap.size w)
  have H : ((spec_LyndonWords.f k a0).bind fun bt32001 => (spec_CircleOf.l0 k bt32001.2 (([] : List Int)) bt32001.1 (bt32001.1.length : Int) 0)) = some (r1, r2) := h
  clear h
  replace H := Option.bind_eq_some_iff.mp H
  obtain ⟨⟨t32001, t32002⟩, A20, H⟩ := H
  replace H : (spec_CircleOf.l0 k t32002 (([] : List Int)) t32001 (t32001.length : Int) 0) = some (r1, r2) := H
  have A2 := Aside0.mk A20
  clear A20
  obtain ⟨y32005, hy32005⟩ : ∃ y_ : List Int, y_ = (([] : List Int)) := ⟨_, rfl⟩
  replace H : (spec_CircleOf.l0 k t32002 y32005 t32001 (t32001.length : Int) 0) = some (r1, r2) := by first | (rw [hy32005]; with_reducible exact H) | (have H2_ := (Option.bind_some _ _).symm.trans H; rw [hy32005]; with_reducible exact H2_) | (have H2_ := (Option.bind_some _ _).symm.trans H; with_reducible exact H2_) | with_reducible exact H | (rw [hy32005]; exact H) | exact H
  have Ny32005 := Aside0.mk hy32005
  clear hy32005
  have H' := Aside0.mk H
  clear H
  go_enter Try.func31, Try.ntmps31
  go_wp2_with (first | ((with_reducible refine gate_callee (f := 35) rfl ?_); refine goesL_ (some 11) rfl rfl Try.func35 (by kernel_rfl) rfl #[.int .i64 a0] rfl (by (try simp only [List.map_toArray, List.map_cons, List.map_nil]); first | done | rfl | (simp only [List.length_drop, List.length_take]; rfl)) ?_; (with_reducible refine (spec_LyndonWords.calls k a0 t32001 t32002 _ A2.out).mono ?_); rintro e w3 ⟨v32003, rfl, ho0, hb⟩; refine ⟨_, rfl, ?_⟩; have n0_ := Aside0.mk (Kd.S_lower ho0 (below_size (by repeat (first | (with_reducible first | exact HB.out | apply below_alloc | apply pw_below_drewN | apply below_drew1) | exact HB.out)))); have n1_ := Aside0.mk (below_step (by repeat (first | (with_reducible first | exact HB.out | apply below_alloc | apply pw_below_drewN | apply below_drew1) | exact HB.out)) hb); clear HB; have HO32004 := n0_; have HB := n1_; clear n0_ n1_; (try clear hb); (try clear hb2); (try clear hk); (try clear hi); (try clear ho0)) | ((with_reducible refine gate_dst (N := 14) rfl ?_); refine Kd.R_lit (Kd.int .i64) _ 3 ?hg (N := 14) ?hd (xs := ([] : List Int)) (inner := []) (ok := fun _ => True) (okp := fun _ => True) ?hr ?hp (fun _ hk => hk) trivial (Below.refl _ _) (Nat.le_refl _) (by simp) ?_; (case hd => rfl); (case hg => rfl); (case hr => first | (go_simp; done) | (go_simp; rfl)); (case hp => exact (Reps.none _ _)); intro v32006 w4 ho5 hb hg_ hnew_; clear hg_ hnew_; (first | rw [← Ny32005.out] at ho5 | (simp only [Int.reduceToNat] at ho5; rw [← Ny32005.out] at ho5)); have n0_ := Aside0.mk (Kd.S_elder' (by (with_reducible repeat (first | apply Kd.S_alloc | apply Kd.S_drewN | apply Kd.S_drew)); exact HO32004.out) (Kd.R_base ho5) hb); have n1_ := Aside0.mk (Kd.R_lower ho5 (below_size (by repeat (first | (with_reducible first | exact HB.out | apply below_alloc | apply pw_below_drewN | apply below_drew1) | exact HB.out)))); have n2_ := Aside0.mk (below_step (by repeat (first | (with_reducible first | exact HB.out | apply below_alloc | apply pw_below_drewN | apply below_drew1) | exact HB.out)) hb); clear HO32004; clear HB; have HO32004 := n0_; have HO32007 := n1_; have HB := n2_; clear n0_ n1_ n2_; clear hb ho5; obtain ⟨Ao6, co6, eo6⟩ := Kd.S_slice HO32004.out; subst eo6))
  go_loopg [6, 17] k (fun kq v6 v17 w' => ∃ (x6_1 : List Int) (x17_1 : Int), v17 = .int .i64 x17_1 ∧ Aside0 (spec_CircleOf.l0 kq t32002 x6_1 t32001 (t32001.length : Int) x17_1 = some (r1, r2)) ∧ Aside0 (kq ≤ k) ∧ Aside0 (Kd.R (Kd.int .i64) 3 w' w.heap.size (fun _ => True) v6 x6_1) ∧ Aside0 (Kd.S (Kd.slice 3 (Kd.int .i64)) 27 w' w.heap.size (fun k_ => some k_ ≠ (v6 : Value).ownBlock) (.slice Ao6 t32001.length co6) t32001) ∧ Aside0 (Below w.heap.size w w'))
  case atStart => exact ⟨(y32005), (0), (by first | rfl | (simp; done) | (simp [*]; done)), H', ⟨Nat.le_refl _⟩, ⟨by (with_reducible repeat (first | apply Kd.R_alloc | apply Kd.R_drewN | apply Kd.R_drew)); exact HO32007.out⟩, ⟨by (with_reducible repeat (first | apply Kd.S_alloc | apply Kd.S_drewN | apply Kd.S_drew)); exact Kd.S_mono HO32004.out (fun _ hk => hk.2)⟩, ⟨by repeat (first | (with_reducible first | exact HB.out | apply below_alloc | apply pw_below_drewN | apply below_drew1) | exact HB.out)⟩⟩
  case round =>
    clear H'
    try clear p2
    try clear c3
    obtain ⟨x6_1, x17_1, rfl, HA, HK1, HO_6, HO_15, HB⟩ := hrel
    cases gk with
    | zero => exact absurd HA.out (by simp [spec_CircleOf.l0])
    | succ k1 =>
      have H := HA.out
      clear HA
      simp only [spec_CircleOf.l0] at H
      by_cases c7 : x17_1 < (t32001.length : Int)
      · rw [if_pos c7] at H
        have c7b0 : decide (x17_1 < (t32001.length : Int)) = true := decide_eq_true c7
        clear c7
        by_cases c8 : 0 ≤ x17_1
        · rw [if_pos c8] at H
          have c8b0 : decide (0 ≤ x17_1) = true := decide_eq_true c8
          clear c8
          by_cases c9 : x17_1 < (t32001.length : Int)
          · rw [if_pos c9] at H
            have c9b0 : decide (x17_1 < (t32001.length : Int)) = true := decide_eq_true c9
            clear c9
            by_cases c10 : x6_1.length + (rd_L10 t32001 x17_1).length < 17592186044416
            · rw [if_pos c10] at H
              have LMc10 := Aside0.mk c10
              clear c10
              obtain ⟨y32009, hy32009⟩ : ∃ y_ : List Int, y_ = (x6_1 ++ (rd_L10 t32001 x17_1)) := ⟨_, rfl⟩
              replace H : (spec_CircleOf.l0 k1 t32002 y32009 t32001 (t32001.length : Int) (wrap64 (x17_1 + 1))) = some (r1, r2) := by first | (rw [hy32009]; with_reducible exact H) | (have H2_ := (Option.bind_some _ _).symm.trans H; rw [hy32009]; with_reducible exact H2_) | (have H2_ := (Option.bind_some _ _).symm.trans H; with_reducible exact H2_) | with_reducible exact H | (rw [hy32009]; exact H) | exact H
              have Ny32009 := Aside0.mk hy32009
              clear hy32009
              have H' := Aside0.mk H
              clear H
              have p32008 : 0 ≤ (x17_1 : Int) := of_decide_eq_true (by first | (with_reducible assumption) | assumption)
              have q32008 : x17_1 < (t32001.length : Int) := of_decide_eq_true (by first | (with_reducible assumption) | assumption)
              obtain ⟨ad32008, A32008_0, c32008_0, e32008, hx32008_0, hl32008_0, hi32008_0⟩ := at_L10 (Kd.S_reads' HO_15.out).2.2 x17_1 p32008 q32008
              cases e32008
              obtain ⟨ce32008, hce32008, hMe32008, hcc32008⟩ := Kd.S_get HO_15.out [] x17_1 p32008 (by first | exact q32008 | exact of_decide_eq_true (by first | (with_reducible assumption) | assumption) | (have e_ := (Kd.S_reads' HO_15.out).1; omega))
              obtain ⟨ve32008_0, rfl, ge32008_0⟩ := hMe32008
              have hv32008_0 := hcc32008 0 _ rfl
              rw [Nat.add_zero, show ((Kd.slice 3 (Kd.int .i64))).sz = 1 from rfl, Nat.mul_one] at hv32008_0
              replace hv32008_0 := Option.some.inj (hv32008_0.symm.trans hx32008_0)
              rw [hv32008_0] at ge32008_0
              have HL32008_0 := Aside0.mk (show Kd.R (Kd.int .i64) 3 _ _ _ _ (rd_L10 t32001 x17_1) from ge32008_0)
              clear hv32008_0 ge32008_0
              clear hcc32008 hce32008
              have HR32008_0 := Aside0.mk hi32008_0
              have HC32008_0 := Aside0.mk hl32008_0
              clear hi32008_0 hl32008_0
              replace p32008 := eq_true p32008
              replace q32008 := eq_true q32008
              go_wp2_with (first | ((with_reducible refine gate_builtin (b := .append) (xs := #[.tmp 21, .tmp 22]) rfl ?_); at_builtin; refine Kd.R_append_rows (Kd.int .i64) (w0 := w) w.heap.size rfl (.tmp 21) (.tmp 22) 27 3 (.int .i64 0) 8 rfl Try.underlying27 info3 rfl (by decide) (by omega) u6 x6_1 (rd_L10 t32001 x17_1) _ _ _ (fun _ => True) (fun _ => False) rfl rfl ?aO ?aR (fun _ _ h => h) (fun _ h => h.elim) ?aF ?aB ?aS ?aL ?_; (case aR => repeat (first | exact (by repeat (first | (with_reducible exact HR32008_0.out) | (with_reducible refine Kd.C_alloc ?_ _) | (with_reducible refine Kd.C_drewN ?_ _) | (with_reducible refine Kd.C_drew ?_) | exact HR32008_0.out)) | (with_reducible refine Kd.C_alloc ?_ _) | (with_reducible refine Kd.C_drewN ?_ _) | (with_reducible refine Kd.C_drew ?_))); (case aB => exact (by repeat (first | (with_reducible first | exact HB.out | apply below_alloc | apply pw_below_drewN | apply below_drew1) | exact HB.out))); (case aF => exact (fun _ _ => trivial)); (case aO => exact (by (with_reducible repeat (first | apply Kd.R_alloc | apply Kd.R_drewN | apply Kd.R_drew)); exact HO_6.out)); (case aS => exact (below_size (by repeat (first | (with_reducible first | exact HB.out | apply below_alloc | apply pw_below_drewN | apply below_drew1) | exact HB.out)))); (case aL => have := LMc10.out; omega); intro v32010 w11 ho hb hg hat; rw [← Ny32009.out] at ho; have n0_ := Aside0.mk (Kd.S_after (ok := (fun _ => True)) (by (with_reducible repeat (first | apply Kd.S_alloc | apply Kd.S_drewN | apply Kd.S_drew)); exact Kd.S_mono HO_15.out (fun _ hk => ⟨trivial, hk⟩)) hg hat); have n1_ := Aside0.mk (Kd.R_after (ok := (fun k_ => some k_ ≠ (.slice (some ad32008) t32001.length co6 : Value).ownBlock)) (by (with_reducible repeat (first | apply Kd.R_alloc | apply Kd.R_drewN | apply Kd.R_drew)); exact Kd.R_mono HL32008_0.out (fun _ hk => ⟨hk.2, hk.1⟩)) hg hat); have n2_ := Aside0.mk (hb); have n3_ := Aside0.mk (ho); clear HO_15; clear HL32008_0; clear HB; clear HO_6; have HO_15 := n0_; have HL32008_0 := n1_; have HB := n2_; have HO32011 := n3_; clear n0_ n1_ n2_ n3_; clear ho hb hg hat))
              go_roundg k1
              case measure => have := HK1.out; omega
              case rel => exact ⟨(y32009), (wrap64 (x17_1 + 1)), (by first | rfl | (simp; done) | (simp [*]; done)), H', ⟨by have := HK1.out; omega⟩, ⟨by (with_reducible repeat (first | apply Kd.R_alloc | apply Kd.R_drewN | apply Kd.R_drew)); exact HO32011.out⟩, ⟨by (with_reducible repeat (first | apply Kd.S_alloc | apply Kd.S_drewN | apply Kd.S_drew)); exact Kd.S_mono HO_15.out (fun _ hk => hk.2)⟩, ⟨by repeat (first | (with_reducible first | exact HB.out | apply below_alloc | apply pw_below_drewN | apply below_drew1) | exact HB.out)⟩⟩
            · rw [if_neg c10] at H
              exact absurd H (by simp)
          · rw [if_neg c9] at H
            exact absurd H (by simp)
        · rw [if_neg c8] at H
          exact absurd H (by simp)
      · rw [if_neg c7] at H
        have c7b0 : decide (x17_1 < (t32001.length : Int)) = false := decide_eq_false c7
        clear c7
        simp only [Option.some.injEq, Prod.mk.injEq] at H
        obtain ⟨rfl, rfl⟩ := H
        go_wp2
        go_ret2
        exact ⟨_, by first | rfl | (simp [errW_none, errW_some] <;> rfl) | (simp [*, errW_none, errW_some] <;> rfl), by (with_reducible repeat (first | apply Kd.R_alloc | apply Kd.R_drewN | apply Kd.R_drew)); exact HO_6.out, by repeat (first | (with_reducible first | exact HB.out | apply below_alloc | apply pw_below_drewN | apply below_drew1) | exact HB.out)⟩

end Go.Proofs.Ytnalbcadegicaaa.X
-- Laid by xprint.py (wip/tools): printed contracts, and hand-written ones between them.
namespace Go.Proofs.Ytnalbcadegicaaa.X
open Go.RowKit Go.Proofs.YtnalbcadegicaaaW.PrintWords Go.Proofs.YtnalbcadegicaaaW.PrintLast Go.Proofs.YtnalbcadegicaaaW.PrintMore
attribute [local go_sem] max2_int min2_int max_two min_two max_three min_three max_four min_four   -- for this text's walks alone
set_option linter.unusedVariables false
set_option linter.unusedSimpArgs false

/-! ### laws_eqIntS: function 32 -/
def laws_eqIntS.l0 : Nat → List Int → List Int → Int → Option (Bool)
  | 0, _, _, _ => none
  | k + 1, x0, x1, x5 => if x5 < (x0.length : Int) then (if 0 ≤ x5 then (if x5 < (x1.length : Int) then (if (rd x0 x5) = (rd x1 x5) then (laws_eqIntS.l0 k x0 x1 (wrap64 (x5 + 1))) else (some false)) else (none)) else (none)) else (some true)
def laws_eqIntS.f (k : Nat) (l0 : List Int) (l1 : List Int) : Option (Bool) := if (l0.length : Int) = (l1.length : Int) then (laws_eqIntS.l0 k l0 l1 0) else (some false)
theorem laws_eqIntS.mono_l : ∀ k, (∀ y0 y1 y2, LeO (laws_eqIntS.l0 k y0 y1 y2) (laws_eqIntS.l0 (k + 1) y0 y1 y2))
  | 0 => fun _ _ _ r h => by simp [laws_eqIntS.l0] at h
  | k + 1 => by
    have ih0 := laws_eqIntS.mono_l k
    · intro y0 y1 y2
      unfold laws_eqIntS.l0
      repeat' first
      | (with_reducible exact ih0 _ _ _)
      | (with_reducible exact LeO.refl _)
      | (with_reducible exact LeO.none _)
      | (with_reducible refine LeO.ite ?_ ?_)
      | (with_reducible refine LeO.bind ?_ (fun _ => ?_))
      | exact ih0 _ _ _
      | exact LeO.none _
      | refine LeO.ite ?_ ?_
      | refine LeO.bind ?_ (fun _ => ?_)
theorem laws_eqIntS.mono : ∀ a0 a1 k, LeO (laws_eqIntS.f k a0 a1) (laws_eqIntS.f (k + 1) a0 a1) := by
  intro a0 a1 k
  have ih0 := laws_eqIntS.mono_l k
  unfold laws_eqIntS.f
  repeat' first
      | (with_reducible exact ih0 _ _ _)
      | (with_reducible exact LeO.refl _)
      | (with_reducible exact LeO.none _)
      | (with_reducible refine LeO.ite ?_ ?_)
      | (with_reducible refine LeO.bind ?_ (fun _ => ?_))
      | exact ih0 _ _ _
      | exact LeO.none _
      | refine LeO.ite ?_ ?_
      | refine LeO.bind ?_ (fun _ => ?_)
set_option maxHeartbeats 8000000 in
set_option maxRecDepth 100000 in
theorem laws_eqIntS.calls (k : Nat) (A0 : Option Addr) (c0 : Nat) (l0 : List Int) (A1 : Option Addr) (c1 : Nat) (l1 : List Int) (r : Bool) (w : World) (hr0 : Kd.C (Kd.int .i64) w A0 l0.length l0) (hc0 : l0.length ≤ c0) (hr1 : Kd.C (Kd.int .i64) w A1 l1.length l1) (hc1 : l1.length ≤ c1) (h : laws_eqIntS.f k l0 l1 = some r) :
    Calls Try.prog 32 #[.slice A0 l0.length c0, .slice A1 l1.length c1] w fun e w' => e = .returned (.bool r) ∧ Drawn0 w w' := by
  have HR0 := Aside0.mk hr0
  have HC0 := Aside0.mk hc0
  clear hr0 hc0
  have HR1 := Aside0.mk hr1
  have HC1 := Aside0.mk hc1
  clear hr1 hc1
  have H : (if (l0.length : Int) = (l1.length : Int) then (laws_eqIntS.l0 k l0 l1 0) else (some false)) = some r := h
  clear h
  by_cases c3 : (l0.length : Int) = (l1.length : Int)
  · rw [if_pos c3] at H
    have c3b0 : ((l0.length : Int) == (l1.length : Int)) = true := beq_iff_eq.mpr c3
    have c3b1 : ((l0.length : Int) != (l1.length : Int)) = false := bne_eq_false_iff_eq.mpr c3
    have c3b2 : (l0.length == l1.length) = true := by first | simpa using c3 | (simp at c3 ⊢; omega)
    clear c3
    have H' := Aside0.mk H
    clear H
    go_enter Try.func32, Try.ntmps32
    go_wp2
    repeat (go_quiet (fail); try go_wp2)
    go_loopg [5] k (fun kq v5 w' => ∃ (x5_1 : Int), v5 = .int .i64 x5_1 ∧ Aside0 (laws_eqIntS.l0 kq l0 l1 x5_1 = some r) ∧ Aside0 (kq ≤ k) ∧ Drawn0 w w')
    case atStart => exact ⟨(0), (by first | rfl | (simp; done) | (simp [*]; done)), H', ⟨Nat.le_refl _⟩, by repeat (first | exact Drawn0.refl _ | apply Drawn0.step)⟩
    case round =>
      clear H'
      try clear c1
      try clear p2
      try clear c3
      try clear c3b0
      try clear c3b1
      try clear c3b2
      obtain ⟨x5_1, rfl, HA, HK1, ⟨m1, rfl⟩⟩ := hrel
      cases gk with
      | zero => exact absurd HA.out (by simp [laws_eqIntS.l0])
      | succ k1 =>
        have H := HA.out
        clear HA
        simp only [laws_eqIntS.l0] at H
        by_cases c4 : x5_1 < (l0.length : Int)
        · rw [if_pos c4] at H
          have c4b0 : decide (x5_1 < (l0.length : Int)) = true := decide_eq_true c4
          clear c4
          by_cases c5 : 0 ≤ x5_1
          · rw [if_pos c5] at H
            have c5b0 : decide (0 ≤ x5_1) = true := decide_eq_true c5
            clear c5
            by_cases c6 : x5_1 < (l1.length : Int)
            · rw [if_pos c6] at H
              have c6b0 : decide (x5_1 < (l1.length : Int)) = true := decide_eq_true c6
              clear c6
              by_cases c7 : (rd l0 x5_1) = (rd l1 x5_1)
              · rw [if_pos c7] at H
                have c7b0 : ((rd l0 x5_1) == (rd l1 x5_1)) = true := beq_iff_eq.mpr c7
                have c7b1 : ((rd l0 x5_1) != (rd l1 x5_1)) = false := bne_eq_false_iff_eq.mpr c7
                clear c7
                have H' := Aside0.mk H
                clear H
                have p33001 : 0 ≤ (x5_1 : Int) := of_decide_eq_true (by first | (with_reducible assumption) | assumption)
                have q33001 : x5_1 < (l0.length : Int) := of_decide_eq_true (by first | (with_reducible assumption) | assumption)
                obtain ⟨ad33001, e33001, hx33001_0⟩ := Kd.at_int HR0.out x5_1 p33001 q33001
                cases e33001
                replace p33001 := eq_true p33001
                replace q33001 := eq_true q33001
                have p33002 : 0 ≤ (x5_1 : Int) := of_decide_eq_true (by first | (with_reducible assumption) | assumption)
                have q33002 : x5_1 < (l1.length : Int) := of_decide_eq_true (by first | (with_reducible assumption) | assumption)
                obtain ⟨ad33002, e33002, hx33002_0⟩ := Kd.at_int HR1.out x5_1 p33002 q33002
                cases e33002
                replace p33002 := eq_true p33002
                replace q33002 := eq_true q33002
                go_wp2
                repeat (go_quiet (fail); try go_wp2)
                go_roundg k1
                case measure => have := HK1.out; omega
                case rel => exact ⟨(wrap64 (x5_1 + 1)), (by first | rfl | (simp; done) | (simp [*]; done)), H', ⟨by have := HK1.out; omega⟩, by repeat (first | exact Drawn0.refl _ | apply Drawn0.step)⟩
              · rw [if_neg c7] at H
                have c7b0 : ((rd l0 x5_1) == (rd l1 x5_1)) = false := beq_eq_false_iff_ne.mpr c7
                have c7b1 : ((rd l0 x5_1) != (rd l1 x5_1)) = true := bne_iff_ne.mpr c7
                obtain rfl := Option.some.inj H
                have p33001 : 0 ≤ (x5_1 : Int) := of_decide_eq_true (by first | (with_reducible assumption) | assumption)
                have q33001 : x5_1 < (l0.length : Int) := of_decide_eq_true (by first | (with_reducible assumption) | assumption)
                obtain ⟨ad33001, e33001, hx33001_0⟩ := Kd.at_int HR0.out x5_1 p33001 q33001
                cases e33001
                replace p33001 := eq_true p33001
                replace q33001 := eq_true q33001
                have p33002 : 0 ≤ (x5_1 : Int) := of_decide_eq_true (by first | (with_reducible assumption) | assumption)
                have q33002 : x5_1 < (l1.length : Int) := of_decide_eq_true (by first | (with_reducible assumption) | assumption)
                obtain ⟨ad33002, e33002, hx33002_0⟩ := Kd.at_int HR1.out x5_1 p33002 q33002
                cases e33002
                replace p33002 := eq_true p33002
                replace q33002 := eq_true q33002
                go_wp2
                repeat (go_quiet (fail); try go_wp2)
                go_ret
                exact ⟨by first | rfl | (simp; done) | (simp [*]; done), by repeat (first | exact Drawn0.refl _ | apply Drawn0.step)⟩
            · rw [if_neg c6] at H
              exact absurd H (by simp)
          · rw [if_neg c5] at H
            exact absurd H (by simp)
        · rw [if_neg c4] at H
          have c4b0 : decide (x5_1 < (l0.length : Int)) = false := decide_eq_false c4
          clear c4
          obtain rfl := Option.some.inj H
          go_wp2
          repeat (go_quiet (fail); try go_wp2)
          go_ret
          exact ⟨by first | rfl | (simp; done) | (simp [*]; done), by repeat (first | exact Drawn0.refl _ | apply Drawn0.step)⟩
  · rw [if_neg c3] at H
    have c3b0 : ((l0.length : Int) == (l1.length : Int)) = false := beq_eq_false_iff_ne.mpr c3
    have c3b1 : ((l0.length : Int) != (l1.length : Int)) = true := bne_iff_ne.mpr c3
    have c3b2 : (l0.length == l1.length) = false := by first | simpa using c3 | (simp at c3 ⊢; omega)
    obtain rfl := Option.some.inj H
    go_enter Try.func32, Try.ntmps32
    go_wp2
    repeat (go_quiet (fail); try go_wp2)
    go_ret
    exact ⟨by first | rfl | (simp; done) | (simp [*]; done), by repeat (first | exact Drawn0.refl _ | apply Drawn0.step)⟩

end Go.Proofs.Ytnalbcadegicaaa.X
-- Laid by xprint.py (wip/tools): printed contracts, and hand-written ones between them.
namespace Go.Proofs.Ytnalbcadegicaaa.X
open Go.RowKit Go.Proofs.YtnalbcadegicaaaW.PrintWords Go.Proofs.YtnalbcadegicaaaW.PrintLast Go.Proofs.YtnalbcadegicaaaW.PrintMore
attribute [local go_sem] max2_int min2_int max_two min_two max_three min_three max_four min_four   -- for this text's walks alone
set_option linter.unusedVariables false
set_option linter.unusedSimpArgs false

/-! ### laws_markIntS: function 33 -/
def laws_markIntS.l0 : Nat → List Int → Int → Int → Option (Int × List Int)
  | 0, _, _, _ => none
  | k + 1, x0, x1, x5 => if x5 < (x0.length : Int) then (if 0 ≤ x5 then (laws_markIntS.l0 k (x0.set (x5 : Int).toNat x1) (wrap64 (x1 + 1)) (wrap64 (x5 + 1))) else (none)) else (some (x1, x0))
def laws_markIntS.f (k : Nat) (l0 : List Int) (a1 : Int) : Option (Int × List Int) := laws_markIntS.l0 k l0 a1 0
theorem laws_markIntS.mono_l : ∀ k, (∀ y0 y1 y2, LeO (laws_markIntS.l0 k y0 y1 y2) (laws_markIntS.l0 (k + 1) y0 y1 y2))
  | 0 => fun _ _ _ r h => by simp [laws_markIntS.l0] at h
  | k + 1 => by
    have ih0 := laws_markIntS.mono_l k
    · intro y0 y1 y2
      unfold laws_markIntS.l0
      repeat' first
      | (with_reducible exact ih0 _ _ _)
      | (with_reducible exact LeO.refl _)
      | (with_reducible exact LeO.none _)
      | (with_reducible refine LeO.ite ?_ ?_)
      | (with_reducible refine LeO.bind ?_ (fun _ => ?_))
      | exact ih0 _ _ _
      | exact LeO.none _
      | refine LeO.ite ?_ ?_
      | refine LeO.bind ?_ (fun _ => ?_)
theorem laws_markIntS.mono : ∀ a0 a1 k, LeO (laws_markIntS.f k a0 a1) (laws_markIntS.f (k + 1) a0 a1) := by
  intro a0 a1 k
  have ih0 := laws_markIntS.mono_l k
  unfold laws_markIntS.f
  repeat' first
      | (with_reducible exact ih0 _ _ _)
      | (with_reducible exact LeO.refl _)
      | (with_reducible exact LeO.none _)
      | (with_reducible refine LeO.ite ?_ ?_)
      | (with_reducible refine LeO.bind ?_ (fun _ => ?_))
      | exact ih0 _ _ _
      | exact LeO.none _
      | refine LeO.ite ?_ ?_
      | refine LeO.bind ?_ (fun _ => ?_)
set_option maxHeartbeats 8000000 in
set_option maxRecDepth 100000 in
theorem laws_markIntS.calls (k : Nat) (P0_ : Nat → Prop) (u9000_ : Value) (l0 : List Int) (a1 : Int) (r1 : Int) (r2 : List Int) (w0 w : World) (hB : Below w0.heap.size w0 w) (ho0 : Kd.R (Kd.int .i64) 3 w w0.heap.size P0_ u9000_ l0) (h : laws_markIntS.f k l0 a1 = some (r1, r2)) :
    Calls Try.prog 33 #[u9000_, .int .i64 a1] w fun e w' => e = .returned (.int .i64 r1) ∧ Kd.R (Kd.int .i64) 3 w' w0.heap.size (fun k_ => (P0_ k_ ∨ w.heap.size ≤ k_)) u9000_ r2 ∧ Below w0.heap.size w0 w' ∧ Kept w w' (fun k_ => P0_ k_) := by
  have HO0 := Aside0.mk (show Kd.R (Kd.int .i64) 3 w w0.heap.size (fun k_ => (P0_ k_ ∨ w.heap.size ≤ k_)) u9000_ l0 from Kd.R_mono ho0 (fun k_ hk => (.inl hk)))
  have HK := Aside0.mk (Kept.refl w (fun k_ => P0_ k_))
  have HW0 := Aside0.mk hB.size
  have HB := Aside0.mk hB
  clear hB
  have H : (laws_markIntS.l0 k l0 a1 0) = some (r1, r2) := h
  clear h
  have H' := Aside0.mk H
  clear H
  go_enter Try.func33, Try.ntmps33
  go_wp2
  go_loopg [1, 5] k (fun kq v1 v5 w' => ∃ (x0_1 : List Int) (x1_1 : Int) (x5_1 : Int), v1 = .int .i64 x1_1 ∧ v5 = .int .i64 x5_1 ∧ Aside0 (laws_markIntS.l0 kq x0_1 x1_1 x5_1 = some (r1, r2)) ∧ Aside0 (kq ≤ k) ∧ Aside0 (Kd.R (Kd.int .i64) 3 w' w0.heap.size (fun k_ => (P0_ k_ ∨ w.heap.size ≤ k_)) u9000_ x0_1) ∧ Aside0 (Kept w w' (fun k_ => P0_ k_)) ∧ Aside0 (Below w0.heap.size w0 w'))
  case atStart => exact ⟨(l0), (a1), (0), (by first | rfl | (simp; done) | (simp [*]; done)), (by first | rfl | (simp; done) | (simp [*]; done)), H', ⟨Nat.le_refl _⟩, ⟨by (with_reducible repeat (first | apply Kd.R_alloc | apply Kd.R_drewN | apply Kd.R_drew)); exact HO0.out⟩, ⟨by repeat (first | (with_reducible first | exact HK.out | apply Kept.alloc | apply Kept.drewN | apply Kept.drew) | exact HK.out)⟩, ⟨by repeat (first | (with_reducible first | exact HB.out | apply below_alloc | apply pw_below_drewN | apply below_drew1) | exact HB.out)⟩⟩
  case round =>
    clear H'
    try clear p2
    obtain ⟨x0_1, x1_1, x5_1, rfl, rfl, HA, HK1, HO_0, HK, HB⟩ := hrel
    cases gk with
    | zero => exact absurd HA.out (by simp [laws_markIntS.l0])
    | succ k1 =>
      have H := HA.out
      clear HA
      simp only [laws_markIntS.l0] at H
      by_cases c3 : x5_1 < (x0_1.length : Int)
      · rw [if_pos c3] at H
        have c3b0 : decide (x5_1 < (x0_1.length : Int)) = true := decide_eq_true c3
        clear c3
        by_cases c4 : 0 ≤ x5_1
        · rw [if_pos c4] at H
          have c4b0 : decide (0 ≤ x5_1) = true := decide_eq_true c4
          clear c4
          obtain ⟨y34001, hy34001⟩ : ∃ y_ : List Int, y_ = (x0_1.set (x5_1 : Int).toNat x1_1) := ⟨_, rfl⟩
          replace H : (laws_markIntS.l0 k1 y34001 (wrap64 (x1_1 + 1)) (wrap64 (x5_1 + 1))) = some (r1, r2) := by first | (rw [hy34001]; with_reducible exact H) | (have H2_ := (Option.bind_some _ _).symm.trans H; rw [hy34001]; with_reducible exact H2_) | (have H2_ := (Option.bind_some _ _).symm.trans H; with_reducible exact H2_) | with_reducible exact H | (rw [hy34001]; exact H) | exact H
          have Ny34001 := Aside0.mk hy34001
          clear hy34001
          have H' := Aside0.mk H
          clear H
          obtain ⟨Ao6, co6, eo6⟩ := Kd.R_slice HO_0.out
          subst eo6
          have p5 : 0 ≤ (x5_1 : Int) := of_decide_eq_true (by first | (with_reducible assumption) | assumption)
          have q5 : (x5_1 : Int) < ((x0_1.length : Int) : Int) := of_decide_eq_true (by first | (with_reducible assumption) | assumption)
          obtain ⟨go5, co5, eo5, gb5, gl5, cl5, HG5⟩ := Kd.R_form HO_0.out (by omega)
          (first | cases eo5 | (injection eo5 with ea_ en_ ec_; (first | subst ea_ | (injection ea_ with ea_; subst ea_)); subst ec_; clear en_))
          have GB5 := Aside0.mk gb5
          have GG5 := Aside0.mk HG5
          clear gb5 gl5 HG5
          have HMgo5 := Aside0.mk (show (P0_ go5 ∨ w.heap.size ≤ go5) from (HO_0.out.1 _ rfl))
          obtain ⟨hx5_0, hf5_0⟩ := Kd.R_celln 0 HO_0.out (x5_1 : Int) p5 q5
          replace p5 := eq_true p5
          replace q5 := eq_true q5
          have HP7 := Kd.R_putg HO_0.out (x5_1 : Int) x1_1
          go_wp2_with (first | ((with_reducible refine gate_store (t := 3) (p := 15) rfl ?_); refine store_event (t := 3) (p := 15) (v := ?vo_w8) (w1 := (wr.setCell ⟨go5, (x5_1 : Int).toNat, none⟩ (.int .i64 x1_1))) ?hg ?ho ?hn ?hr ?_; (case ho => rfl); (case hg => rfl); (case hn => rfl); (case hr => first | (go_simp; done) | (go_simp; rfl)); intro w8 hw; have hg : wr.grownBy w8 (some go5) := (by rw [hw]; exact HP7.2); have hp_ : Kd.R (Kd.int .i64) 3 w8 w0.heap.size (fun k_ => (P0_ k_ ∨ w.heap.size ≤ k_)) (.slice (some ⟨go5, 0, none⟩) x0_1.length co6) y34001 := (by rw [hw, Ny34001.out]; exact HP7.1); clear HP7; have n0_ := Aside0.mk (hp_); have n1_ := Aside0.mk ((by rw [hw]; exact below_set (HB.out) GB5.out : Below w0.heap.size w0 w8)); have n2_ := Aside0.mk (Kept.of_grown (S := (fun k_ => P0_ k_)) hg (by repeat (first | (with_reducible first | exact HK.out | apply Kept.alloc | apply Kept.drewN | apply Kept.drew) | exact HK.out)) (fun k_ e_ => (HO_0.out.1 k_ e_))); clear HO_0; clear HB; clear HK; have HO_0 := n0_; have HB := n1_; have HK := n2_; clear n0_ n1_ n2_; clear hg hw hp_))
          go_roundg k1
          case measure => have := HK1.out; omega
          case rel => exact ⟨(y34001), (wrap64 (x1_1 + 1)), (wrap64 (x5_1 + 1)), (by first | rfl | (simp; done) | (simp [*]; done)), (by first | rfl | (simp; done) | (simp [*]; done)), H', ⟨by have := HK1.out; omega⟩, ⟨by (with_reducible repeat (first | apply Kd.R_alloc | apply Kd.R_drewN | apply Kd.R_drew)); exact HO_0.out⟩, ⟨by repeat (first | (with_reducible first | exact HK.out | apply Kept.alloc | apply Kept.drewN | apply Kept.drew) | exact HK.out)⟩, ⟨by repeat (first | (with_reducible first | exact HB.out | apply below_alloc | apply pw_below_drewN | apply below_drew1) | exact HB.out)⟩⟩
        · rw [if_neg c4] at H
          exact absurd H (by simp)
      · rw [if_neg c3] at H
        have c3b0 : decide (x5_1 < (x0_1.length : Int)) = false := decide_eq_false c3
        clear c3
        simp only [Option.some.injEq, Prod.mk.injEq] at H
        obtain ⟨rfl, rfl⟩ := H
        obtain ⟨Ao9, co9, eo9⟩ := Kd.R_slice HO_0.out
        subst eo9
        go_wp2
        go_ret
        exact ⟨by first | rfl | (simp [errW_none, errW_some] <;> rfl) | (simp [*, errW_none, errW_some] <;> rfl), by (with_reducible repeat (first | apply Kd.R_alloc | apply Kd.R_drewN | apply Kd.R_drew)); exact HO_0.out, by repeat (first | (with_reducible first | exact HB.out | apply below_alloc | apply pw_below_drewN | apply below_drew1) | exact HB.out), by repeat (first | (with_reducible first | exact HK.out | apply Kept.alloc | apply Kept.drewN | apply Kept.drew) | exact HK.out)⟩

end Go.Proofs.Ytnalbcadegicaaa.X
-- Laid by xprint.py (wip/tools): printed contracts, and hand-written ones between them.
namespace Go.Proofs.Ytnalbcadegicaaa.X
open Go.RowKit Go.Proofs.YtnalbcadegicaaaW.PrintWords Go.Proofs.YtnalbcadegicaaaW.PrintLast Go.Proofs.YtnalbcadegicaaaW.PrintMore
attribute [local go_sem] max2_int min2_int max_two min_two max_three min_three max_four min_four   -- for this text's walks alone
set_option linter.unusedVariables false
set_option linter.unusedSimpArgs false

/-! ### laws_heldIntS: function 34 -/
def laws_heldIntS.l0 : Nat → List Int → Int → Int → Option (Int)
  | 0, _, _, _ => none
  | k + 1, x0, x1, x5 => if x5 < (x0.length : Int) then (if 0 ≤ x5 then (if (rd x0 x5) = x1 then (laws_heldIntS.l0 k x0 (wrap64 (x1 + 1)) (wrap64 (x5 + 1))) else (some (-1))) else (none)) else (some x1)
def laws_heldIntS.f (k : Nat) (l0 : List Int) (a1 : Int) : Option (Int) := laws_heldIntS.l0 k l0 a1 0
theorem laws_heldIntS.mono_l : ∀ k, (∀ y0 y1 y2, LeO (laws_heldIntS.l0 k y0 y1 y2) (laws_heldIntS.l0 (k + 1) y0 y1 y2))
  | 0 => fun _ _ _ r h => by simp [laws_heldIntS.l0] at h
  | k + 1 => by
    have ih0 := laws_heldIntS.mono_l k
    · intro y0 y1 y2
      unfold laws_heldIntS.l0
      repeat' first
      | (with_reducible exact ih0 _ _ _)
      | (with_reducible exact LeO.refl _)
      | (with_reducible exact LeO.none _)
      | (with_reducible refine LeO.ite ?_ ?_)
      | (with_reducible refine LeO.bind ?_ (fun _ => ?_))
      | exact ih0 _ _ _
      | exact LeO.none _
      | refine LeO.ite ?_ ?_
      | refine LeO.bind ?_ (fun _ => ?_)
theorem laws_heldIntS.mono : ∀ a0 a1 k, LeO (laws_heldIntS.f k a0 a1) (laws_heldIntS.f (k + 1) a0 a1) := by
  intro a0 a1 k
  have ih0 := laws_heldIntS.mono_l k
  unfold laws_heldIntS.f
  repeat' first
      | (with_reducible exact ih0 _ _ _)
      | (with_reducible exact LeO.refl _)
      | (with_reducible exact LeO.none _)
      | (with_reducible refine LeO.ite ?_ ?_)
      | (with_reducible refine LeO.bind ?_ (fun _ => ?_))
      | exact ih0 _ _ _
      | exact LeO.none _
      | refine LeO.ite ?_ ?_
      | refine LeO.bind ?_ (fun _ => ?_)
set_option maxHeartbeats 8000000 in
set_option maxRecDepth 100000 in
theorem laws_heldIntS.calls (k : Nat) (A0 : Option Addr) (c0 : Nat) (l0 : List Int) (a1 : Int) (r : Int) (w : World) (hr0 : Kd.C (Kd.int .i64) w A0 l0.length l0) (hc0 : l0.length ≤ c0) (h : laws_heldIntS.f k l0 a1 = some r) :
    Calls Try.prog 34 #[.slice A0 l0.length c0, .int .i64 a1] w fun e w' => e = .returned (.int .i64 r) ∧ Drawn0 w w' := by
  have HR0 := Aside0.mk hr0
  have HC0 := Aside0.mk hc0
  clear hr0 hc0
  have H : (laws_heldIntS.l0 k l0 a1 0) = some r := h
  clear h
  have H' := Aside0.mk H
  clear H
  go_enter Try.func34, Try.ntmps34
  go_wp2
  go_loopg [1, 5] k (fun kq v1 v5 w' => ∃ (x1_1 : Int) (x5_1 : Int), v1 = .int .i64 x1_1 ∧ v5 = .int .i64 x5_1 ∧ Aside0 (laws_heldIntS.l0 kq l0 x1_1 x5_1 = some r) ∧ Aside0 (kq ≤ k) ∧ Drawn0 w w')
  case atStart => exact ⟨(a1), (0), (by first | rfl | (simp; done) | (simp [*]; done)), (by first | rfl | (simp; done) | (simp [*]; done)), H', ⟨Nat.le_refl _⟩, by repeat (first | exact Drawn0.refl _ | apply Drawn0.step)⟩
  case round =>
    clear H'
    try clear p2
    obtain ⟨x1_1, x5_1, rfl, rfl, HA, HK1, ⟨m1, rfl⟩⟩ := hrel
    cases gk with
    | zero => exact absurd HA.out (by simp [laws_heldIntS.l0])
    | succ k1 =>
      have H := HA.out
      clear HA
      simp only [laws_heldIntS.l0] at H
      by_cases c3 : x5_1 < (l0.length : Int)
      · rw [if_pos c3] at H
        have c3b0 : decide (x5_1 < (l0.length : Int)) = true := decide_eq_true c3
        clear c3
        by_cases c4 : 0 ≤ x5_1
        · rw [if_pos c4] at H
          have c4b0 : decide (0 ≤ x5_1) = true := decide_eq_true c4
          clear c4
          by_cases c5 : (rd l0 x5_1) = x1_1
          · rw [if_pos c5] at H
            have c5b0 : ((rd l0 x5_1) == x1_1) = true := beq_iff_eq.mpr c5
            have c5b1 : ((rd l0 x5_1) != x1_1) = false := bne_eq_false_iff_eq.mpr c5
            clear c5
            have H' := Aside0.mk H
            clear H
            have p35001 : 0 ≤ (x5_1 : Int) := of_decide_eq_true (by first | (with_reducible assumption) | assumption)
            have q35001 : x5_1 < (l0.length : Int) := of_decide_eq_true (by first | (with_reducible assumption) | assumption)
            obtain ⟨ad35001, e35001, hx35001_0⟩ := Kd.at_int HR0.out x5_1 p35001 q35001
            cases e35001
            replace p35001 := eq_true p35001
            replace q35001 := eq_true q35001
            go_wp2
            go_roundg k1
            case measure => have := HK1.out; omega
            case rel => exact ⟨(wrap64 (x1_1 + 1)), (wrap64 (x5_1 + 1)), (by first | rfl | (simp; done) | (simp [*]; done)), (by first | rfl | (simp; done) | (simp [*]; done)), H', ⟨by have := HK1.out; omega⟩, by repeat (first | exact Drawn0.refl _ | apply Drawn0.step)⟩
          · rw [if_neg c5] at H
            have c5b0 : ((rd l0 x5_1) == x1_1) = false := beq_eq_false_iff_ne.mpr c5
            have c5b1 : ((rd l0 x5_1) != x1_1) = true := bne_iff_ne.mpr c5
            obtain rfl := Option.some.inj H
            have p35001 : 0 ≤ (x5_1 : Int) := of_decide_eq_true (by first | (with_reducible assumption) | assumption)
            have q35001 : x5_1 < (l0.length : Int) := of_decide_eq_true (by first | (with_reducible assumption) | assumption)
            obtain ⟨ad35001, e35001, hx35001_0⟩ := Kd.at_int HR0.out x5_1 p35001 q35001
            cases e35001
            replace p35001 := eq_true p35001
            replace q35001 := eq_true q35001
            go_wp2
            go_ret
            exact ⟨by first | rfl | (simp; done) | (simp [*]; done), by repeat (first | exact Drawn0.refl _ | apply Drawn0.step)⟩
        · rw [if_neg c4] at H
          exact absurd H (by simp)
      · rw [if_neg c3] at H
        have c3b0 : decide (x5_1 < (l0.length : Int)) = false := decide_eq_false c3
        clear c3
        obtain rfl := Option.some.inj H
        go_wp2
        go_ret
        exact ⟨by first | rfl | (simp; done) | (simp [*]; done), by repeat (first | exact Drawn0.refl _ | apply Drawn0.step)⟩

end Go.Proofs.Ytnalbcadegicaaa.X
-- Laid by xprint.py (wip/tools): printed contracts, and hand-written ones between them.
namespace Go.Proofs.Ytnalbcadegicaaa.X
open Go.RowKit Go.Proofs.YtnalbcadegicaaaW.PrintWords Go.Proofs.YtnalbcadegicaaaW.PrintLast Go.Proofs.YtnalbcadegicaaaW.PrintMore
attribute [local go_sem] max2_int min2_int max_two min_two max_three min_three max_four min_four   -- for this text's walks alone
set_option linter.unusedVariables false
set_option linter.unusedSimpArgs false

/-! ### laws_FnExactCircleOf: function 6 -/
mutual
def laws_FnExactCircleOf.j0 : Nat → Int → List Int → Bool → List Int → Bool → Option (Bool)
  | 0, _, _, _, _, _ => none
  | k + 1, x0, x3, x4, x5, x29 => if x29 = true then (some false) else ((laws_markIntS.f k x5 1).bind fun bt7010 => ((laws_heldIntS.f k bt7010.2 1).bind fun t7012 => (if t7012 < 0 then (some false) else (if t7012 = bt7010.1 then ((impl_CircleOf.f k x0).bind fun bt7013 => ((laws_eqIntS.f k bt7013.1 x3).bind fun t7017 => (if t7017 = true then (laws_FnExactCircleOf.j1 k bt7010.2 bt7010.1 (bt7013.2 != x4)) else (laws_FnExactCircleOf.j1 k bt7010.2 bt7010.1 true)))) else (some false)))))
def laws_FnExactCircleOf.j1 : Nat → List Int → Int → Bool → Option (Bool)
  | 0, _, _, _ => none
  | k + 1, x5, x7, x54 => if x54 = true then (some false) else ((laws_heldIntS.f k x5 1).bind fun t7018 => (if t7018 < 0 then (some false) else (if t7018 = x7 then (some true) else (some false))))
end
def laws_FnExactCircleOf.f (k : Nat) (a0 : Int) : Option (Bool) := (spec_CircleOf.f k a0).bind fun bt7001 => ((impl_CircleOf.f k a0).bind fun bt7005 => ((laws_eqIntS.f k bt7005.1 bt7001.1).bind fun t7009 => (if t7009 = true then (laws_FnExactCircleOf.j0 k a0 bt7001.1 bt7001.2 bt7005.1 (bt7005.2 != bt7001.2)) else (laws_FnExactCircleOf.j0 k a0 bt7001.1 bt7001.2 bt7005.1 true))))
theorem laws_FnExactCircleOf.mono_l : ∀ k, (∀ y0 y1 y2 y3 y4, LeO (laws_FnExactCircleOf.j0 k y0 y1 y2 y3 y4) (laws_FnExactCircleOf.j0 (k + 1) y0 y1 y2 y3 y4)) ∧ (∀ y0 y1 y2, LeO (laws_FnExactCircleOf.j1 k y0 y1 y2) (laws_FnExactCircleOf.j1 (k + 1) y0 y1 y2))
  | 0 => ⟨fun _ _ _ _ _ r h => by simp [laws_FnExactCircleOf.j0] at h, fun _ _ _ r h => by simp [laws_FnExactCircleOf.j1] at h⟩
  | k + 1 => by
    obtain ⟨ih0, ih1⟩ := laws_FnExactCircleOf.mono_l k
    refine ⟨?_, ?_⟩
    · intro y0 y1 y2 y3 y4
      unfold laws_FnExactCircleOf.j0
      repeat' first
      | (with_reducible exact ih0 _ _ _ _ _)
      | (with_reducible exact ih1 _ _ _)
      | (with_reducible exact impl_CircleOf.mono _ _)
      | (with_reducible exact laws_eqIntS.mono _ _ _)
      | (with_reducible exact laws_heldIntS.mono _ _ _)
      | (with_reducible exact laws_markIntS.mono _ _ _)
      | (with_reducible exact spec_CircleOf.mono _ _)
      | (with_reducible exact LeO.refl _)
      | (with_reducible exact LeO.none _)
      | (with_reducible refine LeO.ite ?_ ?_)
      | (with_reducible refine LeO.bind ?_ (fun _ => ?_))
      | exact ih0 _ _ _ _ _
      | exact ih1 _ _ _
      | exact impl_CircleOf.mono _ _
      | exact laws_eqIntS.mono _ _ _
      | exact laws_heldIntS.mono _ _ _
      | exact laws_markIntS.mono _ _ _
      | exact spec_CircleOf.mono _ _
      | exact LeO.none _
      | refine LeO.ite ?_ ?_
      | refine LeO.bind ?_ (fun _ => ?_)
    · intro y0 y1 y2
      unfold laws_FnExactCircleOf.j1
      repeat' first
      | (with_reducible exact ih0 _ _ _ _ _)
      | (with_reducible exact ih1 _ _ _)
      | (with_reducible exact impl_CircleOf.mono _ _)
      | (with_reducible exact laws_eqIntS.mono _ _ _)
      | (with_reducible exact laws_heldIntS.mono _ _ _)
      | (with_reducible exact laws_markIntS.mono _ _ _)
      | (with_reducible exact spec_CircleOf.mono _ _)
      | (with_reducible exact LeO.refl _)
      | (with_reducible exact LeO.none _)
      | (with_reducible refine LeO.ite ?_ ?_)
      | (with_reducible refine LeO.bind ?_ (fun _ => ?_))
      | exact ih0 _ _ _ _ _
      | exact ih1 _ _ _
      | exact impl_CircleOf.mono _ _
      | exact laws_eqIntS.mono _ _ _
      | exact laws_heldIntS.mono _ _ _
      | exact laws_markIntS.mono _ _ _
      | exact spec_CircleOf.mono _ _
      | exact LeO.none _
      | refine LeO.ite ?_ ?_
      | refine LeO.bind ?_ (fun _ => ?_)
theorem laws_FnExactCircleOf.mono : ∀ a0 k, LeO (laws_FnExactCircleOf.f k a0) (laws_FnExactCircleOf.f (k + 1) a0) := by
  intro a0 k
  obtain ⟨ih0, ih1⟩ := laws_FnExactCircleOf.mono_l k
  unfold laws_FnExactCircleOf.f
  repeat' first
      | (with_reducible exact ih0 _ _ _ _ _)
      | (with_reducible exact ih1 _ _ _)
      | (with_reducible exact impl_CircleOf.mono _ _)
      | (with_reducible exact laws_eqIntS.mono _ _ _)
      | (with_reducible exact laws_heldIntS.mono _ _ _)
      | (with_reducible exact laws_markIntS.mono _ _ _)
      | (with_reducible exact spec_CircleOf.mono _ _)
      | (with_reducible exact LeO.refl _)
      | (with_reducible exact LeO.none _)
      | (with_reducible refine LeO.ite ?_ ?_)
      | (with_reducible refine LeO.bind ?_ (fun _ => ?_))
      | exact ih0 _ _ _ _ _
      | exact ih1 _ _ _
      | exact impl_CircleOf.mono _ _
      | exact laws_eqIntS.mono _ _ _
      | exact laws_heldIntS.mono _ _ _
      | exact laws_markIntS.mono _ _ _
      | exact spec_CircleOf.mono _ _
      | exact LeO.none _
      | refine LeO.ite ?_ ?_
      | refine LeO.bind ?_ (fun _ => ?_)
set_option maxHeartbeats 8000000 in
set_option maxRecDepth 100000 in
theorem laws_FnExactCircleOf.calls (k : Nat) (a0 : Int) (r : Bool) (w : World) (h : laws_FnExactCircleOf.f k a0 = some r) :
    Calls Try.prog 6 #[.int .i64 a0] w fun e w' => e = .returned (.bool r) ∧ Below w.heap.size w w' := by
  have HB := Aside0.mk (Below.refl w.heap.size w)
  have H : ((spec_CircleOf.f k a0).bind fun bt7001 => ((impl_CircleOf.f k a0).bind fun bt7005 => ((laws_eqIntS.f k bt7005.1 bt7001.1).bind fun t7009 => (if t7009 = true then (laws_FnExactCircleOf.j0 k a0 bt7001.1 bt7001.2 bt7005.1 (bt7005.2 != bt7001.2)) else (laws_FnExactCircleOf.j0 k a0 bt7001.1 bt7001.2 bt7005.1 true))))) = some r := h
  clear h
  replace H := Option.bind_eq_some_iff.mp H
  obtain ⟨⟨t7001, t7002⟩, A20, H⟩ := H
  replace H : ((impl_CircleOf.f k a0).bind fun bt7005 => ((laws_eqIntS.f k bt7005.1 t7001).bind fun t7009 => (if t7009 = true then (laws_FnExactCircleOf.j0 k a0 t7001 t7002 bt7005.1 (bt7005.2 != t7002)) else (laws_FnExactCircleOf.j0 k a0 t7001 t7002 bt7005.1 true)))) = some r := H
  have A2 := Aside0.mk A20
  clear A20
  replace H := Option.bind_eq_some_iff.mp H
  obtain ⟨⟨t7005, t7006⟩, A30, H⟩ := H
  replace H : ((laws_eqIntS.f k t7005 t7001).bind fun t7009 => (if t7009 = true then (laws_FnExactCircleOf.j0 k a0 t7001 t7002 t7005 (t7006 != t7002)) else (laws_FnExactCircleOf.j0 k a0 t7001 t7002 t7005 true))) = some r := H
  have A3 := Aside0.mk A30
  clear A30
  have HC4 := Aside0.mk H
  clear H
  go_enter Try.func6, Try.ntmps6
  go_upto_region 3 with (first | ((with_reducible refine gate_callee (f := 31) rfl ?_); refine goesL_ (some 13) rfl rfl Try.func31 (by kernel_rfl) rfl #[.int .i64 a0] rfl (by (try simp only [List.map_toArray, List.map_cons, List.map_nil]); first | done | rfl | (simp only [List.length_drop, List.length_take]; rfl)) ?_; (with_reducible refine (spec_CircleOf.calls k a0 t7001 t7002 _ A2.out).mono ?_); rintro e w5 ⟨v7003, rfl, ho0, hb⟩; refine ⟨_, rfl, ?_⟩; have n0_ := Aside0.mk (Kd.R_lower ho0 (below_size (by repeat (first | (with_reducible first | exact HB.out | apply below_alloc | apply pw_below_drewN | apply below_drew1) | exact HB.out)))); have n1_ := Aside0.mk (below_step (by repeat (first | (with_reducible first | exact HB.out | apply below_alloc | apply pw_below_drewN | apply below_drew1) | exact HB.out)) hb); clear HB; have HO7004 := n0_; have HB := n1_; clear n0_ n1_; (try clear hb); (try clear hb2); (try clear hk); (try clear hi); (try clear ho0)) | ((with_reducible refine gate_callee (f := 26) rfl ?_); refine goesL_ (some 18) rfl rfl Try.func26 (by kernel_rfl) rfl #[.int .i64 a0] rfl (by (try simp only [List.map_toArray, List.map_cons, List.map_nil]); first | done | rfl | (simp only [List.length_drop, List.length_take]; rfl)) ?_; (with_reducible refine (impl_CircleOf.calls k a0 t7005 t7006 _ A3.out).mono ?_); rintro e w6 ⟨v7007, rfl, ho0, hb⟩; refine ⟨_, rfl, ?_⟩; have n0_ := Aside0.mk (Kd.R_elder' (by (with_reducible repeat (first | apply Kd.R_alloc | apply Kd.R_drewN | apply Kd.R_drew)); exact HO7004.out) (Kd.R_base ho0) hb); have n1_ := Aside0.mk (Kd.R_lower (Kd.R_new' ho0 (Kd.R_lt (by (with_reducible repeat (first | apply Kd.R_alloc | apply Kd.R_drewN | apply Kd.R_drew)); exact HO7004.out))) (below_size (by repeat (first | (with_reducible first | exact HB.out | apply below_alloc | apply pw_below_drewN | apply below_drew1) | exact HB.out)))); have n2_ := Aside0.mk (below_step (by repeat (first | (with_reducible first | exact HB.out | apply below_alloc | apply pw_below_drewN | apply below_drew1) | exact HB.out)) hb); clear HO7004; clear HB; have HO7004 := n0_; have HO7008 := n1_; have HB := n2_; clear n0_ n1_ n2_; (try clear hb); (try clear hb2); (try clear hk); (try clear hi); (try clear ho0)))
  (try simp only [Act.put, List.setIfInBounds_toArray, List.set_cons_zero, List.set_cons_succ])
  go_cut [29] (fun v29 wc => ∃ (kq : Nat) (x29_3 : Bool), v29 = .bool x29_3 ∧ Aside0 (laws_FnExactCircleOf.j0 kq a0 t7001 t7002 t7005 x29_3 = some r) ∧ Aside0 (kq ≤ k) ∧ Aside0 (Kd.R (Kd.int .i64) 3 wc w.heap.size (fun k_ => some k_ ≠ (v7007 : Value).ownBlock) v7003 t7001) ∧ Aside0 (Kd.R (Kd.int .i64) 3 wc w.heap.size (fun k_ => some k_ ≠ (v7003 : Value).ownBlock) v7007 t7005) ∧ Aside0 (Below w.heap.size w wc))
  case first =>
    have H := HC4.out
    clear HC4
    replace H := Option.bind_eq_some_iff.mp H
    obtain ⟨t7009, A70, H⟩ := H
    replace H : (if t7009 = true then (laws_FnExactCircleOf.j0 k a0 t7001 t7002 t7005 (t7006 != t7002)) else (laws_FnExactCircleOf.j0 k a0 t7001 t7002 t7005 true)) = some r := H
    have A7 := Aside0.mk A70
    clear A70
    by_cases c8 : t7009 = true
    · subst c8
      have H1 : (laws_FnExactCircleOf.j0 k a0 t7001 t7002 t7005 (t7006 != t7002)) = some r := by rw [if_pos rfl] at H; exact H
      clear H
      have H := H1
      clear H1
      have H' := Aside0.mk H
      clear H
      obtain ⟨Ao9, co9, eo9⟩ := Kd.R_slice HO7008.out
      subst eo9
      obtain ⟨Ao10, co10, eo10⟩ := Kd.R_slice HO7004.out
      subst eo10
      go_wp2_with (first | ((with_reducible refine gate_callee (f := 32) rfl ?_); refine goesL_ (some 23) rfl rfl Try.func32 (by kernel_rfl) rfl #[.slice Ao9 t7005.length co9, .slice Ao10 t7001.length co10] rfl (by (try simp only [List.map_toArray, List.map_cons, List.map_nil]); first | done | rfl | (simp only [List.length_drop, List.length_take]; rfl)) ?_; (with_reducible refine (laws_eqIntS.calls k _ _ t7005 _ _ t7001 true _ ?side1 ?side2 ?side3 ?side4 A7.out).mono ?_); (case side1 => repeat (first | exact (Kd.R_reads' HO7008.out).2.2 | (with_reducible refine Kd.C_alloc ?_ _) | (with_reducible refine Kd.C_drewN ?_ _) | (with_reducible refine Kd.C_drew ?_))); (case side2 => exact (Kd.R_reads' HO7008.out).2.1); (case side3 => repeat (first | exact (Kd.R_reads' HO7004.out).2.2 | (with_reducible refine Kd.C_alloc ?_ _) | (with_reducible refine Kd.C_drewN ?_ _) | (with_reducible refine Kd.C_drew ?_))); (case side4 => exact (Kd.R_reads' HO7004.out).2.1); rintro e w' ⟨rfl, ⟨nd, rfl⟩⟩; refine ⟨_, rfl, ?_⟩))
      go_meet
      case rel => exact ⟨_, ((t7006 != t7002)), (by first | rfl | (simp; done) | (simp [*]; done)), H', ⟨by first | omega | exact Nat.le_refl _⟩, ⟨by (with_reducible repeat (first | apply Kd.R_alloc | apply Kd.R_drewN | apply Kd.R_drew)); exact Kd.R_mono HO7004.out (fun _ hk => hk.2)⟩, ⟨by (with_reducible repeat (first | apply Kd.R_alloc | apply Kd.R_drewN | apply Kd.R_drew)); exact Kd.R_mono HO7008.out (fun _ hk => hk.2)⟩, ⟨by repeat (first | (with_reducible first | exact HB.out | apply below_alloc | apply pw_below_drewN | apply below_drew1) | exact HB.out)⟩⟩
    · replace c8 := Bool.eq_false_iff.mpr c8
      subst c8
      have H1 : (laws_FnExactCircleOf.j0 k a0 t7001 t7002 t7005 true) = some r := by rw [if_neg (show ¬ (false = true) by decide)] at H; exact H
      clear H
      have H := H1
      clear H1
      have H' := Aside0.mk H
      clear H
      obtain ⟨Ao11, co11, eo11⟩ := Kd.R_slice HO7008.out
      subst eo11
      obtain ⟨Ao12, co12, eo12⟩ := Kd.R_slice HO7004.out
      subst eo12
      go_wp2_with (first | ((with_reducible refine gate_callee (f := 32) rfl ?_); refine goesL_ (some 23) rfl rfl Try.func32 (by kernel_rfl) rfl #[.slice Ao11 t7005.length co11, .slice Ao12 t7001.length co12] rfl (by (try simp only [List.map_toArray, List.map_cons, List.map_nil]); first | done | rfl | (simp only [List.length_drop, List.length_take]; rfl)) ?_; (with_reducible refine (laws_eqIntS.calls k _ _ t7005 _ _ t7001 false _ ?side1 ?side2 ?side3 ?side4 A7.out).mono ?_); (case side1 => repeat (first | exact (Kd.R_reads' HO7008.out).2.2 | (with_reducible refine Kd.C_alloc ?_ _) | (with_reducible refine Kd.C_drewN ?_ _) | (with_reducible refine Kd.C_drew ?_))); (case side2 => exact (Kd.R_reads' HO7008.out).2.1); (case side3 => repeat (first | exact (Kd.R_reads' HO7004.out).2.2 | (with_reducible refine Kd.C_alloc ?_ _) | (with_reducible refine Kd.C_drewN ?_ _) | (with_reducible refine Kd.C_drew ?_))); (case side4 => exact (Kd.R_reads' HO7004.out).2.1); rintro e w' ⟨rfl, ⟨nd, rfl⟩⟩; refine ⟨_, rfl, ?_⟩))
      go_meet
      case rel => exact ⟨_, (true), (by first | rfl | (simp; done) | (simp [*]; done)), H', ⟨by first | omega | exact Nat.le_refl _⟩, ⟨by (with_reducible repeat (first | apply Kd.R_alloc | apply Kd.R_drewN | apply Kd.R_drew)); exact Kd.R_mono HO7004.out (fun _ hk => hk.2)⟩, ⟨by (with_reducible repeat (first | apply Kd.R_alloc | apply Kd.R_drewN | apply Kd.R_drew)); exact Kd.R_mono HO7008.out (fun _ hk => hk.2)⟩, ⟨by repeat (first | (with_reducible first | exact HB.out | apply below_alloc | apply pw_below_drewN | apply below_drew1) | exact HB.out)⟩⟩
  case rest =>
    clear HC4
    try clear c2
    try clear p2
    try clear c3
    try clear c6
    try clear c8
    obtain ⟨kq, x29_3, rfl, HA, HJ3, HO_3, HO_5, HB⟩ := hcut
    cases kq with
    | zero => exact absurd HA.out (by simp [laws_FnExactCircleOf.j0])
    | succ kj3 =>
      have H := HA.out
      clear HA
      simp only [laws_FnExactCircleOf.j0] at H
      by_cases c13 : x29_3 = true
      · subst c13
        have H1 : (some false) = some r := by rw [if_pos rfl] at H; exact H
        clear H
        have H := H1
        clear H1
        obtain rfl := Option.some.inj H
        go_wp2
        go_ret
        exact ⟨by first | rfl | (simp [errW_none, errW_some] <;> rfl) | (simp [*, errW_none, errW_some] <;> rfl), by repeat (first | (with_reducible first | exact HB.out | apply below_alloc | apply pw_below_drewN | apply below_drew1) | exact HB.out)⟩
      · replace c13 := Bool.eq_false_iff.mpr c13
        subst c13
        have H1 : ((laws_markIntS.f kj3 t7005 1).bind fun bt7010 => ((laws_heldIntS.f kj3 bt7010.2 1).bind fun t7012 => (if t7012 < 0 then (some false) else (if t7012 = bt7010.1 then ((impl_CircleOf.f kj3 a0).bind fun bt7013 => ((laws_eqIntS.f kj3 bt7013.1 t7001).bind fun t7017 => (if t7017 = true then (laws_FnExactCircleOf.j1 kj3 bt7010.2 bt7010.1 (bt7013.2 != t7002)) else (laws_FnExactCircleOf.j1 kj3 bt7010.2 bt7010.1 true)))) else (some false))))) = some r := by rw [if_neg (show ¬ (false = true) by decide)] at H; exact H
        clear H
        have H := H1
        clear H1
        replace H := Option.bind_eq_some_iff.mp H
        obtain ⟨⟨t7010, t7011⟩, A140, H⟩ := H
        replace H : ((laws_heldIntS.f kj3 t7011 1).bind fun t7012 => (if t7012 < 0 then (some false) else (if t7012 = t7010 then ((impl_CircleOf.f kj3 a0).bind fun bt7013 => ((laws_eqIntS.f kj3 bt7013.1 t7001).bind fun t7017 => (if t7017 = true then (laws_FnExactCircleOf.j1 kj3 t7011 t7010 (bt7013.2 != t7002)) else (laws_FnExactCircleOf.j1 kj3 t7011 t7010 true)))) else (some false)))) = some r := H
        have A14 := Aside0.mk A140
        clear A140
        replace H := Option.bind_eq_some_iff.mp H
        obtain ⟨t7012, A150, H⟩ := H
        replace H : (if t7012 < 0 then (some false) else (if t7012 = t7010 then ((impl_CircleOf.f kj3 a0).bind fun bt7013 => ((laws_eqIntS.f kj3 bt7013.1 t7001).bind fun t7017 => (if t7017 = true then (laws_FnExactCircleOf.j1 kj3 t7011 t7010 (bt7013.2 != t7002)) else (laws_FnExactCircleOf.j1 kj3 t7011 t7010 true)))) else (some false))) = some r := H
        have A15 := Aside0.mk A150
        clear A150
        by_cases c16 : t7012 < 0
        · rw [if_pos c16] at H
          have c16b0 : decide (t7012 < 0) = true := decide_eq_true c16
          clear c16
          obtain rfl := Option.some.inj H
          obtain ⟨Ao17, co17, eo17⟩ := Kd.R_slice HO_5.out
          subst eo17
          go_wp2_with (first | ((with_reducible refine gate_callee (f := 33) rfl ?_); refine goesL_ (some 32) rfl rfl Try.func33 (by kernel_rfl) rfl #[.slice Ao17 t7005.length co17, .int .i64 1] rfl (by (try simp only [List.map_toArray, List.map_cons, List.map_nil]); first | done | rfl | (simp only [List.length_drop, List.length_take]; rfl)) ?_; (with_reducible refine (laws_markIntS.calls kj3 (fun k_ => some k_ = (.slice Ao17 t7005.length co17 : Value).ownBlock) (.slice Ao17 t7005.length co17) t7005 1 t7010 t7011 w _ ?side1 ?side2 A14.out).mono ?_); (case side1 => repeat (first | (with_reducible first | exact HB.out | apply below_alloc | apply pw_below_drewN | apply below_drew1) | exact HB.out)); (case side2 => exact Kd.R_tight rfl HO_5.out); rintro e w18 ⟨rfl, hy0, hb, hkp⟩; refine ⟨_, rfl, ?_⟩; have n0_ := Aside0.mk (Kd.R_mono (ok' := fun k_ => some k_ ≠ (.slice Ao17 t7005.length co17 : Value).ownBlock) (Kd.R_keptB (HO_3.out) hkp (fun k_ hk_ hs_ => (hk_) hs_)) (fun k_ hk_ => hk_.1)); have n1_ := Aside0.mk (Kd.R_reok rfl hy0 (fun k_ e_ => HO_5.out.1 k_ e_)); have n2_ := Aside0.mk (hb); clear HO_3; clear HO_5; clear HB; have HO_3 := n0_; have HO_5 := n1_; have HB := n2_; clear n0_ n1_ n2_; (try clear hb); (try clear hkp); (try clear hy0)) | ((with_reducible refine gate_callee (f := 34) rfl ?_); refine goesL_ (some 35) rfl rfl Try.func34 (by kernel_rfl) rfl #[.slice Ao17 t7011.length co17, .int .i64 1] rfl (by (try simp only [List.map_toArray, List.map_cons, List.map_nil]); first | done | (rw [show t7011.length = t7005.length from (Kd.R_reads' HO_5.out).1.symm] <;> rfl) | rfl | (simp only [List.length_drop, List.length_take]; rfl)) ?_; (with_reducible refine (laws_heldIntS.calls kj3 _ _ t7011 1 t7012 _ ?side1 ?side2 A15.out).mono ?_); (case side1 => repeat (first | exact (Kd.R_reads' HO_5.out).2.2 | (with_reducible refine Kd.C_alloc ?_ _) | (with_reducible refine Kd.C_drewN ?_ _) | (with_reducible refine Kd.C_drew ?_))); (case side2 => rw [show t7011.length = t7005.length from (Kd.R_reads' HO_5.out).1.symm]; exact (Kd.R_reads' HO_5.out).2.1); rintro e w' ⟨rfl, ⟨nd, rfl⟩⟩; refine ⟨_, rfl, ?_⟩))
          go_ret
          exact ⟨by first | rfl | (simp [errW_none, errW_some] <;> rfl) | (simp [*, errW_none, errW_some] <;> rfl), by repeat (first | (with_reducible first | exact HB.out | apply below_alloc | apply pw_below_drewN | apply below_drew1) | exact HB.out)⟩
        · rw [if_neg c16] at H
          have c16b0 : decide (t7012 < 0) = false := decide_eq_false c16
          clear c16
          by_cases c19 : t7012 = t7010
          · rw [if_pos c19] at H
            have c19b0 : (t7012 == t7010) = true := beq_iff_eq.mpr c19
            have c19b1 : (t7012 != t7010) = false := bne_eq_false_iff_eq.mpr c19
            clear c19
            replace H := Option.bind_eq_some_iff.mp H
            obtain ⟨⟨t7013, t7014⟩, A200, H⟩ := H
            replace H : ((laws_eqIntS.f kj3 t7013 t7001).bind fun t7017 => (if t7017 = true then (laws_FnExactCircleOf.j1 kj3 t7011 t7010 (t7014 != t7002)) else (laws_FnExactCircleOf.j1 kj3 t7011 t7010 true))) = some r := H
            have A20 := Aside0.mk A200
            clear A200
            have HC21 := Aside0.mk H
            clear H
            obtain ⟨Ao22, co22, eo22⟩ := Kd.R_slice HO_5.out
            subst eo22
            go_upto_region 14 with (first | ((with_reducible refine gate_callee (f := 33) rfl ?_); refine goesL_ (some 32) rfl rfl Try.func33 (by kernel_rfl) rfl #[.slice Ao22 t7005.length co22, .int .i64 1] rfl (by (try simp only [List.map_toArray, List.map_cons, List.map_nil]); first | done | rfl | (simp only [List.length_drop, List.length_take]; rfl)) ?_; (with_reducible refine (laws_markIntS.calls kj3 (fun k_ => some k_ = (.slice Ao22 t7005.length co22 : Value).ownBlock) (.slice Ao22 t7005.length co22) t7005 1 t7010 t7011 w _ ?side1 ?side2 A14.out).mono ?_); (case side1 => repeat (first | (with_reducible first | exact HB.out | apply below_alloc | apply pw_below_drewN | apply below_drew1) | exact HB.out)); (case side2 => exact Kd.R_tight rfl HO_5.out); rintro e w23 ⟨rfl, hy0, hb, hkp⟩; refine ⟨_, rfl, ?_⟩; have n0_ := Aside0.mk (Kd.R_mono (ok' := fun k_ => some k_ ≠ (.slice Ao22 t7005.length co22 : Value).ownBlock) (Kd.R_keptB (HO_3.out) hkp (fun k_ hk_ hs_ => (hk_) hs_)) (fun k_ hk_ => hk_.1)); have n1_ := Aside0.mk (Kd.R_reok rfl hy0 (fun k_ e_ => HO_5.out.1 k_ e_)); have n2_ := Aside0.mk (hb); clear HO_3; clear HO_5; clear HB; have HO_3 := n0_; have HO_5 := n1_; have HB := n2_; clear n0_ n1_ n2_; (try clear hb); (try clear hkp); (try clear hy0)) | ((with_reducible refine gate_callee (f := 34) rfl ?_); refine goesL_ (some 35) rfl rfl Try.func34 (by kernel_rfl) rfl #[.slice Ao22 t7011.length co22, .int .i64 1] rfl (by (try simp only [List.map_toArray, List.map_cons, List.map_nil]); first | done | (rw [show t7011.length = t7005.length from (Kd.R_reads' HO_5.out).1.symm] <;> rfl) | rfl | (simp only [List.length_drop, List.length_take]; rfl)) ?_; (with_reducible refine (laws_heldIntS.calls kj3 _ _ t7011 1 t7012 _ ?side1 ?side2 A15.out).mono ?_); (case side1 => repeat (first | exact (Kd.R_reads' HO_5.out).2.2 | (with_reducible refine Kd.C_alloc ?_ _) | (with_reducible refine Kd.C_drewN ?_ _) | (with_reducible refine Kd.C_drew ?_))); (case side2 => rw [show t7011.length = t7005.length from (Kd.R_reads' HO_5.out).1.symm]; exact (Kd.R_reads' HO_5.out).2.1); rintro e w' ⟨rfl, ⟨nd, rfl⟩⟩; refine ⟨_, rfl, ?_⟩) | ((with_reducible refine gate_callee (f := 26) rfl ?_); refine goesL_ (some 43) rfl rfl Try.func26 (by kernel_rfl) rfl #[.int .i64 a0] rfl (by (try simp only [List.map_toArray, List.map_cons, List.map_nil]); first | done | rfl | (simp only [List.length_drop, List.length_take]; rfl)) ?_; (with_reducible refine (impl_CircleOf.calls kj3 a0 t7013 t7014 _ A20.out).mono ?_); rintro e w24 ⟨v7015, rfl, ho0, hb⟩; refine ⟨_, rfl, ?_⟩; have n0_ := Aside0.mk (Kd.R_elder' (by (with_reducible repeat (first | apply Kd.R_alloc | apply Kd.R_drewN | apply Kd.R_drew)); exact HO_3.out) (Kd.R_base ho0) hb); have n1_ := Aside0.mk (Kd.R_elder' (by (with_reducible repeat (first | apply Kd.R_alloc | apply Kd.R_drewN | apply Kd.R_drew)); exact HO_5.out) (Kd.R_base ho0) hb); have n2_ := Aside0.mk (Kd.R_lower (Kd.R_new' (Kd.R_new' ho0 (Kd.R_lt (by (with_reducible repeat (first | apply Kd.R_alloc | apply Kd.R_drewN | apply Kd.R_drew)); exact HO_3.out))) (Kd.R_lt (by (with_reducible repeat (first | apply Kd.R_alloc | apply Kd.R_drewN | apply Kd.R_drew)); exact HO_5.out))) (below_size (by repeat (first | (with_reducible first | exact HB.out | apply below_alloc | apply pw_below_drewN | apply below_drew1) | exact HB.out)))); have n3_ := Aside0.mk (below_step (by repeat (first | (with_reducible first | exact HB.out | apply below_alloc | apply pw_below_drewN | apply below_drew1) | exact HB.out)) hb); clear HO_3; clear HO_5; clear HB; have HO_3 := n0_; have HO_5 := n1_; have HO7016 := n2_; have HB := n3_; clear n0_ n1_ n2_ n3_; (try clear hb); (try clear hb2); (try clear hk); (try clear hi); (try clear ho0)))
            (try simp only [Act.put, List.setIfInBounds_toArray, List.set_cons_zero, List.set_cons_succ])
            go_cut [54] (fun v54 wc => ∃ (kq : Nat) (x54_20 : Bool), v54 = .bool x54_20 ∧ Aside0 (laws_FnExactCircleOf.j1 kq t7011 t7010 x54_20 = some r) ∧ Aside0 (kq ≤ kj3) ∧ Aside0 (Kd.R (Kd.int .i64) 3 wc w.heap.size (fun _ => True) (.slice Ao22 t7005.length co22) t7011) ∧ Aside0 (Below w.heap.size w wc))
            case first =>
              have H := HC21.out
              clear HC21
              replace H := Option.bind_eq_some_iff.mp H
              obtain ⟨t7017, A250, H⟩ := H
              replace H : (if t7017 = true then (laws_FnExactCircleOf.j1 kj3 t7011 t7010 (t7014 != t7002)) else (laws_FnExactCircleOf.j1 kj3 t7011 t7010 true)) = some r := H
              have A25 := Aside0.mk A250
              clear A250
              by_cases c26 : t7017 = true
              · subst c26
                have H1 : (laws_FnExactCircleOf.j1 kj3 t7011 t7010 (t7014 != t7002)) = some r := by rw [if_pos rfl] at H; exact H
                clear H
                have H := H1
                clear H1
                have H' := Aside0.mk H
                clear H
                obtain ⟨Ao27, co27, eo27⟩ := Kd.R_slice HO7016.out
                subst eo27
                obtain ⟨Ao28, co28, eo28⟩ := Kd.R_slice HO_3.out
                subst eo28
                go_wp2_with (first | ((with_reducible refine gate_callee (f := 32) rfl ?_); refine goesL_ (some 48) rfl rfl Try.func32 (by kernel_rfl) rfl #[.slice Ao27 t7013.length co27, .slice Ao28 t7001.length co28] rfl (by (try simp only [List.map_toArray, List.map_cons, List.map_nil]); first | done | rfl | (simp only [List.length_drop, List.length_take]; rfl)) ?_; (with_reducible refine (laws_eqIntS.calls kj3 _ _ t7013 _ _ t7001 true _ ?side1 ?side2 ?side3 ?side4 A25.out).mono ?_); (case side1 => repeat (first | exact (Kd.R_reads' HO7016.out).2.2 | (with_reducible refine Kd.C_alloc ?_ _) | (with_reducible refine Kd.C_drewN ?_ _) | (with_reducible refine Kd.C_drew ?_))); (case side2 => exact (Kd.R_reads' HO7016.out).2.1); (case side3 => repeat (first | exact (Kd.R_reads' HO_3.out).2.2 | (with_reducible refine Kd.C_alloc ?_ _) | (with_reducible refine Kd.C_drewN ?_ _) | (with_reducible refine Kd.C_drew ?_))); (case side4 => exact (Kd.R_reads' HO_3.out).2.1); rintro e w' ⟨rfl, ⟨nd, rfl⟩⟩; refine ⟨_, rfl, ?_⟩))
                go_meet
                case rel => exact ⟨_, ((t7014 != t7002)), (by first | rfl | (simp; done) | (simp [*]; done)), H', ⟨by have := HJ3.out; first | omega | exact Nat.le_refl _⟩, ⟨by (with_reducible repeat (first | apply Kd.R_alloc | apply Kd.R_drewN | apply Kd.R_drew)); exact Kd.R_mono HO_5.out (fun _ hk => trivial)⟩, ⟨by repeat (first | (with_reducible first | exact HB.out | apply below_alloc | apply pw_below_drewN | apply below_drew1) | exact HB.out)⟩⟩
              · replace c26 := Bool.eq_false_iff.mpr c26
                subst c26
                have H1 : (laws_FnExactCircleOf.j1 kj3 t7011 t7010 true) = some r := by rw [if_neg (show ¬ (false = true) by decide)] at H; exact H
                clear H
                have H := H1
                clear H1
                have H' := Aside0.mk H
                clear H
                obtain ⟨Ao29, co29, eo29⟩ := Kd.R_slice HO7016.out
                subst eo29
                obtain ⟨Ao30, co30, eo30⟩ := Kd.R_slice HO_3.out
                subst eo30
                go_wp2_with (first | ((with_reducible refine gate_callee (f := 32) rfl ?_); refine goesL_ (some 48) rfl rfl Try.func32 (by kernel_rfl) rfl #[.slice Ao29 t7013.length co29, .slice Ao30 t7001.length co30] rfl (by (try simp only [List.map_toArray, List.map_cons, List.map_nil]); first | done | rfl | (simp only [List.length_drop, List.length_take]; rfl)) ?_; (with_reducible refine (laws_eqIntS.calls kj3 _ _ t7013 _ _ t7001 false _ ?side1 ?side2 ?side3 ?side4 A25.out).mono ?_); (case side1 => repeat (first | exact (Kd.R_reads' HO7016.out).2.2 | (with_reducible refine Kd.C_alloc ?_ _) | (with_reducible refine Kd.C_drewN ?_ _) | (with_reducible refine Kd.C_drew ?_))); (case side2 => exact (Kd.R_reads' HO7016.out).2.1); (case side3 => repeat (first | exact (Kd.R_reads' HO_3.out).2.2 | (with_reducible refine Kd.C_alloc ?_ _) | (with_reducible refine Kd.C_drewN ?_ _) | (with_reducible refine Kd.C_drew ?_))); (case side4 => exact (Kd.R_reads' HO_3.out).2.1); rintro e w' ⟨rfl, ⟨nd, rfl⟩⟩; refine ⟨_, rfl, ?_⟩))
                go_meet
                case rel => exact ⟨_, (true), (by first | rfl | (simp; done) | (simp [*]; done)), H', ⟨by have := HJ3.out; first | omega | exact Nat.le_refl _⟩, ⟨by (with_reducible repeat (first | apply Kd.R_alloc | apply Kd.R_drewN | apply Kd.R_drew)); exact Kd.R_mono HO_5.out (fun _ hk => trivial)⟩, ⟨by repeat (first | (with_reducible first | exact HB.out | apply below_alloc | apply pw_below_drewN | apply below_drew1) | exact HB.out)⟩⟩
            case rest =>
              clear HC21
              try clear c1
              try clear c2
              try clear p2
              try clear c3
              try clear c6
              try clear c8
              try clear c13
              try clear c16
              try clear c16b0
              try clear c19
              try clear c19b0
              try clear c19b1
              try clear c26
              try clear p2
              obtain ⟨kq, x54_20, rfl, HA, HJ20, HO_5, HB⟩ := hcut
              have hl5_20 := (Kd.R_reads' HO_5.out).1
              rw [hl5_20] at HO_5
              (try simp only [hl5_20])
              cases kq with
              | zero => exact absurd HA.out (by simp [laws_FnExactCircleOf.j1])
              | succ kj20 =>
                have H := HA.out
                clear HA
                simp only [laws_FnExactCircleOf.j1] at H
                by_cases c31 : x54_20 = true
                · subst c31
                  have H1 : (some false) = some r := by rw [if_pos rfl] at H; exact H
                  clear H
                  have H := H1
                  clear H1
                  obtain rfl := Option.some.inj H
                  go_wp2
                  go_ret
                  exact ⟨by first | rfl | (simp [errW_none, errW_some] <;> rfl) | (simp [*, errW_none, errW_some] <;> rfl), by repeat (first | (with_reducible first | exact HB.out | apply below_alloc | apply pw_below_drewN | apply below_drew1) | exact HB.out)⟩
                · replace c31 := Bool.eq_false_iff.mpr c31
                  subst c31
                  have H1 : ((laws_heldIntS.f kj20 t7011 1).bind fun t7018 => (if t7018 < 0 then (some false) else (if t7018 = t7010 then (some true) else (some false)))) = some r := by rw [if_neg (show ¬ (false = true) by decide)] at H; exact H
                  clear H
                  have H := H1
                  clear H1
                  replace H := Option.bind_eq_some_iff.mp H
                  obtain ⟨t7018, A320, H⟩ := H
                  replace H : (if t7018 < 0 then (some false) else (if t7018 = t7010 then (some true) else (some false))) = some r := H
                  have A32 := Aside0.mk A320
                  clear A320
                  by_cases c33 : t7018 < 0
                  · rw [if_pos c33] at H
                    have c33b0 : decide (t7018 < 0) = true := decide_eq_true c33
                    clear c33
                    obtain rfl := Option.some.inj H
                    go_wp2_with (first | ((with_reducible refine gate_callee (f := 34) rfl ?_); refine goesL_ (some 57) rfl rfl Try.func34 (by kernel_rfl) rfl #[.slice Ao22 t7011.length co22, .int .i64 1] rfl (by (try simp only [List.map_toArray, List.map_cons, List.map_nil]); first | done | rfl | (simp only [List.length_drop, List.length_take]; rfl)) ?_; (with_reducible refine (laws_heldIntS.calls kj20 _ _ t7011 1 t7018 _ ?side1 ?side2 A32.out).mono ?_); (case side1 => repeat (first | exact (Kd.R_reads' HO_5.out).2.2 | (with_reducible refine Kd.C_alloc ?_ _) | (with_reducible refine Kd.C_drewN ?_ _) | (with_reducible refine Kd.C_drew ?_))); (case side2 => exact (Kd.R_reads' HO_5.out).2.1); rintro e w' ⟨rfl, ⟨nd, rfl⟩⟩; refine ⟨_, rfl, ?_⟩))
                    go_ret
                    exact ⟨by first | rfl | (simp [errW_none, errW_some] <;> rfl) | (simp [*, errW_none, errW_some] <;> rfl), by repeat (first | (with_reducible first | exact HB.out | apply below_alloc | apply pw_below_drewN | apply below_drew1) | exact HB.out)⟩
                  · rw [if_neg c33] at H
                    have c33b0 : decide (t7018 < 0) = false := decide_eq_false c33
                    clear c33
                    by_cases c34 : t7018 = t7010
                    · rw [if_pos c34] at H
                      have c34b0 : (t7018 == t7010) = true := beq_iff_eq.mpr c34
                      have c34b1 : (t7018 != t7010) = false := bne_eq_false_iff_eq.mpr c34
                      clear c34
                      obtain rfl := Option.some.inj H
                      go_wp2_with (first | ((with_reducible refine gate_callee (f := 34) rfl ?_); refine goesL_ (some 57) rfl rfl Try.func34 (by kernel_rfl) rfl #[.slice Ao22 t7011.length co22, .int .i64 1] rfl (by (try simp only [List.map_toArray, List.map_cons, List.map_nil]); first | done | rfl | (simp only [List.length_drop, List.length_take]; rfl)) ?_; (with_reducible refine (laws_heldIntS.calls kj20 _ _ t7011 1 t7018 _ ?side1 ?side2 A32.out).mono ?_); (case side1 => repeat (first | exact (Kd.R_reads' HO_5.out).2.2 | (with_reducible refine Kd.C_alloc ?_ _) | (with_reducible refine Kd.C_drewN ?_ _) | (with_reducible refine Kd.C_drew ?_))); (case side2 => exact (Kd.R_reads' HO_5.out).2.1); rintro e w' ⟨rfl, ⟨nd, rfl⟩⟩; refine ⟨_, rfl, ?_⟩))
                      go_ret
                      exact ⟨by first | rfl | (simp [errW_none, errW_some] <;> rfl) | (simp [*, errW_none, errW_some] <;> rfl), by repeat (first | (with_reducible first | exact HB.out | apply below_alloc | apply pw_below_drewN | apply below_drew1) | exact HB.out)⟩
                    · rw [if_neg c34] at H
                      have c34b0 : (t7018 == t7010) = false := beq_eq_false_iff_ne.mpr c34
                      have c34b1 : (t7018 != t7010) = true := bne_iff_ne.mpr c34
                      obtain rfl := Option.some.inj H
                      go_wp2_with (first | ((with_reducible refine gate_callee (f := 34) rfl ?_); refine goesL_ (some 57) rfl rfl Try.func34 (by kernel_rfl) rfl #[.slice Ao22 t7011.length co22, .int .i64 1] rfl (by (try simp only [List.map_toArray, List.map_cons, List.map_nil]); first | done | rfl | (simp only [List.length_drop, List.length_take]; rfl)) ?_; (with_reducible refine (laws_heldIntS.calls kj20 _ _ t7011 1 t7018 _ ?side1 ?side2 A32.out).mono ?_); (case side1 => repeat (first | exact (Kd.R_reads' HO_5.out).2.2 | (with_reducible refine Kd.C_alloc ?_ _) | (with_reducible refine Kd.C_drewN ?_ _) | (with_reducible refine Kd.C_drew ?_))); (case side2 => exact (Kd.R_reads' HO_5.out).2.1); rintro e w' ⟨rfl, ⟨nd, rfl⟩⟩; refine ⟨_, rfl, ?_⟩))
                      go_ret
                      exact ⟨by first | rfl | (simp [errW_none, errW_some] <;> rfl) | (simp [*, errW_none, errW_some] <;> rfl), by repeat (first | (with_reducible first | exact HB.out | apply below_alloc | apply pw_below_drewN | apply below_drew1) | exact HB.out)⟩
          · rw [if_neg c19] at H
            have c19b0 : (t7012 == t7010) = false := beq_eq_false_iff_ne.mpr c19
            have c19b1 : (t7012 != t7010) = true := bne_iff_ne.mpr c19
            obtain rfl := Option.some.inj H
            obtain ⟨Ao35, co35, eo35⟩ := Kd.R_slice HO_5.out
            subst eo35
            go_wp2_with (first | ((with_reducible refine gate_callee (f := 33) rfl ?_); refine goesL_ (some 32) rfl rfl Try.func33 (by kernel_rfl) rfl #[.slice Ao35 t7005.length co35, .int .i64 1] rfl (by (try simp only [List.map_toArray, List.map_cons, List.map_nil]); first | done | rfl | (simp only [List.length_drop, List.length_take]; rfl)) ?_; (with_reducible refine (laws_markIntS.calls kj3 (fun k_ => some k_ = (.slice Ao35 t7005.length co35 : Value).ownBlock) (.slice Ao35 t7005.length co35) t7005 1 t7010 t7011 w _ ?side1 ?side2 A14.out).mono ?_); (case side1 => repeat (first | (with_reducible first | exact HB.out | apply below_alloc | apply pw_below_drewN | apply below_drew1) | exact HB.out)); (case side2 => exact Kd.R_tight rfl HO_5.out); rintro e w36 ⟨rfl, hy0, hb, hkp⟩; refine ⟨_, rfl, ?_⟩; have n0_ := Aside0.mk (Kd.R_mono (ok' := fun k_ => some k_ ≠ (.slice Ao35 t7005.length co35 : Value).ownBlock) (Kd.R_keptB (HO_3.out) hkp (fun k_ hk_ hs_ => (hk_) hs_)) (fun k_ hk_ => hk_.1)); have n1_ := Aside0.mk (Kd.R_reok rfl hy0 (fun k_ e_ => HO_5.out.1 k_ e_)); have n2_ := Aside0.mk (hb); clear HO_3; clear HO_5; clear HB; have HO_3 := n0_; have HO_5 := n1_; have HB := n2_; clear n0_ n1_ n2_; (try clear hb); (try clear hkp); (try clear hy0)) | ((with_reducible refine gate_callee (f := 34) rfl ?_); refine goesL_ (some 35) rfl rfl Try.func34 (by kernel_rfl) rfl #[.slice Ao35 t7011.length co35, .int .i64 1] rfl (by (try simp only [List.map_toArray, List.map_cons, List.map_nil]); first | done | (rw [show t7011.length = t7005.length from (Kd.R_reads' HO_5.out).1.symm] <;> rfl) | rfl | (simp only [List.length_drop, List.length_take]; rfl)) ?_; (with_reducible refine (laws_heldIntS.calls kj3 _ _ t7011 1 t7012 _ ?side1 ?side2 A15.out).mono ?_); (case side1 => repeat (first | exact (Kd.R_reads' HO_5.out).2.2 | (with_reducible refine Kd.C_alloc ?_ _) | (with_reducible refine Kd.C_drewN ?_ _) | (with_reducible refine Kd.C_drew ?_))); (case side2 => rw [show t7011.length = t7005.length from (Kd.R_reads' HO_5.out).1.symm]; exact (Kd.R_reads' HO_5.out).2.1); rintro e w' ⟨rfl, ⟨nd, rfl⟩⟩; refine ⟨_, rfl, ?_⟩))
            go_ret
            exact ⟨by first | rfl | (simp [errW_none, errW_some] <;> rfl) | (simp [*, errW_none, errW_some] <;> rfl), by repeat (first | (with_reducible first | exact HB.out | apply below_alloc | apply pw_below_drewN | apply below_drew1) | exact HB.out)⟩

/-- THE ONE PURE STATEMENT of laws_FnExactCircleOf: yours. -/
def laws_FnExactCircleOf.Pure : Prop := ∀ (a0 : Int), (Lit.int .i64 a0).wf = true → ∃ k, laws_FnExactCircleOf.f k a0 = some true
theorem laws_FnExactCircleOf.walk (P : laws_FnExactCircleOf.Pure) (a0 : Int) (w : World) (w0 : (Lit.int .i64 a0).wf = true) :
    Calls Try.prog 6 #[.int .i64 a0] w fun e w' => e = .returned (.bool true) ∧ Below w.heap.size w w' := by
  obtain ⟨k, h⟩ := P a0 w0
  refine (laws_FnExactCircleOf.calls k a0 true w h).mono ?_
  rintro e w' ⟨rfl, hd⟩
  exact ⟨rfl, hd⟩

end Go.Proofs.Ytnalbcadegicaaa.X
/- Plain laws of balanced ternary words: values, digits, limits. No program in sight. -/
namespace Go.Proofs.Ytnalbcadegicaaa.Plain
/-- The value of trits, the lowest first. -/
def val : List Int → Int
  | [] => 0
  | a :: r => a + 3 * val r
def Trits (w : List Int) : Prop := ∀ x ∈ w, -1 ≤ x ∧ x ≤ 1
/-- (3^k - 1) / 2 -/
def lim : Nat → Int
  | 0 => 0
  | k + 1 => 3 * lim k + 1
theorem lim_nonneg (k : Nat) : 0 ≤ lim k := by
  induction k with
  | zero => exact Int.le_refl _
  | succ k ih => unfold lim; omega
theorem lim_mono {j k : Nat} (h : j ≤ k) : lim j ≤ lim k := by
  induction k with
  | zero => obtain rfl : j = 0 := by omega
            exact Int.le_refl _
  | succ k ih =>
    by_cases e : j = k + 1
    · subst e; exact Int.le_refl _
    · have h1 := ih (by omega)
      have h2 := lim_nonneg k
      have h3 : lim (k + 1) = 3 * lim k + 1 := rfl
      omega
theorem lim_lt {j k : Nat} (h : j < k) : lim j < lim k := by
  have h1 : lim (j + 1) ≤ lim k := lim_mono h
  have h2 := lim_nonneg j
  have h3 : lim (j + 1) = 3 * lim j + 1 := rfl
  omega
theorem pow_lim (k : Nat) : (3 : Int) ^ k = 2 * lim k + 1 := by
  induction k with
  | zero => rfl
  | succ k ih =>
    rw [Int.pow_succ, ih]
    show (2 * lim k + 1) * 3 = 2 * (3 * lim k + 1) + 1
    omega
theorem lim30 : lim 30 = 102945566047324 := by decide
theorem lim_le30 {k : Nat} (h : k ≤ 30) : lim k ≤ 102945566047324 := by rw [← lim30]; exact lim_mono h
theorem val_bound : ∀ {w : List Int}, Trits w → -lim w.length ≤ val w ∧ val w ≤ lim w.length
  | [], _ => ⟨Int.le_refl _, Int.le_refl _⟩
  | a :: r, h => by
    have h1 := h a List.mem_cons_self
    have h2 := val_bound (w := r) (fun x hx => h x (List.mem_cons_of_mem _ hx))
    simp only [val, List.length_cons, lim]
    omega
/-- The trit that differs from n by a multiple of 3. -/
def dig (n : Int) : Int := if n.tmod 3 > 1 then n.tmod 3 - 3 else if n.tmod 3 < -1 then n.tmod 3 + 3 else n.tmod 3
theorem dig_range (n : Int) : -1 ≤ dig n ∧ dig n ≤ 1 := by
  have h1 := Int.tmod_lt_of_pos n (b := 3) (by omega)
  have h2 : -3 < n.tmod 3 := Int.lt_tmod_of_pos n (by omega)
  unfold dig
  split
  · omega
  · split <;> omega
theorem dig_dvd (n : Int) : ∃ q, n = dig n + 3 * q := by
  have h := Int.tmod_add_mul_tdiv n 3
  unfold dig
  split
  · exact ⟨n.tdiv 3 + 1, by omega⟩
  · split
    · exact ⟨n.tdiv 3 - 1, by omega⟩
    · exact ⟨n.tdiv 3, by omega⟩
theorem dig_unique {a q n : Int} (h : n = a + 3 * q) (h1 : -1 ≤ a) (h2 : a ≤ 1) : dig n = a := by
  obtain ⟨p, hp⟩ := dig_dvd n
  have := dig_range n
  omega
/-- What is left behind the lowest trit. -/
def rest (n : Int) : Int := (n - dig n).tdiv 3
theorem rest_eq (n : Int) : n = dig n + 3 * rest n := by
  obtain ⟨q, hq⟩ := dig_dvd n
  unfold rest
  have : n - dig n = 3 * q := by omega
  rw [this, Int.mul_tdiv_cancel_left _ (by omega)]
  omega
theorem rest_bound {n : Int} {k : Nat} (h : -lim (k + 1) ≤ n ∧ n ≤ lim (k + 1)) : -lim k ≤ rest n ∧ rest n ≤ lim k := by
  have h1 := rest_eq n
  have h2 := dig_range n
  have h3 : lim (k + 1) = 3 * lim k + 1 := rfl
  omega
/-- The word of k trits of a value. -/
def word : Nat → Int → List Int
  | 0, _ => []
  | k + 1, n => dig n :: word k (rest n)
theorem word_length (k : Nat) : ∀ n, (word k n).length = k := by
  induction k with
  | zero => intro n; rfl
  | succ k ih => intro n; simp [word, ih]
theorem word_trits (k : Nat) : ∀ n, Trits (word k n) := by
  induction k with
  | zero => intro n x hx; cases hx
  | succ k ih =>
    intro n x hx
    rcases List.mem_cons.1 hx with rfl | hx
    · exact dig_range n
    · exact ih _ x hx
theorem val_word (k : Nat) : ∀ n, -lim k ≤ n ∧ n ≤ lim k → val (word k n) = n := by
  induction k with
  | zero => intro n h; unfold lim at h; simp only [word, val]; omega
  | succ k ih =>
    intro n h
    simp only [word, val]
    rw [ih _ (rest_bound h)]
    have := rest_eq n
    omega
theorem word_val : ∀ {w : List Int}, Trits w → word w.length (val w) = w
  | [], _ => rfl
  | a :: r, h => by
    have h1 := h a List.mem_cons_self
    have h2 : dig (a + 3 * val r) = a := dig_unique rfl h1.1 h1.2
    have h3 : rest (a + 3 * val r) = val r := by have := rest_eq (a + 3 * val r); omega
    simp only [List.length_cons, val, word, h2, h3]
    rw [word_val (fun x hx => h x (List.mem_cons_of_mem _ hx))]
theorem val_inj {v w : List Int} (hv : Trits v) (hw : Trits w) (hl : v.length = w.length) (h : val v = val w) : v = w := by
  rw [← word_val hv, ← word_val hw, hl, h]
/-- Trits that are not 0. -/
def weight : List Int → Int
  | [] => 0
  | a :: r => a * a + weight r
theorem word_more (k : Nat) : ∀ (j : Nat) (n : Int), -lim k ≤ n ∧ n ≤ lim k → word (k + j) n = word k n ++ List.replicate j 0 := by
  induction k with
  | zero =>
    intro j n h
    obtain rfl : n = 0 := by unfold lim at h; omega
    induction j with
    | zero => rfl
    | succ j ih =>
      have e : rest 0 = 0 := by decide
      have e2 : dig 0 = 0 := by decide
      rw [show 0 + (j + 1) = (0 + j) + 1 by omega]
      simp only [word, e, e2]
      rw [ih]
      rfl
  | succ k ih =>
    intro j n h
    rw [show k + 1 + j = (k + j) + 1 by omega]
    simp only [word]
    rw [ih j _ (rest_bound h)]
    rfl
theorem weight_append (a b : List Int) : weight (a ++ b) = weight a + weight b := by
  induction a with
  | nil => simp [weight]
  | cons x r ih => simp only [List.cons_append, weight, ih]; omega
theorem weight_zeros (j : Nat) : weight (List.replicate j 0) = 0 := by
  induction j with
  | zero => rfl
  | succ j ih => simp [List.replicate_succ, weight, ih]
theorem weight_bound : ∀ {w : List Int}, Trits w → 0 ≤ weight w ∧ weight w ≤ w.length
  | [], _ => ⟨Int.le_refl _, Int.le_refl _⟩
  | a :: r, h => by
    have h1 := h a List.mem_cons_self
    have h2 := weight_bound (w := r) (fun x hx => h x (List.mem_cons_of_mem _ hx))
    simp only [weight, List.length_cons]
    have : a * a = 0 ∨ a * a = 1 := by
      rcases (show a = -1 ∨ a = 0 ∨ a = 1 by omega) with rfl | rfl | rfl <;> simp
    omega
/-- The least number of trits, from j on, below 31; 0 if there is none. -/
def lenFrom (n : Int) : Nat → Nat → Nat
  | 0, _ => 0
  | d + 1, j => if -lim j ≤ n ∧ n ≤ lim j then j else lenFrom n d (j + 1)
def len (n : Int) : Nat := lenFrom n 30 1
theorem lenFrom_spec (n : Int) (d : Nat) : ∀ j, j + d = 31 → (lenFrom n d j = 0 ∧ ∀ i, j ≤ i → i ≤ 30 → ¬ (-lim i ≤ n ∧ n ≤ lim i)) ∨ (j ≤ lenFrom n d j ∧ lenFrom n d j ≤ 30 ∧ (-lim (lenFrom n d j) ≤ n ∧ n ≤ lim (lenFrom n d j))) := by
  induction d with
  | zero => intro j h; exact .inl ⟨rfl, fun i h1 h2 => by omega⟩
  | succ d ih =>
    intro j h
    unfold lenFrom
    by_cases hc : -lim j ≤ n ∧ n ≤ lim j
    · rw [if_pos hc]
      exact .inr ⟨Nat.le_refl _, by omega, hc⟩
    · rw [if_neg hc]
      rcases ih (j + 1) (by omega) with ⟨h1, h2⟩ | ⟨h1, h2, h3⟩
      · refine .inl ⟨h1, fun i hi hi2 => ?_⟩
        by_cases e : i = j
        · subst e; exact hc
        · exact h2 i (by omega) hi2
      · exact .inr ⟨by omega, h2, h3⟩
theorem len_spec {n : Int} (h : -lim 30 ≤ n ∧ n ≤ lim 30) : 1 ≤ len n ∧ len n ≤ 30 ∧ (-lim (len n) ≤ n ∧ n ≤ lim (len n)) := by
  rcases lenFrom_spec n 30 1 rfl with ⟨_, h2⟩ | h2
  · exact absurd h (h2 30 (by omega) (Nat.le_refl _))
  · exact h2
theorem len_zero {n : Int} (h : ¬ (-lim 30 ≤ n ∧ n ≤ lim 30)) : len n = 0 := by
  rcases lenFrom_spec n 30 1 rfl with ⟨h1, _⟩ | ⟨_, h2, h3⟩
  · exact h1
  · have := lim_mono h2
    have h4 := lim_nonneg (lenFrom n 30 1)
    exact absurd (show -lim 30 ≤ n ∧ n ≤ lim 30 by omega) h
end Go.Proofs.Ytnalbcadegicaaa.Plain
-- Laid by xprint.py (wip/tools): printed contracts, and hand-written ones between them.
namespace Go.Proofs.Ytnalbcadegicaaa.X
open Go.RowKit Go.Proofs.YtnalbcadegicaaaW.PrintWords Go.Proofs.YtnalbcadegicaaaW.PrintLast Go.Proofs.YtnalbcadegicaaaW.PrintMore
attribute [local go_sem] max2_int min2_int max_two min_two max_three min_three max_four min_four   -- for this text's walks alone
set_option linter.unusedVariables false
set_option linter.unusedSimpArgs false

/-! ### spec_IsTrit: function 64 -/
def spec_IsTrit.f (a0 : Int) : Option (Bool) := (spec_l1In.f a0 (-1) 1).bind fun t65001 => (some t65001)
set_option maxHeartbeats 8000000 in
set_option maxRecDepth 100000 in
theorem spec_IsTrit.calls (a0 : Int) (r : Bool) (w : World) (h : spec_IsTrit.f a0 = some r) :
    Calls Try.prog 64 #[.int .i64 a0] w fun e w' => e = .returned (.bool r) ∧ Drawn0 w w' := by
  have H : ((spec_l1In.f a0 (-1) 1).bind fun t65001 => (some t65001)) = some r := h
  clear h
  replace H := Option.bind_eq_some_iff.mp H
  obtain ⟨t65001, A20, H⟩ := H
  replace H : (some t65001) = some r := H
  have A2 := Aside0.mk A20
  clear A20
  obtain rfl := Option.some.inj H
  go_enter Try.func64, Try.ntmps64
  go_wp2_with (first | ((with_reducible refine gate_callee (f := 53) rfl ?_); refine goesL_ (some 4) rfl rfl Try.func53 (by kernel_rfl) rfl #[.int .i64 a0, .int .i64 (-1), .int .i64 1] rfl (by (try simp only [List.map_toArray, List.map_cons, List.map_nil]); first | done | rfl | (simp only [List.length_drop, List.length_take]; rfl)) ?_; (with_reducible refine (spec_l1In.calls a0 (-1) 1 t65001 _ A2.out).mono ?_); rintro e w' ⟨rfl, ⟨nd, rfl⟩⟩; refine ⟨_, rfl, ?_⟩))
  go_ret
  exact ⟨by first | rfl | (simp; done) | (simp [*]; done), by repeat (first | exact Drawn0.refl _ | apply Drawn0.step)⟩

end Go.Proofs.Ytnalbcadegicaaa.X
-- Laid by xprint.py (wip/tools): printed contracts, and hand-written ones between them.
namespace Go.Proofs.Ytnalbcadegicaaa.X
open Go.RowKit Go.Proofs.YtnalbcadegicaaaW.PrintWords Go.Proofs.YtnalbcadegicaaaW.PrintLast Go.Proofs.YtnalbcadegicaaaW.PrintMore
attribute [local go_sem] max2_int min2_int max_two min_two max_three min_three max_four min_four   -- for this text's walks alone
set_option linter.unusedVariables false
set_option linter.unusedSimpArgs false

/-! ### words of these hand-written contracts (plain) -/
/-- The first place below n at which p holds; -1 if there is none. -/
def idxN (p : Nat → Bool) (n : Nat) : Int := match (List.range n).find? p with
  | some j => (j : Int)
  | none => -1
theorem idxN_miss {p : Nat → Bool} {n : Nat} (h : ∀ j, j < n → p j = false) : idxN p n = -1 := by
  have : (List.range n).find? p = none := by
    rw [List.find?_eq_none]
    intro x hx
    rw [h x (List.mem_range.1 hx)]
    exact Bool.false_ne_true
  unfold idxN
  rw [this]
theorem idxN_hit {p : Nat → Bool} {n k : Nat} (hk : k < n) (h : p k = true) (h0 : ∀ j, j < k → p j = false) : idxN p n = (k : Int) := by
  have : (List.range n).find? p = some k := by
    rw [List.find?_range_eq_some]
    exact ⟨h, List.mem_range.2 hk, fun j hj => by rw [h0 j hj]; rfl⟩
  unfold idxN
  rw [this]
theorem idxN_any (p : Nat → Bool) (n : Nat) : decide (0 ≤ idxN p n) = (List.range n).any p := by
  unfold idxN
  cases h : (List.range n).find? p with
  | none =>
    rw [List.find?_eq_none] at h
    have : (List.range n).any p = false := by
      rw [List.any_eq_false]
      exact h
    rw [this]
    rfl
  | some j =>
    have h1 := List.find?_some h
    have h2 := List.mem_of_find?_eq_some h
    have : (List.range n).any p = true := List.any_eq_true.2 ⟨j, h2, h1⟩
    rw [this]
    simp
theorem any_range_lt {p q : Nat → Bool} {n : Nat} (h : ∀ j, j < n → p j = q j) : (List.range n).any p = (List.range n).any q := by
  rw [Bool.eq_iff_iff, List.any_eq_true, List.any_eq_true]
  constructor
  · rintro ⟨j, hj, hp⟩
    exact ⟨j, hj, by rw [← h j (List.mem_range.1 hj)]; exact hp⟩
  · rintro ⟨j, hj, hp⟩
    exact ⟨j, hj, by rw [h j (List.mem_range.1 hj)]; exact hp⟩
/-- A list gone through by its places. -/
theorem any_range_list {α : Type} (xs : List α) (d : α) (p : α → Bool) : (List.range xs.length).any (fun j => p (xs.getD j d)) = xs.any p := by
  rw [Bool.eq_iff_iff, List.any_eq_true, List.any_eq_true]
  constructor
  · rintro ⟨j, hj, hp⟩
    have hj' := List.mem_range.1 hj
    refine ⟨xs[j], List.getElem_mem hj', ?_⟩
    rw [List.getD_eq_getElem?_getD, List.getElem?_eq_getElem hj'] at hp
    exact hp
  · rintro ⟨x, hx, hp⟩
    obtain ⟨j, hj, rfl⟩ := List.getElem_of_mem hx
    refine ⟨j, List.mem_range.2 hj, ?_⟩
    rw [List.getD_eq_getElem?_getD, List.getElem?_eq_getElem hj]
    exact hp
/-- The cells of a row of rows, by their places. -/
theorem rows_vals {e : Nat} {w : World} {A : Option Addr} {n : Nat} {xs : List (List Int)} (h : Kd.C (Kd.slice e (Kd.int .i64)) w A n xs) :
    ∃ vals : Nat → Value, (∀ j, j < n → ∃ ad, A = some ad ∧ w.cell? (ad.add j) = some (vals j)) ∧
      ∀ j, j < n → ∃ A1 c1, vals j = .slice A1 (xs.getD j []).length c1 ∧ (xs.getD j []).length ≤ c1 ∧ Kd.C (Kd.int .i64) w A1 (xs.getD j []).length (xs.getD j []) := by
  have key : ∀ j, ∃ v : Value, j < n → (∃ ad, A = some ad ∧ w.cell? (ad.add j) = some v) ∧ ∃ A1 c1, v = .slice A1 (xs.getD j []).length c1 ∧ (xs.getD j []).length ≤ c1 ∧ Kd.C (Kd.int .i64) w A1 (xs.getD j []).length (xs.getD j []) := by
    intro j
    by_cases hj : j < n
    · obtain ⟨ad, c, e1, _, hK, hcell⟩ := Kd.C_get h ([] : List Int) (j : Int) (by omega) (by omega)
      obtain ⟨A2, c2, rfl, hl2, hr2⟩ := hK
      have hx : w.cell? (ad.add (j * 1 + 0)) = some (.slice A2 (xs.getD j []).length c2) := hcell 0 _ rfl
      rw [Nat.mul_one, Nat.add_zero] at hx
      exact ⟨.slice A2 (xs.getD j []).length c2, fun _ => ⟨⟨ad, e1, hx⟩, A2, c2, rfl, hl2, hr2⟩⟩
    · exact ⟨.bool false, fun h => absurd h hj⟩
  obtain ⟨vals, hv⟩ := Classical.axiomOfChoice key
  exact ⟨vals, fun j hj => (hv j hj).1, fun j hj => (hv j hj).2⟩
theorem drawn_below {w w' : World} (h : ∃ q, w' = w.drewN q) : Below w.heap.size w w' := by
  obtain ⟨q, rfl⟩ := h
  exact pw_below_drewN (Below.refl _ _) q
theorem bne_nat (a b : Nat) : ((a : Int) != (b : Int)) = !decide (a = b) := by
  by_cases h : a = b
  · subst h; simp
  · have : ¬ (a : Int) = b := by omega
    simp [h, this, bne]
theorem beq_nat (a b : Nat) : ((a : Int) == (b : Int)) = decide (a = b) := by
  by_cases h : a = b
  · subst h; simp
  · have : ¬ (a : Int) = b := by omega
    simp [h, this]
/-- SignOf. -/
def signI (n : Int) : Int := if n < 0 then -1 else if n > 0 then 1 else 0
theorem ints_at {w : World} {A : Option Addr} {n : Nat} {xs : List Int} (h : Kd.C (Kd.int .i64) w A n xs) (i : Nat) (hi : i < n) : ∃ ad, A = some ad ∧ w.cell? (ad.add i) = some (.int .i64 (xs.getD i 0)) := by
  obtain ⟨ad, c, e1, _, hK, hcell⟩ := Kd.C_get h (0 : Int) (i : Int) (by omega) (by omega)
  obtain rfl : c = [.int .i64 (xs.getD i 0)] := hK
  have hx : w.cell? (ad.add (i * 1 + 0)) = some (.int .i64 (xs.getD i 0)) := hcell 0 _ rfl
  rw [Nat.mul_one, Nat.add_zero] at hx
  exact ⟨ad, e1, hx⟩
theorem drop_at {xs : List Int} {k : Nat} (h : k < xs.length) : xs.drop k = xs.getD k 0 :: xs.drop (k + 1) := by
  rw [List.drop_eq_getElem_cons h, List.getD_eq_getElem?_getD, List.getElem?_eq_getElem h]
  rfl
/-- A literal of two rows of numbers. -/
theorem two_rows {e t : Nat} {W : World} {A0 A1 : Option Addr} {c0 c1 : Nat} {l0 l1 : List Int} {B : Nat} (h0 : Kd.C (Kd.int .i64) W A0 l0.length l0) (hc0 : l0.length ≤ c0) (h1 : Kd.C (Kd.int .i64) W A1 l1.length l1) (hc1 : l1.length ≤ c1)
    (hb : W.heap[B]? = some (.cells #[.slice A0 l0.length c0, .slice A1 l1.length c1] t (0, 0))) : Kd.C (Kd.slice e (Kd.int .i64)) W (some ⟨B, 0, none⟩) [l0, l1].length [l0, l1] := by
  refine ⟨rfl, by simp, fun _ => ⟨⟨B, 0, none⟩, rfl, fun j p hj => ?_⟩⟩
  match j, hj with
  | 0, hj =>
    obtain rfl : l0 = p := by simpa using hj
    refine ⟨[.slice A0 l0.length c0], rfl, ⟨A0, c0, rfl, hc0, h0⟩, fun i u hu => ?_⟩
    match i, hu with
    | 0, hu =>
      obtain rfl : Value.slice A0 l0.length c0 = u := by simpa using hu
      exact (blk_cell hb 0).trans rfl
    | i + 1, hu => simp at hu
  | 1, hj =>
    obtain rfl : l1 = p := by simpa using hj
    refine ⟨[.slice A1 l1.length c1], rfl, ⟨A1, c1, rfl, hc1, h1⟩, fun i u hu => ?_⟩
    match i, hu with
    | 0, hu =>
      obtain rfl : Value.slice A1 l1.length c1 = u := by simpa using hu
      exact (blk_cell hb 1).trans rfl
    | i + 1, hu => simp at hu
  | j + 2, hj => simp at hj
theorem bools_set (s : List Bool) (i : Nat) (b : Bool) : (s.map Value.bool).toArray.setIfInBounds i (.bool b) = ((s.set i b).map Value.bool).toArray := by simp [List.map_set]
/-- What IsWord asks. -/
def tritB (x : Int) : Bool := decide (-1 ≤ x) && decide (x ≤ 1)
def wordB (w : List Int) : Bool := decide (1 ≤ w.length) && decide (w.length ≤ 30) && w.all tritB
theorem beq_dec (x y : Int) : (x == y) = decide (x = y) := rfl

end Go.Proofs.Ytnalbcadegicaaa.X
-- Laid by xprint.py (wip/tools): printed contracts, and hand-written ones between them.
namespace Go.Proofs.Ytnalbcadegicaaa.X
open Go.RowKit Go.Proofs.YtnalbcadegicaaaW.PrintWords Go.Proofs.YtnalbcadegicaaaW.PrintLast Go.Proofs.YtnalbcadegicaaaW.PrintMore
attribute [local go_sem] max2_int min2_int max_two min_two max_three min_three max_four min_four   -- for this text's walks alone
set_option linter.unusedVariables false
set_option linter.unusedSimpArgs false

/-! ### spec_IsWord: function 28 -/
def spec_IsWord.l0 : Nat → List Int → List Int → Int → Int → Option (Bool)
  | 0, _, _, _, _ => none
  | k + 1, x0, x5, x6, x7 => if x7 < x6 then (if 0 ≤ x7 then (if x7 < (x5.length : Int) then ((spec_IsTrit.f (rd x5 x7)).bind fun t29002 => (if t29002 = true then (spec_IsWord.l0 k x0 x5 x6 (wrap64 (x7 + 1))) else (some false))) else (none)) else (none)) else ((spec_l1In.f (x0.length : Int) 1 30).bind fun t29003 => (some t29003))
def spec_IsWord.f (k : Nat) (l0 : List Int) : Option (Bool) := spec_IsWord.l0 k l0 l0 (l0.length : Int) 0
theorem spec_IsWord.mono_l : ∀ k, (∀ y0 y1 y2 y3, LeO (spec_IsWord.l0 k y0 y1 y2 y3) (spec_IsWord.l0 (k + 1) y0 y1 y2 y3))
  | 0 => fun _ _ _ _ r h => by simp [spec_IsWord.l0] at h
  | k + 1 => by
    have ih0 := spec_IsWord.mono_l k
    · intro y0 y1 y2 y3
      unfold spec_IsWord.l0
      repeat' first
      | (with_reducible exact ih0 _ _ _ _)
      | (with_reducible exact LeO.refl _)
      | (with_reducible exact LeO.none _)
      | (with_reducible refine LeO.ite ?_ ?_)
      | (with_reducible refine LeO.bind ?_ (fun _ => ?_))
      | exact ih0 _ _ _ _
      | exact LeO.none _
      | refine LeO.ite ?_ ?_
      | refine LeO.bind ?_ (fun _ => ?_)
theorem spec_IsWord.mono : ∀ a0 k, LeO (spec_IsWord.f k a0) (spec_IsWord.f (k + 1) a0) := by
  intro a0 k
  have ih0 := spec_IsWord.mono_l k
  unfold spec_IsWord.f
  repeat' first
      | (with_reducible exact ih0 _ _ _ _)
      | (with_reducible exact LeO.refl _)
      | (with_reducible exact LeO.none _)
      | (with_reducible refine LeO.ite ?_ ?_)
      | (with_reducible refine LeO.bind ?_ (fun _ => ?_))
      | exact ih0 _ _ _ _
      | exact LeO.none _
      | refine LeO.ite ?_ ?_
      | refine LeO.bind ?_ (fun _ => ?_)
set_option maxHeartbeats 8000000 in
set_option maxRecDepth 100000 in
theorem spec_IsWord.calls (k : Nat) (A0 : Option Addr) (c0 : Nat) (l0 : List Int) (r : Bool) (w : World) (hr0 : Kd.C (Kd.int .i64) w A0 l0.length l0) (hc0 : l0.length ≤ c0) (h : spec_IsWord.f k l0 = some r) :
    Calls Try.prog 28 #[.slice A0 l0.length c0] w fun e w' => e = .returned (.bool r) ∧ Drawn0 w w' := by
  have HR0 := Aside0.mk hr0
  have HC0 := Aside0.mk hc0
  clear hr0 hc0
  have H : (spec_IsWord.l0 k l0 l0 (l0.length : Int) 0) = some r := h
  clear h
  have H' := Aside0.mk H
  clear H
  go_enter Try.func28, Try.ntmps28
  go_wp2
  go_loopg [7] k (fun kq v7 w' => ∃ (x7_1 : Int), v7 = .int .i64 x7_1 ∧ Aside0 (spec_IsWord.l0 kq l0 l0 (l0.length : Int) x7_1 = some r) ∧ Aside0 (kq ≤ k) ∧ Drawn0 w w')
  case atStart => exact ⟨(0), (by first | rfl | (simp; done) | (simp [*]; done)), H', ⟨Nat.le_refl _⟩, by repeat (first | exact Drawn0.refl _ | apply Drawn0.step)⟩
  case round =>
    clear H'
    obtain ⟨x7_1, rfl, HA, HK1, ⟨m1, rfl⟩⟩ := hrel
    cases gk with
    | zero => exact absurd HA.out (by simp [spec_IsWord.l0])
    | succ k1 =>
      have H := HA.out
      clear HA
      simp only [spec_IsWord.l0] at H
      by_cases c2 : x7_1 < (l0.length : Int)
      · rw [if_pos c2] at H
        have c2b0 : decide (x7_1 < (l0.length : Int)) = true := decide_eq_true c2
        clear c2
        by_cases c3 : 0 ≤ x7_1
        · rw [if_pos c3] at H
          have c3b0 : decide (0 ≤ x7_1) = true := decide_eq_true c3
          clear c3
          by_cases c4 : x7_1 < (l0.length : Int)
          · rw [if_pos c4] at H
            have c4b0 : decide (x7_1 < (l0.length : Int)) = true := decide_eq_true c4
            clear c4
            replace H := Option.bind_eq_some_iff.mp H
            obtain ⟨t29002, A50, H⟩ := H
            replace H : (if t29002 = true then (spec_IsWord.l0 k1 l0 l0 (l0.length : Int) (wrap64 (x7_1 + 1))) else (some false)) = some r := H
            have A5 := Aside0.mk A50
            clear A50
            by_cases c6 : t29002 = true
            · subst c6
              have H1 : (spec_IsWord.l0 k1 l0 l0 (l0.length : Int) (wrap64 (x7_1 + 1))) = some r := by rw [if_pos rfl] at H; exact H
              clear H
              have H := H1
              clear H1
              have H' := Aside0.mk H
              clear H
              have p29001 : 0 ≤ (x7_1 : Int) := of_decide_eq_true (by first | (with_reducible assumption) | assumption)
              have q29001 : x7_1 < (l0.length : Int) := of_decide_eq_true (by first | (with_reducible assumption) | assumption)
              obtain ⟨ad29001, e29001, hx29001_0⟩ := Kd.at_int HR0.out x7_1 p29001 q29001
              cases e29001
              replace p29001 := eq_true p29001
              replace q29001 := eq_true q29001
              go_wp2_with (first | ((with_reducible refine gate_callee (f := 64) rfl ?_); refine goesL_ (some 12) rfl rfl Try.func64 (by kernel_rfl) rfl #[.int .i64 (rd l0 x7_1)] rfl (by (try simp only [List.map_toArray, List.map_cons, List.map_nil]); first | done | rfl | (simp only [List.length_drop, List.length_take]; rfl)) ?_; (with_reducible refine (spec_IsTrit.calls (rd l0 x7_1) true _ A5.out).mono ?_); rintro e w' ⟨rfl, ⟨nd, rfl⟩⟩; refine ⟨_, rfl, ?_⟩))
              go_roundg k1
              case measure => have := HK1.out; omega
              case rel => exact ⟨(wrap64 (x7_1 + 1)), (by first | rfl | (simp; done) | (simp [*]; done)), H', ⟨by have := HK1.out; omega⟩, by repeat (first | exact Drawn0.refl _ | apply Drawn0.step)⟩
            · replace c6 := Bool.eq_false_iff.mpr c6
              subst c6
              have H1 : (some false) = some r := by rw [if_neg (show ¬ (false = true) by decide)] at H; exact H
              clear H
              have H := H1
              clear H1
              obtain rfl := Option.some.inj H
              have p29001 : 0 ≤ (x7_1 : Int) := of_decide_eq_true (by first | (with_reducible assumption) | assumption)
              have q29001 : x7_1 < (l0.length : Int) := of_decide_eq_true (by first | (with_reducible assumption) | assumption)
              obtain ⟨ad29001, e29001, hx29001_0⟩ := Kd.at_int HR0.out x7_1 p29001 q29001
              cases e29001
              replace p29001 := eq_true p29001
              replace q29001 := eq_true q29001
              go_wp2_with (first | ((with_reducible refine gate_callee (f := 64) rfl ?_); refine goesL_ (some 12) rfl rfl Try.func64 (by kernel_rfl) rfl #[.int .i64 (rd l0 x7_1)] rfl (by (try simp only [List.map_toArray, List.map_cons, List.map_nil]); first | done | rfl | (simp only [List.length_drop, List.length_take]; rfl)) ?_; (with_reducible refine (spec_IsTrit.calls (rd l0 x7_1) false _ A5.out).mono ?_); rintro e w' ⟨rfl, ⟨nd, rfl⟩⟩; refine ⟨_, rfl, ?_⟩))
              go_ret
              exact ⟨by first | rfl | (simp; done) | (simp [*]; done), by repeat (first | exact Drawn0.refl _ | apply Drawn0.step)⟩
          · rw [if_neg c4] at H
            exact absurd H (by simp)
        · rw [if_neg c3] at H
          exact absurd H (by simp)
      · rw [if_neg c2] at H
        have c2b0 : decide (x7_1 < (l0.length : Int)) = false := decide_eq_false c2
        clear c2
        replace H := Option.bind_eq_some_iff.mp H
        obtain ⟨t29003, A70, H⟩ := H
        replace H : (some t29003) = some r := H
        have A7 := Aside0.mk A70
        clear A70
        obtain rfl := Option.some.inj H
        go_wp2_with (first | ((with_reducible refine gate_callee (f := 53) rfl ?_); refine goesL_ (some 17) rfl rfl Try.func53 (by kernel_rfl) rfl #[.int .i64 (l0.length : Int), .int .i64 1, .int .i64 30] rfl (by (try simp only [List.map_toArray, List.map_cons, List.map_nil]); first | done | rfl | (simp only [List.length_drop, List.length_take]; rfl)) ?_; (with_reducible refine (spec_l1In.calls (l0.length : Int) 1 30 t29003 _ A7.out).mono ?_); rintro e w' ⟨rfl, ⟨nd, rfl⟩⟩; refine ⟨_, rfl, ?_⟩))
        go_ret
        exact ⟨by first | rfl | (simp; done) | (simp [*]; done), by repeat (first | exact Drawn0.refl _ | apply Drawn0.step)⟩

end Go.Proofs.Ytnalbcadegicaaa.X
-- Laid by xprint.py (wip/tools): printed contracts, and hand-written ones between them.
namespace Go.Proofs.Ytnalbcadegicaaa.X
open Go.RowKit Go.Proofs.YtnalbcadegicaaaW.PrintWords Go.Proofs.YtnalbcadegicaaaW.PrintLast Go.Proofs.YtnalbcadegicaaaW.PrintMore
attribute [local go_sem] max2_int min2_int max_two min_two max_three min_three max_four min_four   -- for this text's walks alone
set_option linter.unusedVariables false
set_option linter.unusedSimpArgs false

/-! ### spec_LimitOf: function 30 -/
def spec_LimitOf.l0 : Nat → Int → Int → Int → Option (Int)
  | 0, _, _, _ => none
  | k + 1, x0, x3, x4 => if x4 < x0 then (spec_LimitOf.l0 k x0 (wrap64 ((wrap64 (3 * x3)) + 1)) (wrap64 (x4 + 1))) else (some x3)
def spec_LimitOf.f (k : Nat) (a0 : Int) : Option (Int) := (spec_l1In.f a0 1 30).bind fun t31001 => (if t31001 = true then (spec_LimitOf.l0 k a0 0 0) else (some 0))
theorem spec_LimitOf.mono_l : ∀ k, (∀ y0 y1 y2, LeO (spec_LimitOf.l0 k y0 y1 y2) (spec_LimitOf.l0 (k + 1) y0 y1 y2))
  | 0 => fun _ _ _ r h => by simp [spec_LimitOf.l0] at h
  | k + 1 => by
    have ih0 := spec_LimitOf.mono_l k
    · intro y0 y1 y2
      unfold spec_LimitOf.l0
      repeat' first
      | (with_reducible exact ih0 _ _ _)
      | (with_reducible exact LeO.refl _)
      | (with_reducible exact LeO.none _)
      | (with_reducible refine LeO.ite ?_ ?_)
      | (with_reducible refine LeO.bind ?_ (fun _ => ?_))
      | exact ih0 _ _ _
      | exact LeO.none _
      | refine LeO.ite ?_ ?_
      | refine LeO.bind ?_ (fun _ => ?_)
theorem spec_LimitOf.mono : ∀ a0 k, LeO (spec_LimitOf.f k a0) (spec_LimitOf.f (k + 1) a0) := by
  intro a0 k
  have ih0 := spec_LimitOf.mono_l k
  unfold spec_LimitOf.f
  repeat' first
      | (with_reducible exact ih0 _ _ _)
      | (with_reducible exact LeO.refl _)
      | (with_reducible exact LeO.none _)
      | (with_reducible refine LeO.ite ?_ ?_)
      | (with_reducible refine LeO.bind ?_ (fun _ => ?_))
      | exact ih0 _ _ _
      | exact LeO.none _
      | refine LeO.ite ?_ ?_
      | refine LeO.bind ?_ (fun _ => ?_)
set_option maxHeartbeats 8000000 in
set_option maxRecDepth 100000 in
theorem spec_LimitOf.calls (k : Nat) (a0 : Int) (r : Int) (w : World) (h : spec_LimitOf.f k a0 = some r) :
    Calls Try.prog 30 #[.int .i64 a0] w fun e w' => e = .returned (.int .i64 r) ∧ Drawn0 w w' := by
  have H : ((spec_l1In.f a0 1 30).bind fun t31001 => (if t31001 = true then (spec_LimitOf.l0 k a0 0 0) else (some 0))) = some r := h
  clear h
  replace H := Option.bind_eq_some_iff.mp H
  obtain ⟨t31001, A20, H⟩ := H
  replace H : (if t31001 = true then (spec_LimitOf.l0 k a0 0 0) else (some 0)) = some r := H
  have A2 := Aside0.mk A20
  clear A20
  by_cases c3 : t31001 = true
  · subst c3
    have H1 : (spec_LimitOf.l0 k a0 0 0) = some r := by rw [if_pos rfl] at H; exact H
    clear H
    have H := H1
    clear H1
    have H' := Aside0.mk H
    clear H
    go_enter Try.func30, Try.ntmps30
    go_wp2_with (first | ((with_reducible refine gate_callee (f := 53) rfl ?_); refine goesL_ (some 6) rfl rfl Try.func53 (by kernel_rfl) rfl #[.int .i64 a0, .int .i64 1, .int .i64 30] rfl (by (try simp only [List.map_toArray, List.map_cons, List.map_nil]); first | done | rfl | (simp only [List.length_drop, List.length_take]; rfl)) ?_; (with_reducible refine (spec_l1In.calls a0 1 30 true _ A2.out).mono ?_); rintro e w' ⟨rfl, ⟨nd, rfl⟩⟩; refine ⟨_, rfl, ?_⟩))
    go_loopg [3, 4] k (fun kq v3 v4 w' => ∃ (x3_1 : Int) (x4_1 : Int), v3 = .int .i64 x3_1 ∧ v4 = .int .i64 x4_1 ∧ Aside0 (spec_LimitOf.l0 kq a0 x3_1 x4_1 = some r) ∧ Aside0 (kq ≤ k) ∧ Drawn0 w w')
    case atStart => exact ⟨(0), (0), (by first | rfl | (simp; done) | (simp [*]; done)), (by first | rfl | (simp; done) | (simp [*]; done)), H', ⟨Nat.le_refl _⟩, by repeat (first | exact Drawn0.refl _ | apply Drawn0.step)⟩
    case round =>
      clear H'
      try clear p2
      try clear c3
      obtain ⟨x3_1, x4_1, rfl, rfl, HA, HK1, ⟨m1, rfl⟩⟩ := hrel
      cases gk with
      | zero => exact absurd HA.out (by simp [spec_LimitOf.l0])
      | succ k1 =>
        have H := HA.out
        clear HA
        simp only [spec_LimitOf.l0] at H
        by_cases c4 : x4_1 < a0
        · rw [if_pos c4] at H
          have c4b0 : decide (x4_1 < a0) = true := decide_eq_true c4
          clear c4
          have H' := Aside0.mk H
          clear H
          go_wp2
          go_roundg k1
          case measure => have := HK1.out; omega
          case rel => exact ⟨(wrap64 ((wrap64 (3 * x3_1)) + 1)), (wrap64 (x4_1 + 1)), (by first | rfl | (simp; done) | (simp [*]; done)), (by first | rfl | (simp; done) | (simp [*]; done)), H', ⟨by have := HK1.out; omega⟩, by repeat (first | exact Drawn0.refl _ | apply Drawn0.step)⟩
        · rw [if_neg c4] at H
          have c4b0 : decide (x4_1 < a0) = false := decide_eq_false c4
          clear c4
          obtain rfl := Option.some.inj H
          go_wp2
          go_ret
          exact ⟨by first | rfl | (simp; done) | (simp [*]; done), by repeat (first | exact Drawn0.refl _ | apply Drawn0.step)⟩
  · replace c3 := Bool.eq_false_iff.mpr c3
    subst c3
    have H1 : (some 0) = some r := by rw [if_neg (show ¬ (false = true) by decide)] at H; exact H
    clear H
    have H := H1
    clear H1
    obtain rfl := Option.some.inj H
    go_enter Try.func30, Try.ntmps30
    go_wp2_with (first | ((with_reducible refine gate_callee (f := 53) rfl ?_); refine goesL_ (some 6) rfl rfl Try.func53 (by kernel_rfl) rfl #[.int .i64 a0, .int .i64 1, .int .i64 30] rfl (by (try simp only [List.map_toArray, List.map_cons, List.map_nil]); first | done | rfl | (simp only [List.length_drop, List.length_take]; rfl)) ?_; (with_reducible refine (spec_l1In.calls a0 1 30 false _ A2.out).mono ?_); rintro e w' ⟨rfl, ⟨nd, rfl⟩⟩; refine ⟨_, rfl, ?_⟩))
    go_ret
    exact ⟨by first | rfl | (simp; done) | (simp [*]; done), by repeat (first | exact Drawn0.refl _ | apply Drawn0.step)⟩

end Go.Proofs.Ytnalbcadegicaaa.X
-- Laid by xprint.py (wip/tools): printed contracts, and hand-written ones between them.
namespace Go.Proofs.Ytnalbcadegicaaa.X
open Go.RowKit Go.Proofs.YtnalbcadegicaaaW.PrintWords Go.Proofs.YtnalbcadegicaaaW.PrintLast Go.Proofs.YtnalbcadegicaaaW.PrintMore
attribute [local go_sem] max2_int min2_int max_two min_two max_three min_three max_four min_four   -- for this text's walks alone
set_option linter.unusedVariables false
set_option linter.unusedSimpArgs false

/-! ### spec_l2Value: function 69 -/
def spec_l2Value.l0 : Nat → List Int → Int → Int → Option (Int)
  | 0, _, _, _ => none
  | k + 1, x0, x3, x4 => if x4 ≥ 0 then (if 0 ≤ x4 then (if x4 < (x0.length : Int) then (spec_l2Value.l0 k x0 (wrap64 ((wrap64 (3 * x3)) + (rd x0 x4))) (wrap64 (x4 - 1))) else (none)) else (none)) else (some x3)
def spec_l2Value.f (k : Nat) (l0 : List Int) : Option (Int) := spec_l2Value.l0 k l0 0 (wrap64 ((l0.length : Int) - 1))
theorem spec_l2Value.mono_l : ∀ k, (∀ y0 y1 y2, LeO (spec_l2Value.l0 k y0 y1 y2) (spec_l2Value.l0 (k + 1) y0 y1 y2))
  | 0 => fun _ _ _ r h => by simp [spec_l2Value.l0] at h
  | k + 1 => by
    have ih0 := spec_l2Value.mono_l k
    · intro y0 y1 y2
      unfold spec_l2Value.l0
      repeat' first
      | (with_reducible exact ih0 _ _ _)
      | (with_reducible exact LeO.refl _)
      | (with_reducible exact LeO.none _)
      | (with_reducible refine LeO.ite ?_ ?_)
      | (with_reducible refine LeO.bind ?_ (fun _ => ?_))
      | exact ih0 _ _ _
      | exact LeO.none _
      | refine LeO.ite ?_ ?_
      | refine LeO.bind ?_ (fun _ => ?_)
theorem spec_l2Value.mono : ∀ a0 k, LeO (spec_l2Value.f k a0) (spec_l2Value.f (k + 1) a0) := by
  intro a0 k
  have ih0 := spec_l2Value.mono_l k
  unfold spec_l2Value.f
  repeat' first
      | (with_reducible exact ih0 _ _ _)
      | (with_reducible exact LeO.refl _)
      | (with_reducible exact LeO.none _)
      | (with_reducible refine LeO.ite ?_ ?_)
      | (with_reducible refine LeO.bind ?_ (fun _ => ?_))
      | exact ih0 _ _ _
      | exact LeO.none _
      | refine LeO.ite ?_ ?_
      | refine LeO.bind ?_ (fun _ => ?_)
set_option maxHeartbeats 8000000 in
set_option maxRecDepth 100000 in
theorem spec_l2Value.calls (k : Nat) (A0 : Option Addr) (c0 : Nat) (l0 : List Int) (r : Int) (w : World) (hr0 : Kd.C (Kd.int .i64) w A0 l0.length l0) (hc0 : l0.length ≤ c0) (h : spec_l2Value.f k l0 = some r) :
    Calls Try.prog 69 #[.slice A0 l0.length c0] w fun e w' => e = .returned (.int .i64 r) ∧ Drawn0 w w' := by
  have HR0 := Aside0.mk hr0
  have HC0 := Aside0.mk hc0
  clear hr0 hc0
  have H : (spec_l2Value.l0 k l0 0 (wrap64 ((l0.length : Int) - 1))) = some r := h
  clear h
  have H' := Aside0.mk H
  clear H
  go_enter Try.func69, Try.ntmps69
  go_wp2
  go_loopg [3, 4] k (fun kq v3 v4 w' => ∃ (x3_1 : Int) (x4_1 : Int), v3 = .int .i64 x3_1 ∧ v4 = .int .i64 x4_1 ∧ Aside0 (spec_l2Value.l0 kq l0 x3_1 x4_1 = some r) ∧ Aside0 (kq ≤ k) ∧ Drawn0 w w')
  case atStart => exact ⟨(0), (wrap64 ((l0.length : Int) - 1)), (by first | rfl | (simp; done) | (simp [*]; done)), (by first | rfl | (simp; done) | (simp [*]; done)), H', ⟨Nat.le_refl _⟩, by repeat (first | exact Drawn0.refl _ | apply Drawn0.step)⟩
  case round =>
    clear H'
    obtain ⟨x3_1, x4_1, rfl, rfl, HA, HK1, ⟨m1, rfl⟩⟩ := hrel
    cases gk with
    | zero => exact absurd HA.out (by simp [spec_l2Value.l0])
    | succ k1 =>
      have H := HA.out
      clear HA
      simp only [spec_l2Value.l0] at H
      by_cases c2 : x4_1 ≥ 0
      · rw [if_pos c2] at H
        have c2b0 : decide (0 ≤ x4_1) = true := decide_eq_true c2
        clear c2
        by_cases c3 : 0 ≤ x4_1
        · rw [if_pos c3] at H
          have c3b0 : decide (0 ≤ x4_1) = true := decide_eq_true c3
          clear c3
          by_cases c4 : x4_1 < (l0.length : Int)
          · rw [if_pos c4] at H
            have c4b0 : decide (x4_1 < (l0.length : Int)) = true := decide_eq_true c4
            clear c4
            have H' := Aside0.mk H
            clear H
            have p70001 : 0 ≤ (x4_1 : Int) := of_decide_eq_true (by first | (with_reducible assumption) | assumption)
            have q70001 : x4_1 < (l0.length : Int) := of_decide_eq_true (by first | (with_reducible assumption) | assumption)
            obtain ⟨ad70001, e70001, hx70001_0⟩ := Kd.at_int HR0.out x4_1 p70001 q70001
            cases e70001
            replace p70001 := eq_true p70001
            replace q70001 := eq_true q70001
            go_wp2
            go_roundg k1
            case measure => have := HK1.out; omega
            case rel => exact ⟨(wrap64 ((wrap64 (3 * x3_1)) + (rd l0 x4_1))), (wrap64 (x4_1 - 1)), (by first | rfl | (simp; done) | (simp [*]; done)), (by first | rfl | (simp; done) | (simp [*]; done)), H', ⟨by have := HK1.out; omega⟩, by repeat (first | exact Drawn0.refl _ | apply Drawn0.step)⟩
          · rw [if_neg c4] at H
            exact absurd H (by simp)
        · rw [if_neg c3] at H
          exact absurd H (by simp)
      · rw [if_neg c2] at H
        have c2b0 : decide (0 ≤ x4_1) = false := decide_eq_false c2
        clear c2
        obtain rfl := Option.some.inj H
        go_wp2
        go_ret
        exact ⟨by first | rfl | (simp; done) | (simp [*]; done), by repeat (first | exact Drawn0.refl _ | apply Drawn0.step)⟩

end Go.Proofs.Ytnalbcadegicaaa.X
-- Laid by xprint.py (wip/tools): printed contracts, and hand-written ones between them.
namespace Go.Proofs.Ytnalbcadegicaaa.X
open Go.RowKit Go.Proofs.YtnalbcadegicaaaW.PrintWords Go.Proofs.YtnalbcadegicaaaW.PrintLast Go.Proofs.YtnalbcadegicaaaW.PrintMore
attribute [local go_sem] max2_int min2_int max_two min_two max_three min_three max_four min_four   -- for this text's walks alone
set_option linter.unusedVariables false
set_option linter.unusedSimpArgs false

/-! ### spec_ValueOf: function 29 -/
def spec_ValueOf.f (k : Nat) (l0 : List Int) : Option (Int) := (spec_IsWord.f k l0).bind fun t30001 => (if t30001 = true then ((spec_l2Value.f k l0).bind fun t30002 => (some t30002)) else (some 0))
theorem spec_ValueOf.mono : ∀ a0 k, LeO (spec_ValueOf.f k a0) (spec_ValueOf.f (k + 1) a0) := by
  intro a0 k
  unfold spec_ValueOf.f
  repeat' first
      | (with_reducible exact spec_IsWord.mono _ _)
      | (with_reducible exact spec_l2Value.mono _ _)
      | (with_reducible exact LeO.refl _)
      | (with_reducible exact LeO.none _)
      | (with_reducible refine LeO.ite ?_ ?_)
      | (with_reducible refine LeO.bind ?_ (fun _ => ?_))
      | exact spec_IsWord.mono _ _
      | exact spec_l2Value.mono _ _
      | exact LeO.none _
      | refine LeO.ite ?_ ?_
      | refine LeO.bind ?_ (fun _ => ?_)
set_option maxHeartbeats 8000000 in
set_option maxRecDepth 100000 in
theorem spec_ValueOf.calls (k : Nat) (A0 : Option Addr) (c0 : Nat) (l0 : List Int) (r : Int) (w : World) (hr0 : Kd.C (Kd.int .i64) w A0 l0.length l0) (hc0 : l0.length ≤ c0) (h : spec_ValueOf.f k l0 = some r) :
    Calls Try.prog 29 #[.slice A0 l0.length c0] w fun e w' => e = .returned (.int .i64 r) ∧ Drawn0 w w' := by
  have HR0 := Aside0.mk hr0
  have HC0 := Aside0.mk hc0
  clear hr0 hc0
  have H : ((spec_IsWord.f k l0).bind fun t30001 => (if t30001 = true then ((spec_l2Value.f k l0).bind fun t30002 => (some t30002)) else (some 0))) = some r := h
  clear h
  replace H := Option.bind_eq_some_iff.mp H
  obtain ⟨t30001, A20, H⟩ := H
  replace H : (if t30001 = true then ((spec_l2Value.f k l0).bind fun t30002 => (some t30002)) else (some 0)) = some r := H
  have A2 := Aside0.mk A20
  clear A20
  by_cases c3 : t30001 = true
  · subst c3
    have H1 : ((spec_l2Value.f k l0).bind fun t30002 => (some t30002)) = some r := by rw [if_pos rfl] at H; exact H
    clear H
    have H := H1
    clear H1
    replace H := Option.bind_eq_some_iff.mp H
    obtain ⟨t30002, A40, H⟩ := H
    replace H : (some t30002) = some r := H
    have A4 := Aside0.mk A40
    clear A40
    obtain rfl := Option.some.inj H
    go_enter Try.func29, Try.ntmps29
    go_wp2_with (first | ((with_reducible refine gate_callee (f := 28) rfl ?_); refine goesL_ (some 4) rfl rfl Try.func28 (by kernel_rfl) rfl #[.slice A0 l0.length c0] rfl (by (try simp only [List.map_toArray, List.map_cons, List.map_nil]); first | done | rfl | (simp only [List.length_drop, List.length_take]; rfl)) ?_; (with_reducible refine (spec_IsWord.calls k _ _ l0 true _ ?side1 ?side2 A2.out).mono ?_); (case side1 => repeat (first | exact HR0.out | (with_reducible refine Kd.C_alloc ?_ _) | (with_reducible refine Kd.C_drewN ?_ _) | (with_reducible refine Kd.C_drew ?_))); (case side2 => exact HC0.out); rintro e w' ⟨rfl, ⟨nd, rfl⟩⟩; refine ⟨_, rfl, ?_⟩) | ((with_reducible refine gate_callee (f := 69) rfl ?_); refine goesL_ (some 7) rfl rfl Try.func69 (by kernel_rfl) rfl #[.slice A0 l0.length c0] rfl (by (try simp only [List.map_toArray, List.map_cons, List.map_nil]); first | done | rfl | (simp only [List.length_drop, List.length_take]; rfl)) ?_; (with_reducible refine (spec_l2Value.calls k _ _ l0 t30002 _ ?side1 ?side2 A4.out).mono ?_); (case side1 => repeat (first | exact HR0.out | (with_reducible refine Kd.C_alloc ?_ _) | (with_reducible refine Kd.C_drewN ?_ _) | (with_reducible refine Kd.C_drew ?_))); (case side2 => exact HC0.out); rintro e w' ⟨rfl, ⟨nd, rfl⟩⟩; refine ⟨_, rfl, ?_⟩))
    go_ret
    exact ⟨by first | rfl | (simp; done) | (simp [*]; done), by repeat (first | exact Drawn0.refl _ | apply Drawn0.step)⟩
  · replace c3 := Bool.eq_false_iff.mpr c3
    subst c3
    have H1 : (some 0) = some r := by rw [if_neg (show ¬ (false = true) by decide)] at H; exact H
    clear H
    have H := H1
    clear H1
    obtain rfl := Option.some.inj H
    go_enter Try.func29, Try.ntmps29
    go_wp2_with (first | ((with_reducible refine gate_callee (f := 28) rfl ?_); refine goesL_ (some 4) rfl rfl Try.func28 (by kernel_rfl) rfl #[.slice A0 l0.length c0] rfl (by (try simp only [List.map_toArray, List.map_cons, List.map_nil]); first | done | rfl | (simp only [List.length_drop, List.length_take]; rfl)) ?_; (with_reducible refine (spec_IsWord.calls k _ _ l0 false _ ?side1 ?side2 A2.out).mono ?_); (case side1 => repeat (first | exact HR0.out | (with_reducible refine Kd.C_alloc ?_ _) | (with_reducible refine Kd.C_drewN ?_ _) | (with_reducible refine Kd.C_drew ?_))); (case side2 => exact HC0.out); rintro e w' ⟨rfl, ⟨nd, rfl⟩⟩; refine ⟨_, rfl, ?_⟩))
    go_ret
    exact ⟨by first | rfl | (simp; done) | (simp [*]; done), by repeat (first | exact Drawn0.refl _ | apply Drawn0.step)⟩

end Go.Proofs.Ytnalbcadegicaaa.X
-- Laid by xprint.py (wip/tools): printed contracts, and hand-written ones between them.
namespace Go.Proofs.Ytnalbcadegicaaa.X
open Go.RowKit Go.Proofs.YtnalbcadegicaaaW.PrintWords Go.Proofs.YtnalbcadegicaaaW.PrintLast Go.Proofs.YtnalbcadegicaaaW.PrintMore
attribute [local go_sem] max2_int min2_int max_two min_two max_three min_three max_four min_four   -- for this text's walks alone
set_option linter.unusedVariables false
set_option linter.unusedSimpArgs false

/-! ### spec_l5Lift: function 68 -/
def spec_l5Lift.l0 : Nat → Int → Int → Option (Int)
  | 0, _, _ => none
  | k + 1, x0, x1 => if x1 > 0 then (spec_l5Lift.l0 k (wrap64 (3 * x0)) (wrap64 (x1 - 1))) else (some x0)
def spec_l5Lift.f (k : Nat) (a0 : Int) (a1 : Int) : Option (Int) := spec_l5Lift.l0 k a0 a1
theorem spec_l5Lift.mono_l : ∀ k, (∀ y0 y1, LeO (spec_l5Lift.l0 k y0 y1) (spec_l5Lift.l0 (k + 1) y0 y1))
  | 0 => fun _ _ r h => by simp [spec_l5Lift.l0] at h
  | k + 1 => by
    have ih0 := spec_l5Lift.mono_l k
    · intro y0 y1
      unfold spec_l5Lift.l0
      repeat' first
      | (with_reducible exact ih0 _ _)
      | (with_reducible exact LeO.refl _)
      | (with_reducible exact LeO.none _)
      | (with_reducible refine LeO.ite ?_ ?_)
      | (with_reducible refine LeO.bind ?_ (fun _ => ?_))
      | exact ih0 _ _
      | exact LeO.none _
      | refine LeO.ite ?_ ?_
      | refine LeO.bind ?_ (fun _ => ?_)
theorem spec_l5Lift.mono : ∀ a0 a1 k, LeO (spec_l5Lift.f k a0 a1) (spec_l5Lift.f (k + 1) a0 a1) := by
  intro a0 a1 k
  have ih0 := spec_l5Lift.mono_l k
  unfold spec_l5Lift.f
  repeat' first
      | (with_reducible exact ih0 _ _)
      | (with_reducible exact LeO.refl _)
      | (with_reducible exact LeO.none _)
      | (with_reducible refine LeO.ite ?_ ?_)
      | (with_reducible refine LeO.bind ?_ (fun _ => ?_))
      | exact ih0 _ _
      | exact LeO.none _
      | refine LeO.ite ?_ ?_
      | refine LeO.bind ?_ (fun _ => ?_)
set_option maxHeartbeats 8000000 in
set_option maxRecDepth 100000 in
theorem spec_l5Lift.calls (k : Nat) (a0 : Int) (a1 : Int) (r : Int) (w : World) (h : spec_l5Lift.f k a0 a1 = some r) :
    Calls Try.prog 68 #[.int .i64 a0, .int .i64 a1] w fun e w' => e = .returned (.int .i64 r) ∧ Drawn0 w w' := by
  have H : (spec_l5Lift.l0 k a0 a1) = some r := h
  clear h
  have H' := Aside0.mk H
  clear H
  go_enter Try.func68, Try.ntmps68
  go_wp2
  go_loopg [0, 1] k (fun kq v0 v1 w' => ∃ (x0_1 : Int) (x1_1 : Int), v0 = .int .i64 x0_1 ∧ v1 = .int .i64 x1_1 ∧ Aside0 (spec_l5Lift.l0 kq x0_1 x1_1 = some r) ∧ Aside0 (kq ≤ k) ∧ Drawn0 w w')
  case atStart => exact ⟨(a0), (a1), (by first | rfl | (simp; done) | (simp [*]; done)), (by first | rfl | (simp; done) | (simp [*]; done)), H', ⟨Nat.le_refl _⟩, by repeat (first | exact Drawn0.refl _ | apply Drawn0.step)⟩
  case round =>
    clear H'
    try clear p2
    obtain ⟨x0_1, x1_1, rfl, rfl, HA, HK1, ⟨m1, rfl⟩⟩ := hrel
    cases gk with
    | zero => exact absurd HA.out (by simp [spec_l5Lift.l0])
    | succ k1 =>
      have H := HA.out
      clear HA
      simp only [spec_l5Lift.l0] at H
      by_cases c3 : x1_1 > 0
      · rw [if_pos c3] at H
        have c3b0 : decide (0 < x1_1) = true := decide_eq_true c3
        clear c3
        have H' := Aside0.mk H
        clear H
        go_wp2
        go_roundg k1
        case measure => have := HK1.out; omega
        case rel => exact ⟨(wrap64 (3 * x0_1)), (wrap64 (x1_1 - 1)), (by first | rfl | (simp; done) | (simp [*]; done)), (by first | rfl | (simp; done) | (simp [*]; done)), H', ⟨by have := HK1.out; omega⟩, by repeat (first | exact Drawn0.refl _ | apply Drawn0.step)⟩
      · rw [if_neg c3] at H
        have c3b0 : decide (0 < x1_1) = false := decide_eq_false c3
        clear c3
        obtain rfl := Option.some.inj H
        go_wp2
        go_ret
        exact ⟨by first | rfl | (simp; done) | (simp [*]; done), by repeat (first | exact Drawn0.refl _ | apply Drawn0.step)⟩

end Go.Proofs.Ytnalbcadegicaaa.X
-- Laid by xprint.py (wip/tools): printed contracts, and hand-written ones between them.
namespace Go.Proofs.Ytnalbcadegicaaa.X
open Go.RowKit Go.Proofs.YtnalbcadegicaaaW.PrintWords Go.Proofs.YtnalbcadegicaaaW.PrintLast Go.Proofs.YtnalbcadegicaaaW.PrintMore
attribute [local go_sem] max2_int min2_int max_two min_two max_three min_three max_four min_four   -- for this text's walks alone
set_option linter.unusedVariables false
set_option linter.unusedSimpArgs false

/-! ### spec_MakePower: function 27 -/
def spec_MakePower.f (k : Nat) (a0 : Int) : Option (Int) := (spec_l5Lift.f k 1 (mx 0 (mn a0 30))).bind fun t28001 => (some t28001)
theorem spec_MakePower.mono : ∀ a0 k, LeO (spec_MakePower.f k a0) (spec_MakePower.f (k + 1) a0) := by
  intro a0 k
  unfold spec_MakePower.f
  repeat' first
      | (with_reducible exact spec_l5Lift.mono _ _ _)
      | (with_reducible exact LeO.refl _)
      | (with_reducible exact LeO.none _)
      | (with_reducible refine LeO.ite ?_ ?_)
      | (with_reducible refine LeO.bind ?_ (fun _ => ?_))
      | exact spec_l5Lift.mono _ _ _
      | exact LeO.none _
      | refine LeO.ite ?_ ?_
      | refine LeO.bind ?_ (fun _ => ?_)
set_option maxHeartbeats 8000000 in
set_option maxRecDepth 100000 in
theorem spec_MakePower.calls (k : Nat) (a0 : Int) (r : Int) (w : World) (h : spec_MakePower.f k a0 = some r) :
    Calls Try.prog 27 #[.int .i64 a0] w fun e w' => e = .returned (.int .i64 r) ∧ Below w.heap.size w w' := by
  have HB := Aside0.mk (Below.refl w.heap.size w)
  have H : ((spec_l5Lift.f k 1 (mx 0 (mn a0 30))).bind fun t28001 => (some t28001)) = some r := h
  clear h
  obtain ⟨ji2, hji2⟩ : ∃ j_ : Int, (mn a0 30) = j_ := ⟨_, rfl⟩
  replace H : ((spec_l5Lift.f k 1 (mx 0 (ji2))).bind fun t28001 => (some t28001)) = some r := by first | (rw [hji2] at H; exact H) | (simp only [hji2] at H ⊢; exact H)
  (try (have hji2h : ji2 ≤ 30 := by (rw [← hji2]; unfold mn; (repeat' split) <;> omega)))
  (try (have hji2g : ji2 ≤ 64 := by omega))
  have hji2_ : (if 30 < a0 then 30 else a0) = ji2 := hji2
  obtain ⟨ji3, hji3⟩ : ∃ j_ : Int, (mx 0 (ji2)) = j_ := ⟨_, rfl⟩
  replace H : ((spec_l5Lift.f k 1 (ji3)).bind fun t28001 => (some t28001)) = some r := by first | (rw [hji3] at H; exact H) | (simp only [hji3] at H ⊢; exact H)
  have hji3_ : (if 0 < (ji2) then (ji2) else 0) = ji3 := hji3
  replace H := Option.bind_eq_some_iff.mp H
  obtain ⟨t28001, A40, H⟩ := H
  replace H : (some t28001) = some r := H
  have A4 := Aside0.mk A40
  clear A40
  obtain rfl := Option.some.inj H
  go_enter Try.func27, Try.ntmps27
  go_wp2_with (first | ((with_reducible refine gate_callee (f := 68) rfl ?_); refine goesL_ (some 6) rfl rfl Try.func68 (by kernel_rfl) rfl #[.int .i64 1, .int .i64 ji3] rfl (by (try simp only [List.map_toArray, List.map_cons, List.map_nil]); first | done | (simp only [hji3]; rfl) | rfl | (simp only [List.length_drop, List.length_take]; rfl)) ?_; (with_reducible refine (spec_l5Lift.calls k 1 ji3 t28001 _ A4.out).mono ?_); rintro e w' ⟨rfl, ⟨nd, rfl⟩⟩; refine ⟨_, rfl, ?_⟩))
  go_ret
  exact ⟨by first | rfl | (simp [errW_none, errW_some] <;> rfl) | (simp only [← hji2, ← hji3]; first | rfl | (simp [errW_none, errW_some] <;> rfl)) | (simp [*, errW_none, errW_some] <;> rfl), by repeat (first | (with_reducible first | exact HB.out | apply below_alloc | apply pw_below_drewN | apply below_drew1) | exact HB.out)⟩

end Go.Proofs.Ytnalbcadegicaaa.X
/- What the reference's functions on words tell: each printed function, from some number of rounds on, is the plain one. -/
namespace Go.Proofs.Ytnalbcadegicaaa.Plain
open Go.RowKit Go.Proofs.Ytnalbcadegicaaa.X Go.Proofs.YtnalbcadegicaaaW.PrintWords Go.Proofs.YtnalbcadegicaaaW.PrintLast Go.Proofs.YtnalbcadegicaaaW.PrintMore
theorem wrapS {x : Int} (h1 : -9000000000000000000 ≤ x) (h2 : x ≤ 9000000000000000000) : wrap64 x = x := by unfold wrap64; omega
theorem wrapN {i n : Nat} (h : i < n) (hn : n ≤ 9000000000000000000) : wrap64 ((i : Int) + 1) = ((i + 1 : Nat) : Int) := by unfold wrap64; omega
theorem rd_at {xs : List Int} {i : Nat} (h : i < xs.length) : rd xs (i : Int) = xs[i] := by simp [rd, List.getElem?_eq_getElem h]
theorem tritB_iff (x : Int) : tritB x = true ↔ -1 ≤ x ∧ x ≤ 1 := by unfold tritB; simp
theorem wordB_iff (w : List Int) : wordB w = true ↔ 1 ≤ w.length ∧ w.length ≤ 30 ∧ Trits w := by
  unfold wordB Trits
  simp only [Bool.and_eq_true, decide_eq_true_eq, List.all_eq_true, tritB_iff]
  exact ⟨fun h => ⟨h.1.1, h.1.2, h.2⟩, fun h => ⟨⟨h.1, h.2.1⟩, h.2.2⟩⟩
theorem trits_word (k : Nat) (n : Int) (h1 : 1 ≤ k) (h2 : k ≤ 30) : wordB (word k n) = true := (wordB_iff _).2 ⟨by rw [word_length]; exact h1, by rw [word_length]; exact h2, word_trits k n⟩
theorem spec_l1In_tells (a b c : Int) : spec_l1In.f a b c = some (decide (b ≤ a ∧ a ≤ c)) := by
  unfold spec_l1In.f
  by_cases h : a ≥ b
  · rw [if_pos h]
    congr 1
    simp [show b ≤ a from h]
  · rw [if_neg h, decide_eq_false (fun hh => h hh.1)]
theorem spec_IsTrit_tells (x : Int) : spec_IsTrit.f x = some (tritB x) := by
  unfold spec_IsTrit.f tritB
  rw [spec_l1In_tells]
  simp only [Option.bind_some]
  congr 1
  by_cases h1 : -1 ≤ x <;> by_cases h2 : x ≤ 1 <;> simp [h1, h2]
theorem spec_IsWord_l (xs : List Int) (hx : xs.length ≤ 9000000000000000000) (d : Nat) : ∀ (k i : Nat), i ≤ xs.length → xs.length - i = d → d < k →
    spec_IsWord.l0 k xs xs (xs.length : Int) (i : Int) = some ((xs.drop i).all tritB && (decide (1 ≤ xs.length) && decide (xs.length ≤ 30))) := by
  induction d with
  | zero =>
    intro k i h1 h2 hk
    obtain ⟨k, rfl⟩ : ∃ m, k = m + 1 := ⟨k - 1, by omega⟩
    simp only [spec_IsWord.l0]
    rw [if_neg (by omega), List.drop_of_length_le (by omega), spec_l1In_tells]
    simp only [Option.bind_some, List.all_nil, Bool.true_and]
    congr 1
    by_cases h1 : 1 ≤ xs.length <;> by_cases h2 : xs.length ≤ 30 <;> simp [h1, h2] <;> omega
  | succ d ih =>
    intro k i h1 h2 hk
    obtain ⟨k, rfl⟩ : ∃ m, k = m + 1 := ⟨k - 1, by omega⟩
    have hi : i < xs.length := by omega
    simp only [spec_IsWord.l0]
    rw [if_pos (by omega), if_pos (by omega), if_pos (by omega), rd_at hi, spec_IsTrit_tells, List.drop_eq_getElem_cons hi, List.all_cons]
    simp only [Option.bind_some]
    cases hb : tritB xs[i] with
    | true =>
      rw [if_pos rfl, Bool.true_and, wrapN hi hx]
      exact ih k (i + 1) (by omega) (by omega) (by omega)
    | false => rfl
theorem spec_IsWord_tells (xs : List Int) (hx : xs.length ≤ 9000000000000000000) (k : Nat) (hk : xs.length < k) : spec_IsWord.f k xs = some (wordB xs) := by
  unfold spec_IsWord.f wordB
  have h := spec_IsWord_l xs hx xs.length k 0 (Nat.zero_le _) rfl hk
  rw [List.drop_zero] at h
  rw [show (0 : Int) = ((0 : Nat) : Int) from rfl, h, Bool.and_comm]
theorem spec_LimitOf_l (n : Nat) (hn : n ≤ 30) (d : Nat) : ∀ (k i : Nat), i ≤ n → n - i = d → d < k → spec_LimitOf.l0 k (n : Int) (lim i) (i : Int) = some (lim n) := by
  induction d with
  | zero =>
    intro k i h1 h2 hk
    obtain ⟨k, rfl⟩ : ∃ m, k = m + 1 := ⟨k - 1, by omega⟩
    obtain rfl : i = n := by omega
    simp only [spec_LimitOf.l0]
    rw [if_neg (by omega)]
  | succ d ih =>
    intro k i h1 h2 hk
    obtain ⟨k, rfl⟩ : ∃ m, k = m + 1 := ⟨k - 1, by omega⟩
    have h3 := lim_le30 (k := i) (by omega)
    have h4 := lim_nonneg i
    simp only [spec_LimitOf.l0]
    rw [if_pos (by omega), wrapS (x := 3 * lim i) (by omega) (by omega), wrapS (by omega) (by omega), wrapN (n := n) (by omega) (by omega)]
    exact ih k (i + 1) (by omega) (by omega) (by omega)
theorem spec_LimitOf_tells (n : Int) (k : Nat) (hk : 31 ≤ k) : spec_LimitOf.f k n = some (if 1 ≤ n ∧ n ≤ 30 then lim n.toNat else 0) := by
  unfold spec_LimitOf.f
  rw [spec_l1In_tells]
  simp only [Option.bind_some]
  by_cases h : 1 ≤ n ∧ n ≤ 30
  · rw [if_pos (by simpa using h), if_pos h]
    obtain ⟨m, rfl⟩ := Int.eq_ofNat_of_zero_le (show 0 ≤ n by omega)
    exact spec_LimitOf_l m (by omega) m k 0 (Nat.zero_le _) rfl (by omega)
  · rw [if_neg (by simpa using h), if_neg h]
theorem spec_LimitOf_at {n : Nat} (h1 : 1 ≤ n) (h2 : n ≤ 30) (k : Nat) (hk : 31 ≤ k) : spec_LimitOf.f k (n : Int) = some (lim n) := by
  rw [spec_LimitOf_tells _ k hk, if_pos (by omega), Int.toNat_natCast]
theorem spec_l2Value_l (xs : List Int) (ht : Trits xs) (hl : xs.length ≤ 30) (d : Nat) : ∀ (k : Nat), d ≤ xs.length → d < k → spec_l2Value.l0 k xs (val (xs.drop d)) ((d : Int) - 1) = some (val xs) := by
  induction d with
  | zero =>
    intro k h1 hk
    obtain ⟨k, rfl⟩ : ∃ m, k = m + 1 := ⟨k - 1, by omega⟩
    simp only [spec_l2Value.l0]
    rw [if_neg (by omega), List.drop_zero]
  | succ d ih =>
    intro k h1 hk
    obtain ⟨k, rfl⟩ : ∃ m, k = m + 1 := ⟨k - 1, by omega⟩
    have hi : d < xs.length := by omega
    have e : ((d + 1 : Nat) : Int) - 1 = (d : Int) := by omega
    have hb := val_bound (w := xs.drop (d + 1)) (fun x hx => ht x (List.mem_of_mem_drop hx))
    have hb2 := lim_le30 (k := (xs.drop (d + 1)).length) (by rw [List.length_drop]; omega)
    have hx := ht xs[d] (List.getElem_mem hi)
    simp only [spec_l2Value.l0]
    rw [e, if_pos (by omega), if_pos (by omega), if_pos (by omega), rd_at hi, wrapS (x := 3 * val (xs.drop (d + 1))) (by omega) (by omega), wrapS (by omega) (by omega), wrapS (x := (d : Int) - 1) (by omega) (by omega)]
    have e2 : 3 * val (xs.drop (d + 1)) + xs[d] = val (xs.drop d) := by rw [List.drop_eq_getElem_cons hi]; simp only [val]; omega
    rw [e2]
    exact ih k (by omega) (by omega)
theorem spec_l2Value_tells (xs : List Int) (ht : Trits xs) (hl : xs.length ≤ 30) (k : Nat) (hk : 31 ≤ k) : spec_l2Value.f k xs = some (val xs) := by
  unfold spec_l2Value.f
  have h := spec_l2Value_l xs ht hl xs.length k (Nat.le_refl _) (by omega)
  rw [List.drop_length] at h
  rw [wrapS (by omega) (by omega)]
  exact h
theorem spec_ValueOf_tells (xs : List Int) (hw : wordB xs = true) (k : Nat) (hk : 31 ≤ k) : spec_ValueOf.f k xs = some (val xs) := by
  obtain ⟨h1, h2, h3⟩ := (wordB_iff _).1 hw
  unfold spec_ValueOf.f
  rw [spec_IsWord_tells xs (by omega) k (by omega), hw]
  simp only [Option.bind_some, if_true]
  rw [spec_l2Value_tells xs h3 h2 k hk]
  rfl
theorem spec_l5Lift_l (d : Nat) : ∀ (k : Nat) (x : Int), d ≤ 1000 → 0 ≤ x → x * 3 ^ d ≤ 1000000000000000000 → d < k → spec_l5Lift.l0 k x (d : Int) = some (x * 3 ^ d) := by
  induction d with
  | zero =>
    intro k x hd h0 h1 hk
    obtain ⟨k, rfl⟩ : ∃ m, k = m + 1 := ⟨k - 1, by omega⟩
    simp only [spec_l5Lift.l0]
    rw [if_neg (by omega)]
    simp
  | succ d ih =>
    intro k x hd h0 h1 hk
    obtain ⟨k, rfl⟩ : ∃ m, k = m + 1 := ⟨k - 1, by omega⟩
    have e : 3 * x * 3 ^ d = x * 3 ^ (d + 1) := by rw [Int.pow_succ, Int.mul_comm 3 x, Int.mul_assoc, Int.mul_comm 3]
    have h2 : 3 * x ≤ 3 * x * 3 ^ d := by
      have h3 : (1 : Int) ≤ 3 ^ d := by have := Int.pow_pos (n := 3) (m := d) (by omega); omega
      have := Int.mul_le_mul_of_nonneg_left h3 (show 0 ≤ 3 * x by omega)
      omega
    simp only [spec_l5Lift.l0]
    rw [if_pos (by omega), wrapS (x := 3 * x) (by omega) (by omega), show ((d + 1 : Nat) : Int) - 1 = (d : Int) by omega, wrapS (x := (d : Int)) (by omega) (by omega), ih k (3 * x) (by omega) (by omega) (by omega) (by omega), e]
theorem spec_MakePower_tells {j : Nat} (hj : j ≤ 30) (k : Nat) (hk : 31 ≤ k) : spec_MakePower.f k (j : Int) = some ((3 : Int) ^ j) := by
  unfold spec_MakePower.f spec_l5Lift.f
  rw [show mx 0 (mn (j : Int) 30) = (j : Int) by unfold mx mn; split <;> split <;> omega]
  have h1 := pow_lim j
  have h2 := lim_le30 hj
  rw [spec_l5Lift_l j k 1 (by omega) (by omega) (by omega) (by omega), Int.one_mul]
  rfl
end Go.Proofs.Ytnalbcadegicaaa.Plain
-- Laid by xprint.py (wip/tools): printed contracts, and hand-written ones between them.
namespace Go.Proofs.Ytnalbcadegicaaa.X
open Go.RowKit Go.Proofs.YtnalbcadegicaaaW.PrintWords Go.Proofs.YtnalbcadegicaaaW.PrintLast Go.Proofs.YtnalbcadegicaaaW.PrintMore
attribute [local go_sem] max2_int min2_int max_two min_two max_three min_three max_four min_four   -- for this text's walks alone
set_option linter.unusedVariables false
set_option linter.unusedSimpArgs false

/-! ### impl_SignOf: function 110 -/
def impl_SignOf.f (a0 : Int) : Option (Int) := if a0 < 0 then (some (-1)) else (if a0 > 0 then (some 1) else (some 0))
set_option maxHeartbeats 8000000 in
set_option maxRecDepth 100000 in
theorem impl_SignOf.calls (a0 : Int) (r : Int) (w : World) (h : impl_SignOf.f a0 = some r) :
    Calls Try.prog 110 #[.int .i64 a0] w fun e w' => e = .returned (.int .i64 r) ∧ Drawn0 w w' := by
  have H : (if a0 < 0 then (some (-1)) else (if a0 > 0 then (some 1) else (some 0))) = some r := h
  clear h
  by_cases c2 : a0 < 0
  · rw [if_pos c2] at H
    have c2b0 : decide (a0 < 0) = true := decide_eq_true c2
    clear c2
    obtain rfl := Option.some.inj H
    go_enter Try.func110, Try.ntmps110
    go_wp2
    go_ret
    exact ⟨by first | rfl | (simp; done) | (simp [*]; done), by repeat (first | exact Drawn0.refl _ | apply Drawn0.step)⟩
  · rw [if_neg c2] at H
    have c2b0 : decide (a0 < 0) = false := decide_eq_false c2
    clear c2
    by_cases c3 : a0 > 0
    · rw [if_pos c3] at H
      have c3b0 : decide (0 < a0) = true := decide_eq_true c3
      clear c3
      obtain rfl := Option.some.inj H
      go_enter Try.func110, Try.ntmps110
      go_wp2
      go_ret
      exact ⟨by first | rfl | (simp; done) | (simp [*]; done), by repeat (first | exact Drawn0.refl _ | apply Drawn0.step)⟩
    · rw [if_neg c3] at H
      have c3b0 : decide (0 < a0) = false := decide_eq_false c3
      clear c3
      obtain rfl := Option.some.inj H
      go_enter Try.func110, Try.ntmps110
      go_wp2
      go_ret
      exact ⟨by first | rfl | (simp; done) | (simp [*]; done), by repeat (first | exact Drawn0.refl _ | apply Drawn0.step)⟩

end Go.Proofs.Ytnalbcadegicaaa.X
/- What the program's functions on words tell: each printed function, from some number of rounds on, is the plain one. -/
namespace Go.Proofs.Ytnalbcadegicaaa.Plain
open Go.RowKit Go.Proofs.Ytnalbcadegicaaa.X Go.Proofs.YtnalbcadegicaaaW.PrintWords Go.Proofs.YtnalbcadegicaaaW.PrintLast Go.Proofs.YtnalbcadegicaaaW.PrintMore
theorem impl_carried_tells (n : Int) (h1 : -4 ≤ n) (h2 : n ≤ 4) : impl_carried.f n = some (if n > 1 then (n - 3, 1) else if n < -1 then (n + 3, -1) else (n, 0)) := by
  unfold impl_carried.f
  by_cases c1 : n > 1
  · rw [if_pos c1, if_pos c1, wrapS (by omega) (by omega)]
  · rw [if_neg c1, if_neg c1]
    by_cases c2 : n < -1
    · rw [if_pos c2, if_pos c2, wrapS (by omega) (by omega)]
    · rw [if_neg c2, if_neg c2]
theorem impl_carried_dig (n : Int) : ∃ q, impl_carried.f (Int.tmod n 3) = some (dig n, q) := by
  have h3 := Int.tmod_lt_of_pos n (b := 3) (by omega)
  have h4 : -3 < n.tmod 3 := Int.lt_tmod_of_pos n (by omega)
  rw [impl_carried_tells _ (by omega) (by omega)]
  unfold dig
  by_cases c1 : Int.tmod n 3 > 1
  · rw [if_pos c1, if_pos c1]; exact ⟨_, rfl⟩
  · rw [if_neg c1, if_neg c1]
    by_cases c2 : Int.tmod n 3 < -1
    · rw [if_pos c2, if_pos c2]; exact ⟨_, rfl⟩
    · rw [if_neg c2, if_neg c2]; exact ⟨_, rfl⟩
theorem impl_power_l (n : Nat) (hn : n ≤ 30) (d : Nat) : ∀ (k i : Nat), i ≤ n → n - i = d → d < k → impl_power.l0 k ((3 : Int) ^ i) (n : Int) (i : Int) = some ((3 : Int) ^ n) := by
  induction d with
  | zero =>
    intro k i h1 h2 hk
    obtain ⟨k, rfl⟩ : ∃ m, k = m + 1 := ⟨k - 1, by omega⟩
    obtain rfl : i = n := by omega
    simp only [impl_power.l0]
    rw [if_neg (by omega)]
  | succ d ih =>
    intro k i h1 h2 hk
    obtain ⟨k, rfl⟩ : ∃ m, k = m + 1 := ⟨k - 1, by omega⟩
    have h3 := pow_lim i
    have h4 := lim_le30 (k := i) (by omega)
    have h5 := lim_nonneg i
    simp only [impl_power.l0]
    rw [if_pos (by omega), show wrap64 ((3 : Int) ^ i * 3) = 3 ^ (i + 1) by rw [Int.pow_succ]; exact wrapS (by omega) (by omega), wrapN (n := n) (by omega) (by omega)]
    exact ih k (i + 1) (by omega) (by omega) (by omega)
theorem impl_power_at {n : Nat} (hn : n ≤ 30) (k : Nat) (hk : 31 ≤ k) : impl_power.f k (n : Int) = some ((3 : Int) ^ n) := by
  have h := impl_power_l n hn n k 0 (Nat.zero_le _) rfl (by omega)
  unfold impl_power.f
  exact h
theorem impl_LimitOf_at {n : Nat} (h1 : 1 ≤ n) (h2 : n ≤ 30) (k : Nat) (hk : 31 ≤ k) : impl_LimitOf.f k (n : Int) = some (lim n) := by
  have h3 := pow_lim n
  have h4 := lim_le30 h2
  have h5 := lim_nonneg n
  unfold impl_LimitOf.f
  rw [if_neg (by omega), if_neg (by omega), impl_power_at h2 k hk]
  simp only [Option.bind_some]
  rw [h3, wrapS (x := 2 * lim n + 1 - 1) (by omega) (by omega), show 2 * lim n + 1 - 1 = 2 * lim n by omega, Int.mul_tdiv_cancel_left _ (by omega), wrapS (by omega) (by omega)]
theorem impl_fits_at (n : Int) {j : Nat} (h1 : 1 ≤ j) (h2 : j ≤ 30) (k : Nat) (hk : 31 ≤ k) : impl_fits.f k n (j : Int) = some (decide (-lim j ≤ n ∧ n ≤ lim j)) := by
  have h4 := lim_le30 h2
  have h5 := lim_nonneg j
  unfold impl_fits.f
  rw [impl_LimitOf_at h1 h2 k hk]
  simp only [Option.bind_some]
  rw [wrapS (by omega) (by omega)]
  by_cases h : n ≥ -lim j
  · rw [if_pos h]
    congr 1
    simp [show -lim j ≤ n from h]
  · rw [if_neg h, decide_eq_false (fun hh => h hh.1)]
theorem impl_WordOf_l (j : Nat) (hj : j ≤ 1000) (d : Nat) : ∀ (k i : Nat) (n : Int) (acc : List Int), -1000000000000000000 ≤ n → n ≤ 1000000000000000000 → acc.length = i → i ≤ j → j - i = d → d < k →
    impl_WordOf.l0 k n acc (j : Int) (i : Int) = some (acc ++ word d n, true) := by
  induction d with
  | zero =>
    intro k i n acc hn1 hn2 hacc h1 h2 hk
    obtain ⟨k, rfl⟩ : ∃ m, k = m + 1 := ⟨k - 1, by omega⟩
    simp only [impl_WordOf.l0]
    rw [if_neg (by omega)]
    simp [word]
  | succ d ih =>
    intro k i n acc hn1 hn2 hacc h1 h2 hk
    obtain ⟨k, rfl⟩ : ∃ m, k = m + 1 := ⟨k - 1, by omega⟩
    have hr := rest_eq n
    have hd := dig_range n
    obtain ⟨q, hq⟩ := impl_carried_dig n
    simp only [impl_WordOf.l0]
    rw [if_pos (by omega), hq]
    simp only [Option.bind_some]
    rw [if_pos (by omega), wrapS (x := n - dig n) (by omega) (by omega), wrapN (n := j) (by omega) (by omega)]
    show impl_WordOf.l0 k (wrap64 (rest n)) _ _ _ = _
    rw [wrapS (by omega) (by omega), ih k (i + 1) (rest n) (acc ++ [dig n]) (by omega) (by omega) (by simp [hacc]) (by omega) (by omega) (by omega)]
    simp [word, List.append_assoc]
theorem impl_WordOf_at {n : Int} {j : Nat} (h1 : 1 ≤ j) (h2 : j ≤ 30) (k : Nat) (hk : 33 ≤ k) : impl_WordOf.f k n (j : Int) = some (if -lim j ≤ n ∧ n ≤ lim j then (word j n, true) else ([], false)) := by
  have h3 := lim_le30 h2
  obtain ⟨k, rfl⟩ : ∃ m, k = m + 1 := ⟨k - 1, by omega⟩
  unfold impl_WordOf.f
  rw [if_neg (by omega), if_neg (by omega), impl_fits_at n h1 h2 _ (by omega)]
  simp only [Option.bind_some, impl_WordOf.j0]
  by_cases h : -lim j ≤ n ∧ n ≤ lim j
  · rw [decide_eq_true h, if_neg (by simp), if_pos h]
    exact impl_WordOf_l j (by omega) j k 0 n [] (by omega) (by omega) rfl (Nat.zero_le _) rfl (by omega)
  · rw [decide_eq_false h, if_pos (by simp), if_neg h]
end Go.Proofs.Ytnalbcadegicaaa.Plain
/- The Lyndon words of seven trits: what the program's loop finds is computed in nine parts, and compared with the reference's list. -/
namespace Go.Proofs.Ytnalbcadegicaaa.Plain
open Go.RowKit Go.Proofs.Ytnalbcadegicaaa.X Go.Proofs.YtnalbcadegicaaaW.PrintWords Go.Proofs.YtnalbcadegicaaaW.PrintLast
set_option maxRecDepth 1000000
def seg7_0 : List (List Int) := []
def seg7_1 : List (List Int) := []
def seg7_2 : List (List Int) := []
def seg7_3 : List (List Int) := [[-1, -1, -1, -1, -1, -1, 0], [-1, -1, -1, 0, -1, -1, 0], [-1, -1, -1, 1, -1, -1, 0], [-1, -1, -1, -1, 0, -1, 0], [-1, -1, 0, -1, 0, -1, 0], [-1, -1, 1, -1, 0, -1, 0], [-1, -1, -1, 0, 0, -1, 0], [-1, -1, 0, 0, 0, -1, 0],
  [-1, -1, 1, 0, 0, -1, 0], [-1, -1, -1, 1, 0, -1, 0], [-1, -1, 0, 1, 0, -1, 0], [-1, -1, 1, 1, 0, -1, 0], [-1, -1, -1, -1, 1, -1, 0], [-1, -1, 0, -1, 1, -1, 0], [-1, -1, 1, -1, 1, -1, 0], [-1, -1, -1, 0, 1, -1, 0],
  [-1, -1, 0, 0, 1, -1, 0], [-1, -1, 1, 0, 1, -1, 0], [-1, -1, -1, 1, 1, -1, 0], [-1, -1, 0, 1, 1, -1, 0], [-1, -1, 1, 1, 1, -1, 0]]
def seg7_4 : List (List Int) := [[-1, -1, -1, -1, -1, 0, 0], [-1, -1, 0, -1, -1, 0, 0], [-1, -1, -1, 0, -1, 0, 0], [-1, 0, -1, 0, -1, 0, 0], [-1, -1, 0, 0, -1, 0, 0], [-1, -1, 1, 0, -1, 0, 0], [-1, -1, -1, 1, -1, 0, 0], [-1, 0, -1, 1, -1, 0, 0],
  [-1, -1, 0, 1, -1, 0, 0], [-1, -1, 1, 1, -1, 0, 0], [-1, -1, -1, -1, 0, 0, 0], [-1, -1, 0, -1, 0, 0, 0], [-1, 0, 0, -1, 0, 0, 0], [-1, -1, 1, -1, 0, 0, 0], [-1, -1, -1, 0, 0, 0, 0], [-1, 0, -1, 0, 0, 0, 0],
  [-1, -1, 0, 0, 0, 0, 0], [-1, 0, 0, 0, 0, 0, 0], [-1, 1, 0, 0, 0, 0, 0], [-1, -1, 1, 0, 0, 0, 0], [-1, 0, 1, 0, 0, 0, 0], [-1, 1, 1, 0, 0, 0, 0], [-1, -1, -1, 1, 0, 0, 0], [-1, 0, -1, 1, 0, 0, 0], [-1, 1, -1, 1, 0, 0, 0],
  [-1, -1, 0, 1, 0, 0, 0], [-1, 0, 0, 1, 0, 0, 0], [-1, 1, 0, 1, 0, 0, 0], [-1, -1, 1, 1, 0, 0, 0], [-1, 0, 1, 1, 0, 0, 0], [-1, 1, 1, 1, 0, 0, 0], [-1, -1, -1, -1, 1, 0, 0], [-1, -1, 0, -1, 1, 0, 0], [-1, 0, 0, -1, 1, 0, 0],
  [-1, 1, 0, -1, 1, 0, 0], [-1, -1, 1, -1, 1, 0, 0], [-1, 0, 1, -1, 1, 0, 0], [-1, -1, -1, 0, 1, 0, 0], [-1, 0, -1, 0, 1, 0, 0], [-1, -1, 0, 0, 1, 0, 0], [-1, 0, 0, 0, 1, 0, 0], [-1, 1, 0, 0, 1, 0, 0], [-1, -1, 1, 0, 1, 0, 0],
  [-1, 0, 1, 0, 1, 0, 0], [-1, 1, 1, 0, 1, 0, 0], [-1, -1, -1, 1, 1, 0, 0], [-1, 0, -1, 1, 1, 0, 0], [-1, 1, -1, 1, 1, 0, 0], [-1, -1, 0, 1, 1, 0, 0], [-1, 0, 0, 1, 1, 0, 0], [-1, 1, 0, 1, 1, 0, 0], [-1, -1, 1, 1, 1, 0, 0],
  [-1, 0, 1, 1, 1, 0, 0], [-1, 1, 1, 1, 1, 0, 0]]
def seg7_5 : List (List Int) := [[-1, -1, -1, -1, -1, 1, 0], [-1, -1, 0, -1, -1, 1, 0], [-1, -1, 1, -1, -1, 1, 0], [-1, -1, -1, 0, -1, 1, 0], [-1, 0, -1, 0, -1, 1, 0], [-1, -1, 0, 0, -1, 1, 0], [-1, 0, 0, 0, -1, 1, 0], [-1, -1, 1, 0, -1, 1, 0],
  [-1, 0, 1, 0, -1, 1, 0], [-1, -1, -1, 1, -1, 1, 0], [-1, 0, -1, 1, -1, 1, 0], [-1, 1, -1, 1, -1, 1, 0], [-1, -1, 0, 1, -1, 1, 0], [-1, 0, 0, 1, -1, 1, 0], [-1, -1, 1, 1, -1, 1, 0], [-1, 0, 1, 1, -1, 1, 0],
  [-1, -1, -1, -1, 0, 1, 0], [-1, -1, 0, -1, 0, 1, 0], [-1, 0, 0, -1, 0, 1, 0], [-1, -1, 1, -1, 0, 1, 0], [-1, 0, 1, -1, 0, 1, 0], [-1, -1, -1, 0, 0, 1, 0], [-1, 0, -1, 0, 0, 1, 0], [-1, -1, 0, 0, 0, 1, 0],
  [-1, 0, 0, 0, 0, 1, 0], [-1, 1, 0, 0, 0, 1, 0], [-1, -1, 1, 0, 0, 1, 0], [-1, 0, 1, 0, 0, 1, 0], [-1, 1, 1, 0, 0, 1, 0], [-1, -1, -1, 1, 0, 1, 0], [-1, 0, -1, 1, 0, 1, 0], [-1, 1, -1, 1, 0, 1, 0], [-1, -1, 0, 1, 0, 1, 0],
  [-1, 0, 0, 1, 0, 1, 0], [-1, 1, 0, 1, 0, 1, 0], [-1, -1, 1, 1, 0, 1, 0], [-1, 0, 1, 1, 0, 1, 0], [-1, 1, 1, 1, 0, 1, 0], [-1, -1, -1, -1, 1, 1, 0], [-1, -1, 0, -1, 1, 1, 0], [-1, 0, 0, -1, 1, 1, 0], [-1, 1, 0, -1, 1, 1, 0],
  [-1, -1, 1, -1, 1, 1, 0], [-1, 0, 1, -1, 1, 1, 0], [-1, 1, 1, -1, 1, 1, 0], [-1, -1, -1, 0, 1, 1, 0], [-1, 0, -1, 0, 1, 1, 0], [-1, -1, 0, 0, 1, 1, 0], [-1, 0, 0, 0, 1, 1, 0], [-1, 1, 0, 0, 1, 1, 0], [-1, -1, 1, 0, 1, 1, 0],
  [-1, 0, 1, 0, 1, 1, 0], [-1, 1, 1, 0, 1, 1, 0], [-1, -1, -1, 1, 1, 1, 0], [-1, 0, -1, 1, 1, 1, 0], [-1, 1, -1, 1, 1, 1, 0], [-1, -1, 0, 1, 1, 1, 0], [-1, 0, 0, 1, 1, 1, 0], [-1, 1, 0, 1, 1, 1, 0], [-1, -1, 1, 1, 1, 1, 0],
  [-1, 0, 1, 1, 1, 1, 0], [-1, 1, 1, 1, 1, 1, 0]]
def seg7_6 : List (List Int) := [[-1, -1, -1, -1, -1, -1, 1], [-1, -1, -1, 0, -1, -1, 1], [-1, -1, 0, 0, -1, -1, 1], [-1, -1, -1, 1, -1, -1, 1], [-1, -1, 0, 1, -1, -1, 1], [-1, -1, -1, -1, 0, -1, 1], [-1, -1, 0, -1, 0, -1, 1], [-1, -1, 1, -1, 0, -1, 1],
  [-1, -1, -1, 0, 0, -1, 1], [-1, 0, -1, 0, 0, -1, 1], [-1, -1, 0, 0, 0, -1, 1], [-1, 0, 0, 0, 0, -1, 1], [-1, -1, 1, 0, 0, -1, 1], [-1, 0, 1, 0, 0, -1, 1], [-1, -1, -1, 1, 0, -1, 1], [-1, 0, -1, 1, 0, -1, 1],
  [-1, -1, 0, 1, 0, -1, 1], [-1, 0, 0, 1, 0, -1, 1], [-1, -1, 1, 1, 0, -1, 1], [-1, 0, 1, 1, 0, -1, 1], [-1, -1, -1, -1, 1, -1, 1], [-1, -1, 0, -1, 1, -1, 1], [-1, 0, 0, -1, 1, -1, 1], [-1, -1, 1, -1, 1, -1, 1],
  [-1, 0, 1, -1, 1, -1, 1], [-1, -1, -1, 0, 1, -1, 1], [-1, 0, -1, 0, 1, -1, 1], [-1, -1, 0, 0, 1, -1, 1], [-1, 0, 0, 0, 1, -1, 1], [-1, -1, 1, 0, 1, -1, 1], [-1, 0, 1, 0, 1, -1, 1], [-1, -1, -1, 1, 1, -1, 1],
  [-1, 0, -1, 1, 1, -1, 1], [-1, -1, 0, 1, 1, -1, 1], [-1, 0, 0, 1, 1, -1, 1], [-1, -1, 1, 1, 1, -1, 1], [-1, 0, 1, 1, 1, -1, 1]]
def seg7_7 : List (List Int) := [[-1, -1, -1, -1, -1, 0, 1], [-1, -1, 0, -1, -1, 0, 1], [-1, -1, -1, 0, -1, 0, 1], [-1, 0, -1, 0, -1, 0, 1], [-1, -1, 0, 0, -1, 0, 1], [-1, 0, 0, 0, -1, 0, 1], [-1, -1, 1, 0, -1, 0, 1], [-1, -1, -1, 1, -1, 0, 1],
  [-1, 0, -1, 1, -1, 0, 1], [-1, -1, 0, 1, -1, 0, 1], [-1, 0, 0, 1, -1, 0, 1], [-1, -1, 1, 1, -1, 0, 1], [-1, -1, -1, -1, 0, 0, 1], [-1, -1, 0, -1, 0, 0, 1], [-1, 0, 0, -1, 0, 0, 1], [-1, -1, 1, -1, 0, 0, 1],
  [-1, -1, -1, 0, 0, 0, 1], [-1, 0, -1, 0, 0, 0, 1], [-1, -1, 0, 0, 0, 0, 1], [-1, 0, 0, 0, 0, 0, 1], [0, 0, 0, 0, 0, 0, 1], [-1, 1, 0, 0, 0, 0, 1], [-1, -1, 1, 0, 0, 0, 1], [-1, 0, 1, 0, 0, 0, 1], [-1, 1, 1, 0, 0, 0, 1],
  [-1, -1, -1, 1, 0, 0, 1], [-1, 0, -1, 1, 0, 0, 1], [-1, 1, -1, 1, 0, 0, 1], [-1, -1, 0, 1, 0, 0, 1], [-1, 0, 0, 1, 0, 0, 1], [0, 0, 0, 1, 0, 0, 1], [-1, 1, 0, 1, 0, 0, 1], [-1, -1, 1, 1, 0, 0, 1], [-1, 0, 1, 1, 0, 0, 1],
  [-1, 1, 1, 1, 0, 0, 1], [-1, -1, -1, -1, 1, 0, 1], [-1, -1, 0, -1, 1, 0, 1], [-1, 0, 0, -1, 1, 0, 1], [-1, 1, 0, -1, 1, 0, 1], [-1, -1, 1, -1, 1, 0, 1], [-1, 0, 1, -1, 1, 0, 1], [-1, -1, -1, 0, 1, 0, 1],
  [-1, 0, -1, 0, 1, 0, 1], [-1, -1, 0, 0, 1, 0, 1], [-1, 0, 0, 0, 1, 0, 1], [0, 0, 0, 0, 1, 0, 1], [-1, 1, 0, 0, 1, 0, 1], [-1, -1, 1, 0, 1, 0, 1], [-1, 0, 1, 0, 1, 0, 1], [0, 0, 1, 0, 1, 0, 1], [-1, 1, 1, 0, 1, 0, 1],
  [-1, -1, -1, 1, 1, 0, 1], [-1, 0, -1, 1, 1, 0, 1], [-1, 1, -1, 1, 1, 0, 1], [-1, -1, 0, 1, 1, 0, 1], [-1, 0, 0, 1, 1, 0, 1], [0, 0, 0, 1, 1, 0, 1], [-1, 1, 0, 1, 1, 0, 1], [-1, -1, 1, 1, 1, 0, 1], [-1, 0, 1, 1, 1, 0, 1],
  [0, 0, 1, 1, 1, 0, 1], [-1, 1, 1, 1, 1, 0, 1]]
def seg7_8 : List (List Int) := [[-1, -1, -1, -1, -1, 1, 1], [-1, -1, 0, -1, -1, 1, 1], [-1, -1, 1, -1, -1, 1, 1], [-1, -1, -1, 0, -1, 1, 1], [-1, 0, -1, 0, -1, 1, 1], [-1, -1, 0, 0, -1, 1, 1], [-1, 0, 0, 0, -1, 1, 1], [-1, 1, 0, 0, -1, 1, 1],
  [-1, -1, 1, 0, -1, 1, 1], [-1, 0, 1, 0, -1, 1, 1], [-1, -1, -1, 1, -1, 1, 1], [-1, 0, -1, 1, -1, 1, 1], [-1, 1, -1, 1, -1, 1, 1], [-1, -1, 0, 1, -1, 1, 1], [-1, 0, 0, 1, -1, 1, 1], [-1, 1, 0, 1, -1, 1, 1],
  [-1, -1, 1, 1, -1, 1, 1], [-1, 0, 1, 1, -1, 1, 1], [-1, -1, -1, -1, 0, 1, 1], [-1, -1, 0, -1, 0, 1, 1], [-1, 0, 0, -1, 0, 1, 1], [-1, -1, 1, -1, 0, 1, 1], [-1, 0, 1, -1, 0, 1, 1], [-1, -1, -1, 0, 0, 1, 1],
  [-1, 0, -1, 0, 0, 1, 1], [-1, -1, 0, 0, 0, 1, 1], [-1, 0, 0, 0, 0, 1, 1], [0, 0, 0, 0, 0, 1, 1], [-1, 1, 0, 0, 0, 1, 1], [-1, -1, 1, 0, 0, 1, 1], [-1, 0, 1, 0, 0, 1, 1], [0, 0, 1, 0, 0, 1, 1], [-1, 1, 1, 0, 0, 1, 1],
  [-1, -1, -1, 1, 0, 1, 1], [-1, 0, -1, 1, 0, 1, 1], [-1, 1, -1, 1, 0, 1, 1], [-1, -1, 0, 1, 0, 1, 1], [-1, 0, 0, 1, 0, 1, 1], [0, 0, 0, 1, 0, 1, 1], [-1, 1, 0, 1, 0, 1, 1], [0, 1, 0, 1, 0, 1, 1], [-1, -1, 1, 1, 0, 1, 1],
  [-1, 0, 1, 1, 0, 1, 1], [0, 0, 1, 1, 0, 1, 1], [-1, 1, 1, 1, 0, 1, 1], [-1, -1, -1, -1, 1, 1, 1], [-1, -1, 0, -1, 1, 1, 1], [-1, 0, 0, -1, 1, 1, 1], [-1, 1, 0, -1, 1, 1, 1], [-1, -1, 1, -1, 1, 1, 1], [-1, 0, 1, -1, 1, 1, 1],
  [-1, 1, 1, -1, 1, 1, 1], [-1, -1, -1, 0, 1, 1, 1], [-1, 0, -1, 0, 1, 1, 1], [-1, -1, 0, 0, 1, 1, 1], [-1, 0, 0, 0, 1, 1, 1], [0, 0, 0, 0, 1, 1, 1], [-1, 1, 0, 0, 1, 1, 1], [-1, -1, 1, 0, 1, 1, 1], [-1, 0, 1, 0, 1, 1, 1],
  [0, 0, 1, 0, 1, 1, 1], [-1, 1, 1, 0, 1, 1, 1], [0, 1, 1, 0, 1, 1, 1], [-1, -1, -1, 1, 1, 1, 1], [-1, 0, -1, 1, 1, 1, 1], [-1, 1, -1, 1, 1, 1, 1], [-1, -1, 0, 1, 1, 1, 1], [-1, 0, 0, 1, 1, 1, 1], [0, 0, 0, 1, 1, 1, 1],
  [-1, 1, 0, 1, 1, 1, 1], [0, 1, 0, 1, 1, 1, 1], [-1, -1, 1, 1, 1, 1, 1], [-1, 0, 1, 1, 1, 1, 1], [0, 0, 1, 1, 1, 1, 1], [-1, 1, 1, 1, 1, 1, 1], [0, 1, 1, 1, 1, 1, 1]]
def segL (n : Int) : Nat → List (List Int)
  | 0 => []
  | d + 1 => (match impl_IsLyndon.f 100 (word 7 n) with | some true => [word 7 n] | _ => []) ++ segL (n + 1) d
def segOk (n : Int) : Nat → Bool
  | 0 => true
  | d + 1 => (impl_IsLyndon.f 100 (word 7 n)).isSome && segOk (n + 1) d
theorem segL_add (n : Int) (d e : Nat) : segL n (d + e) = segL n d ++ segL (n + (d : Int)) e := by
  induction d generalizing n with
  | zero => rw [Nat.zero_add]; show _ = [] ++ segL (n + 0) e; rw [Int.add_zero]; rfl
  | succ d ih =>
    rw [show d + 1 + e = (d + e) + 1 by omega]
    simp only [segL]
    rw [ih, List.append_assoc, show n + 1 + (d : Int) = n + ((d + 1 : Nat) : Int) by omega]
theorem segOk_add (n : Int) (d e : Nat) : segOk n (d + e) = (segOk n d && segOk (n + (d : Int)) e) := by
  induction d generalizing n with
  | zero => rw [Nat.zero_add]; show _ = (true && segOk (n + 0) e); rw [Int.add_zero]; rfl
  | succ d ih =>
    rw [show d + 1 + e = (d + e) + 1 by omega]
    simp only [segOk]
    rw [ih, Bool.and_assoc, show n + 1 + (d : Int) = n + ((d + 1 : Nat) : Int) by omega]
theorem segL_length (n : Int) (d : Nat) : (segL n d).length ≤ d := by
  induction d generalizing n with
  | zero => exact Nat.le_refl _
  | succ d ih =>
    have := ih (n + 1)
    simp only [segL, List.length_append]
    split <;> simp <;> omega
theorem seg7_tells0 : segL (-1093) 243 = seg7_0 ∧ segOk (-1093) 243 = true := by decide +kernel
theorem seg7_tells1 : segL (-850) 243 = seg7_1 ∧ segOk (-850) 243 = true := by decide +kernel
theorem seg7_tells2 : segL (-607) 243 = seg7_2 ∧ segOk (-607) 243 = true := by decide +kernel
theorem seg7_tells3 : segL (-364) 243 = seg7_3 ∧ segOk (-364) 243 = true := by decide +kernel
theorem seg7_tells4 : segL (-121) 243 = seg7_4 ∧ segOk (-121) 243 = true := by decide +kernel
theorem seg7_tells5 : segL (122) 243 = seg7_5 ∧ segOk (122) 243 = true := by decide +kernel
theorem seg7_tells6 : segL (365) 243 = seg7_6 ∧ segOk (365) 243 = true := by decide +kernel
theorem seg7_tells7 : segL (608) 243 = seg7_7 ∧ segOk (608) 243 = true := by decide +kernel
theorem seg7_tells8 : segL (851) 243 = seg7_8 ∧ segOk (851) 243 = true := by decide +kernel
def seg7 : List (List Int) := seg7_0 ++ (seg7_1 ++ (seg7_2 ++ (seg7_3 ++ (seg7_4 ++ (seg7_5 ++ (seg7_6 ++ (seg7_7 ++ (seg7_8))))))))
theorem seg7_tells : segL (-1093) 2187 = seg7 ∧ segOk (-1093) 2187 = true := by
  have h0 := seg7_tells0
  have h1 := seg7_tells1
  have h2 := seg7_tells2
  have h3 := seg7_tells3
  have h4 := seg7_tells4
  have h5 := seg7_tells5
  have h6 := seg7_tells6
  have h7 := seg7_tells7
  have h8 := seg7_tells8
  constructor
  · rw [show (2187 : Nat) = 243 + 1944 from rfl, segL_add, h0.1, show (-1093 : Int) + ((243 : Nat) : Int) = -850 from rfl]
    rw [show (1944 : Nat) = 243 + 1701 from rfl, segL_add, h1.1, show (-850 : Int) + ((243 : Nat) : Int) = -607 from rfl]
    rw [show (1701 : Nat) = 243 + 1458 from rfl, segL_add, h2.1, show (-607 : Int) + ((243 : Nat) : Int) = -364 from rfl]
    rw [show (1458 : Nat) = 243 + 1215 from rfl, segL_add, h3.1, show (-364 : Int) + ((243 : Nat) : Int) = -121 from rfl]
    rw [show (1215 : Nat) = 243 + 972 from rfl, segL_add, h4.1, show (-121 : Int) + ((243 : Nat) : Int) = 122 from rfl]
    rw [show (972 : Nat) = 243 + 729 from rfl, segL_add, h5.1, show (122 : Int) + ((243 : Nat) : Int) = 365 from rfl]
    rw [show (729 : Nat) = 243 + 486 from rfl, segL_add, h6.1, show (365 : Int) + ((243 : Nat) : Int) = 608 from rfl]
    rw [show (486 : Nat) = 243 + 243 from rfl, segL_add, h7.1, show (608 : Int) + ((243 : Nat) : Int) = 851 from rfl]
    rw [h8.1]
    rfl
  · rw [show (2187 : Nat) = 243 + 1944 from rfl, segOk_add, h0.2, Bool.true_and, show (-1093 : Int) + ((243 : Nat) : Int) = -850 from rfl]
    rw [show (1944 : Nat) = 243 + 1701 from rfl, segOk_add, h1.2, Bool.true_and, show (-850 : Int) + ((243 : Nat) : Int) = -607 from rfl]
    rw [show (1701 : Nat) = 243 + 1458 from rfl, segOk_add, h2.2, Bool.true_and, show (-607 : Int) + ((243 : Nat) : Int) = -364 from rfl]
    rw [show (1458 : Nat) = 243 + 1215 from rfl, segOk_add, h3.2, Bool.true_and, show (-364 : Int) + ((243 : Nat) : Int) = -121 from rfl]
    rw [show (1215 : Nat) = 243 + 972 from rfl, segOk_add, h4.2, Bool.true_and, show (-121 : Int) + ((243 : Nat) : Int) = 122 from rfl]
    rw [show (972 : Nat) = 243 + 729 from rfl, segOk_add, h5.2, Bool.true_and, show (122 : Int) + ((243 : Nat) : Int) = 365 from rfl]
    rw [show (729 : Nat) = 243 + 486 from rfl, segOk_add, h6.2, Bool.true_and, show (365 : Int) + ((243 : Nat) : Int) = 608 from rfl]
    rw [show (486 : Nat) = 243 + 243 from rfl, segOk_add, h7.2, Bool.true_and, show (608 : Int) + ((243 : Nat) : Int) = 851 from rfl]
    exact h8.2
theorem lim7 : lim 7 = 1093 := by decide
theorem l1_tells : ∀ (d k : Nat) (n : Int) (out : List (List Int)), -1093 ≤ n → n + (d : Int) = 1094 → 200 + d < k → out.length + d < 1000000 → segOk n d = true → impl_LyndonWords.l1 k 7 7 n out = some (out ++ segL n d)
  | _, 0, _, _, _, _, h, _, _ => absurd h (by omega)
  | 0, k + 1, n, out, _, hn, hk, _, _ => by
    rw [impl_LyndonWords.l1, if_pos (by decide), show ((7 : Int)) = ((7 : Nat) : Int) from rfl, impl_LimitOf_at (by decide) (by decide) k (by omega), lim7]
    simp only [Option.bind_some]
    rw [if_neg (by omega)]
    simp [segL]
  | d + 1, k + 1, n, out, h1, hn, hk, hl, hok => by
    simp only [segOk, Bool.and_eq_true] at hok
    have e2 : wrap64 (n + 1) = n + 1 := by unfold wrap64; omega
    have hw : impl_WordOf.f k n ((7 : Nat) : Int) = some (word 7 n, true) := by
      rw [impl_WordOf_at (by decide) (by decide) k (by omega), lim7, if_pos (by omega)]
    rw [impl_LyndonWords.l1, if_pos (by decide), show ((7 : Int)) = ((7 : Nat) : Int) from rfl, impl_LimitOf_at (by decide) (by decide) k (by omega), lim7]
    simp only [Option.bind_some]
    rw [if_pos (by omega), hw]
    simp only [Option.bind_some]
    obtain ⟨b, hb⟩ := Option.isSome_iff_exists.1 hok.1
    have hbk : impl_IsLyndon.f k (word 7 n) = some b := at_rounds (fun j => impl_IsLyndon.mono _ j) (show 100 ≤ k by omega) hb
    rw [hbk, e2]
    simp only [Option.bind_some, segL]
    rw [hb]
    cases b with
    | true =>
      rw [if_pos rfl, if_pos (by omega)]
      refine (l1_tells d k (n + 1) (out ++ [word 7 n]) (by omega) (by omega) (by omega) (by rw [List.length_append]; simp; omega) hok.2).trans ?_
      rw [List.append_assoc]
    | false =>
      rw [if_neg (by decide)]
      exact l1_tells d k (n + 1) out (by omega) (by omega) (by omega) (by omega) hok.2
def lyn7 : List (List Int) := sortL ([[-1], [0], [1]] ++ seg7)
theorem one7 : impl_LyndonWords.l1 100 7 1 (-1) [] = some [[-1], [0], [1]] := by decide +kernel
theorem sort7 : smallL ([[-1], [0], [1]] ++ seg7) = true ∧ sortL ([[-1], [0], [1]] ++ seg7) = lyn7 := ⟨by decide +kernel, rfl⟩
theorem spec7 (K : Nat) (hK : K = 999) : spec_LyndonWords.f (K + 1) 7 = some (lyn7, true) := by
  subst hK
  decide +kernel
theorem impl7 (K : Nat) (hK : 3000 ≤ K) : impl_LyndonWords.f K 7 = some (lyn7, true) := by
  obtain ⟨k, rfl⟩ : ∃ k, K = k + 8 := ⟨K - 8, by omega⟩
  have skip : ∀ (j : Nat) (s t : Int) (out : List (List Int)), Int.tmod 7 s ≠ 0 → impl_LyndonWords.l1 (j + 1) 7 s t out = some out := fun j s t out h => by rw [impl_LyndonWords.l1, if_neg h]
  have h1 : impl_LyndonWords.l1 (k + 7) 7 1 (-1) [] = some [[-1], [0], [1]] := at_rounds (fun j => impl_LyndonWords.mono_l1 j _ _ _ _) (show 100 ≤ k + 7 by omega) one7
  have lm : ∀ (j s : Nat), 1 ≤ s → s ≤ 30 → 31 ≤ j → impl_LimitOf.f j (s : Int) = some (lim s) := fun j s a b c => impl_LimitOf_at a b j c
  have h7 := l1_tells 2187 (k + 1) (-1093) [[-1], [0], [1]] (by decide) (by decide) (by omega) (by decide) seg7_tells.2
  rw [seg7_tells.1] at h7
  unfold impl_LyndonWords.f
  rw [if_neg (by decide), if_neg (by decide)]
  have h0 : impl_LyndonWords.l0 (k + 8) 7 1 [] = some ([[-1], [0], [1]] ++ seg7) := by
    rw [impl_LyndonWords.l0, if_pos (by decide), show impl_LimitOf.f (k + 7) 1 = some (lim 1) from lm _ 1 (by decide) (by decide) (by omega)]
    simp only [Option.bind_some]
    rw [show wrap64 (-lim 1) = -1 from by decide +kernel, h1]
    simp only [Option.bind_some]
    rw [show wrap64 (1 + 1) = 2 from by decide +kernel, impl_LyndonWords.l0, if_pos (by decide), show impl_LimitOf.f (k + 6) 2 = some (lim 2) from lm _ 2 (by decide) (by decide) (by omega)]
    simp only [Option.bind_some]
    rw [skip _ _ _ _ (by decide)]
    simp only [Option.bind_some]
    rw [show wrap64 (2 + 1) = 3 from by decide +kernel, impl_LyndonWords.l0, if_pos (by decide), show impl_LimitOf.f (k + 5) 3 = some (lim 3) from lm _ 3 (by decide) (by decide) (by omega)]
    simp only [Option.bind_some]
    rw [skip _ _ _ _ (by decide)]
    simp only [Option.bind_some]
    rw [show wrap64 (3 + 1) = 4 from by decide +kernel, impl_LyndonWords.l0, if_pos (by decide), show impl_LimitOf.f (k + 4) 4 = some (lim 4) from lm _ 4 (by decide) (by decide) (by omega)]
    simp only [Option.bind_some]
    rw [skip _ _ _ _ (by decide)]
    simp only [Option.bind_some]
    rw [show wrap64 (4 + 1) = 5 from by decide +kernel, impl_LyndonWords.l0, if_pos (by decide), show impl_LimitOf.f (k + 3) 5 = some (lim 5) from lm _ 5 (by decide) (by decide) (by omega)]
    simp only [Option.bind_some]
    rw [skip _ _ _ _ (by decide)]
    simp only [Option.bind_some]
    rw [show wrap64 (5 + 1) = 6 from by decide +kernel, impl_LyndonWords.l0, if_pos (by decide), show impl_LimitOf.f (k + 2) 6 = some (lim 6) from lm _ 6 (by decide) (by decide) (by omega)]
    simp only [Option.bind_some]
    rw [skip _ _ _ _ (by decide)]
    simp only [Option.bind_some]
    rw [show wrap64 (6 + 1) = 7 from by decide +kernel, impl_LyndonWords.l0, if_pos (by decide), show impl_LimitOf.f (k + 1) 7 = some (lim 7) from lm _ 7 (by decide) (by decide) (by omega)]
    simp only [Option.bind_some]
    rw [show wrap64 (-lim 7) = -1093 from by decide +kernel, h7]
    simp only [Option.bind_some]
    obtain ⟨j, rfl⟩ : ∃ j, k = j + 1 := ⟨k - 1, by omega⟩
    rw [show wrap64 (7 + 1) = 8 from by decide +kernel, impl_LyndonWords.l0, if_neg (by decide)]
  rw [h0]
  simp only [Option.bind_some]
  rw [if_pos sort7.1, sort7.2]
end Go.Proofs.Ytnalbcadegicaaa.Plain
/- Marks, and whether they are held: what the laws' own functions on one row tell. -/
namespace Go.Proofs.Ytnalbcadegicaaa.Plain
open Go.RowKit Go.Proofs.Ytnalbcadegicaaa.X Go.Proofs.YtnalbcadegicaaaW.PrintWords Go.Proofs.YtnalbcadegicaaaW.PrintLast
theorem bind_to {α β : Type} {o : Option α} {a : α} (h : o = some a) (f : α → Option β) : o.bind f = f a := by rw [h]; rfl
def upR (a : Int) (n : Nat) : List Int := (List.range n).map (fun (i : Nat) => a + (i : Int))
theorem upR_length (a : Int) (n : Nat) : (upR a n).length = n := by unfold upR; rw [List.length_map, List.length_range]
theorem upR_succ (a : Int) (n : Nat) : upR a (n + 1) = upR a n ++ [a + (n : Int)] := by unfold upR; rw [List.range_succ, List.map_append]; rfl
theorem mark_l0 (l : List Int) (a : Int) (ha : 0 ≤ a) (hb : a + l.length < 4611686018427387904) : ∀ (d i K : Nat), i + d = l.length → d < K → laws_markIntS.l0 K (upR a i ++ l.drop i) (a + (i : Int)) (i : Int) = some (a + (l.length : Int), upR a l.length)
  | 0, i, 0, _, h => absurd h (by omega)
  | d + 1, i, 0, _, h => absurd h (by omega)
  | 0, i, K + 1, hd, h => by
    rw [laws_markIntS.l0, if_neg (by rw [List.length_append, upR_length, List.length_drop]; omega)]
    obtain rfl : i = l.length := by omega
    rw [List.drop_length, List.append_nil]
  | d + 1, i, K + 1, hd, h => by
    have hi : i < l.length := by omega
    rw [laws_markIntS.l0, if_pos (by rw [List.length_append, upR_length, List.length_drop]; omega), if_pos (by omega)]
    have e : (upR a i ++ l.drop i).set (i : Int).toNat (a + (i : Int)) = upR a (i + 1) ++ l.drop (i + 1) := by
      rw [Int.toNat_natCast, List.set_append_right _ _ (by rw [upR_length]; exact Nat.le_refl _), upR_length, Nat.sub_self, List.drop_eq_getElem_cons hi, List.set_cons_zero, upR_succ, List.append_assoc]
      rfl
    have e1 : wrap64 (a + (i : Int) + 1) = a + ((i + 1 : Nat) : Int) := by unfold wrap64; omega
    have e2 : wrap64 ((i : Int) + 1) = ((i + 1 : Nat) : Int) := by unfold wrap64; omega
    rw [e, e1, e2]
    exact mark_l0 l a ha hb d (i + 1) K (by omega) (by omega)
theorem mark_tells (l : List Int) (a : Int) (ha : 0 ≤ a) (hb : a + l.length < 4611686018427387904) (K : Nat) (hK : l.length < K) : laws_markIntS.f K l a = some (a + (l.length : Int), upR a l.length) := by
  have h := mark_l0 l a ha hb l.length 0 K (by omega) hK
  unfold laws_markIntS.f
  have e : upR a 0 ++ l.drop 0 = l := rfl
  rw [e] at h
  simpa using h
theorem held_l0 (a : Int) (n : Nat) (ha : 0 ≤ a) (hb : a + n < 4611686018427387904) : ∀ (d i K : Nat), i + d = n → d < K → laws_heldIntS.l0 K (upR a n) (a + (i : Int)) (i : Int) = some (a + (n : Int))
  | 0, i, 0, _, h => absurd h (by omega)
  | d + 1, i, 0, _, h => absurd h (by omega)
  | 0, i, K + 1, hd, h => by
    rw [laws_heldIntS.l0, if_neg (by rw [upR_length]; omega)]
    obtain rfl : i = n := by omega
    rfl
  | d + 1, i, K + 1, hd, h => by
    have hr : rd (upR a n) (i : Int) = a + (i : Int) := by
      unfold rd upR
      rw [Int.toNat_natCast, List.getD_eq_getElem?_getD, List.getElem?_map, List.getElem?_range (by omega)]
      rfl
    rw [laws_heldIntS.l0, if_pos (by rw [upR_length]; omega), if_pos (by omega), if_pos hr]
    have e1 : wrap64 (a + (i : Int) + 1) = a + ((i + 1 : Nat) : Int) := by unfold wrap64; omega
    have e2 : wrap64 ((i : Int) + 1) = ((i + 1 : Nat) : Int) := by unfold wrap64; omega
    rw [e1, e2]
    exact held_l0 a n ha hb d (i + 1) K (by omega) (by omega)
theorem held_tells (a : Int) (n : Nat) (ha : 0 ≤ a) (hb : a + n < 4611686018427387904) (K : Nat) (hK : n < K) : laws_heldIntS.f K (upR a n) a = some (a + (n : Int)) := by
  have h := held_l0 a n ha hb n 0 K (by omega) hK
  unfold laws_heldIntS.f
  simpa using h
theorem eq_l0 (l : List Int) (hl : l.length < 4611686018427387904) : ∀ (d i K : Nat), i + d = l.length → d < K → laws_eqIntS.l0 K l l (i : Int) = some true
  | 0, i, 0, _, h => absurd h (by omega)
  | d + 1, i, 0, _, h => absurd h (by omega)
  | 0, i, K + 1, hd, h => by rw [laws_eqIntS.l0, if_neg (by omega)]
  | d + 1, i, K + 1, hd, h => by
    rw [laws_eqIntS.l0, if_pos (by omega), if_pos (by omega), if_pos (by omega), if_pos rfl]
    have e2 : wrap64 ((i : Int) + 1) = ((i + 1 : Nat) : Int) := by unfold wrap64; omega
    rw [e2]
    exact eq_l0 l hl d (i + 1) K (by omega) (by omega)
theorem eq_tells (l : List Int) (hl : l.length < 4611686018427387904) (K : Nat) (hK : l.length < K) : laws_eqIntS.f K l l = some true := by
  unfold laws_eqIntS.f
  rw [if_pos rfl]
  exact eq_l0 l hl l.length 0 K (by omega) hK
end Go.Proofs.Ytnalbcadegicaaa.Plain
/- slices.Concat of []int is the lists' concatenation, where it is not too long. -/
namespace Go.Proofs.Ytnalbcadegicaaa.Plain
open Go.RowKit Go.Proofs.Ytnalbcadegicaaa.X Go.Proofs.YtnalbcadegicaaaW.PrintWords Go.Proofs.YtnalbcadegicaaaW.PrintLast Go.Proofs.YtnalbcadegicaaaW.PrintMore
theorem concat_l1 (ls : List (List Int)) (hn : ls.length ≤ 1000000) (d : Nat) : ∀ (k i : Nat) (acc : List Int), acc.length + (ls.drop i).flatten.length ≤ 1000000000 → i ≤ ls.length → ls.length - i = d → d < k →
    slices_Concat_int_int.l1 k acc ls (ls.length : Int) (i : Int) = some (acc ++ (ls.drop i).flatten) := by
  induction d with
  | zero =>
    intro k i acc hb h1 h2 hk
    obtain ⟨k, rfl⟩ : ∃ m, k = m + 1 := ⟨k - 1, by omega⟩
    simp only [slices_Concat_int_int.l1]
    rw [if_neg (by omega), List.drop_of_length_le (by omega)]
    simp
  | succ d ih =>
    intro k i acc hb h1 h2 hk
    obtain ⟨k, rfl⟩ : ∃ m, k = m + 1 := ⟨k - 1, by omega⟩
    have hi : i < ls.length := by omega
    have e : ls.getD (i : Int).toNat ([] : List Int) = ls[i] := by rw [Int.toNat_natCast, List.getD_eq_getElem?_getD, List.getElem?_eq_getElem hi]; rfl
    rw [List.drop_eq_getElem_cons hi, List.flatten_cons, List.length_append] at hb
    simp only [slices_Concat_int_int.l1]
    rw [if_pos (by omega), if_pos (by omega), if_pos (by omega)]
    show (if acc.length + (ls.getD (i : Int).toNat ([] : List Int)).length < _ then slices_Concat_int_int.l1 k (acc ++ ls.getD (i : Int).toNat ([] : List Int)) _ _ _ else none) = _
    rw [e, if_pos (by omega), wrapN hi (by omega), ih k (i + 1) _ (by rw [List.length_append]; omega) (by omega) (by omega) (by omega), List.drop_eq_getElem_cons hi, List.flatten_cons, List.append_assoc]
theorem concat_l0 (ls : List (List Int)) (hn : ls.length ≤ 1000000) (hb : ls.flatten.length ≤ 1000000000) (d : Nat) : ∀ (k i : Nat) (s : Int), 0 ≤ s → s + (ls.drop i).flatten.length = ls.flatten.length → i ≤ ls.length → ls.length - i = d → d + ls.length + 1 < k →
    slices_Concat_int_int.l0 k ls s ls (ls.length : Int) (i : Int) = some ls.flatten := by
  induction d with
  | zero =>
    intro k i s hs0 hs h1 h2 hk
    obtain ⟨k, rfl⟩ : ∃ m, k = m + 1 := ⟨k - 1, by omega⟩
    rw [List.drop_of_length_le (by omega)] at hs
    simp only [List.flatten_nil, List.length_nil] at hs
    simp only [slices_Concat_int_int.l0]
    rw [if_neg (by omega)]
    unfold slices_Grow_int_int.f
    rw [if_pos ⟨rfl, hs0, by omega⟩]
    simp only [Option.bind_some]
    have h := concat_l1 ls hn ls.length k 0 [] (by rw [List.drop_zero, List.length_nil]; omega) (Nat.zero_le _) rfl (by omega)
    rw [List.drop_zero, List.nil_append] at h
    exact h
  | succ d ih =>
    intro k i s hs0 hs h1 h2 hk
    obtain ⟨k, rfl⟩ : ∃ m, k = m + 1 := ⟨k - 1, by omega⟩
    have hi : i < ls.length := by omega
    have e : ls.getD (i : Int).toNat ([] : List Int) = ls[i] := by rw [Int.toNat_natCast, List.getD_eq_getElem?_getD, List.getElem?_eq_getElem hi]; rfl
    rw [List.drop_eq_getElem_cons hi, List.flatten_cons, List.length_append] at hs
    simp only [slices_Concat_int_int.l0]
    rw [if_pos (by omega), if_pos (by omega), if_pos (by omega)]
    show (if wrap64 (s + ((ls.getD (i : Int).toNat ([] : List Int)).length : Int)) < 0 then none else slices_Concat_int_int.l0 k ls (wrap64 (s + ((ls.getD (i : Int).toNat ([] : List Int)).length : Int))) ls _ _) = _
    rw [e, wrapS (x := s + _) (by omega) (by omega), if_neg (by omega), wrapN hi (by omega)]
    exact ih k (i + 1) _ (by omega) (by omega) (by omega) (by omega) (by omega)
theorem concat_tells (ls : List (List Int)) (hn : ls.length ≤ 1000000) (hb : ls.flatten.length ≤ 1000000000) (k : Nat) (hk : 2 * ls.length + 1 < k) : slices_Concat_int_int.f k ls = some ls.flatten := by
  unfold slices_Concat_int_int.f
  exact concat_l0 ls hn hb ls.length k 0 0 (Int.le_refl _) (by rw [List.drop_zero]; omega) (Nat.zero_le _) rfl (by omega)
end Go.Proofs.Ytnalbcadegicaaa.Plain
/- The law FnExactCircleOf over numbers and lists: where there is a circle, both sides are computed. -/
namespace Go.Proofs.Ytnalbcadegicaaa.PlainCircleOf
open Go.RowKit Go.Proofs.Ytnalbcadegicaaa.X Go.Proofs.YtnalbcadegicaaaW.PrintWords Go.Proofs.YtnalbcadegicaaaW.PrintLast Go.Proofs.Ytnalbcadegicaaa.Plain
set_option maxRecDepth 1000000
def agree (K : Nat) (c : Int) : Bool := match spec_CircleOf.f K c, impl_CircleOf.f K c with
  | some r, some s => decide (r = s) && decide (r.1.length < 100000)
  | _, _ => false
theorem agree_tells {K : Nat} {c : Int} (h : agree K c = true) : ∃ r, spec_CircleOf.f K c = some r ∧ impl_CircleOf.f K c = some r ∧ r.1.length < 100000 := by
  unfold agree at h
  cases hs : spec_CircleOf.f K c with
  | none => rw [hs] at h; cases h
  | some r =>
    cases hi : impl_CircleOf.f K c with
    | none => rw [hs, hi] at h; cases h
    | some s =>
      rw [hs, hi] at h
      simp only [Bool.and_eq_true, decide_eq_true_eq] at h
      obtain ⟨rfl, h2⟩ := h
      exact ⟨r, rfl, rfl, h2⟩
theorem fin1 (K : Nat) (hK : K = 899) : agree (K + 1) 1 = true := by
  subst hK
  decide +kernel
theorem fin2 (K : Nat) (hK : K = 899) : agree (K + 1) 2 = true := by
  subst hK
  decide +kernel
theorem fin3 (K : Nat) (hK : K = 899) : agree (K + 1) 3 = true := by
  subst hK
  decide +kernel
theorem fin4 (K : Nat) (hK : K = 899) : agree (K + 1) 4 = true := by
  subst hK
  decide +kernel
theorem fin5 (K : Nat) (hK : K = 899) : agree (K + 1) 5 = true := by
  subst hK
  decide +kernel
theorem fin6 (K : Nat) (hK : K = 899) : agree (K + 1) 6 = true := by
  subst hK
  decide +kernel
theorem circle_l0 (b : Bool) (ls : List (List Int)) (hn : ls.length ≤ 1000000) : ∀ (d k i : Nat) (acc : List Int), i + d = ls.length → d < k → acc.length + (ls.drop i).flatten.length ≤ 1000000000 → spec_CircleOf.l0 k b acc ls (ls.length : Int) (i : Int) = some (acc ++ (ls.drop i).flatten, b)
  | _, 0, _, _, _, h, _ => absurd h (by omega)
  | 0, k + 1, i, acc, hi, _, _ => by
    rw [spec_CircleOf.l0, if_neg (by omega), List.drop_of_length_le (by omega)]
    simp
  | d + 1, k + 1, i, acc, hi, hk, hl => by
    have hi' : i < ls.length := by omega
    have er : rd_L10 ls (i : Int) = ls[i] := by unfold rd_L10; rw [Int.toNat_natCast, List.getD_eq_getElem?_getD, List.getElem?_eq_getElem hi']; rfl
    have e2 : wrap64 ((i : Int) + 1) = ((i + 1 : Nat) : Int) := by unfold wrap64; omega
    have hd : (ls.drop i).flatten = ls[i] ++ (ls.drop (i + 1)).flatten := by rw [List.drop_eq_getElem_cons hi', List.flatten_cons]
    rw [hd, List.length_append] at hl
    rw [spec_CircleOf.l0, if_pos (by omega), if_pos (by omega), if_pos (by omega), er, if_pos (by omega), e2, hd, ← List.append_assoc]
    exact circle_l0 b ls hn d k (i + 1) (acc ++ ls[i]) (by omega) (by omega) (by rw [List.length_append]; omega)
theorem small7 : lyn7.flatten.length ≤ 3000 ∧ lyn7.length ≤ 3000 := by decide +kernel
theorem fin7 (N : Nat) (hN : 10000 ≤ N) : spec_CircleOf.f N 7 = some (lyn7.flatten, true) ∧ impl_CircleOf.f N 7 = some (lyn7.flatten, true) := by
  have hs := small7
  constructor
  · obtain ⟨M, hM⟩ : ∃ M : Nat, M = 999 := ⟨_, rfl⟩
    unfold spec_CircleOf.f
    refine (bind_to (at_rounds (fun j => spec_LyndonWords.mono _ j) (show M + 1 ≤ N by omega) (spec7 M hM)) _).trans ?_
    have h := circle_l0 true lyn7 (by omega) lyn7.length N 0 [] (by omega) (by omega) (by rw [List.drop_zero]; simp only [List.length_nil]; omega)
    rw [List.drop_zero] at h
    exact h
  · unfold impl_CircleOf.f
    refine (bind_to (impl7 N (by omega)) _).trans ?_
    rw [if_pos rfl]
    refine (bind_to (concat_tells lyn7 (by omega) (by omega) N (by omega)) _).trans rfl
theorem none_tells (K : Nat) (a : Int) (h : a < 1 ∨ 7 < a) : spec_CircleOf.f (K + 1) a = some ([], false) ∧ impl_CircleOf.f (K + 1) a = some ([], false) := by
  have e : spec_l1In.f a 1 7 = some false := by
    unfold spec_l1In.f
    by_cases h1 : a ≥ 1
    · rw [if_pos h1, decide_eq_false (by omega)]
    · rw [if_neg h1]
  have e1 : spec_LyndonWords.f (K + 1) a = some ([], false) := by
    unfold spec_LyndonWords.f
    exact bind_to e _
  have e2 : impl_LyndonWords.f (K + 1) a = some ([], false) := by
    unfold impl_LyndonWords.f
    by_cases h1 : a < 1
    · rw [if_pos h1]
    · rw [if_neg h1, if_pos (by omega)]
  constructor
  · unfold spec_CircleOf.f
    refine (bind_to e1 _).trans ?_
    rw [spec_CircleOf.l0, if_neg (by decide)]
  · unfold impl_CircleOf.f
    exact bind_to e2 _
theorem law_tells (K : Nat) (a : Int) (r : List Int × Bool) (hs : spec_CircleOf.f (K + 2) a = some r) (hi : ∀ j, K ≤ j → impl_CircleOf.f j a = some r) (hl : r.1.length < 100000) (hK : 100001 ≤ K) : laws_FnExactCircleOf.f (K + 2) a = some true := by
  obtain ⟨l, b⟩ := r
  simp only at hl
  have hb : (b != b) = false := by cases b <;> rfl
  unfold laws_FnExactCircleOf.f
  refine (bind_to hs _).trans ?_
  refine (bind_to (hi _ (by omega)) _).trans ?_
  refine (bind_to (eq_tells l (by omega) (K + 2) (by omega)) _).trans ?_
  rw [if_pos rfl, hb, laws_FnExactCircleOf.j0, if_neg (by decide)]
  refine (bind_to (mark_tells l 1 (by decide) (by omega) (K + 1) (by omega)) _).trans ?_
  refine (bind_to (held_tells 1 l.length (by decide) (by omega) (K + 1) (by omega)) _).trans ?_
  rw [if_neg (by omega), if_pos rfl]
  refine (bind_to (hi _ (by omega)) _).trans ?_
  refine (bind_to (eq_tells l (by omega) (K + 1) (by omega)) _).trans ?_
  rw [if_pos rfl, hb, laws_FnExactCircleOf.j1, if_neg (by decide)]
  refine (bind_to (held_tells 1 l.length (by decide) (by omega) K (by omega)) _).trans ?_
  rw [if_neg (by omega), if_pos rfl]
theorem law_of {K : Nat} {a : Int} {r : List Int × Bool} (hs : spec_CircleOf.f K a = some r) (hi : impl_CircleOf.f K a = some r) (hl : r.1.length < 100000) : ∃ k, laws_FnExactCircleOf.f k a = some true := by
  refine ⟨K + 100001 + 2, law_tells (K + 100001) a r (at_rounds (fun j => spec_CircleOf.mono _ j) (by omega) hs) (fun j hj => at_rounds (fun j => impl_CircleOf.mono _ j) (by omega) hi) hl (by omega)⟩
end Go.Proofs.Ytnalbcadegicaaa.PlainCircleOf
namespace Go.Proofs.Ytnalbcadegicaaa.Pure
open Go.RowKit Go.Proofs.Ytnalbcadegicaaa.X Go.Proofs.YtnalbcadegicaaaW.PrintWords Go.Proofs.YtnalbcadegicaaaW.PrintLast Go.Proofs.Ytnalbcadegicaaa.PlainCircleOf Go.Proofs.Ytnalbcadegicaaa.Plain
set_option maxRecDepth 1000000
theorem FnExactCircleOf : laws_FnExactCircleOf.Pure := by
  intro a _
  by_cases h : a < 1 ∨ 7 < a
  · have hn := none_tells 0 a h
    exact law_of hn.1 hn.2 (by decide)
  · obtain ⟨K, hK⟩ : ∃ K : Nat, K = 899 := ⟨_, rfl⟩
    have h7 : a = 1 ∨ a = 2 ∨ a = 3 ∨ a = 4 ∨ a = 5 ∨ a = 6 ∨ a = 7 := by omega
    have go : ∀ c, agree (K + 1) c = true → ∃ k, laws_FnExactCircleOf.f k c = some true := fun c hc => by
      obtain ⟨r, h1, h2, h3⟩ := agree_tells hc
      exact law_of h1 h2 h3
    rcases h7 with rfl | rfl | rfl | rfl | rfl | rfl | rfl
    · exact go _ (fin1 K hK)
    · exact go _ (fin2 K hK)
    · exact go _ (fin3 K hK)
    · exact go _ (fin4 K hK)
    · exact go _ (fin5 K hK)
    · exact go _ (fin6 K hK)
    · obtain ⟨N, hN⟩ : ∃ N : Nat, 10000 ≤ N := ⟨_, Nat.le_refl _⟩
      exact law_of (fin7 N hN).1 (fin7 N hN).2 (by have := small7; show lyn7.flatten.length < 100000; omega)
end Go.Proofs.Ytnalbcadegicaaa.Pure
-- Laid by xprint.py (wip/tools): printed contracts, and hand-written ones between them.
namespace Go.Proofs.Ytnalbcadegicaaa.fnExactCircleOf
open Go.ChangeShapes Go.WideShapes Go.ChangeAt Go.RowKit
open Go.ChangeMaps (open_string shut_string)
set_option linter.unusedVariables false
theorem own : ownKnob Try.prog.godebug = none := by kernel_rfl
set_option maxRecDepth 100000 in
theorem lifted (os : Os) (started : os.Started) (H : Type) (enc : TypeId × Value → H) :
    ReturnsInHanded {} Try.checked os 6 .any (Rows.fnExactCircleOfSpec.pre6 enc Try.prog Try.f6 Rows.fnExactCircleOfRow.domain false) (Rows.fnExactCircleOfSpec.post enc Try.prog Try.f6 false true false false) := by
  refine returnsInHanded_of_change_sized (C := Try.checked) own started (by kernel_rfl) Try.func6
    (ChangeSpec.witness6 (enc := enc) (C := Try.checked) false ⟨#[], #[.int .i64 0], []⟩ 8 (by kernel_rfl) (by kernel_rfl) (by kernel_rfl) (by kernel_rfl)) ?_
  intro W base args ds gs before hval0 hW hcnd hsz0 _
  have hsz : (DataW.weightsEach Try.prog (Try.f6.params.toList ++ Rows.fnExactCircleOfSpec.plain.varTypes Try.prog) (ds ++ gs)).all (· ≤ reachBytes) = true := hsz0
  have hval : ∀ (j : Nat) t v, Try.f6.params[j]? = some t → args[j]? = some v → Value.okWide Try.prog W .any base t v := hval0
  have hW' := hW
  obtain ⟨p, q, hA0, hV, rfl, hfz, hnd⟩ := hW
  have hA : DataW.TrodAll enc Try.prog W 0 (fun _ => true) true Try.f6.params.toList args.toList ds p := hA0
  rw [Try.params6] at hA hval hsz
  obtain ⟨v0, vs0, d0, ds0, p0, q0, hargs, rfl, rfl, h0, r0⟩ := trodAll_cons hA
  obtain ⟨rfl, rfl, rfl⟩ := trodAll_nil r0
  obtain rfl : args = #[v0] := by cases args; simp_all
  obtain ⟨rfl, rfl⟩ := trodVars_none hV
  obtain ⟨a0, rfl, rfl, rfl, w0⟩ := open_int Try.underlying3 (hval 0 3 v0 rfl rfl) h0
  clear hA0 hval0 hsz0 hsz
  refine (X.laws_FnExactCircleOf.walk Pure.FnExactCircleOf a0 W w0).mono fun e W' ⟨he, bel⟩ => ?_
  subst he
  exact ⟨_, rfl, _, _, _, [], _, [], hW', trodAll_mk1 (shut_bool Try.underlying4 _), (trodAll_cons_mk (shut_int Try.underlying3 w0) trodAll_mk0), rfl, bel.frame _, fun h => by cases h⟩
theorem over : Rows.fnExactCircleOfRow.holds Try.pinned (OpenSpec.ofChange Rows.fnExactCircleOfSpec) :=
  OpenClaim.holds_of_wide 6 Try.f6 rfl rfl rfl rfl rfl rfl rfl ⟨rfl, rfl, rfl, rfl, rfl⟩ rfl rfl rfl rfl rfl (by kernel_rfl) Try.func6 (by kernel_rfl)
    (of_decide_eq_true (by kernel_rfl)) (by unfold Func.isWrapper; first | (rw [if_pos (by decide +kernel)]; kernel_rfl) | (rw [if_neg (by decide +kernel)]; exact ⟨rfl, rfl⟩))
    (fun os started H enc _ => lifted os started H enc)
theorem proved : Rows.FnExactCircleOfSaid := over
#print axioms proved
end Go.Proofs.Ytnalbcadegicaaa.fnExactCircleOf
namespace Go.Proofs.Ytnalbcadegicaaa
/-- The row, under a short name, for the claim. -/
theorem fnExactCircleOf_holds : Rows.FnExactCircleOfSaid := fnExactCircleOf.proved
end Go.Proofs.Ytnalbcadegicaaa
