/- The law FnExactWeighingsOf over numbers and lists: both sides tell, for each place, the coins whose words have 1 and -1 there. -/
import Derived.Test.YtgiehdhnhkmjfaaMG0
import Derived.Test.YtgiehdhnhkmjfaaMG1
import Derived.Test.YtgiehdhnhkmjfaaMG2
import Derived.Test.YtgiehdhnhkmjfaaRows
import Derived.WalkKit
import Derived.ProofKit
import Derived.OpenShut
import Derived.ShutString
import Derived.ChangeOld
import Derived.Below
import Derived.SizedLaws
import Derived.Test.YtgiehdhnhkmjfaaWSized
-- Laid by xprint.py (wip/tools): printed contracts, and hand-written ones between them.
namespace Go.Proofs.Ytgiehdhnhkmjfaa.X
open Go.RowKit Go.Proofs.YtgiehdhnhkmjfaaW.PrintWords Go.Proofs.YtgiehdhnhkmjfaaW.PrintLast Go.Proofs.YtgiehdhnhkmjfaaW.PrintMore
attribute [local go_sem] max2_int min2_int max_two min_two max_three min_three max_four min_four   -- for this text's walks alone
set_option linter.unusedVariables false
set_option linter.unusedSimpArgs false

/-! ### spec_LengthOf: function 30 -/
def spec_LengthOf.l0 : Nat → Int → Int → Option (Int)
  | 0, _, _ => none
  | k + 1, x0, x3 => if x3 ≤ 30 then ((spec_LimitOf.f k x3).bind fun t31001 => ((spec_LimitOf.f k x3).bind fun t31002 => ((spec_l1In.f x0 (wrap64 (-t31001)) t31002).bind fun t31003 => (if t31003 = true then (some x3) else (spec_LengthOf.l0 k x0 (wrap64 (x3 + 1))))))) else (some 0)
def spec_LengthOf.f (k : Nat) (a0 : Int) : Option (Int) := spec_LengthOf.l0 k a0 1
theorem spec_LengthOf.mono_l : ∀ k, (∀ y0 y1, LeO (spec_LengthOf.l0 k y0 y1) (spec_LengthOf.l0 (k + 1) y0 y1))
  | 0 => fun _ _ r h => by simp [spec_LengthOf.l0] at h
  | k + 1 => by
    have ih0 := spec_LengthOf.mono_l k
    · intro y0 y1
      unfold spec_LengthOf.l0
      repeat' first
      | (with_reducible exact ih0 _ _)
      | (with_reducible exact spec_LimitOf.mono _ _)
      | (with_reducible exact LeO.refl _)
      | (with_reducible exact LeO.none _)
      | (with_reducible refine LeO.ite ?_ ?_)
      | (with_reducible refine LeO.bind ?_ (fun _ => ?_))
      | exact ih0 _ _
      | exact spec_LimitOf.mono _ _
      | exact LeO.none _
      | refine LeO.ite ?_ ?_
      | refine LeO.bind ?_ (fun _ => ?_)
theorem spec_LengthOf.mono : ∀ a0 k, LeO (spec_LengthOf.f k a0) (spec_LengthOf.f (k + 1) a0) := by
  intro a0 k
  have ih0 := spec_LengthOf.mono_l k
  unfold spec_LengthOf.f
  repeat' first
      | (with_reducible exact ih0 _ _)
      | (with_reducible exact spec_LimitOf.mono _ _)
      | (with_reducible exact LeO.refl _)
      | (with_reducible exact LeO.none _)
      | (with_reducible refine LeO.ite ?_ ?_)
      | (with_reducible refine LeO.bind ?_ (fun _ => ?_))
      | exact ih0 _ _
      | exact spec_LimitOf.mono _ _
      | exact LeO.none _
      | refine LeO.ite ?_ ?_
      | refine LeO.bind ?_ (fun _ => ?_)
set_option maxHeartbeats 8000000 in
set_option maxRecDepth 100000 in
theorem spec_LengthOf.calls (k : Nat) (a0 : Int) (r : Int) (w : World) (h : spec_LengthOf.f k a0 = some r) :
    Calls Try.prog 30 #[.int .i64 a0] w fun e w' => e = .returned (.int .i64 r) ∧ Drawn0 w w' := by
  have H : (spec_LengthOf.l0 k a0 1) = some r := h
  clear h
  have H' := Aside0.mk H
  clear H
  go_enter Try.func30, Try.ntmps30
  go_wp2
  go_loopg [3] k (fun kq v3 w' => ∃ (x3_1 : Int), v3 = .int .i64 x3_1 ∧ Aside0 (spec_LengthOf.l0 kq a0 x3_1 = some r) ∧ Aside0 (kq ≤ k) ∧ Drawn0 w w')
  case atStart => exact ⟨(1), (by first | rfl | (simp; done) | (simp [*]; done)), H', ⟨Nat.le_refl _⟩, by repeat (first | exact Drawn0.refl _ | apply Drawn0.step)⟩
  case round =>
    clear H'
    obtain ⟨x3_1, rfl, HA, HK1, ⟨m1, rfl⟩⟩ := hrel
    cases gk with
    | zero => exact absurd HA.out (by simp [spec_LengthOf.l0])
    | succ k1 =>
      have H := HA.out
      clear HA
      simp only [spec_LengthOf.l0] at H
      by_cases c2 : x3_1 ≤ 30
      · rw [if_pos c2] at H
        have c2b0 : decide (x3_1 ≤ 30) = true := decide_eq_true c2
        clear c2
        replace H := Option.bind_eq_some_iff.mp H
        obtain ⟨t31001, A30, H⟩ := H
        replace H : ((spec_LimitOf.f k1 x3_1).bind fun t31002 => ((spec_l1In.f a0 (wrap64 (-t31001)) t31002).bind fun t31003 => (if t31003 = true then (some x3_1) else (spec_LengthOf.l0 k1 a0 (wrap64 (x3_1 + 1)))))) = some r := H
        have A3 := Aside0.mk A30
        clear A30
        replace H := Option.bind_eq_some_iff.mp H
        obtain ⟨t31002, A40, H⟩ := H
        replace H : ((spec_l1In.f a0 (wrap64 (-t31001)) t31002).bind fun t31003 => (if t31003 = true then (some x3_1) else (spec_LengthOf.l0 k1 a0 (wrap64 (x3_1 + 1))))) = some r := H
        have A4 := Aside0.mk A40
        clear A40
        replace H := Option.bind_eq_some_iff.mp H
        obtain ⟨t31003, A50, H⟩ := H
        replace H : (if t31003 = true then (some x3_1) else (spec_LengthOf.l0 k1 a0 (wrap64 (x3_1 + 1)))) = some r := H
        have A5 := Aside0.mk A50
        clear A50
        by_cases c6 : t31003 = true
        · subst c6
          have H1 : (some x3_1) = some r := by rw [if_pos rfl] at H; exact H
          clear H
          have H := H1
          clear H1
          obtain rfl := Option.some.inj H
          go_wp2_with (first | ((with_reducible refine gate_callee (f := 71) rfl ?_); refine goesL_ (some 10) rfl rfl Try.func71 (by kernel_rfl) rfl #[.int .i64 x3_1] rfl (by (try simp only [List.map_toArray, List.map_cons, List.map_nil]); first | done | rfl | (simp only [List.length_drop, List.length_take]; rfl)) ?_; (with_reducible refine (spec_LimitOf.calls k1 x3_1 t31001 _ A3.out).mono ?_); rintro e w' ⟨rfl, ⟨nd, rfl⟩⟩; refine ⟨_, rfl, ?_⟩) | ((with_reducible refine gate_callee (f := 71) rfl ?_); refine goesL_ (some 13) rfl rfl Try.func71 (by kernel_rfl) rfl #[.int .i64 x3_1] rfl (by (try simp only [List.map_toArray, List.map_cons, List.map_nil]); first | done | rfl | (simp only [List.length_drop, List.length_take]; rfl)) ?_; (with_reducible refine (spec_LimitOf.calls k1 x3_1 t31002 _ A4.out).mono ?_); rintro e w' ⟨rfl, ⟨nd, rfl⟩⟩; refine ⟨_, rfl, ?_⟩) | ((with_reducible refine gate_callee (f := 70) rfl ?_); refine goesL_ (some 14) rfl rfl Try.func70 (by kernel_rfl) rfl #[.int .i64 a0, .int .i64 (wrap64 (-t31001)), .int .i64 t31002] rfl (by (try simp only [List.map_toArray, List.map_cons, List.map_nil]); first | done | rfl | (simp only [List.length_drop, List.length_take]; rfl)) ?_; (with_reducible refine (spec_l1In.calls a0 (wrap64 (-t31001)) t31002 true _ A5.out).mono ?_); rintro e w' ⟨rfl, ⟨nd, rfl⟩⟩; refine ⟨_, rfl, ?_⟩))
          go_ret
          exact ⟨by first | rfl | (simp; done) | (simp [*]; done), by repeat (first | exact Drawn0.refl _ | apply Drawn0.step)⟩
        · replace c6 := Bool.eq_false_iff.mpr c6
          subst c6
          have H1 : (spec_LengthOf.l0 k1 a0 (wrap64 (x3_1 + 1))) = some r := by rw [if_neg (show ¬ (false = true) by decide)] at H; exact H
          clear H
          have H := H1
          clear H1
          have H' := Aside0.mk H
          clear H
          go_wp2_with (first | ((with_reducible refine gate_callee (f := 71) rfl ?_); refine goesL_ (some 10) rfl rfl Try.func71 (by kernel_rfl) rfl #[.int .i64 x3_1] rfl (by (try simp only [List.map_toArray, List.map_cons, List.map_nil]); first | done | rfl | (simp only [List.length_drop, List.length_take]; rfl)) ?_; (with_reducible refine (spec_LimitOf.calls k1 x3_1 t31001 _ A3.out).mono ?_); rintro e w' ⟨rfl, ⟨nd, rfl⟩⟩; refine ⟨_, rfl, ?_⟩) | ((with_reducible refine gate_callee (f := 71) rfl ?_); refine goesL_ (some 13) rfl rfl Try.func71 (by kernel_rfl) rfl #[.int .i64 x3_1] rfl (by (try simp only [List.map_toArray, List.map_cons, List.map_nil]); first | done | rfl | (simp only [List.length_drop, List.length_take]; rfl)) ?_; (with_reducible refine (spec_LimitOf.calls k1 x3_1 t31002 _ A4.out).mono ?_); rintro e w' ⟨rfl, ⟨nd, rfl⟩⟩; refine ⟨_, rfl, ?_⟩) | ((with_reducible refine gate_callee (f := 70) rfl ?_); refine goesL_ (some 14) rfl rfl Try.func70 (by kernel_rfl) rfl #[.int .i64 a0, .int .i64 (wrap64 (-t31001)), .int .i64 t31002] rfl (by (try simp only [List.map_toArray, List.map_cons, List.map_nil]); first | done | rfl | (simp only [List.length_drop, List.length_take]; rfl)) ?_; (with_reducible refine (spec_l1In.calls a0 (wrap64 (-t31001)) t31002 false _ A5.out).mono ?_); rintro e w' ⟨rfl, ⟨nd, rfl⟩⟩; refine ⟨_, rfl, ?_⟩))
          go_roundg k1
          case measure => have := HK1.out; omega
          case rel => exact ⟨(wrap64 (x3_1 + 1)), (by first | rfl | (simp; done) | (simp [*]; done)), H', ⟨by have := HK1.out; omega⟩, by repeat (first | exact Drawn0.refl _ | apply Drawn0.step)⟩
      · rw [if_neg c2] at H
        have c2b0 : decide (x3_1 ≤ 30) = false := decide_eq_false c2
        clear c2
        obtain rfl := Option.some.inj H
        go_wp2
        go_ret
        exact ⟨by first | rfl | (simp; done) | (simp [*]; done), by repeat (first | exact Drawn0.refl _ | apply Drawn0.step)⟩

end Go.Proofs.Ytgiehdhnhkmjfaa.X
-- Laid by xprint.py (wip/tools): printed contracts, and hand-written ones between them.
namespace Go.Proofs.Ytgiehdhnhkmjfaa.X
open Go.RowKit Go.Proofs.YtgiehdhnhkmjfaaW.PrintWords Go.Proofs.YtgiehdhnhkmjfaaW.PrintLast Go.Proofs.YtgiehdhnhkmjfaaW.PrintMore
attribute [local go_sem] max2_int min2_int max_two min_two max_three min_three max_four min_four   -- for this text's walks alone
set_option linter.unusedVariables false
set_option linter.unusedSimpArgs false

/-! ### spec_WeightOf: function 31 -/
def spec_WeightOf.l0 : Nat → Int → List Int → Int → Int → Option (Int)
  | 0, _, _, _, _ => none
  | k + 1, x3, x9, x10, x11 => if x11 < x10 then (if 0 ≤ x11 then (if x11 < (x9.length : Int) then (spec_WeightOf.l0 k (wrap64 (x3 + (wrap64 ((rd x9 x11) * (rd x9 x11))))) x9 x10 (wrap64 (x11 + 1))) else (none)) else (none)) else (some x3)
def spec_WeightOf.f (k : Nat) (l0 : List Int) : Option (Int) := (spec_IsWord.f k l0).bind fun t32001 => (if t32001 = true then (spec_WeightOf.l0 k 0 l0 (l0.length : Int) 0) else (some 0))
theorem spec_WeightOf.mono_l : ∀ k, (∀ y0 y1 y2 y3, LeO (spec_WeightOf.l0 k y0 y1 y2 y3) (spec_WeightOf.l0 (k + 1) y0 y1 y2 y3))
  | 0 => fun _ _ _ _ r h => by simp [spec_WeightOf.l0] at h
  | k + 1 => by
    have ih0 := spec_WeightOf.mono_l k
    · intro y0 y1 y2 y3
      unfold spec_WeightOf.l0
      repeat' first
      | (with_reducible exact ih0 _ _ _ _)
      | (with_reducible exact spec_IsWord.mono _ _)
      | (with_reducible exact LeO.refl _)
      | (with_reducible exact LeO.none _)
      | (with_reducible refine LeO.ite ?_ ?_)
      | (with_reducible refine LeO.bind ?_ (fun _ => ?_))
      | exact ih0 _ _ _ _
      | exact spec_IsWord.mono _ _
      | exact LeO.none _
      | refine LeO.ite ?_ ?_
      | refine LeO.bind ?_ (fun _ => ?_)
theorem spec_WeightOf.mono : ∀ a0 k, LeO (spec_WeightOf.f k a0) (spec_WeightOf.f (k + 1) a0) := by
  intro a0 k
  have ih0 := spec_WeightOf.mono_l k
  unfold spec_WeightOf.f
  repeat' first
      | (with_reducible exact ih0 _ _ _ _)
      | (with_reducible exact spec_IsWord.mono _ _)
      | (with_reducible exact LeO.refl _)
      | (with_reducible exact LeO.none _)
      | (with_reducible refine LeO.ite ?_ ?_)
      | (with_reducible refine LeO.bind ?_ (fun _ => ?_))
      | exact ih0 _ _ _ _
      | exact spec_IsWord.mono _ _
      | exact LeO.none _
      | refine LeO.ite ?_ ?_
      | refine LeO.bind ?_ (fun _ => ?_)
set_option maxHeartbeats 8000000 in
set_option maxRecDepth 100000 in
theorem spec_WeightOf.calls (k : Nat) (A0 : Option Addr) (c0 : Nat) (l0 : List Int) (r : Int) (w : World) (hr0 : Kd.C (Kd.int .i64) w A0 l0.length l0) (hc0 : l0.length ≤ c0) (h : spec_WeightOf.f k l0 = some r) :
    Calls Try.prog 31 #[.slice A0 l0.length c0] w fun e w' => e = .returned (.int .i64 r) ∧ Drawn0 w w' := by
  have HR0 := Aside0.mk hr0
  have HC0 := Aside0.mk hc0
  clear hr0 hc0
  have H : ((spec_IsWord.f k l0).bind fun t32001 => (if t32001 = true then (spec_WeightOf.l0 k 0 l0 (l0.length : Int) 0) else (some 0))) = some r := h
  clear h
  replace H := Option.bind_eq_some_iff.mp H
  obtain ⟨t32001, A20, H⟩ := H
  replace H : (if t32001 = true then (spec_WeightOf.l0 k 0 l0 (l0.length : Int) 0) else (some 0)) = some r := H
  have A2 := Aside0.mk A20
  clear A20
  by_cases c3 : t32001 = true
  · subst c3
    have H1 : (spec_WeightOf.l0 k 0 l0 (l0.length : Int) 0) = some r := by rw [if_pos rfl] at H; exact H
    clear H
    have H := H1
    clear H1
    have H' := Aside0.mk H
    clear H
    go_enter Try.func31, Try.ntmps31
    go_wp2_with (first | ((with_reducible refine gate_callee (f := 60) rfl ?_); refine goesL_ (some 7) rfl rfl Try.func60 (by kernel_rfl) rfl #[.slice A0 l0.length c0] rfl (by (try simp only [List.map_toArray, List.map_cons, List.map_nil]); first | done | rfl | (simp only [List.length_drop, List.length_take]; rfl)) ?_; (with_reducible refine (spec_IsWord.calls k _ _ l0 true _ ?side1 ?side2 A2.out).mono ?_); (case side1 => repeat (first | exact HR0.out | (with_reducible refine Kd.C_alloc ?_ _) | (with_reducible refine Kd.C_drewN ?_ _) | (with_reducible refine Kd.C_drew ?_))); (case side2 => exact HC0.out); rintro e w' ⟨rfl, ⟨nd, rfl⟩⟩; refine ⟨_, rfl, ?_⟩))
    go_loopg [3, 11] k (fun kq v3 v11 w' => ∃ (x3_1 : Int) (x11_1 : Int), v3 = .int .i64 x3_1 ∧ v11 = .int .i64 x11_1 ∧ Aside0 (spec_WeightOf.l0 kq x3_1 l0 (l0.length : Int) x11_1 = some r) ∧ Aside0 (kq ≤ k) ∧ Drawn0 w w')
    case atStart => exact ⟨(0), (0), (by first | rfl | (simp; done) | (simp [*]; done)), (by first | rfl | (simp; done) | (simp [*]; done)), H', ⟨Nat.le_refl _⟩, by repeat (first | exact Drawn0.refl _ | apply Drawn0.step)⟩
    case round =>
      clear H'
      try clear p2
      try clear c3
      obtain ⟨x3_1, x11_1, rfl, rfl, HA, HK1, ⟨m1, rfl⟩⟩ := hrel
      cases gk with
      | zero => exact absurd HA.out (by simp [spec_WeightOf.l0])
      | succ k1 =>
        have H := HA.out
        clear HA
        simp only [spec_WeightOf.l0] at H
        by_cases c4 : x11_1 < (l0.length : Int)
        · rw [if_pos c4] at H
          have c4b0 : decide (x11_1 < (l0.length : Int)) = true := decide_eq_true c4
          clear c4
          by_cases c5 : 0 ≤ x11_1
          · rw [if_pos c5] at H
            have c5b0 : decide (0 ≤ x11_1) = true := decide_eq_true c5
            clear c5
            by_cases c6 : x11_1 < (l0.length : Int)
            · rw [if_pos c6] at H
              have c6b0 : decide (x11_1 < (l0.length : Int)) = true := decide_eq_true c6
              clear c6
              have H' := Aside0.mk H
              clear H
              have p32002 : 0 ≤ (x11_1 : Int) := of_decide_eq_true (by first | (with_reducible assumption) | assumption)
              have q32002 : x11_1 < (l0.length : Int) := of_decide_eq_true (by first | (with_reducible assumption) | assumption)
              obtain ⟨ad32002, e32002, hx32002_0⟩ := Kd.at_int HR0.out x11_1 p32002 q32002
              cases e32002
              replace p32002 := eq_true p32002
              replace q32002 := eq_true q32002
              go_wp2
              go_roundg k1
              case measure => have := HK1.out; omega
              case rel => exact ⟨(wrap64 (x3_1 + (wrap64 ((rd l0 x11_1) * (rd l0 x11_1))))), (wrap64 (x11_1 + 1)), (by first | rfl | (simp; done) | (simp [*]; done)), (by first | rfl | (simp; done) | (simp [*]; done)), H', ⟨by have := HK1.out; omega⟩, by repeat (first | exact Drawn0.refl _ | apply Drawn0.step)⟩
            · rw [if_neg c6] at H
              exact absurd H (by simp)
          · rw [if_neg c5] at H
            exact absurd H (by simp)
        · rw [if_neg c4] at H
          have c4b0 : decide (x11_1 < (l0.length : Int)) = false := decide_eq_false c4
          clear c4
          obtain rfl := Option.some.inj H
          go_wp2
          go_ret
          exact ⟨by first | rfl | (simp; done) | (simp [*]; done), by repeat (first | exact Drawn0.refl _ | apply Drawn0.step)⟩
  · replace c3 := Bool.eq_false_iff.mpr c3
    subst c3
    have H1 : (some 0) = some r := by rw [if_neg (show ¬ (false = true) by decide)] at H; exact H
    clear H
    have H := H1
    clear H1
    obtain rfl := Option.some.inj H
    go_enter Try.func31, Try.ntmps31
    go_wp2_with (first | ((with_reducible refine gate_callee (f := 60) rfl ?_); refine goesL_ (some 7) rfl rfl Try.func60 (by kernel_rfl) rfl #[.slice A0 l0.length c0] rfl (by (try simp only [List.map_toArray, List.map_cons, List.map_nil]); first | done | rfl | (simp only [List.length_drop, List.length_take]; rfl)) ?_; (with_reducible refine (spec_IsWord.calls k _ _ l0 false _ ?side1 ?side2 A2.out).mono ?_); (case side1 => repeat (first | exact HR0.out | (with_reducible refine Kd.C_alloc ?_ _) | (with_reducible refine Kd.C_drewN ?_ _) | (with_reducible refine Kd.C_drew ?_))); (case side2 => exact HC0.out); rintro e w' ⟨rfl, ⟨nd, rfl⟩⟩; refine ⟨_, rfl, ?_⟩))
    go_ret
    exact ⟨by first | rfl | (simp; done) | (simp [*]; done), by repeat (first | exact Drawn0.refl _ | apply Drawn0.step)⟩

end Go.Proofs.Ytgiehdhnhkmjfaa.X
-- Laid by xprint.py (wip/tools): printed contracts, and hand-written ones between them.
namespace Go.Proofs.Ytgiehdhnhkmjfaa.X
open Go.RowKit Go.Proofs.YtgiehdhnhkmjfaaW.PrintWords Go.Proofs.YtgiehdhnhkmjfaaW.PrintLast Go.Proofs.YtgiehdhnhkmjfaaW.PrintMore
attribute [local go_sem] max2_int min2_int max_two min_two max_three min_three max_four min_four   -- for this text's walks alone
set_option linter.unusedVariables false
set_option linter.unusedSimpArgs false

/-! ### spec_l5Lift: function 69 -/
def spec_l5Lift.l0 : Nat → Int → Int → Option (Int)
  | 0, _, _ => none
  | k + 1, x0, x1 => if x1 > 0 then (spec_l5Lift.l0 k (wrap64 (3 * x0)) (wrap64 (x1 - 1))) else (some x0)
def spec_l5Lift.f (k : Nat) (a0 : Int) (a1 : Int) : Option (Int) := spec_l5Lift.l0 k a0 a1
theorem spec_l5Lift.mono_l : ∀ k, (∀ y0 y1, LeO (spec_l5Lift.l0 k y0 y1) (spec_l5Lift.l0 (k + 1) y0 y1))
  | 0 => fun _ _ r h => by simp [spec_l5Lift.l0] at h
  | k + 1 => by
    have ih0 := spec_l5Lift.mono_l k
    · intro y0 y1
      unfold spec_l5Lift.l0
      repeat' first
      | (with_reducible exact ih0 _ _)
      | (with_reducible exact LeO.refl _)
      | (with_reducible exact LeO.none _)
      | (with_reducible refine LeO.ite ?_ ?_)
      | (with_reducible refine LeO.bind ?_ (fun _ => ?_))
      | exact ih0 _ _
      | exact LeO.none _
      | refine LeO.ite ?_ ?_
      | refine LeO.bind ?_ (fun _ => ?_)
theorem spec_l5Lift.mono : ∀ a0 a1 k, LeO (spec_l5Lift.f k a0 a1) (spec_l5Lift.f (k + 1) a0 a1) := by
  intro a0 a1 k
  have ih0 := spec_l5Lift.mono_l k
  unfold spec_l5Lift.f
  repeat' first
      | (with_reducible exact ih0 _ _)
      | (with_reducible exact LeO.refl _)
      | (with_reducible exact LeO.none _)
      | (with_reducible refine LeO.ite ?_ ?_)
      | (with_reducible refine LeO.bind ?_ (fun _ => ?_))
      | exact ih0 _ _
      | exact LeO.none _
      | refine LeO.ite ?_ ?_
      | refine LeO.bind ?_ (fun _ => ?_)
set_option maxHeartbeats 8000000 in
set_option maxRecDepth 100000 in
theorem spec_l5Lift.calls (k : Nat) (a0 : Int) (a1 : Int) (r : Int) (w : World) (h : spec_l5Lift.f k a0 a1 = some r) :
    Calls Try.prog 69 #[.int .i64 a0, .int .i64 a1] w fun e w' => e = .returned (.int .i64 r) ∧ Drawn0 w w' := by
  have H : (spec_l5Lift.l0 k a0 a1) = some r := h
  clear h
  have H' := Aside0.mk H
  clear H
  go_enter Try.func69, Try.ntmps69
  go_wp2
  go_loopg [0, 1] k (fun kq v0 v1 w' => ∃ (x0_1 : Int) (x1_1 : Int), v0 = .int .i64 x0_1 ∧ v1 = .int .i64 x1_1 ∧ Aside0 (spec_l5Lift.l0 kq x0_1 x1_1 = some r) ∧ Aside0 (kq ≤ k) ∧ Drawn0 w w')
  case atStart => exact ⟨(a0), (a1), (by first | rfl | (simp; done) | (simp [*]; done)), (by first | rfl | (simp; done) | (simp [*]; done)), H', ⟨Nat.le_refl _⟩, by repeat (first | exact Drawn0.refl _ | apply Drawn0.step)⟩
  case round =>
    clear H'
    try clear p2
    obtain ⟨x0_1, x1_1, rfl, rfl, HA, HK1, ⟨m1, rfl⟩⟩ := hrel
    cases gk with
    | zero => exact absurd HA.out (by simp [spec_l5Lift.l0])
    | succ k1 =>
      have H := HA.out
      clear HA
      simp only [spec_l5Lift.l0] at H
      by_cases c3 : x1_1 > 0
      · rw [if_pos c3] at H
        have c3b0 : decide (0 < x1_1) = true := decide_eq_true c3
        clear c3
        have H' := Aside0.mk H
        clear H
        go_wp2
        go_roundg k1
        case measure => have := HK1.out; omega
        case rel => exact ⟨(wrap64 (3 * x0_1)), (wrap64 (x1_1 - 1)), (by first | rfl | (simp; done) | (simp [*]; done)), (by first | rfl | (simp; done) | (simp [*]; done)), H', ⟨by have := HK1.out; omega⟩, by repeat (first | exact Drawn0.refl _ | apply Drawn0.step)⟩
      · rw [if_neg c3] at H
        have c3b0 : decide (0 < x1_1) = false := decide_eq_false c3
        clear c3
        obtain rfl := Option.some.inj H
        go_wp2
        go_ret
        exact ⟨by first | rfl | (simp; done) | (simp [*]; done), by repeat (first | exact Drawn0.refl _ | apply Drawn0.step)⟩

end Go.Proofs.Ytgiehdhnhkmjfaa.X
-- Laid by xprint.py (wip/tools): printed contracts, and hand-written ones between them.
namespace Go.Proofs.Ytgiehdhnhkmjfaa.X
open Go.RowKit Go.Proofs.YtgiehdhnhkmjfaaW.PrintWords Go.Proofs.YtgiehdhnhkmjfaaW.PrintLast Go.Proofs.YtgiehdhnhkmjfaaW.PrintMore
attribute [local go_sem] max2_int min2_int max_two min_two max_three min_three max_four min_four   -- for this text's walks alone
set_option linter.unusedVariables false
set_option linter.unusedSimpArgs false

/-! ### spec_MakePower: function 28 -/
def spec_MakePower.f (k : Nat) (a0 : Int) : Option (Int) := (spec_l5Lift.f k 1 (mx 0 (mn a0 30))).bind fun t29001 => (some t29001)
theorem spec_MakePower.mono : ∀ a0 k, LeO (spec_MakePower.f k a0) (spec_MakePower.f (k + 1) a0) := by
  intro a0 k
  unfold spec_MakePower.f
  repeat' first
      | (with_reducible exact spec_l5Lift.mono _ _ _)
      | (with_reducible exact LeO.refl _)
      | (with_reducible exact LeO.none _)
      | (with_reducible refine LeO.ite ?_ ?_)
      | (with_reducible refine LeO.bind ?_ (fun _ => ?_))
      | exact spec_l5Lift.mono _ _ _
      | exact LeO.none _
      | refine LeO.ite ?_ ?_
      | refine LeO.bind ?_ (fun _ => ?_)
set_option maxHeartbeats 8000000 in
set_option maxRecDepth 100000 in
theorem spec_MakePower.calls (k : Nat) (a0 : Int) (r : Int) (w : World) (h : spec_MakePower.f k a0 = some r) :
    Calls Try.prog 28 #[.int .i64 a0] w fun e w' => e = .returned (.int .i64 r) ∧ Below w.heap.size w w' := by
  have HB := Aside0.mk (Below.refl w.heap.size w)
  have H : ((spec_l5Lift.f k 1 (mx 0 (mn a0 30))).bind fun t29001 => (some t29001)) = some r := h
  clear h
  obtain ⟨ji2, hji2⟩ : ∃ j_ : Int, (mn a0 30) = j_ := ⟨_, rfl⟩
  replace H : ((spec_l5Lift.f k 1 (mx 0 (ji2))).bind fun t29001 => (some t29001)) = some r := by first | (rw [hji2] at H; exact H) | (simp only [hji2] at H ⊢; exact H)
  (try (have hji2h : ji2 ≤ 30 := by (rw [← hji2]; unfold mn; (repeat' split) <;> omega)))
  (try (have hji2g : ji2 ≤ 64 := by omega))
  have hji2_ : (if 30 < a0 then 30 else a0) = ji2 := hji2
  obtain ⟨ji3, hji3⟩ : ∃ j_ : Int, (mx 0 (ji2)) = j_ := ⟨_, rfl⟩
  replace H : ((spec_l5Lift.f k 1 (ji3)).bind fun t29001 => (some t29001)) = some r := by first | (rw [hji3] at H; exact H) | (simp only [hji3] at H ⊢; exact H)
  have hji3_ : (if 0 < (ji2) then (ji2) else 0) = ji3 := hji3
  replace H := Option.bind_eq_some_iff.mp H
  obtain ⟨t29001, A40, H⟩ := H
  replace H : (some t29001) = some r := H
  have A4 := Aside0.mk A40
  clear A40
  obtain rfl := Option.some.inj H
  go_enter Try.func28, Try.ntmps28
  go_wp2_with (first | ((with_reducible refine gate_callee (f := 69) rfl ?_); refine goesL_ (some 6) rfl rfl Try.func69 (by kernel_rfl) rfl #[.int .i64 1, .int .i64 ji3] rfl (by (try simp only [List.map_toArray, List.map_cons, List.map_nil]); first | done | (simp only [hji3]; rfl) | rfl | (simp only [List.length_drop, List.length_take]; rfl)) ?_; (with_reducible refine (spec_l5Lift.calls k 1 ji3 t29001 _ A4.out).mono ?_); rintro e w' ⟨rfl, ⟨nd, rfl⟩⟩; refine ⟨_, rfl, ?_⟩))
  go_ret
  exact ⟨by first | rfl | (simp [errW_none, errW_some] <;> rfl) | (simp only [← hji2, ← hji3]; first | rfl | (simp [errW_none, errW_some] <;> rfl)) | (simp [*, errW_none, errW_some] <;> rfl), by repeat (first | (with_reducible first | exact HB.out | apply below_alloc | apply pw_below_drewN | apply below_drew1) | exact HB.out)⟩

end Go.Proofs.Ytgiehdhnhkmjfaa.X
/- What the reference's functions on words tell: each printed function, from some number of rounds on, is the plain one. -/
namespace Go.Proofs.Ytgiehdhnhkmjfaa.Plain
open Go.RowKit Go.Proofs.Ytgiehdhnhkmjfaa.X Go.Proofs.YtgiehdhnhkmjfaaW.PrintWords Go.Proofs.YtgiehdhnhkmjfaaW.PrintLast Go.Proofs.YtgiehdhnhkmjfaaW.PrintMore
theorem wrapS {x : Int} (h1 : -9000000000000000000 ≤ x) (h2 : x ≤ 9000000000000000000) : wrap64 x = x := by unfold wrap64; omega
theorem wrapN {i n : Nat} (h : i < n) (hn : n ≤ 9000000000000000000) : wrap64 ((i : Int) + 1) = ((i + 1 : Nat) : Int) := by unfold wrap64; omega
theorem rd_at {xs : List Int} {i : Nat} (h : i < xs.length) : rd xs (i : Int) = xs[i] := by simp [rd, List.getElem?_eq_getElem h]
theorem tritB_iff (x : Int) : tritB x = true ↔ -1 ≤ x ∧ x ≤ 1 := by unfold tritB; simp
theorem wordB_iff (w : List Int) : wordB w = true ↔ 1 ≤ w.length ∧ w.length ≤ 30 ∧ Trits w := by
  unfold wordB Trits
  simp only [Bool.and_eq_true, decide_eq_true_eq, List.all_eq_true, tritB_iff]
  exact ⟨fun h => ⟨h.1.1, h.1.2, h.2⟩, fun h => ⟨⟨h.1, h.2.1⟩, h.2.2⟩⟩
theorem trits_word (k : Nat) (n : Int) (h1 : 1 ≤ k) (h2 : k ≤ 30) : wordB (word k n) = true := (wordB_iff _).2 ⟨by rw [word_length]; exact h1, by rw [word_length]; exact h2, word_trits k n⟩
theorem spec_l1In_tells (a b c : Int) : spec_l1In.f a b c = some (decide (b ≤ a ∧ a ≤ c)) := by
  unfold spec_l1In.f
  by_cases h : a ≥ b
  · rw [if_pos h]
    congr 1
    simp [show b ≤ a from h]
  · rw [if_neg h, decide_eq_false (fun hh => h hh.1)]
theorem spec_IsTrit_tells (x : Int) : spec_IsTrit.f x = some (tritB x) := by
  unfold spec_IsTrit.f tritB
  rw [spec_l1In_tells]
  simp only [Option.bind_some]
  congr 1
  by_cases h1 : -1 ≤ x <;> by_cases h2 : x ≤ 1 <;> simp [h1, h2]
theorem spec_IsWord_l (xs : List Int) (hx : xs.length ≤ 9000000000000000000) (d : Nat) : ∀ (k i : Nat), i ≤ xs.length → xs.length - i = d → d < k →
    spec_IsWord.l0 k xs xs (xs.length : Int) (i : Int) = some ((xs.drop i).all tritB && (decide (1 ≤ xs.length) && decide (xs.length ≤ 30))) := by
  induction d with
  | zero =>
    intro k i h1 h2 hk
    obtain ⟨k, rfl⟩ : ∃ m, k = m + 1 := ⟨k - 1, by omega⟩
    simp only [spec_IsWord.l0]
    rw [if_neg (by omega), List.drop_of_length_le (by omega), spec_l1In_tells]
    simp only [Option.bind_some, List.all_nil, Bool.true_and]
    congr 1
    by_cases h1 : 1 ≤ xs.length <;> by_cases h2 : xs.length ≤ 30 <;> simp [h1, h2] <;> omega
  | succ d ih =>
    intro k i h1 h2 hk
    obtain ⟨k, rfl⟩ : ∃ m, k = m + 1 := ⟨k - 1, by omega⟩
    have hi : i < xs.length := by omega
    simp only [spec_IsWord.l0]
    rw [if_pos (by omega), if_pos (by omega), if_pos (by omega), rd_at hi, spec_IsTrit_tells, List.drop_eq_getElem_cons hi, List.all_cons]
    simp only [Option.bind_some]
    cases hb : tritB xs[i] with
    | true =>
      rw [if_pos rfl, Bool.true_and, wrapN hi hx]
      exact ih k (i + 1) (by omega) (by omega) (by omega)
    | false => rfl
theorem spec_IsWord_tells (xs : List Int) (hx : xs.length ≤ 9000000000000000000) (k : Nat) (hk : xs.length < k) : spec_IsWord.f k xs = some (wordB xs) := by
  unfold spec_IsWord.f wordB
  have h := spec_IsWord_l xs hx xs.length k 0 (Nat.zero_le _) rfl hk
  rw [List.drop_zero] at h
  rw [show (0 : Int) = ((0 : Nat) : Int) from rfl, h, Bool.and_comm]
theorem spec_LimitOf_l (n : Nat) (hn : n ≤ 30) (d : Nat) : ∀ (k i : Nat), i ≤ n → n - i = d → d < k → spec_LimitOf.l0 k (n : Int) (lim i) (i : Int) = some (lim n) := by
  induction d with
  | zero =>
    intro k i h1 h2 hk
    obtain ⟨k, rfl⟩ : ∃ m, k = m + 1 := ⟨k - 1, by omega⟩
    obtain rfl : i = n := by omega
    simp only [spec_LimitOf.l0]
    rw [if_neg (by omega)]
  | succ d ih =>
    intro k i h1 h2 hk
    obtain ⟨k, rfl⟩ : ∃ m, k = m + 1 := ⟨k - 1, by omega⟩
    have h3 := lim_le30 (k := i) (by omega)
    have h4 := lim_nonneg i
    simp only [spec_LimitOf.l0]
    rw [if_pos (by omega), wrapS (x := 3 * lim i) (by omega) (by omega), wrapS (by omega) (by omega), wrapN (n := n) (by omega) (by omega)]
    exact ih k (i + 1) (by omega) (by omega) (by omega)
theorem spec_LimitOf_tells (n : Int) (k : Nat) (hk : 31 ≤ k) : spec_LimitOf.f k n = some (if 1 ≤ n ∧ n ≤ 30 then lim n.toNat else 0) := by
  unfold spec_LimitOf.f
  rw [spec_l1In_tells]
  simp only [Option.bind_some]
  by_cases h : 1 ≤ n ∧ n ≤ 30
  · rw [if_pos (by simpa using h), if_pos h]
    obtain ⟨m, rfl⟩ := Int.eq_ofNat_of_zero_le (show 0 ≤ n by omega)
    exact spec_LimitOf_l m (by omega) m k 0 (Nat.zero_le _) rfl (by omega)
  · rw [if_neg (by simpa using h), if_neg h]
theorem spec_LimitOf_at {n : Nat} (h1 : 1 ≤ n) (h2 : n ≤ 30) (k : Nat) (hk : 31 ≤ k) : spec_LimitOf.f k (n : Int) = some (lim n) := by
  rw [spec_LimitOf_tells _ k hk, if_pos (by omega), Int.toNat_natCast]
theorem spec_l2Value_l (xs : List Int) (ht : Trits xs) (hl : xs.length ≤ 30) (d : Nat) : ∀ (k : Nat), d ≤ xs.length → d < k → spec_l2Value.l0 k xs (val (xs.drop d)) ((d : Int) - 1) = some (val xs) := by
  induction d with
  | zero =>
    intro k h1 hk
    obtain ⟨k, rfl⟩ : ∃ m, k = m + 1 := ⟨k - 1, by omega⟩
    simp only [spec_l2Value.l0]
    rw [if_neg (by omega), List.drop_zero]
  | succ d ih =>
    intro k h1 hk
    obtain ⟨k, rfl⟩ : ∃ m, k = m + 1 := ⟨k - 1, by omega⟩
    have hi : d < xs.length := by omega
    have e : ((d + 1 : Nat) : Int) - 1 = (d : Int) := by omega
    have hb := val_bound (w := xs.drop (d + 1)) (fun x hx => ht x (List.mem_of_mem_drop hx))
    have hb2 := lim_le30 (k := (xs.drop (d + 1)).length) (by rw [List.length_drop]; omega)
    have hx := ht xs[d] (List.getElem_mem hi)
    simp only [spec_l2Value.l0]
    rw [e, if_pos (by omega), if_pos (by omega), if_pos (by omega), rd_at hi, wrapS (x := 3 * val (xs.drop (d + 1))) (by omega) (by omega), wrapS (by omega) (by omega), wrapS (x := (d : Int) - 1) (by omega) (by omega)]
    have e2 : 3 * val (xs.drop (d + 1)) + xs[d] = val (xs.drop d) := by rw [List.drop_eq_getElem_cons hi]; simp only [val]; omega
    rw [e2]
    exact ih k (by omega) (by omega)
theorem spec_l2Value_tells (xs : List Int) (ht : Trits xs) (hl : xs.length ≤ 30) (k : Nat) (hk : 31 ≤ k) : spec_l2Value.f k xs = some (val xs) := by
  unfold spec_l2Value.f
  have h := spec_l2Value_l xs ht hl xs.length k (Nat.le_refl _) (by omega)
  rw [List.drop_length] at h
  rw [wrapS (by omega) (by omega)]
  exact h
theorem spec_ValueOf_tells (xs : List Int) (hw : wordB xs = true) (k : Nat) (hk : 31 ≤ k) : spec_ValueOf.f k xs = some (val xs) := by
  obtain ⟨h1, h2, h3⟩ := (wordB_iff _).1 hw
  unfold spec_ValueOf.f
  rw [spec_IsWord_tells xs (by omega) k (by omega), hw]
  simp only [Option.bind_some, if_true]
  rw [spec_l2Value_tells xs h3 h2 k hk]
  rfl
theorem spec_l2Word_l (j : Nat) (hj : j ≤ 1000) (d : Nat) : ∀ (k i : Nat) (n : Int) (acc : List Int), -1000000000000000000 ≤ n → n ≤ 1000000000000000000 → acc.length = i → i ≤ j → j - i = d → d < k →
    spec_l2Word.l0 k n (j : Int) acc (i : Int) = some (acc ++ word d n) := by
  induction d with
  | zero =>
    intro k i n acc hn1 hn2 hacc h1 h2 hk
    obtain ⟨k, rfl⟩ : ∃ m, k = m + 1 := ⟨k - 1, by omega⟩
    simp only [spec_l2Word.l0]
    rw [if_neg (by omega)]
    simp [word]
  | succ d ih =>
    intro k i n acc hn1 hn2 hacc h1 h2 hk
    obtain ⟨k, rfl⟩ : ∃ m, k = m + 1 := ⟨k - 1, by omega⟩
    have hr := rest_eq n
    have hd := dig_range n
    have key : ∀ (x : Int), x = dig n → (if acc.length < 17592186044416 then spec_l2Word.l0 k (wrap64 (Int.tdiv (wrap64 (n - x)) 3)) (j : Int) (acc ++ [x]) (wrap64 ((i : Int) + 1)) else none) = some (acc ++ word (d + 1) n) := by
      rintro x rfl
      rw [if_pos (by omega), wrapS (x := n - dig n) (by omega) (by omega), wrapN (n := j) (by omega) (by omega)]
      show spec_l2Word.l0 k (wrap64 (rest n)) _ _ _ = _
      rw [wrapS (by omega) (by omega), ih k (i + 1) (rest n) (acc ++ [dig n]) (by omega) (by omega) (by simp [hacc]) (by omega) (by omega) (by omega)]
      simp [word, List.append_assoc]
    have h3 := Int.tmod_lt_of_pos n (b := 3) (by omega)
    have h4 : -3 < n.tmod 3 := Int.lt_tmod_of_pos n (by omega)
    simp only [spec_l2Word.l0]
    rw [if_pos (by omega)]
    by_cases c1 : Int.tmod n 3 > 1
    · rw [if_pos c1]
      have e : dig n = Int.tmod n 3 - 3 := by unfold dig; rw [if_pos c1]
      rw [wrapS (x := Int.tmod n 3 - 3) (by omega) (by omega), if_neg (by omega)]
      exact key _ e.symm
    · rw [if_neg c1]
      by_cases c2 : Int.tmod n 3 < -1
      · rw [if_pos c2]
        have e : dig n = Int.tmod n 3 + 3 := by unfold dig; rw [if_neg c1, if_pos c2]
        rw [wrapS (x := Int.tmod n 3 + 3) (by omega) (by omega)]
        exact key _ e.symm
      · rw [if_neg c2]
        have e : dig n = Int.tmod n 3 := by unfold dig; rw [if_neg c1, if_neg c2]
        exact key _ e.symm
theorem spec_l2Word_tells (n : Int) (j : Nat) (hj : j ≤ 1000) (h1 : -1000000000000000000 ≤ n) (h2 : n ≤ 1000000000000000000) (k : Nat) (hk : j < k) : spec_l2Word.f k n (j : Int) = some (word j n) := by
  unfold spec_l2Word.f
  exact spec_l2Word_l j hj j k 0 n [] h1 h2 rfl (Nat.zero_le _) rfl hk
theorem spec_WordOf_at {n : Int} {j : Nat} (h1 : 1 ≤ j) (h2 : j ≤ 30) (k : Nat) (hk : 31 ≤ k) : spec_WordOf.f k n (j : Int) = some (if -lim j ≤ n ∧ n ≤ lim j then (word j n, true) else ([], false)) := by
  have h3 := lim_le30 h2
  have h4 := lim_nonneg j
  unfold spec_WordOf.f
  rw [spec_l1In_tells, decide_eq_true (show (1 : Int) ≤ (j : Int) ∧ (j : Int) ≤ 30 by omega)]
  simp only [Option.bind_some, if_true]
  rw [spec_LimitOf_at h1 h2 k hk]
  simp only [Option.bind_some]
  rw [wrapS (by omega) (by omega), spec_l1In_tells]
  simp only [Option.bind_some]
  by_cases h : -lim j ≤ n ∧ n ≤ lim j
  · rw [if_pos (by simpa using h), if_pos h, spec_l2Word_tells n j (by omega) (by omega) (by omega) k (by omega)]
    rfl
  · rw [if_neg (by simpa using h), if_neg h]
theorem spec_LengthOf_l (n : Int) (d : Nat) : ∀ (k j : Nat), 1 ≤ j → j + d = 31 → 31 + d < k → spec_LengthOf.l0 k n (j : Int) = some ((lenFrom n d j : Nat) : Int) := by
  induction d with
  | zero =>
    intro k j h1 h2 hk
    obtain ⟨k, rfl⟩ : ∃ m, k = m + 1 := ⟨k - 1, by omega⟩
    simp only [spec_LengthOf.l0]
    rw [if_neg (by omega)]
    rfl
  | succ d ih =>
    intro k j h1 h2 hk
    obtain ⟨k, rfl⟩ : ∃ m, k = m + 1 := ⟨k - 1, by omega⟩
    have h3 := lim_le30 (k := j) (by omega)
    have h4 := lim_nonneg j
    simp only [spec_LengthOf.l0]
    rw [if_pos (by omega), spec_LimitOf_at h1 (by omega) k (by omega)]
    simp only [Option.bind_some]
    rw [wrapS (by omega) (by omega), spec_l1In_tells]
    simp only [Option.bind_some]
    unfold lenFrom
    by_cases h : -lim j ≤ n ∧ n ≤ lim j
    · rw [if_pos (by simpa using h), if_pos h]
    · rw [if_neg (by simpa using h), if_neg h, wrapN (n := 31) (by omega) (by omega)]
      exact ih k (j + 1) (by omega) (by omega) (by omega)
theorem spec_LengthOf_tells (n : Int) (k : Nat) (hk : 62 ≤ k) : spec_LengthOf.f k n = some ((len n : Nat) : Int) := by
  unfold spec_LengthOf.f
  exact spec_LengthOf_l n 30 k 1 (by omega) rfl (by omega)
theorem spec_WeightOf_l (xs : List Int) (ht : Trits xs) (hl : xs.length ≤ 30) (d : Nat) : ∀ (k i : Nat) (acc : Int), 0 ≤ acc → acc ≤ i → i ≤ xs.length → xs.length - i = d → d < k → spec_WeightOf.l0 k acc xs (xs.length : Int) (i : Int) = some (acc + weight (xs.drop i)) := by
  induction d with
  | zero =>
    intro k i acc ha1 ha2 h1 h2 hk
    obtain ⟨k, rfl⟩ : ∃ m, k = m + 1 := ⟨k - 1, by omega⟩
    simp only [spec_WeightOf.l0]
    rw [if_neg (by omega), List.drop_of_length_le (by omega)]
    simp [weight]
  | succ d ih =>
    intro k i acc ha1 ha2 h1 h2 hk
    obtain ⟨k, rfl⟩ : ∃ m, k = m + 1 := ⟨k - 1, by omega⟩
    have hi : i < xs.length := by omega
    have hx := ht xs[i] (List.getElem_mem hi)
    have hsq : xs[i] * xs[i] = 0 ∨ xs[i] * xs[i] = 1 := by
      rcases (show xs[i] = -1 ∨ xs[i] = 0 ∨ xs[i] = 1 by omega) with e | e | e <;> rw [e] <;> simp
    simp only [spec_WeightOf.l0]
    rw [if_pos (by omega), if_pos (by omega), if_pos (by omega), rd_at hi, wrapS (x := xs[i] * xs[i]) (by omega) (by omega), wrapS (x := acc + _) (by omega) (by omega), wrapN hi (by omega), ih k (i + 1) _ (by omega) (by omega) (by omega) (by omega) (by omega), List.drop_eq_getElem_cons hi]
    simp only [weight]
    congr 1
    omega
theorem spec_WeightOf_tells (xs : List Int) (hw : wordB xs = true) (k : Nat) (hk : 31 ≤ k) : spec_WeightOf.f k xs = some (weight xs) := by
  obtain ⟨h1, h2, h3⟩ := (wordB_iff _).1 hw
  unfold spec_WeightOf.f
  rw [spec_IsWord_tells xs (by omega) k (by omega), hw]
  simp only [Option.bind_some, if_true]
  have h := spec_WeightOf_l xs h3 h2 xs.length k 0 0 (Int.le_refl _) (Int.le_refl _) (Nat.zero_le _) rfl (by omega)
  rw [List.drop_zero, Int.zero_add] at h
  exact h
theorem spec_l5Lift_l (d : Nat) : ∀ (k : Nat) (x : Int), d ≤ 1000 → 0 ≤ x → x * 3 ^ d ≤ 1000000000000000000 → d < k → spec_l5Lift.l0 k x (d : Int) = some (x * 3 ^ d) := by
  induction d with
  | zero =>
    intro k x hd h0 h1 hk
    obtain ⟨k, rfl⟩ : ∃ m, k = m + 1 := ⟨k - 1, by omega⟩
    simp only [spec_l5Lift.l0]
    rw [if_neg (by omega)]
    simp
  | succ d ih =>
    intro k x hd h0 h1 hk
    obtain ⟨k, rfl⟩ : ∃ m, k = m + 1 := ⟨k - 1, by omega⟩
    have e : 3 * x * 3 ^ d = x * 3 ^ (d + 1) := by rw [Int.pow_succ, Int.mul_comm 3 x, Int.mul_assoc, Int.mul_comm 3]
    have h2 : 3 * x ≤ 3 * x * 3 ^ d := by
      have h3 : (1 : Int) ≤ 3 ^ d := by have := Int.pow_pos (n := 3) (m := d) (by omega); omega
      have := Int.mul_le_mul_of_nonneg_left h3 (show 0 ≤ 3 * x by omega)
      omega
    simp only [spec_l5Lift.l0]
    rw [if_pos (by omega), wrapS (x := 3 * x) (by omega) (by omega), show ((d + 1 : Nat) : Int) - 1 = (d : Int) by omega, wrapS (x := (d : Int)) (by omega) (by omega), ih k (3 * x) (by omega) (by omega) (by omega) (by omega), e]
theorem spec_MakePower_tells {j : Nat} (hj : j ≤ 30) (k : Nat) (hk : 31 ≤ k) : spec_MakePower.f k (j : Int) = some ((3 : Int) ^ j) := by
  unfold spec_MakePower.f spec_l5Lift.f
  rw [show mx 0 (mn (j : Int) 30) = (j : Int) by unfold mx mn; split <;> split <;> omega]
  have h1 := pow_lim j
  have h2 := lim_le30 hj
  rw [spec_l5Lift_l j k 1 (by omega) (by omega) (by omega) (by omega), Int.one_mul]
  rfl
end Go.Proofs.Ytgiehdhnhkmjfaa.Plain
/- The law FnExactWeighingsOf over numbers and lists: both sides tell, for each place, the coins whose words have 1 and -1 there. -/
namespace Go.Proofs.Ytgiehdhnhkmjfaa.PlainWeighings
open Go.RowKit Go.Proofs.Ytgiehdhnhkmjfaa.X Go.Proofs.YtgiehdhnhkmjfaaW.PrintWords Go.Proofs.YtgiehdhnhkmjfaaW.PrintLast Go.Proofs.Ytgiehdhnhkmjfaa.Plain
set_option maxRecDepth 100000
theorem bind_eq {α β : Type} {o : Option α} {a : α} (h : o = some a) (f : α → Option β) : o.bind f = f a := by rw [h]; rfl
theorem sameB_iff (l : List (List Int)) : sameB l = true ↔ 0 < l.length ∧ ∀ j, j < l.length → wordB (l.getD j []) = true ∧ (l.getD j []).length = (l.getD 0 []).length := by
  unfold sameB
  rw [Bool.and_eq_true, decide_eq_true_iff, Bool.not_eq_true', List.any_eq_false]
  constructor
  · rintro ⟨h1, h2⟩
    refine ⟨h1, fun j hj => ?_⟩
    have h := h2 j (List.mem_range.2 hj)
    unfold oddB at h
    simp only [Bool.or_eq_true, Bool.not_eq_true', decide_eq_true_eq, not_or, Bool.not_eq_false] at h
    exact ⟨h.1, Decidable.not_not.1 h.2⟩
  · rintro ⟨h1, h2⟩
    refine ⟨h1, fun j hj => ?_⟩
    have h := h2 j (List.mem_range.1 hj)
    unfold oddB
    simp only [Bool.or_eq_true, Bool.not_eq_true', decide_eq_true_eq, not_or, Bool.not_eq_false]
    exact ⟨h.1, Decidable.not_not.2 h.2⟩
theorem fit_tells (a b : List Int) (k : Nat) (ha : a.length < k) (hb : b.length < k) (ha2 : a.length ≤ 1048576) (hb2 : b.length ≤ 1048576) : spec_l3Fit.f k a b = some (wordB a && (wordB b && decide (a.length = b.length))) := by
  unfold spec_l3Fit.f
  refine (bind_eq (spec_IsWord_tells a (by omega) k ha) _).trans ?_
  cases wordB a with
  | false => rfl
  | true =>
    rw [if_pos rfl]
    refine (bind_eq (spec_IsWord_tells b (by omega) k hb) _).trans ?_
    cases wordB b with
    | false => rfl
    | true =>
      rw [if_pos rfl]
      show some ((a.length : Int) == (b.length : Int)) = some (decide (a.length = b.length))
      rw [beq_nat]
theorem words_l (l : List (List Int)) (hl : l.length ≤ 1048576) (hr : ∀ j, (l.getD j []).length ≤ 1048576) : ∀ (d k i : Nat), i + d = l.length → d + 1048576 + 1 < k →
    ∃ b, spec_l8Words.l0 k l l (l.length : Int) (i : Int) = some b ∧ (b = true ↔ 0 < l.length ∧ ∀ j, i ≤ j → j < l.length → wordB (l.getD 0 []) = true ∧ wordB (l.getD j []) = true ∧ (l.getD 0 []).length = (l.getD j []).length)
  | _, 0, _, _, h => absurd h (by omega)
  | 0, k + 1, i, hi, _ => by
    refine ⟨decide ((l.length : Int) > 0), by rw [spec_l8Words.l0, if_neg (by omega)], ?_⟩
    rw [decide_eq_true_iff]
    exact ⟨fun h => ⟨by omega, fun j h1 h2 => by omega⟩, fun h => by have := h.1; omega⟩
  | d + 1, k + 1, i, hi, hk => by
    have h0 := hr 0
    have h1 := hr i
    have e0 : rd_L9 l 0 = l.getD 0 [] := rfl
    have ei : rd_L9 l (i : Int) = l.getD i [] := by unfold rd_L9; rw [Int.toNat_natCast]
    have e2 : wrap64 ((i : Int) + 1) = ((i + 1 : Nat) : Int) := by unfold wrap64; omega
    have hf := fit_tells (l.getD 0 []) (l.getD i []) k (by omega) (by omega) h0 h1
    rw [spec_l8Words.l0, if_pos (by omega), if_pos (by omega), if_pos (by omega), if_pos (by omega), e0, ei]
    rw [show ((spec_l3Fit.f k (l.getD 0 []) (l.getD i [])).bind fun t44003 => if t44003 = true then spec_l8Words.l0 k l l (l.length : Int) (wrap64 ((i : Int) + 1)) else some false) = _ from bind_eq hf _]
    by_cases c : (wordB (l.getD 0 []) && (wordB (l.getD i []) && decide ((l.getD 0 []).length = (l.getD i []).length))) = true
    · obtain ⟨b, hb, hb2⟩ := words_l l hl hr d k (i + 1) (by omega) (by omega)
      rw [if_pos c, e2]
      refine ⟨b, hb, hb2.trans ⟨fun h => ⟨h.1, fun j h1 h2 => ?_⟩, fun h => ⟨h.1, fun j h1 h2 => h.2 j (by omega) h2⟩⟩⟩
      by_cases e : j = i
      · subst e
        simpa using c
      · exact h.2 j (by omega) h2
    · rw [if_neg c]
      refine ⟨false, rfl, ⟨fun h => (Bool.false_ne_true h).elim, fun h => absurd ?_ c⟩⟩
      have := h.2 i (Nat.le_refl _) (by omega)
      rw [this.1, this.2.1, decide_eq_true this.2.2]
      rfl
theorem words_tells (l : List (List Int)) (hl : l.length ≤ 1048576) (hr : ∀ j, (l.getD j []).length ≤ 1048576) (k : Nat) (hk : 3000000 ≤ k) : spec_l8Words.f k l = some (sameB l) := by
  obtain ⟨b, hb, hb2⟩ := words_l l hl hr l.length k 0 (by omega) (by omega)
  unfold spec_l8Words.f
  refine (show spec_l8Words.l0 k l l (l.length : Int) 0 = some b from hb).trans (congrArg some ?_)
  rw [Bool.eq_iff_iff, hb2, sameB_iff]
  constructor
  · rintro ⟨h1, h2⟩
    exact ⟨h1, fun j hj => ⟨(h2 j (Nat.zero_le _) hj).2.1, (h2 j (Nat.zero_le _) hj).2.2.symm⟩⟩
  · rintro ⟨h1, h2⟩
    exact ⟨h1, fun j _ hj => ⟨(h2 0 h1).1, (h2 j hj).1, (h2 j hj).2.symm⟩⟩
theorem place_l (l : List (List Int)) (hl : l.length ≤ 1048576) (n p : Nat) (hp : p < n) (hn : ∀ j, j < l.length → (l.getD j []).length = n) (x4 : List (S50)) : ∀ (d k j : Nat), j + d = l.length →
    spec_WeighingsOf.l1 (k + d + 1) l x4 (p : Int) (n : Int) (p : Int) l (l.length : Int) (j : Int) (cntW l 1 p j) (cntW l (-1) p j) = if x4.length < 2932031007402 then spec_WeighingsOf.l0 k l (x4 ++ [(⟨cntW l 1 p l.length, cntW l (-1) p l.length⟩ : S50)]) (n : Int) (wrap64 ((p : Int) + 1)) else none
  | 0, k, j, hj => by
    obtain rfl : j = l.length := by omega
    rw [spec_WeighingsOf.l1, if_neg (by omega)]
  | d + 1, k, j, hj => by
    have hjl := hn j (by omega)
    have ej : rd_L9 l (j : Int) = l.getD j [] := by unfold rd_L9; rw [Int.toNat_natCast]
    have er : rd (l.getD j []) (p : Int) = (l.getD j []).getD p 0 := by unfold rd; rw [Int.toNat_natCast]
    have e2 : wrap64 ((j : Int) + 1) = ((j + 1 : Nat) : Int) := by unfold wrap64; omega
    have c1 := cntW_length l 1 p j
    have c2 := cntW_length l (-1) p j
    have ih := place_l l hl n p hp hn x4 d k (j + 1) (by omega)
    rw [cntW_succ, cntW_succ] at ih
    rw [show k + (d + 1) + 1 = (k + d + 1) + 1 by omega, spec_WeighingsOf.l1, if_pos (by omega), if_pos (by omega), if_pos (by omega), if_pos (by omega), if_pos (by rw [ej, hjl]; omega), ej, er, e2]
    by_cases t1 : (l.getD j []).getD p 0 = 1
    · rw [if_pos t1, if_pos (by omega)]
      rw [if_pos t1, if_neg (by rw [t1]; decide), List.append_nil] at ih
      simp only [Option.bind_some]
      rw [if_neg (by rw [t1]; decide)]
      exact ih
    · rw [if_neg t1]
      rw [if_neg t1, List.append_nil] at ih
      by_cases t2 : (l.getD j []).getD p 0 = -1
      · rw [if_pos t2, if_pos (by omega)]
        rw [if_pos t2] at ih
        exact ih
      · rw [if_neg t2]
        rw [if_neg t2, List.append_nil] at ih
        exact ih
def weighFirst (l : List (List Int)) (i : Nat) : List (S50) := (List.range i).map fun p => (⟨cntW l 1 p l.length, cntW l (-1) p l.length⟩ : S50)
theorem weighFirst_all (l : List (List Int)) : weighFirst l (l.getD 0 []).length = weighW l := by
  unfold weighFirst weighW
  apply List.map_congr_left
  intro p _
  unfold rowsW
  rw [if_pos (show p * 2 % 2 = 0 by omega), if_neg (show ¬ (p * 2 + 1) % 2 = 0 by omega), show p * 2 / 2 = p by omega, show (p * 2 + 1) / 2 = p by omega, if_neg (Nat.not_lt_zero p)]
theorem places_l (l : List (List Int)) (hl : l.length ≤ 1048576) (n : Nat) (hn1 : n ≤ 1048576) (hn : ∀ j, j < l.length → (l.getD j []).length = n) : ∀ (d k i : Nat), i + d = n → d * (l.length + 2) < k →
    spec_WeighingsOf.l0 k l (weighFirst l i) (n : Int) (i : Int) = some (weighFirst l n, true)
  | _, 0, _, _, h => absurd h (by omega)
  | 0, k + 1, i, hi, _ => by
    obtain rfl : i = n := by omega
    rw [spec_WeighingsOf.l0, if_neg (by omega)]
  | d + 1, k + 1, i, hi, hk => by
    have hk2 : d * (l.length + 2) + l.length + 2 < k + 1 := by
      rw [Nat.add_mul] at hk
      omega
    have e2 : wrap64 ((i : Int) + 1) = ((i + 1 : Nat) : Int) := by unfold wrap64; omega
    obtain ⟨k', rfl⟩ : ∃ k', k = k' + l.length + 1 := ⟨k - l.length - 1, by omega⟩
    have hP := place_l l hl n i (by omega) hn (weighFirst l i) l.length k' 0 (by omega)
    have z1 : cntW l 1 i 0 = [] := rfl
    have z2 : cntW l (-1) i 0 = [] := rfl
    have hw : (weighFirst l i).length = i := by unfold weighFirst; rw [List.length_map, List.length_range]
    rw [z1, z2, if_pos (by rw [hw]; omega), e2] at hP
    rw [spec_WeighingsOf.l0, if_pos (by omega)]
    refine hP.trans ?_
    have hs : weighFirst l i ++ [(⟨cntW l 1 i l.length, cntW l (-1) i l.length⟩ : S50)] = weighFirst l (i + 1) := by
      unfold weighFirst
      rw [List.range_succ, List.map_append]
      rfl
    rw [hs]
    exact places_l l hl n hn1 hn d k' (i + 1) (by omega) (by omega)
theorem spec_tells (l : List (List Int)) (hl : l.length ≤ 1048576) (hr : ∀ j, (l.getD j []).length ≤ 1048576) (k : Nat) (hk : 40000000 ≤ k) : spec_WeighingsOf.f k l = some (if sameB l = true then (weighW l, true) else ([], false)) := by
  unfold spec_WeighingsOf.f
  refine (bind_eq (words_tells l hl hr k (by omega)) _).trans ?_
  by_cases hs : sameB l = true
  · rw [if_pos hs, if_pos hs]
    have h := (sameB_iff l).1 hs
    have h30 := (sameB_len hs h.1).2
    rw [if_pos (by have := h.1; omega)]
    have e0 : rd_L9 l 0 = l.getD 0 [] := rfl
    rw [e0]
    have hp := places_l l hl (l.getD 0 []).length (by omega) (fun j hj => (h.2 j hj).2) (l.getD 0 []).length k 0 (by omega) (by
      have : (l.getD 0 []).length * (l.length + 2) ≤ 30 * 1048578 := Nat.mul_le_mul h30.2 (by omega)
      omega)
    rw [weighFirst_all] at hp
    exact hp
  · rw [if_neg hs, if_neg hs]
theorem impl_tells (l : List (List Int)) (hl : l.length ≤ 1048576) : impl_WeighingsOf.f l = some (if sameB l = true then (weighW l, true) else ([], false)) := by
  unfold impl_WeighingsOf.f
  by_cases hs : sameB l = true
  · rw [if_pos hs, if_pos hs, if_pos (by omega)]
  · rw [if_neg hs, if_neg hs]
theorem toS_l (l : List Int) (hl : l.length ≤ 1048576) : ∀ (d k i : Nat) (x : List Int), i + d = l.length → d < k → x.length = l.length → x.take i = l.take i → laws_toIntS.l0 k l x (i : Int) = some l
  | _, 0, _, _, _, h, _, _ => absurd h (by omega)
  | 0, k + 1, i, x, hi, _, hx, ht => by
    rw [laws_toIntS.l0, if_neg (by omega)]
    rw [List.take_of_length_le (by omega), List.take_of_length_le (by omega)] at ht
    rw [ht]
  | d + 1, k + 1, i, x, hi, hk, hx, ht => by
    have e2 : wrap64 ((i : Int) + 1) = ((i + 1 : Nat) : Int) := by unfold wrap64; omega
    have er : rd l (i : Int) = l[i] := by unfold rd; rw [Int.toNat_natCast, List.getD_eq_getElem?_getD, List.getElem?_eq_getElem (by omega)]; rfl
    rw [laws_toIntS.l0, if_pos (by omega), if_pos (by omega), if_pos (by omega), e2, Int.toNat_natCast, er]
    refine toS_l l hl d k (i + 1) _ (by omega) (by omega) (by rw [List.length_set]; exact hx) ?_
    rw [List.take_succ_eq_append_getElem (by rw [List.length_set]; omega), List.take_succ_eq_append_getElem (by omega), List.take_set, List.getElem_set_self, List.set_eq_of_length_le (by rw [List.length_take]; omega), ht]
theorem toS_tells (l : List Int) (hl : l.length ≤ 1048576) (k : Nat) (hk : l.length < k) : laws_toIntS.f k l = some l := by
  unfold laws_toIntS.f
  rw [if_pos (by omega), if_pos (by omega)]
  exact toS_l l hl l.length k 0 _ (by omega) hk (by simp) rfl
theorem toSS_tells (l : List (List Int)) (hl : l.length ≤ 1048576) (hr : ∀ j, (l.getD j []).length ≤ 1048576) (k : Nat) (hk : 3000000 ≤ k) : laws_toIntSS.f k l = some l := by
  have h : ∀ n, toRows k l n = true := by
    intro n
    induction n with
    | zero => rfl
    | succ n ih =>
      simp only [toRows, Bool.and_eq_true, decide_eq_true_eq]
      exact ⟨ih, toS_tells _ (hr n) k (by have := hr n; omega)⟩
  unfold laws_toIntSS.f
  rw [if_pos (by omega), if_pos (h _)]
/-- How many numbers the rows from i on hold. -/
theorem sz_l (l : List (List Int)) (hm : l.length ≤ maxLen) (hr : ∀ x ∈ l, x.length ≤ maxLen) : ∀ (d k i : Nat) (a : Int), i + d = l.length → d < k → 0 ≤ a → a ≤ 1048576 →
    ∃ r, laws_szIntSS.l0 k l a (i : Int) = some r ∧ (0 ≤ r → ((l.drop i).flatten.length : Int) ≤ a)
  | _, 0, _, _, _, h, _, _ => absurd h (by omega)
  | 0, k + 1, i, a, hi, _, h0, h1 => by
    refine ⟨a, by rw [laws_szIntSS.l0, if_neg (by omega)], fun _ => ?_⟩
    rw [List.drop_of_length_le (by omega)]
    exact h0
  | d + 1, k + 1, i, a, hi, hk, h0, h1 => by
    have hm' : maxLen = 9223372036854775807 := rfl
    have hri : (l.getD i []).length ≤ maxLen := by
      rw [List.getD_eq_getElem?_getD, List.getElem?_eq_getElem (by omega)]
      exact hr _ (List.getElem_mem _)
    have ei : rd_L9 l (i : Int) = l.getD i [] := by unfold rd_L9; rw [Int.toNat_natCast]
    have e2 : wrap64 ((i : Int) + 1) = ((i + 1 : Nat) : Int) := by unfold wrap64; omega
    have e3 : wrap64 (a - ((l.getD i []).length : Int)) = a - ((l.getD i []).length : Int) := by unfold wrap64; omega
    have hd : (l.drop i).flatten.length = (l.getD i []).length + (l.drop (i + 1)).flatten.length := by
      rw [List.drop_eq_getElem_cons (show i < l.length by omega), List.flatten_cons, List.length_append, List.getD_eq_getElem?_getD, List.getElem?_eq_getElem (by omega)]
      rfl
    rw [laws_szIntSS.l0, if_pos (by omega), if_pos (by omega), ei]
    unfold laws_szIntS.f
    rw [e3]
    by_cases c : a - ((l.getD i []).length : Int) < 0
    · rw [if_pos c]
      refine ⟨-1, by simp, fun h => absurd h (by decide)⟩
    · rw [if_neg c]
      simp only [Option.bind_some]
      rw [if_neg c, e2]
      obtain ⟨r, h2, h3⟩ := sz_l l hm hr d k (i + 1) (a - ((l.getD i []).length : Int)) (by omega) (by omega) (by omega) (by omega)
      exact ⟨r, h2, fun hr0 => by have := h3 hr0; omega⟩
theorem sz_tells (l : List (List Int)) (hm : l.length ≤ maxLen) (hr : ∀ x ∈ l, x.length ≤ maxLen) (k : Nat) (hk : l.length < k ∨ (1048576 < l.length)) : ∃ r, laws_szIntSS.f k l 1048576 = some r ∧ (r < 0 ∨ (0 ≤ r ∧ l.length ≤ 1048576 ∧ l.flatten.length ≤ 1048576)) := by
  have hm' : maxLen = 9223372036854775807 := rfl
  have e3 : wrap64 (1048576 - (l.length : Int)) = 1048576 - (l.length : Int) := by unfold wrap64; omega
  unfold laws_szIntSS.f
  rw [e3]
  by_cases c : 1048576 - (l.length : Int) < 0
  · rw [if_pos c]
    exact ⟨-1, rfl, .inl (by decide)⟩
  · rw [if_neg c]
    obtain ⟨r, h1, h2⟩ := sz_l l hm hr l.length k 0 (1048576 - (l.length : Int)) (by omega) (by omega) (by omega) (by omega)
    refine ⟨r, h1, ?_⟩
    by_cases hr0 : r < 0
    · exact .inl hr0
    · have := h2 (by omega)
      rw [List.drop_zero] at this
      exact .inr ⟨by omega, by omega, by omega⟩
theorem offN_bound (L : Nat → List Int) (B : Nat) (h : ∀ i, (L i).length ≤ B) : ∀ m, offN L m ≤ m * B
  | 0 => by simp [offN]
  | m + 1 => by
    have := offN_bound L B h m
    have := h m
    rw [Nat.add_mul]
    show offN L m + (L m).length ≤ _
    omega
theorem rows_bound (l : List (List Int)) (hl : l.length ≤ 1048576) (i : Nat) : (rowsOf (weighW l) i).length ≤ 1048576 := by
  by_cases h : i < (l.getD 0 []).length * 2
  · have e : weighW l = unrows (rowsW l l.length 0) (l.getD 0 []).length := rfl
    rw [e, rowsOf_unrows _ h]
    unfold rowsW
    refine Nat.le_trans (cntW_length _ _ _ _) ?_
    split <;> omega
  · have hw : (weighW l).length = (l.getD 0 []).length := by unfold weighW; rw [List.length_map, List.length_range]
    unfold rowsOf
    have e : (weighW l).getD (i / 2) z50 = z50 := by
      rw [List.getD_eq_getElem?_getD, List.getElem?_eq_none (by omega)]
      rfl
    rw [e]
    split <;> exact Nat.zero_le _
end Go.Proofs.Ytgiehdhnhkmjfaa.PlainWeighings
namespace Go.Proofs.Ytgiehdhnhkmjfaa.Pure
open Go.RowKit Go.Proofs.Ytgiehdhnhkmjfaa.X Go.Proofs.YtgiehdhnhkmjfaaW.PrintWords Go.Proofs.YtgiehdhnhkmjfaaW.PrintLast Go.Proofs.Ytgiehdhnhkmjfaa.PlainWeighings
theorem FnExactWeighingsOf : laws_FnExactWeighingsOf.Pure := by
  intro l hm hr
  obtain ⟨K, hK⟩ : ∃ K : Nat, 40000000 ≤ K := ⟨_, Nat.le_refl _⟩
  obtain ⟨r, h1, h2⟩ := sz_tells l hm hr K (by omega)
  refine ⟨K, r, h1, h2.imp id ?_⟩
  rintro ⟨h0, hl, hf⟩
  have hrow : ∀ j, (l.getD j []).length ≤ 1048576 := fun j => Nat.le_trans (row_le l (j : Int)) hf
  refine ⟨h0, toSS_tells l hl hrow K (by omega), hl, hf, ?_⟩
  by_cases hs : sameB l = true
  · have h30 := (sameB_len hs ((sameB_iff l).1 hs).1).2
    have hw : (weighW l).length = (l.getD 0 []).length := by unfold weighW; rw [List.length_map, List.length_range]
    refine ⟨weighW l, true, ?_, ?_, by rw [hw]; omega, ?_, rows_bound l hl⟩
    · rw [spec_tells l hl hrow K hK, if_pos hs]
    · rw [impl_tells l hl, if_pos hs]
    · have := offN_bound (rowsOf (weighW l)) 1048576 (rows_bound l hl) ((weighW l).length * 2)
      unfold lenW
      rw [hw] at this ⊢
      have h3 : (l.getD 0 []).length * 2 * 1048576 ≤ 60 * 1048576 := Nat.mul_le_mul_right _ (by omega)
      omega
  · refine ⟨[], false, ?_, ?_, by decide, by decide, fun i => ?_⟩
    · rw [spec_tells l hl hrow K hK, if_neg hs]
    · rw [impl_tells l hl, if_neg hs]
    · unfold rowsOf
      split <;> exact Nat.zero_le _
end Go.Proofs.Ytgiehdhnhkmjfaa.Pure
-- Laid by xprint.py (wip/tools): printed contracts, and hand-written ones between them.
namespace Go.Proofs.Ytgiehdhnhkmjfaa.fnExactWeighingsOf
open Go.ChangeShapes Go.WideShapes Go.ChangeAt Go.RowKit
open Go.ChangeMaps (open_string shut_string)
set_option linter.unusedVariables false
theorem own : ownKnob Try.prog.godebug = none := by kernel_rfl
theorem laidOut : laidOutB Try.prog = true := by kernel_rfl
def IsRow (k : IntKind) (w : World) (a : Option Addr) (len cap : Nat) (zs : List Int) : Prop :=
  (a = none ∧ len = 0 ∧ cap = 0 ∧ zs = []) ∨
  ∃ x, a = some x ∧ len ≤ cap ∧ cap ≤ maxLen ∧ zs.length = cap ∧ (∀ i, i < zs.length → w.cell? (x.add i) = some (.int k (zs.getD i 0))) ∧ ∀ n ∈ zs, (Lit.int k n).wf = true
set_option maxRecDepth 100000 in
theorem lifted (os : Os) (started : os.Started) (H : Type) (enc : TypeId × Value → H) :
    ReturnsInHanded {} Try.checked os 3 .any (Rows.fnExactWeighingsOfSpec.pre6 enc Try.prog Try.f3 Rows.fnExactWeighingsOfRow.domain false) (Rows.fnExactWeighingsOfSpec.post enc Try.prog Try.f3 false true false false) := by
  refine returnsInHanded_of_change_sized (C := Try.checked) own started (by kernel_rfl) Try.func3
    (ChangeSpec.witness6 (enc := enc) (C := Try.checked) false ⟨#[], #[.slice none 0 0], []⟩ 8 (by kernel_rfl) (by kernel_rfl) (by kernel_rfl) (by kernel_rfl)) ?_
  intro W base args ds gs before hval0 hW hcnd hsz0 _
  have hsz : (DataW.weightsEach Try.prog (Try.f3.params.toList ++ Rows.fnExactWeighingsOfSpec.plain.varTypes Try.prog) (ds ++ gs)).all (· ≤ reachBytes) = true := hsz0
  have hval : ∀ (j : Nat) t v, Try.f3.params[j]? = some t → args[j]? = some v → Value.okWide Try.prog W .any base t v := hval0
  have hW' := hW
  obtain ⟨p, q, hA0, hV, rfl, hfz, hnd⟩ := hW
  have hA : DataW.TrodAll enc Try.prog W 0 (fun _ => true) true Try.f3.params.toList args.toList ds p := hA0
  rw [Try.params3] at hA hval hsz
  obtain ⟨v0, vs0, d0, ds0, p0, q0, hargs, rfl, rfl, h0, r0⟩ := trodAll_cons hA
  obtain ⟨rfl, rfl, rfl⟩ := trodAll_nil r0
  obtain rfl : args = #[v0] := by cases args; simp_all
  obtain ⟨rfl, rfl⟩ := trodVars_none hV
  obtain ⟨a0, len0, cap0, rfl⟩ := okWide_slice Try.underlying22 (hval 0 22 v0 rfl rfl)
  have k0 := h0
  have lt0 : ∀ x ∈ p0, x.block < W.heap.size := by obtain ⟨m, hm⟩ := k0; exact DataW.trod_lt m _ _ _ hm
  obtain ⟨l0, hK0, wf0⟩ := X.opened X.laws_FnExactWeighingsOf.opens0 h0
  obtain ⟨rfl, hc0, hr0⟩ := X.slice_arg hK0
  clear hA0 hval0 hsz0 hsz
  refine (X.laws_FnExactWeighingsOf.walk Pure.FnExactWeighingsOf a0 cap0 l0 W hr0 hc0 wf0).mono fun e W' ⟨he, bel⟩ => ?_
  subst he
  exact ⟨_, rfl, _, _, _, [], _, [], hW', trodAll_mk1 (shut_bool Try.underlying4 _), (trodAll_cons_mk (Below.trod laidOut (by kernel_rfl) (of_decide_eq_true (by kernel_rfl)) k0 bel lt0) trodAll_mk0), rfl, bel.frame _, fun h => by cases h⟩
theorem over : Rows.fnExactWeighingsOfRow.holds Try.pinned (OpenSpec.ofChange Rows.fnExactWeighingsOfSpec) :=
  OpenClaim.holds_of_wide 3 Try.f3 rfl rfl rfl rfl rfl rfl rfl ⟨rfl, rfl, rfl, rfl, rfl⟩ rfl rfl rfl rfl rfl (by kernel_rfl) Try.func3 (by kernel_rfl)
    (of_decide_eq_true (by kernel_rfl)) (by unfold Func.isWrapper; first | (rw [if_pos (by decide +kernel)]; kernel_rfl) | (rw [if_neg (by decide +kernel)]; exact ⟨rfl, rfl⟩))
    (fun os started H enc _ => lifted os started H enc)
theorem proved : Rows.FnExactWeighingsOfSaid := over
#print axioms proved
end Go.Proofs.Ytgiehdhnhkmjfaa.fnExactWeighingsOf
namespace Go.Proofs.Ytgiehdhnhkmjfaa
/-- The row, under a short name, for the claim. -/
theorem fnExactWeighingsOf_holds : Rows.FnExactWeighingsOfSaid := fnExactWeighingsOf.proved
end Go.Proofs.Ytgiehdhnhkmjfaa
