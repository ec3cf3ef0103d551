/- The law FnCircle over numbers and lists: five circles, each computed and read around. -/
import Derived.Test.YtnalbcadegicaaaMR0
import Derived.Test.YtnalbcadegicaaaRows
import Derived.WalkKit
import Derived.ProofKit
import Derived.OpenShut
import Derived.ShutString
import Derived.ChangeOld
import Derived.Below
import Derived.SizedLaws
import Derived.Test.YtnalbcadegicaaaWSized
-- Laid by xprint.py (wip/tools): printed contracts, and hand-written ones between them.
namespace Go.Proofs.Ytnalbcadegicaaa.X
open Go.RowKit Go.Proofs.YtnalbcadegicaaaW.PrintWords Go.Proofs.YtnalbcadegicaaaW.PrintLast Go.Proofs.YtnalbcadegicaaaW.PrintMore
attribute [local go_sem] max2_int min2_int max_two min_two max_three min_three max_four min_four   -- for this text's walks alone
set_option linter.unusedVariables false
set_option linter.unusedSimpArgs false

/-! ### spec_ValueOf: function 29 -/
def spec_ValueOf.f (k : Nat) (l0 : List Int) : Option (Int) := (spec_IsWord.f k l0).bind fun t30001 => (if t30001 = true then ((spec_l2Value.f k l0).bind fun t30002 => (some t30002)) else (some 0))
theorem spec_ValueOf.mono : ∀ a0 k, LeO (spec_ValueOf.f k a0) (spec_ValueOf.f (k + 1) a0) := by
  intro a0 k
  unfold spec_ValueOf.f
  repeat' first
      | (with_reducible exact spec_IsWord.mono _ _)
      | (with_reducible exact spec_l2Value.mono _ _)
      | (with_reducible exact LeO.refl _)
      | (with_reducible exact LeO.none _)
      | (with_reducible refine LeO.ite ?_ ?_)
      | (with_reducible refine LeO.bind ?_ (fun _ => ?_))
      | exact spec_IsWord.mono _ _
      | exact spec_l2Value.mono _ _
      | exact LeO.none _
      | refine LeO.ite ?_ ?_
      | refine LeO.bind ?_ (fun _ => ?_)
set_option maxHeartbeats 8000000 in
set_option maxRecDepth 100000 in
theorem spec_ValueOf.calls (k : Nat) (A0 : Option Addr) (c0 : Nat) (l0 : List Int) (r : Int) (w : World) (hr0 : Kd.C (Kd.int .i64) w A0 l0.length l0) (hc0 : l0.length ≤ c0) (h : spec_ValueOf.f k l0 = some r) :
    Calls Try.prog 29 #[.slice A0 l0.length c0] w fun e w' => e = .returned (.int .i64 r) ∧ Drawn0 w w' := by
  have HR0 := Aside0.mk hr0
  have HC0 := Aside0.mk hc0
  clear hr0 hc0
  have H : ((spec_IsWord.f k l0).bind fun t30001 => (if t30001 = true then ((spec_l2Value.f k l0).bind fun t30002 => (some t30002)) else (some 0))) = some r := h
  clear h
  replace H := Option.bind_eq_some_iff.mp H
  obtain ⟨t30001, A20, H⟩ := H
  replace H : (if t30001 = true then ((spec_l2Value.f k l0).bind fun t30002 => (some t30002)) else (some 0)) = some r := H
  have A2 := Aside0.mk A20
  clear A20
  by_cases c3 : t30001 = true
  · subst c3
    have H1 : ((spec_l2Value.f k l0).bind fun t30002 => (some t30002)) = some r := by rw [if_pos rfl] at H; exact H
    clear H
    have H := H1
    clear H1
    replace H := Option.bind_eq_some_iff.mp H
    obtain ⟨t30002, A40, H⟩ := H
    replace H : (some t30002) = some r := H
    have A4 := Aside0.mk A40
    clear A40
    obtain rfl := Option.some.inj H
    go_enter Try.func29, Try.ntmps29
    go_wp2_with (first | ((with_reducible refine gate_callee (f := 28) rfl ?_); refine goesL_ (some 4) rfl rfl Try.func28 (by kernel_rfl) rfl #[.slice A0 l0.length c0] rfl (by (try simp only [List.map_toArray, List.map_cons, List.map_nil]); first | done | rfl | (simp only [List.length_drop, List.length_take]; rfl)) ?_; (with_reducible refine (spec_IsWord.calls k _ _ l0 true _ ?side1 ?side2 A2.out).mono ?_); (case side1 => repeat (first | exact HR0.out | (with_reducible refine Kd.C_alloc ?_ _) | (with_reducible refine Kd.C_drewN ?_ _) | (with_reducible refine Kd.C_drew ?_))); (case side2 => exact HC0.out); rintro e w' ⟨rfl, ⟨nd, rfl⟩⟩; refine ⟨_, rfl, ?_⟩) | ((with_reducible refine gate_callee (f := 69) rfl ?_); refine goesL_ (some 7) rfl rfl Try.func69 (by kernel_rfl) rfl #[.slice A0 l0.length c0] rfl (by (try simp only [List.map_toArray, List.map_cons, List.map_nil]); first | done | rfl | (simp only [List.length_drop, List.length_take]; rfl)) ?_; (with_reducible refine (spec_l2Value.calls k _ _ l0 t30002 _ ?side1 ?side2 A4.out).mono ?_); (case side1 => repeat (first | exact HR0.out | (with_reducible refine Kd.C_alloc ?_ _) | (with_reducible refine Kd.C_drewN ?_ _) | (with_reducible refine Kd.C_drew ?_))); (case side2 => exact HC0.out); rintro e w' ⟨rfl, ⟨nd, rfl⟩⟩; refine ⟨_, rfl, ?_⟩))
    go_ret
    exact ⟨by first | rfl | (simp; done) | (simp [*]; done), by repeat (first | exact Drawn0.refl _ | apply Drawn0.step)⟩
  · replace c3 := Bool.eq_false_iff.mpr c3
    subst c3
    have H1 : (some 0) = some r := by rw [if_neg (show ¬ (false = true) by decide)] at H; exact H
    clear H
    have H := H1
    clear H1
    obtain rfl := Option.some.inj H
    go_enter Try.func29, Try.ntmps29
    go_wp2_with (first | ((with_reducible refine gate_callee (f := 28) rfl ?_); refine goesL_ (some 4) rfl rfl Try.func28 (by kernel_rfl) rfl #[.slice A0 l0.length c0] rfl (by (try simp only [List.map_toArray, List.map_cons, List.map_nil]); first | done | rfl | (simp only [List.length_drop, List.length_take]; rfl)) ?_; (with_reducible refine (spec_IsWord.calls k _ _ l0 false _ ?side1 ?side2 A2.out).mono ?_); (case side1 => repeat (first | exact HR0.out | (with_reducible refine Kd.C_alloc ?_ _) | (with_reducible refine Kd.C_drewN ?_ _) | (with_reducible refine Kd.C_drew ?_))); (case side2 => exact HC0.out); rintro e w' ⟨rfl, ⟨nd, rfl⟩⟩; refine ⟨_, rfl, ?_⟩))
    go_ret
    exact ⟨by first | rfl | (simp; done) | (simp [*]; done), by repeat (first | exact Drawn0.refl _ | apply Drawn0.step)⟩

end Go.Proofs.Ytnalbcadegicaaa.X
-- Laid by xprint.py (wip/tools): printed contracts, and hand-written ones between them.
namespace Go.Proofs.Ytnalbcadegicaaa.X
open Go.RowKit Go.Proofs.YtnalbcadegicaaaW.PrintWords Go.Proofs.YtnalbcadegicaaaW.PrintLast Go.Proofs.YtnalbcadegicaaaW.PrintMore
attribute [local go_sem] max2_int min2_int max_two min_two max_three min_three max_four min_four   -- for this text's walks alone
set_option linter.unusedVariables false
set_option linter.unusedSimpArgs false

/-! ### spec_LimitOf: function 30 -/
def spec_LimitOf.l0 : Nat → Int → Int → Int → Option (Int)
  | 0, _, _, _ => none
  | k + 1, x0, x3, x4 => if x4 < x0 then (spec_LimitOf.l0 k x0 (wrap64 ((wrap64 (3 * x3)) + 1)) (wrap64 (x4 + 1))) else (some x3)
def spec_LimitOf.f (k : Nat) (a0 : Int) : Option (Int) := (spec_l1In.f a0 1 30).bind fun t31001 => (if t31001 = true then (spec_LimitOf.l0 k a0 0 0) else (some 0))
theorem spec_LimitOf.mono_l : ∀ k, (∀ y0 y1 y2, LeO (spec_LimitOf.l0 k y0 y1 y2) (spec_LimitOf.l0 (k + 1) y0 y1 y2))
  | 0 => fun _ _ _ r h => by simp [spec_LimitOf.l0] at h
  | k + 1 => by
    have ih0 := spec_LimitOf.mono_l k
    · intro y0 y1 y2
      unfold spec_LimitOf.l0
      repeat' first
      | (with_reducible exact ih0 _ _ _)
      | (with_reducible exact LeO.refl _)
      | (with_reducible exact LeO.none _)
      | (with_reducible refine LeO.ite ?_ ?_)
      | (with_reducible refine LeO.bind ?_ (fun _ => ?_))
      | exact ih0 _ _ _
      | exact LeO.none _
      | refine LeO.ite ?_ ?_
      | refine LeO.bind ?_ (fun _ => ?_)
theorem spec_LimitOf.mono : ∀ a0 k, LeO (spec_LimitOf.f k a0) (spec_LimitOf.f (k + 1) a0) := by
  intro a0 k
  have ih0 := spec_LimitOf.mono_l k
  unfold spec_LimitOf.f
  repeat' first
      | (with_reducible exact ih0 _ _ _)
      | (with_reducible exact LeO.refl _)
      | (with_reducible exact LeO.none _)
      | (with_reducible refine LeO.ite ?_ ?_)
      | (with_reducible refine LeO.bind ?_ (fun _ => ?_))
      | exact ih0 _ _ _
      | exact LeO.none _
      | refine LeO.ite ?_ ?_
      | refine LeO.bind ?_ (fun _ => ?_)
set_option maxHeartbeats 8000000 in
set_option maxRecDepth 100000 in
theorem spec_LimitOf.calls (k : Nat) (a0 : Int) (r : Int) (w : World) (h : spec_LimitOf.f k a0 = some r) :
    Calls Try.prog 30 #[.int .i64 a0] w fun e w' => e = .returned (.int .i64 r) ∧ Drawn0 w w' := by
  have H : ((spec_l1In.f a0 1 30).bind fun t31001 => (if t31001 = true then (spec_LimitOf.l0 k a0 0 0) else (some 0))) = some r := h
  clear h
  replace H := Option.bind_eq_some_iff.mp H
  obtain ⟨t31001, A20, H⟩ := H
  replace H : (if t31001 = true then (spec_LimitOf.l0 k a0 0 0) else (some 0)) = some r := H
  have A2 := Aside0.mk A20
  clear A20
  by_cases c3 : t31001 = true
  · subst c3
    have H1 : (spec_LimitOf.l0 k a0 0 0) = some r := by rw [if_pos rfl] at H; exact H
    clear H
    have H := H1
    clear H1
    have H' := Aside0.mk H
    clear H
    go_enter Try.func30, Try.ntmps30
    go_wp2_with (first | ((with_reducible refine gate_callee (f := 53) rfl ?_); refine goesL_ (some 6) rfl rfl Try.func53 (by kernel_rfl) rfl #[.int .i64 a0, .int .i64 1, .int .i64 30] rfl (by (try simp only [List.map_toArray, List.map_cons, List.map_nil]); first | done | rfl | (simp only [List.length_drop, List.length_take]; rfl)) ?_; (with_reducible refine (spec_l1In.calls a0 1 30 true _ A2.out).mono ?_); rintro e w' ⟨rfl, ⟨nd, rfl⟩⟩; refine ⟨_, rfl, ?_⟩))
    go_loopg [3, 4] k (fun kq v3 v4 w' => ∃ (x3_1 : Int) (x4_1 : Int), v3 = .int .i64 x3_1 ∧ v4 = .int .i64 x4_1 ∧ Aside0 (spec_LimitOf.l0 kq a0 x3_1 x4_1 = some r) ∧ Aside0 (kq ≤ k) ∧ Drawn0 w w')
    case atStart => exact ⟨(0), (0), (by first | rfl | (simp; done) | (simp [*]; done)), (by first | rfl | (simp; done) | (simp [*]; done)), H', ⟨Nat.le_refl _⟩, by repeat (first | exact Drawn0.refl _ | apply Drawn0.step)⟩
    case round =>
      clear H'
      try clear p2
      try clear c3
      obtain ⟨x3_1, x4_1, rfl, rfl, HA, HK1, ⟨m1, rfl⟩⟩ := hrel
      cases gk with
      | zero => exact absurd HA.out (by simp [spec_LimitOf.l0])
      | succ k1 =>
        have H := HA.out
        clear HA
        simp only [spec_LimitOf.l0] at H
        by_cases c4 : x4_1 < a0
        · rw [if_pos c4] at H
          have c4b0 : decide (x4_1 < a0) = true := decide_eq_true c4
          clear c4
          have H' := Aside0.mk H
          clear H
          go_wp2
          go_roundg k1
          case measure => have := HK1.out; omega
          case rel => exact ⟨(wrap64 ((wrap64 (3 * x3_1)) + 1)), (wrap64 (x4_1 + 1)), (by first | rfl | (simp; done) | (simp [*]; done)), (by first | rfl | (simp; done) | (simp [*]; done)), H', ⟨by have := HK1.out; omega⟩, by repeat (first | exact Drawn0.refl _ | apply Drawn0.step)⟩
        · rw [if_neg c4] at H
          have c4b0 : decide (x4_1 < a0) = false := decide_eq_false c4
          clear c4
          obtain rfl := Option.some.inj H
          go_wp2
          go_ret
          exact ⟨by first | rfl | (simp; done) | (simp [*]; done), by repeat (first | exact Drawn0.refl _ | apply Drawn0.step)⟩
  · replace c3 := Bool.eq_false_iff.mpr c3
    subst c3
    have H1 : (some 0) = some r := by rw [if_neg (show ¬ (false = true) by decide)] at H; exact H
    clear H
    have H := H1
    clear H1
    obtain rfl := Option.some.inj H
    go_enter Try.func30, Try.ntmps30
    go_wp2_with (first | ((with_reducible refine gate_callee (f := 53) rfl ?_); refine goesL_ (some 6) rfl rfl Try.func53 (by kernel_rfl) rfl #[.int .i64 a0, .int .i64 1, .int .i64 30] rfl (by (try simp only [List.map_toArray, List.map_cons, List.map_nil]); first | done | rfl | (simp only [List.length_drop, List.length_take]; rfl)) ?_; (with_reducible refine (spec_l1In.calls a0 1 30 false _ A2.out).mono ?_); rintro e w' ⟨rfl, ⟨nd, rfl⟩⟩; refine ⟨_, rfl, ?_⟩))
    go_ret
    exact ⟨by first | rfl | (simp; done) | (simp [*]; done), by repeat (first | exact Drawn0.refl _ | apply Drawn0.step)⟩

end Go.Proofs.Ytnalbcadegicaaa.X
-- Laid by xprint.py (wip/tools): printed contracts, and hand-written ones between them.
namespace Go.Proofs.Ytnalbcadegicaaa.X
open Go.RowKit Go.Proofs.YtnalbcadegicaaaW.PrintWords Go.Proofs.YtnalbcadegicaaaW.PrintLast Go.Proofs.YtnalbcadegicaaaW.PrintMore
attribute [local go_sem] max2_int min2_int max_two min_two max_three min_three max_four min_four   -- for this text's walks alone
set_option linter.unusedVariables false
set_option linter.unusedSimpArgs false

/-! ### laws_FnCircle: function 5 -/
mutual
def laws_FnCircle.j0 : Nat → Int → List Int → Int → Bool → Option (Bool)
  | 0, _, _, _, _ => none
  | k + 1, x3, x4, x6, x33 => if x33 = true then (some false) else (if 0 ≤ x6 then (if (x6 : Int).toNat ≤ 281474976710656 then (laws_FnCircle.l0 k x3 x4 x6 (List.replicate (x6 : Int).toNat false) (x4.length : Int) 0) else (none)) else (none))
def laws_FnCircle.l0 : Nat → Int → List Int → Int → List Bool → Int → Int → Option (Bool)
  | 0, _, _, _, _, _, _ => none
  | k + 1, x3, x4, x6, x7, x37, x38 => if x38 < x37 then (laws_FnCircle.l1 k x3 x4 x6 x7 x38 (([] : List Int)) 0 x37 x38) else (some true)
def laws_FnCircle.l1 : Nat → Int → List Int → Int → List Bool → Int → List Int → Int → Int → Int → Option (Bool)
  | 0, _, _, _, _, _, _, _, _, _ => none
  | k + 1, x3, x4, x6, x7, x8, x9, x10, x37, x38 => if x10 < x3 then (if x6 = 0 then (none) else (if 0 ≤ (Int.tmod (wrap64 (x8 + x10)) x6) then (if (Int.tmod (wrap64 (x8 + x10)) x6) < (x4.length : Int) then (if x9.length < 17592186044416 then (laws_FnCircle.l1 k x3 x4 x6 x7 x8 (x9 ++ [rd x4 (Int.tmod (wrap64 (x8 + x10)) x6)]) (wrap64 (x10 + 1)) x37 x38) else (none)) else (none)) else (none))) else ((spec_IsWord.f k x9).bind fun t6017 => (if t6017 = true then ((spec_ValueOf.f k x9).bind fun t6018 => ((spec_LimitOf.f k x3).bind fun t6019 => (if 0 ≤ (wrap64 (t6018 + t6019)) then (if (wrap64 (t6018 + t6019)) < (x7.length : Int) then (if rdOf false x7 (wrap64 (t6018 + t6019)) = true then (some false) else (laws_FnCircle.l0 k x3 x4 x6 (x7.set ((wrap64 (t6018 + t6019)) : Int).toNat true) x37 (wrap64 (x38 + 1)))) else (none)) else (none)))) else (some false)))
end
def laws_FnCircle.f (k : Nat) (l0 : List Int) : Option (Bool) := if (l0.length : Int) > 1048576 then (some true) else ((laws_at.f l0 1).bind fun t6001 => ((impl_CircleOf.f k (wrap64 (1 + (Int.tmod t6001 5)))).bind fun bt6002 => ((spec_MakePower.f k (wrap64 (1 + (Int.tmod t6001 5)))).bind fun t6006 => (if bt6002.2 = true then (laws_FnCircle.j0 k (wrap64 (1 + (Int.tmod t6001 5))) bt6002.1 t6006 ((bt6002.1.length : Int) != t6006)) else (laws_FnCircle.j0 k (wrap64 (1 + (Int.tmod t6001 5))) bt6002.1 t6006 true)))))
theorem laws_FnCircle.mono_l : ∀ k, (∀ y0 y1 y2 y3, LeO (laws_FnCircle.j0 k y0 y1 y2 y3) (laws_FnCircle.j0 (k + 1) y0 y1 y2 y3)) ∧ (∀ y0 y1 y2 y3 y4 y5, LeO (laws_FnCircle.l0 k y0 y1 y2 y3 y4 y5) (laws_FnCircle.l0 (k + 1) y0 y1 y2 y3 y4 y5)) ∧ (∀ y0 y1 y2 y3 y4 y5 y6 y7 y8, LeO (laws_FnCircle.l1 k y0 y1 y2 y3 y4 y5 y6 y7 y8) (laws_FnCircle.l1 (k + 1) y0 y1 y2 y3 y4 y5 y6 y7 y8))
  | 0 => ⟨fun _ _ _ _ r h => by simp [laws_FnCircle.j0] at h, fun _ _ _ _ _ _ r h => by simp [laws_FnCircle.l0] at h, fun _ _ _ _ _ _ _ _ _ r h => by simp [laws_FnCircle.l1] at h⟩
  | k + 1 => by
    obtain ⟨ih0, ih1, ih2⟩ := laws_FnCircle.mono_l k
    refine ⟨?_, ?_, ?_⟩
    · intro y0 y1 y2 y3
      unfold laws_FnCircle.j0
      repeat' first
      | (with_reducible exact ih0 _ _ _ _)
      | (with_reducible exact ih1 _ _ _ _ _ _)
      | (with_reducible exact ih2 _ _ _ _ _ _ _ _ _)
      | (with_reducible exact impl_CircleOf.mono _ _)
      | (with_reducible exact spec_IsWord.mono _ _)
      | (with_reducible exact spec_LimitOf.mono _ _)
      | (with_reducible exact spec_MakePower.mono _ _)
      | (with_reducible exact spec_ValueOf.mono _ _)
      | (with_reducible exact LeO.refl _)
      | (with_reducible exact LeO.none _)
      | (with_reducible refine LeO.ite ?_ ?_)
      | (with_reducible refine LeO.bind ?_ (fun _ => ?_))
      | exact ih0 _ _ _ _
      | exact ih1 _ _ _ _ _ _
      | exact ih2 _ _ _ _ _ _ _ _ _
      | exact impl_CircleOf.mono _ _
      | exact spec_IsWord.mono _ _
      | exact spec_LimitOf.mono _ _
      | exact spec_MakePower.mono _ _
      | exact spec_ValueOf.mono _ _
      | exact LeO.none _
      | refine LeO.ite ?_ ?_
      | refine LeO.bind ?_ (fun _ => ?_)
    · intro y0 y1 y2 y3 y4 y5
      unfold laws_FnCircle.l0
      repeat' first
      | (with_reducible exact ih0 _ _ _ _)
      | (with_reducible exact ih1 _ _ _ _ _ _)
      | (with_reducible exact ih2 _ _ _ _ _ _ _ _ _)
      | (with_reducible exact impl_CircleOf.mono _ _)
      | (with_reducible exact spec_IsWord.mono _ _)
      | (with_reducible exact spec_LimitOf.mono _ _)
      | (with_reducible exact spec_MakePower.mono _ _)
      | (with_reducible exact spec_ValueOf.mono _ _)
      | (with_reducible exact LeO.refl _)
      | (with_reducible exact LeO.none _)
      | (with_reducible refine LeO.ite ?_ ?_)
      | (with_reducible refine LeO.bind ?_ (fun _ => ?_))
      | exact ih0 _ _ _ _
      | exact ih1 _ _ _ _ _ _
      | exact ih2 _ _ _ _ _ _ _ _ _
      | exact impl_CircleOf.mono _ _
      | exact spec_IsWord.mono _ _
      | exact spec_LimitOf.mono _ _
      | exact spec_MakePower.mono _ _
      | exact spec_ValueOf.mono _ _
      | exact LeO.none _
      | refine LeO.ite ?_ ?_
      | refine LeO.bind ?_ (fun _ => ?_)
    · intro y0 y1 y2 y3 y4 y5 y6 y7 y8
      unfold laws_FnCircle.l1
      repeat' first
      | (with_reducible exact ih0 _ _ _ _)
      | (with_reducible exact ih1 _ _ _ _ _ _)
      | (with_reducible exact ih2 _ _ _ _ _ _ _ _ _)
      | (with_reducible exact impl_CircleOf.mono _ _)
      | (with_reducible exact spec_IsWord.mono _ _)
      | (with_reducible exact spec_LimitOf.mono _ _)
      | (with_reducible exact spec_MakePower.mono _ _)
      | (with_reducible exact spec_ValueOf.mono _ _)
      | (with_reducible exact LeO.refl _)
      | (with_reducible exact LeO.none _)
      | (with_reducible refine LeO.ite ?_ ?_)
      | (with_reducible refine LeO.bind ?_ (fun _ => ?_))
      | exact ih0 _ _ _ _
      | exact ih1 _ _ _ _ _ _
      | exact ih2 _ _ _ _ _ _ _ _ _
      | exact impl_CircleOf.mono _ _
      | exact spec_IsWord.mono _ _
      | exact spec_LimitOf.mono _ _
      | exact spec_MakePower.mono _ _
      | exact spec_ValueOf.mono _ _
      | exact LeO.none _
      | refine LeO.ite ?_ ?_
      | refine LeO.bind ?_ (fun _ => ?_)
theorem laws_FnCircle.mono : ∀ a0 k, LeO (laws_FnCircle.f k a0) (laws_FnCircle.f (k + 1) a0) := by
  intro a0 k
  obtain ⟨ih0, ih1, ih2⟩ := laws_FnCircle.mono_l k
  unfold laws_FnCircle.f
  repeat' first
      | (with_reducible exact ih0 _ _ _ _)
      | (with_reducible exact ih1 _ _ _ _ _ _)
      | (with_reducible exact ih2 _ _ _ _ _ _ _ _ _)
      | (with_reducible exact impl_CircleOf.mono _ _)
      | (with_reducible exact spec_IsWord.mono _ _)
      | (with_reducible exact spec_LimitOf.mono _ _)
      | (with_reducible exact spec_MakePower.mono _ _)
      | (with_reducible exact spec_ValueOf.mono _ _)
      | (with_reducible exact LeO.refl _)
      | (with_reducible exact LeO.none _)
      | (with_reducible refine LeO.ite ?_ ?_)
      | (with_reducible refine LeO.bind ?_ (fun _ => ?_))
      | exact ih0 _ _ _ _
      | exact ih1 _ _ _ _ _ _
      | exact ih2 _ _ _ _ _ _ _ _ _
      | exact impl_CircleOf.mono _ _
      | exact spec_IsWord.mono _ _
      | exact spec_LimitOf.mono _ _
      | exact spec_MakePower.mono _ _
      | exact spec_ValueOf.mono _ _
      | exact LeO.none _
      | refine LeO.ite ?_ ?_
      | refine LeO.bind ?_ (fun _ => ?_)
set_option maxHeartbeats 8000000 in
set_option maxRecDepth 100000 in
theorem laws_FnCircle.calls (k : Nat) (A0 : Option Addr) (c0 : Nat) (l0 : List Int) (r : Bool) (w : World) (hr0 : Kd.C (Kd.int .u8) w A0 l0.length l0) (hc0 : l0.length ≤ c0) (h : laws_FnCircle.f k l0 = some r) :
    Calls Try.prog 5 #[.slice A0 l0.length c0] w fun e w' => e = .returned (.bool r) ∧ Below w.heap.size w w' := by
  have HR0 := Aside0.mk hr0
  have HC0 := Aside0.mk hc0
  clear hr0 hc0
  have HB := Aside0.mk (Below.refl w.heap.size w)
  have H : (if (l0.length : Int) > 1048576 then (some true) else ((laws_at.f l0 1).bind fun t6001 => ((impl_CircleOf.f k (wrap64 (1 + (Int.tmod t6001 5)))).bind fun bt6002 => ((spec_MakePower.f k (wrap64 (1 + (Int.tmod t6001 5)))).bind fun t6006 => (if bt6002.2 = true then (laws_FnCircle.j0 k (wrap64 (1 + (Int.tmod t6001 5))) bt6002.1 t6006 ((bt6002.1.length : Int) != t6006)) else (laws_FnCircle.j0 k (wrap64 (1 + (Int.tmod t6001 5))) bt6002.1 t6006 true)))))) = some r := h
  clear h
  by_cases c2 : (l0.length : Int) > 1048576
  · rw [if_pos c2] at H
    have c2b0 : decide (1048576 < (l0.length : Int)) = true := decide_eq_true c2
    have c2b1 : decide (1048576 < l0.length) = true := decide_eq_true (by omega)
    clear c2
    obtain rfl := Option.some.inj H
    go_enter Try.func5, Try.ntmps5
    go_wp2
    go_ret
    exact ⟨by first | rfl | (simp [errW_none, errW_some] <;> rfl) | (simp [*, errW_none, errW_some] <;> rfl), by repeat (first | (with_reducible first | exact HB.out | apply below_alloc | apply pw_below_drewN | apply below_drew1) | exact HB.out)⟩
  · rw [if_neg c2] at H
    have c2b0 : decide (1048576 < (l0.length : Int)) = false := decide_eq_false c2
    have c2b1 : decide (1048576 < l0.length) = false := decide_eq_false (by omega)
    clear c2
    replace H := Option.bind_eq_some_iff.mp H
    obtain ⟨t6001, A30, H⟩ := H
    replace H : ((impl_CircleOf.f k (wrap64 (1 + (Int.tmod t6001 5)))).bind fun bt6002 => ((spec_MakePower.f k (wrap64 (1 + (Int.tmod t6001 5)))).bind fun t6006 => (if bt6002.2 = true then (laws_FnCircle.j0 k (wrap64 (1 + (Int.tmod t6001 5))) bt6002.1 t6006 ((bt6002.1.length : Int) != t6006)) else (laws_FnCircle.j0 k (wrap64 (1 + (Int.tmod t6001 5))) bt6002.1 t6006 true)))) = some r := H
    have A3 := Aside0.mk A30
    clear A30
    replace H := Option.bind_eq_some_iff.mp H
    obtain ⟨⟨t6002, t6003⟩, A40, H⟩ := H
    replace H : ((spec_MakePower.f k (wrap64 (1 + (Int.tmod t6001 5)))).bind fun t6006 => (if t6003 = true then (laws_FnCircle.j0 k (wrap64 (1 + (Int.tmod t6001 5))) t6002 t6006 ((t6002.length : Int) != t6006)) else (laws_FnCircle.j0 k (wrap64 (1 + (Int.tmod t6001 5))) t6002 t6006 true))) = some r := H
    have A4 := Aside0.mk A40
    clear A40
    replace H := Option.bind_eq_some_iff.mp H
    obtain ⟨t6006, A50, H⟩ := H
    replace H : (if t6003 = true then (laws_FnCircle.j0 k (wrap64 (1 + (Int.tmod t6001 5))) t6002 t6006 ((t6002.length : Int) != t6006)) else (laws_FnCircle.j0 k (wrap64 (1 + (Int.tmod t6001 5))) t6002 t6006 true)) = some r := H
    have A5 := Aside0.mk A50
    clear A50
    have HC6 := Aside0.mk H
    clear H
    go_enter Try.func5, Try.ntmps5
    go_upto_region 6 with (first | ((with_reducible refine gate_callee (f := 15) rfl ?_); refine goesL_ (some 16) rfl rfl Try.func15 (by kernel_rfl) rfl #[.slice A0 l0.length c0, .int .i64 1] rfl (by (try simp only [List.map_toArray, List.map_cons, List.map_nil]); first | done | rfl | (simp only [List.length_drop, List.length_take]; rfl)) ?_; (with_reducible refine (laws_at.calls _ _ l0 1 t6001 _ ?side1 ?side2 A3.out).mono ?_); (case side1 => repeat (first | exact HR0.out | (with_reducible refine Kd.C_alloc ?_ _) | (with_reducible refine Kd.C_drewN ?_ _) | (with_reducible refine Kd.C_drew ?_))); (case side2 => exact HC0.out); rintro e w' ⟨rfl, ⟨nd, rfl⟩⟩; refine ⟨_, rfl, ?_⟩) | ((with_reducible refine gate_callee (f := 26) rfl ?_); refine goesL_ (some 21) rfl rfl Try.func26 (by kernel_rfl) rfl #[.int .i64 (wrap64 (1 + (Int.tmod t6001 5)))] rfl (by (try simp only [List.map_toArray, List.map_cons, List.map_nil]); first | done | rfl | (simp only [List.length_drop, List.length_take]; rfl)) ?_; (with_reducible refine (impl_CircleOf.calls k (wrap64 (1 + (Int.tmod t6001 5))) t6002 t6003 _ A4.out).mono ?_); rintro e w7 ⟨v6004, rfl, ho0, hb⟩; refine ⟨_, rfl, ?_⟩; have n0_ := Aside0.mk (Kd.R_lower ho0 (below_size (by repeat (first | (with_reducible first | exact HB.out | apply below_alloc | apply pw_below_drewN | apply below_drew1) | exact HB.out)))); have n1_ := Aside0.mk (below_step (by repeat (first | (with_reducible first | exact HB.out | apply below_alloc | apply pw_below_drewN | apply below_drew1) | exact HB.out)) hb); clear HB; have HO6005 := n0_; have HB := n1_; clear n0_ n1_; (try clear hb); (try clear hb2); (try clear hk); (try clear hi); (try clear ho0)) | ((with_reducible refine gate_callee (f := 27) rfl ?_); refine goesL_ (some 25) rfl rfl Try.func27 (by kernel_rfl) rfl #[.int .i64 (wrap64 (1 + (Int.tmod t6001 5)))] rfl (by (try simp only [List.map_toArray, List.map_cons, List.map_nil]); first | done | rfl | (simp only [List.length_drop, List.length_take]; rfl)) ?_; (with_reducible refine (spec_MakePower.calls k (wrap64 (1 + (Int.tmod t6001 5))) t6006 _ A5.out).mono ?_); rintro e w8 ⟨rfl, hb⟩; refine ⟨_, rfl, ?_⟩; have n0_ := Aside0.mk (Kd.R_below (by (with_reducible repeat (first | apply Kd.R_alloc | apply Kd.R_drewN | apply Kd.R_drew)); exact HO6005.out) hb); have n1_ := Aside0.mk (below_step (by repeat (first | (with_reducible first | exact HB.out | apply below_alloc | apply pw_below_drewN | apply below_drew1) | exact HB.out)) hb); clear HO6005; clear HB; have HO6005 := n0_; have HB := n1_; clear n0_ n1_; (try clear hb); (try clear hb2); (try clear hk); (try clear hi)))
    (try simp only [Act.put, List.setIfInBounds_toArray, List.set_cons_zero, List.set_cons_succ])
    go_cut [33] (fun v33 wc => ∃ (kq : Nat) (x33_5 : Bool), v33 = .bool x33_5 ∧ Aside0 (laws_FnCircle.j0 kq (wrap64 (1 + (Int.tmod t6001 5))) t6002 t6006 x33_5 = some r) ∧ Aside0 (kq ≤ k) ∧ Aside0 (Kd.R (Kd.int .i64) 3 wc w.heap.size (fun _ => True) v6004 t6002) ∧ Aside0 (Below w.heap.size w wc))
    case first =>
      have H := HC6.out
      clear HC6
      by_cases c9 : t6003 = true
      · subst c9
        have H1 : (laws_FnCircle.j0 k (wrap64 (1 + (Int.tmod t6001 5))) t6002 t6006 ((t6002.length : Int) != t6006)) = some r := by rw [if_pos rfl] at H; exact H
        clear H
        have H := H1
        clear H1
        have H' := Aside0.mk H
        clear H
        obtain ⟨Ao10, co10, eo10⟩ := Kd.R_slice HO6005.out
        subst eo10
        go_wp2
        go_meet
        case rel => exact ⟨_, (((t6002.length : Int) != t6006)), (by first | rfl | (simp; done) | (simp [*]; done)), H', ⟨by first | omega | exact Nat.le_refl _⟩, ⟨by (with_reducible repeat (first | apply Kd.R_alloc | apply Kd.R_drewN | apply Kd.R_drew)); exact HO6005.out⟩, ⟨by repeat (first | (with_reducible first | exact HB.out | apply below_alloc | apply pw_below_drewN | apply below_drew1) | exact HB.out)⟩⟩
      · replace c9 := Bool.eq_false_iff.mpr c9
        subst c9
        have H1 : (laws_FnCircle.j0 k (wrap64 (1 + (Int.tmod t6001 5))) t6002 t6006 true) = some r := by rw [if_neg (show ¬ (false = true) by decide)] at H; exact H
        clear H
        have H := H1
        clear H1
        have H' := Aside0.mk H
        clear H
        go_wp2
        go_meet
        case rel => exact ⟨_, (true), (by first | rfl | (simp; done) | (simp [*]; done)), H', ⟨by first | omega | exact Nat.le_refl _⟩, ⟨by (with_reducible repeat (first | apply Kd.R_alloc | apply Kd.R_drewN | apply Kd.R_drew)); exact HO6005.out⟩, ⟨by repeat (first | (with_reducible first | exact HB.out | apply below_alloc | apply pw_below_drewN | apply below_drew1) | exact HB.out)⟩⟩
    case rest =>
      clear HC6
      try clear c1
      try clear c2
      try clear c2b0
      try clear c2b1
      try clear p2
      try clear c5
      try clear p6
      try clear c9
      obtain ⟨kq, x33_5, rfl, HA, HJ5, HO_4, HB⟩ := hcut
      cases kq with
      | zero => exact absurd HA.out (by simp [laws_FnCircle.j0])
      | succ kj5 =>
        have H := HA.out
        clear HA
        simp only [laws_FnCircle.j0] at H
        by_cases c11 : x33_5 = true
        · subst c11
          have H1 : (some false) = some r := by rw [if_pos rfl] at H; exact H
          clear H
          have H := H1
          clear H1
          obtain rfl := Option.some.inj H
          go_wp2
          go_ret
          exact ⟨by first | rfl | (simp [errW_none, errW_some] <;> rfl) | (simp [*, errW_none, errW_some] <;> rfl), by repeat (first | (with_reducible first | exact HB.out | apply below_alloc | apply pw_below_drewN | apply below_drew1) | exact HB.out)⟩
        · replace c11 := Bool.eq_false_iff.mpr c11
          subst c11
          have H1 : (if 0 ≤ t6006 then (if (t6006 : Int).toNat ≤ 281474976710656 then (laws_FnCircle.l0 kj5 (wrap64 (1 + (Int.tmod t6001 5))) t6002 t6006 (List.replicate (t6006 : Int).toNat false) (t6002.length : Int) 0) else (none)) else (none)) = some r := by rw [if_neg (show ¬ (false = true) by decide)] at H; exact H
          clear H
          have H := H1
          clear H1
          by_cases c12 : 0 ≤ t6006
          · rw [if_pos c12] at H
            have c12b0 := eq_true c12
            have c12b1 : decide (0 ≤ t6006) = true := decide_eq_true c12
            clear c12
            by_cases c13 : (t6006 : Int).toNat ≤ 281474976710656
            · rw [if_pos c13] at H
              have c13b0 := eq_true c13
              have c13b1 : decide ((t6006 : Int).toNat ≤ 281474976710656) = true := decide_eq_true c13
              clear c13
              obtain ⟨y6007, hy6007⟩ : ∃ y_ : List Bool, y_ = (List.replicate (t6006 : Int).toNat false) := ⟨_, rfl⟩
              replace H : (laws_FnCircle.l0 kj5 (wrap64 (1 + (Int.tmod t6001 5))) t6002 t6006 y6007 (t6002.length : Int) 0) = some r := by first | (rw [hy6007]; with_reducible exact H) | (have H2_ := (Option.bind_some _ _).symm.trans H; rw [hy6007]; with_reducible exact H2_) | (have H2_ := (Option.bind_some _ _).symm.trans H; with_reducible exact H2_) | with_reducible exact H | (rw [hy6007]; exact H) | exact H
              have Ny6007 := Aside0.mk hy6007
              clear hy6007
              have H' := Aside0.mk H
              clear H
              go_wp2_with (first | ((with_reducible refine gate_dst (N := 35) rfl ?_); (try (refine gate_guard (by rfl) ?_; dsimp only)); refine Kd.R_make Kd.bool _ 4 rfl (N := 35) rfl 51 _ _ rfl t6006 rfl rfl Try.underlying51 (.bool false) 1 info4 rfl (by decide) (by omega) false (ok := fun _ => True) (okp := fun _ => True) rfl (fun _ hk => hk) trivial (of_decide_eq_true (by first | (with_reducible assumption) | assumption)) (Nat.le_trans (Nat.mul_le_mul_right _ (of_decide_eq_true (by first | (with_reducible assumption) | assumption) : t6006.toNat ≤ 281474976710656)) (by omega)) (Below.refl _ _) (Nat.le_refl _) ?_; intro v6008 w14 ho15 hb hg_ hnew_; clear hg_ hnew_; (first | rw [← Ny6007.out] at ho15 | (simp only [Int.reduceToNat] at ho15; rw [← Ny6007.out] at ho15)); have n0_ := Aside0.mk (Kd.R_below (by (with_reducible repeat (first | apply Kd.R_alloc | apply Kd.R_drewN | apply Kd.R_drew)); exact HO_4.out) hb); have n1_ := Aside0.mk (Kd.R_lower ho15 (below_size (by repeat (first | (with_reducible first | exact HB.out | apply below_alloc | apply pw_below_drewN | apply below_drew1) | exact HB.out)))); have n2_ := Aside0.mk (below_step (by repeat (first | (with_reducible first | exact HB.out | apply below_alloc | apply pw_below_drewN | apply below_drew1) | exact HB.out)) hb); clear HO_4; clear HB; have HO_4 := n0_; have HO6009 := n1_; have HB := n2_; clear n0_ n1_ n2_; clear hb ho15; obtain ⟨Ao16, co16, eo16⟩ := Kd.R_slice HO_4.out; subst eo16))
              go_loopg [38] kj5 (fun kq v38 w' => ∃ (x7_2 : List Bool) (x38_2 : Int), v38 = .int .i64 x38_2 ∧ Aside0 (laws_FnCircle.l0 kq (wrap64 (1 + (Int.tmod t6001 5))) t6002 t6006 x7_2 (t6002.length : Int) x38_2 = some r) ∧ Aside0 (kq ≤ kj5) ∧ Aside0 (Kd.R (Kd.int .i64) 3 w' w.heap.size (fun _ => True) (.slice Ao16 t6002.length co16) t6002) ∧ Aside0 (Kd.R Kd.bool 4 w' w.heap.size (fun _ => True) v6008 x7_2) ∧ Aside0 (Below w.heap.size w w'))
              case atStart => exact ⟨(y6007), (0), (by first | rfl | (simp; done) | (simp [*]; done)), H', ⟨Nat.le_refl _⟩, ⟨by (with_reducible repeat (first | apply Kd.R_alloc | apply Kd.R_drewN | apply Kd.R_drew)); exact HO_4.out⟩, ⟨by (with_reducible repeat (first | apply Kd.R_alloc | apply Kd.R_drewN | apply Kd.R_drew)); exact HO6009.out⟩, ⟨by repeat (first | (with_reducible first | exact HB.out | apply below_alloc | apply pw_below_drewN | apply below_drew1) | exact HB.out)⟩⟩
              case round =>
                clear H'
                try clear c1
                try clear c2
                try clear c2b0
                try clear c2b1
                try clear p2
                try clear c5
                try clear p6
                try clear c9
                try clear c11
                try clear c12
                try clear c12b0
                try clear c12b1
                try clear c13
                try clear c13b0
                try clear c13b1
                try clear c15
                try clear p2
                try clear p6
                obtain ⟨x7_2, x38_2, rfl, HA, HK2, HO_4, HO_7, HB⟩ := hrel
                cases gk with
                | zero => exact absurd HA.out (by simp [laws_FnCircle.l0])
                | succ k2 =>
                  have H := HA.out
                  clear HA
                  simp only [laws_FnCircle.l0] at H
                  by_cases c17 : x38_2 < (t6002.length : Int)
                  · rw [if_pos c17] at H
                    have c17b0 : decide (x38_2 < (t6002.length : Int)) = true := decide_eq_true c17
                    clear c17
                    obtain ⟨y6010, hy6010⟩ : ∃ y_ : List Int, y_ = (([] : List Int)) := ⟨_, rfl⟩
                    replace H : (laws_FnCircle.l1 k2 (wrap64 (1 + (Int.tmod t6001 5))) t6002 t6006 x7_2 x38_2 y6010 0 (t6002.length : Int) x38_2) = some r := by first | (rw [hy6010]; with_reducible exact H) | (have H2_ := (Option.bind_some _ _).symm.trans H; rw [hy6010]; with_reducible exact H2_) | (have H2_ := (Option.bind_some _ _).symm.trans H; with_reducible exact H2_) | with_reducible exact H | (rw [hy6010]; exact H) | exact H
                    have Ny6010 := Aside0.mk hy6010
                    clear hy6010
                    have H' := Aside0.mk H
                    clear H
                    go_wp2_with (first | ((with_reducible refine gate_dst (N := 41) rfl ?_); (try (refine gate_guard (by rfl) ?_; dsimp only)); refine Kd.R_lit (Kd.int .i64) _ 3 ?hg (N := 41) ?hd (xs := ([] : List Int)) (inner := []) (ok := fun _ => True) (okp := fun _ => True) ?hr ?hp (fun _ hk => hk) trivial (Below.refl _ _) (Nat.le_refl _) (by simp) ?_; (case hd => rfl); (case hg => rfl); (case hr => first | (go_simp; done) | (go_simp; rfl)); (case hp => exact (Reps.none _ _)); intro v6011 w18 ho19 hb hg_ hnew_; clear hg_ hnew_; (first | rw [← Ny6010.out] at ho19 | (simp only [Int.reduceToNat] at ho19; rw [← Ny6010.out] at ho19)); have n0_ := Aside0.mk (Kd.R_elder' (by (with_reducible repeat (first | apply Kd.R_alloc | apply Kd.R_drewN | apply Kd.R_drew)); exact HO_4.out) (Kd.R_base ho19) hb); have n1_ := Aside0.mk (Kd.R_below (by (with_reducible repeat (first | apply Kd.R_alloc | apply Kd.R_drewN | apply Kd.R_drew)); exact HO_7.out) hb); have n2_ := Aside0.mk (Kd.R_lower (Kd.R_new' ho19 (Kd.R_lt (by (with_reducible repeat (first | apply Kd.R_alloc | apply Kd.R_drewN | apply Kd.R_drew)); exact HO_4.out))) (below_size (by repeat (first | (with_reducible first | exact HB.out | apply below_alloc | apply pw_below_drewN | apply below_drew1) | exact HB.out)))); have n3_ := Aside0.mk (below_step (by repeat (first | (with_reducible first | exact HB.out | apply below_alloc | apply pw_below_drewN | apply below_drew1) | exact HB.out)) hb); clear HO_4; clear HO_7; clear HB; have HO_4 := n0_; have HO_7 := n1_; have HO6012 := n2_; have HB := n3_; clear n0_ n1_ n2_ n3_; clear hb ho19))
                    go_loopg [9, 10] k2 (fun kq v9 v10 w' => ∃ (x9_3 : List Int) (x10_3 : Int), v10 = .int .i64 x10_3 ∧ Aside0 (laws_FnCircle.l1 kq (wrap64 (1 + (Int.tmod t6001 5))) t6002 t6006 x7_2 x38_2 x9_3 x10_3 (t6002.length : Int) x38_2 = some r) ∧ Aside0 (kq ≤ k2) ∧ Aside0 (Kd.R (Kd.int .i64) 3 w' w.heap.size (fun k_ => some k_ ≠ (v9 : Value).ownBlock) (.slice Ao16 t6002.length co16) t6002) ∧ Aside0 (Kd.R Kd.bool 4 w' w.heap.size (fun _ => True) v6008 x7_2) ∧ Aside0 (Kd.R (Kd.int .i64) 3 w' w.heap.size (fun k_ => some k_ ≠ ((.slice Ao16 t6002.length co16) : Value).ownBlock) v9 x9_3) ∧ Aside0 (Below w.heap.size w w'))
                    case atStart => exact ⟨(y6010), (0), (by first | rfl | (simp; done) | (simp [*]; done)), H', ⟨Nat.le_refl _⟩, ⟨by (with_reducible repeat (first | apply Kd.R_alloc | apply Kd.R_drewN | apply Kd.R_drew)); exact Kd.R_mono HO_4.out (fun _ hk => hk.2)⟩, ⟨by (with_reducible repeat (first | apply Kd.R_alloc | apply Kd.R_drewN | apply Kd.R_drew)); exact HO_7.out⟩, ⟨by (with_reducible repeat (first | apply Kd.R_alloc | apply Kd.R_drewN | apply Kd.R_drew)); exact Kd.R_mono HO6012.out (fun _ hk => hk.2)⟩, ⟨by repeat (first | (with_reducible first | exact HB.out | apply below_alloc | apply pw_below_drewN | apply below_drew1) | exact HB.out)⟩⟩
                    case round =>
                      clear H'
                      try clear c1
                      try clear c2
                      try clear c2b0
                      try clear c2b1
                      try clear p2
                      try clear c5
                      try clear p6
                      try clear c9
                      try clear c11
                      try clear c12
                      try clear c12b0
                      try clear c12b1
                      try clear c13
                      try clear c13b0
                      try clear c13b1
                      try clear c15
                      try clear c17
                      try clear c17b0
                      try clear p2
                      try clear p6
                      obtain ⟨x9_3, x10_3, rfl, HA, HK3, HO_4, HO_7, HO_9, HB⟩ := hrel
                      cases gk with
                      | zero => exact absurd HA.out (by simp [laws_FnCircle.l1])
                      | succ k3 =>
                        have H := HA.out
                        clear HA
                        simp only [laws_FnCircle.l1] at H
                        by_cases c20 : x10_3 < (wrap64 (1 + (Int.tmod t6001 5)))
                        · rw [if_pos c20] at H
                          have c20b0 : decide (x10_3 < (wrap64 (1 + (Int.tmod t6001 5)))) = true := decide_eq_true c20
                          clear c20
                          by_cases c21 : t6006 = 0
                          · rw [if_pos c21] at H
                            exact absurd H (by simp)
                          · rw [if_neg c21] at H
                            have c21b0 : (t6006 == 0) = false := beq_eq_false_iff_ne.mpr c21
                            have c21b1 : (t6006 != 0) = true := bne_iff_ne.mpr c21
                            obtain ⟨ji22, hji22⟩ : ∃ j_ : Int, (Int.tmod (wrap64 (x38_2 + x10_3)) t6006) = j_ := ⟨_, rfl⟩
                            replace H : (if 0 ≤ (ji22) then (if (ji22) < (t6002.length : Int) then (if x9_3.length < 17592186044416 then (laws_FnCircle.l1 k3 (wrap64 (1 + (Int.tmod t6001 5))) t6002 t6006 x7_2 x38_2 (x9_3 ++ [rd t6002 (ji22)]) (wrap64 (x10_3 + 1)) (t6002.length : Int) x38_2) else (none)) else (none)) else (none)) = some r := by first | (rw [hji22] at H; exact H) | (simp only [hji22] at H ⊢; exact H)
                            by_cases c23 : 0 ≤ (ji22)
                            · rw [if_pos c23] at H
                              have c23b0 : decide (0 ≤ (ji22)) = true := decide_eq_true c23
                              clear c23
                              by_cases c24 : (ji22) < (t6002.length : Int)
                              · rw [if_pos c24] at H
                                have c24b0 : decide ((ji22) < (t6002.length : Int)) = true := decide_eq_true c24
                                clear c24
                                by_cases c25 : x9_3.length < 17592186044416
                                · rw [if_pos c25] at H
                                  have LMc25 := Aside0.mk c25
                                  clear c25
                                  obtain ⟨y6014, hy6014⟩ : ∃ y_ : List Int, y_ = (x9_3 ++ [rd t6002 (ji22)]) := ⟨_, rfl⟩
                                  replace H : (laws_FnCircle.l1 k3 (wrap64 (1 + (Int.tmod t6001 5))) t6002 t6006 x7_2 x38_2 y6014 (wrap64 (x10_3 + 1)) (t6002.length : Int) x38_2) = some r := by first | (rw [hy6014]; with_reducible exact H) | (have H2_ := (Option.bind_some _ _).symm.trans H; rw [hy6014]; with_reducible exact H2_) | (have H2_ := (Option.bind_some _ _).symm.trans H; with_reducible exact H2_) | with_reducible exact H | (rw [hy6014]; exact H) | exact H
                                  have Ny6014 := Aside0.mk hy6014
                                  clear hy6014
                                  have H' := Aside0.mk H
                                  clear H
                                  have p6013 : 0 ≤ ((ji22) : Int) := of_decide_eq_true (by first | (with_reducible assumption) | assumption)
                                  have q6013 : (ji22) < (t6002.length : Int) := of_decide_eq_true (by first | (with_reducible assumption) | assumption)
                                  obtain ⟨ad6013, e6013, hx6013_0⟩ := Kd.at_int (Kd.R_reads' HO_4.out).2.2 (ji22) p6013 q6013
                                  cases e6013
                                  replace p6013 := eq_true p6013
                                  replace q6013 := eq_true q6013
                                  go_wp2_with (first | ((with_reducible refine gate_builtin (b := .append) (xs := #[.tmp 47, .tmp 56]) rfl ?_); (try (refine gate_guard (by rfl) ?_; dsimp only)); at_builtin; refine Kd.R_append (Kd.int .i64) (w0 := w) w.heap.size rfl (.tmp 47) (.tmp 56) 27 3 (.int .i64 0) 8 rfl Try.underlying27 info3 rfl (by decide) (by omega) u9 x9_3 (rd t6002 (ji22)) [.int .i64 (rd t6002 (ji22))] (fun k_ => some k_ ≠ (.slice (some ad6013) t6002.length co16 : Value).ownBlock) (fun _ => False) rfl rfl ?aP (fun _ hk => hk.elim) ?aF ?aO ?aB ?aS ?aL ?_; (case aP => exact rfl); (case aB => exact (by repeat (first | (with_reducible first | exact HB.out | apply below_alloc | apply pw_below_drewN | apply below_drew1) | exact HB.out))); (case aF => exact (fun k_ hk => Kd.fresh' (Kd.R_lt (by (with_reducible repeat (first | apply Kd.R_alloc | apply Kd.R_drewN | apply Kd.R_drew)); exact HO_4.out)) k_ hk)); (case aO => exact (by (with_reducible repeat (first | apply Kd.R_alloc | apply Kd.R_drewN | apply Kd.R_drew)); exact HO_9.out)); (case aS => exact (below_size (by repeat (first | (with_reducible first | exact HB.out | apply below_alloc | apply pw_below_drewN | apply below_drew1) | exact HB.out)))); (case aL => have := LMc25.out; omega); intro v6015 w26 ho hb hg hat; rw [← Ny6014.out] at ho; have n0_ := Aside0.mk (Kd.R_after (ok := (fun _ => True)) (by (with_reducible repeat (first | apply Kd.R_alloc | apply Kd.R_drewN | apply Kd.R_drew)); exact Kd.R_mono HO_4.out (fun _ hk => ⟨trivial, hk⟩)) hg hat); have n1_ := Aside0.mk (Kd.R_over' (by (with_reducible repeat (first | apply Kd.R_alloc | apply Kd.R_drewN | apply Kd.R_drew)); exact HO_7.out) (Kd.R_typed (by (with_reducible repeat (first | apply Kd.R_alloc | apply Kd.R_drewN | apply Kd.R_drew)); exact HO_9.out)) (by decide) hg); have n2_ := Aside0.mk (hb); have n3_ := Aside0.mk (ho); clear HO_4; clear HO_7; clear HB; clear HO_9; have HO_4 := n0_; have HO_7 := n1_; have HB := n2_; have HO6016 := n3_; clear n0_ n1_ n2_ n3_; clear ho hb hg hat))
                                  go_roundg k3
                                  case measure => have := HJ5.out; have := HK2.out; have := HK3.out; omega
                                  case rel => exact ⟨(y6014), (wrap64 (x10_3 + 1)), (by first | rfl | (simp; done) | (simp [*]; done)), H', ⟨by have := HJ5.out; have := HK2.out; have := HK3.out; omega⟩, ⟨by (with_reducible repeat (first | apply Kd.R_alloc | apply Kd.R_drewN | apply Kd.R_drew)); exact Kd.R_mono HO_4.out (fun _ hk => hk.2)⟩, ⟨by (with_reducible repeat (first | apply Kd.R_alloc | apply Kd.R_drewN | apply Kd.R_drew)); exact HO_7.out⟩, ⟨by (with_reducible repeat (first | apply Kd.R_alloc | apply Kd.R_drewN | apply Kd.R_drew)); exact HO6016.out⟩, ⟨by repeat (first | (with_reducible first | exact HB.out | apply below_alloc | apply pw_below_drewN | apply below_drew1) | exact HB.out)⟩⟩
                                · rw [if_neg c25] at H
                                  exact absurd H (by simp)
                              · rw [if_neg c24] at H
                                exact absurd H (by simp)
                            · rw [if_neg c23] at H
                              exact absurd H (by simp)
                        · rw [if_neg c20] at H
                          have c20b0 : decide (x10_3 < (wrap64 (1 + (Int.tmod t6001 5)))) = false := decide_eq_false c20
                          clear c20
                          replace H := Option.bind_eq_some_iff.mp H
                          obtain ⟨t6017, A270, H⟩ := H
                          replace H : (if t6017 = true then ((spec_ValueOf.f k3 x9_3).bind fun t6018 => ((spec_LimitOf.f k3 (wrap64 (1 + (Int.tmod t6001 5)))).bind fun t6019 => (if 0 ≤ (wrap64 (t6018 + t6019)) then (if (wrap64 (t6018 + t6019)) < (x7_2.length : Int) then (if rdOf false x7_2 (wrap64 (t6018 + t6019)) = true then (some false) else (laws_FnCircle.l0 k3 (wrap64 (1 + (Int.tmod t6001 5))) t6002 t6006 (x7_2.set ((wrap64 (t6018 + t6019)) : Int).toNat true) (t6002.length : Int) (wrap64 (x38_2 + 1)))) else (none)) else (none)))) else (some false)) = some r := H
                          have A27 := Aside0.mk A270
                          clear A270
                          by_cases c28 : t6017 = true
                          · subst c28
                            have H1 : ((spec_ValueOf.f k3 x9_3).bind fun t6018 => ((spec_LimitOf.f k3 (wrap64 (1 + (Int.tmod t6001 5)))).bind fun t6019 => (if 0 ≤ (wrap64 (t6018 + t6019)) then (if (wrap64 (t6018 + t6019)) < (x7_2.length : Int) then (if rdOf false x7_2 (wrap64 (t6018 + t6019)) = true then (some false) else (laws_FnCircle.l0 k3 (wrap64 (1 + (Int.tmod t6001 5))) t6002 t6006 (x7_2.set ((wrap64 (t6018 + t6019)) : Int).toNat true) (t6002.length : Int) (wrap64 (x38_2 + 1)))) else (none)) else (none)))) = some r := by rw [if_pos rfl] at H; exact H
                            clear H
                            have H := H1
                            clear H1
                            replace H := Option.bind_eq_some_iff.mp H
                            obtain ⟨t6018, A290, H⟩ := H
                            replace H : ((spec_LimitOf.f k3 (wrap64 (1 + (Int.tmod t6001 5)))).bind fun t6019 => (if 0 ≤ (wrap64 (t6018 + t6019)) then (if (wrap64 (t6018 + t6019)) < (x7_2.length : Int) then (if rdOf false x7_2 (wrap64 (t6018 + t6019)) = true then (some false) else (laws_FnCircle.l0 k3 (wrap64 (1 + (Int.tmod t6001 5))) t6002 t6006 (x7_2.set ((wrap64 (t6018 + t6019)) : Int).toNat true) (t6002.length : Int) (wrap64 (x38_2 + 1)))) else (none)) else (none))) = some r := H
                            have A29 := Aside0.mk A290
                            clear A290
                            replace H := Option.bind_eq_some_iff.mp H
                            obtain ⟨t6019, A300, H⟩ := H
                            replace H : (if 0 ≤ (wrap64 (t6018 + t6019)) then (if (wrap64 (t6018 + t6019)) < (x7_2.length : Int) then (if rdOf false x7_2 (wrap64 (t6018 + t6019)) = true then (some false) else (laws_FnCircle.l0 k3 (wrap64 (1 + (Int.tmod t6001 5))) t6002 t6006 (x7_2.set ((wrap64 (t6018 + t6019)) : Int).toNat true) (t6002.length : Int) (wrap64 (x38_2 + 1)))) else (none)) else (none)) = some r := H
                            have A30 := Aside0.mk A300
                            clear A300
                            obtain ⟨ji31, hji31⟩ : ∃ j_ : Int, (wrap64 (t6018 + t6019)) = j_ := ⟨_, rfl⟩
                            replace H : (if 0 ≤ (ji31) then (if (ji31) < (x7_2.length : Int) then (if rdOf false x7_2 (ji31) = true then (some false) else (laws_FnCircle.l0 k3 (wrap64 (1 + (Int.tmod t6001 5))) t6002 t6006 (x7_2.set ((ji31) : Int).toNat true) (t6002.length : Int) (wrap64 (x38_2 + 1)))) else (none)) else (none)) = some r := by first | (rw [hji31] at H; exact H) | (simp only [hji31] at H ⊢; exact H)
                            (try rw [hji31] at A27)
                            (try rw [hji31] at A29)
                            (try rw [hji31] at A30)
                            have hji31w : (IntKind.i64.wrap (t6018 + t6019)) = ji31 := (i64_w _).trans hji31
                            by_cases c32 : 0 ≤ (ji31)
                            · rw [if_pos c32] at H
                              have c32b0 : decide (0 ≤ (ji31)) = true := decide_eq_true c32
                              clear c32
                              by_cases c33 : (ji31) < (x7_2.length : Int)
                              · rw [if_pos c33] at H
                                have c33b0 : decide ((ji31) < (x7_2.length : Int)) = true := decide_eq_true c33
                                clear c33
                                obtain ⟨bq34, hbq34⟩ : ∃ b_ : Bool, b_ = (rdOf false x7_2 (ji31)) := ⟨_, rfl⟩
                                replace H : (if bq34 = true then (some false) else (laws_FnCircle.l0 k3 (wrap64 (1 + (Int.tmod t6001 5))) t6002 t6006 (x7_2.set ((ji31) : Int).toNat true) (t6002.length : Int) (wrap64 (x38_2 + 1)))) = some r := by rw [← hbq34] at H; exact H
                                have Nbq34 := Aside0.mk hbq34
                                clear hbq34
                                by_cases c35 : bq34 = true
                                · subst c35
                                  have H1 : (some false) = some r := by rw [if_pos rfl] at H; exact H
                                  clear H
                                  have H := H1
                                  clear H1
                                  obtain rfl := Option.some.inj H
                                  obtain ⟨Ao36, co36, eo36⟩ := Kd.R_slice HO_9.out
                                  subst eo36
                                  go_wp2_with (first | ((with_reducible refine gate_callee (f := 28) rfl ?_); refine goesL_ (some 59) rfl rfl Try.func28 (by kernel_rfl) rfl #[.slice Ao36 x9_3.length co36] rfl (by (try simp only [List.map_toArray, List.map_cons, List.map_nil]); first | done | rfl | (simp only [List.length_drop, List.length_take]; rfl)) ?_; (with_reducible refine (spec_IsWord.calls k3 _ _ x9_3 true _ ?side1 ?side2 A27.out).mono ?_); (case side1 => repeat (first | exact (Kd.R_reads' HO_9.out).2.2 | (with_reducible refine Kd.C_alloc ?_ _) | (with_reducible refine Kd.C_drewN ?_ _) | (with_reducible refine Kd.C_drew ?_))); (case side2 => exact (Kd.R_reads' HO_9.out).2.1); rintro e w' ⟨rfl, ⟨nd, rfl⟩⟩; refine ⟨_, rfl, ?_⟩) | ((with_reducible refine gate_callee (f := 29) rfl ?_); refine goesL_ (some 62) rfl rfl Try.func29 (by kernel_rfl) rfl #[.slice Ao36 x9_3.length co36] rfl (by (try simp only [List.map_toArray, List.map_cons, List.map_nil]); first | done | rfl | (simp only [List.length_drop, List.length_take]; rfl)) ?_; (with_reducible refine (spec_ValueOf.calls k3 _ _ x9_3 t6018 _ ?side1 ?side2 A29.out).mono ?_); (case side1 => repeat (first | exact (Kd.R_reads' HO_9.out).2.2 | (with_reducible refine Kd.C_alloc ?_ _) | (with_reducible refine Kd.C_drewN ?_ _) | (with_reducible refine Kd.C_drew ?_))); (case side2 => exact (Kd.R_reads' HO_9.out).2.1); rintro e w' ⟨rfl, ⟨nd, rfl⟩⟩; refine ⟨_, rfl, ?_⟩) | ((with_reducible refine gate_callee (f := 30) rfl ?_); refine goesL_ (some 64) rfl rfl Try.func30 (by kernel_rfl) rfl #[.int .i64 (wrap64 (1 + (Int.tmod t6001 5)))] rfl (by (try simp only [List.map_toArray, List.map_cons, List.map_nil]); first | done | rfl | (simp only [List.length_drop, List.length_take]; rfl)) ?_; (with_reducible refine (spec_LimitOf.calls k3 (wrap64 (1 + (Int.tmod t6001 5))) t6019 _ A30.out).mono ?_); rintro e w' ⟨rfl, ⟨nd, rfl⟩⟩; refine ⟨_, rfl, ?_⟩; obtain ⟨Ao37, co37, eo37⟩ := Kd.R_slice HO_7.out; subst eo37; have p6020 : 0 ≤ ((ji31) : Int) := of_decide_eq_true (by first | (with_reducible assumption) | assumption); have q6020 : (ji31) < (x7_2.length : Int) := of_decide_eq_true (by first | (with_reducible assumption) | assumption); obtain ⟨ad6020, e6020, hx6020_0⟩ := Kd.at_bool (Kd.R_reads' HO_7.out).2.2 (ji31) p6020 q6020; (try rw [← Nbq34.out] at hx6020_0); cases e6020; replace p6020 := eq_true p6020; replace q6020 := eq_true q6020))
                                  go_ret
                                  exact ⟨by first | rfl | (simp [errW_none, errW_some] <;> rfl) | (simp only [← hji31]; first | rfl | (simp [errW_none, errW_some] <;> rfl)) | (simp [*, errW_none, errW_some] <;> rfl), by repeat (first | (with_reducible first | exact HB.out | apply below_alloc | apply pw_below_drewN | apply below_drew1) | exact HB.out)⟩
                                · replace c35 := Bool.eq_false_iff.mpr c35
                                  subst c35
                                  have H1 : (laws_FnCircle.l0 k3 (wrap64 (1 + (Int.tmod t6001 5))) t6002 t6006 (x7_2.set ((ji31) : Int).toNat true) (t6002.length : Int) (wrap64 (x38_2 + 1))) = some r := by rw [if_neg (show ¬ (false = true) by decide)] at H; exact H
                                  clear H
                                  have H := H1
                                  clear H1
                                  obtain ⟨y6021, hy6021⟩ : ∃ y_ : List Bool, y_ = (x7_2.set ((ji31) : Int).toNat true) := ⟨_, rfl⟩
                                  replace H : (laws_FnCircle.l0 k3 (wrap64 (1 + (Int.tmod t6001 5))) t6002 t6006 y6021 (t6002.length : Int) (wrap64 (x38_2 + 1))) = some r := by first | (rw [hy6021]; with_reducible exact H) | (have H2_ := (Option.bind_some _ _).symm.trans H; rw [hy6021]; with_reducible exact H2_) | (have H2_ := (Option.bind_some _ _).symm.trans H; with_reducible exact H2_) | with_reducible exact H | (rw [hy6021]; exact H) | exact H
                                  have Ny6021 := Aside0.mk hy6021
                                  clear hy6021
                                  have H' := Aside0.mk H
                                  clear H
                                  obtain ⟨Ao39, co39, eo39⟩ := Kd.R_slice HO_9.out
                                  subst eo39
                                  go_wp2_with (first | ((with_reducible refine gate_callee (f := 28) rfl ?_); refine goesL_ (some 59) rfl rfl Try.func28 (by kernel_rfl) rfl #[.slice Ao39 x9_3.length co39] rfl (by (try simp only [List.map_toArray, List.map_cons, List.map_nil]); first | done | rfl | (simp only [List.length_drop, List.length_take]; rfl)) ?_; (with_reducible refine (spec_IsWord.calls k3 _ _ x9_3 true _ ?side1 ?side2 A27.out).mono ?_); (case side1 => repeat (first | exact (Kd.R_reads' HO_9.out).2.2 | (with_reducible refine Kd.C_alloc ?_ _) | (with_reducible refine Kd.C_drewN ?_ _) | (with_reducible refine Kd.C_drew ?_))); (case side2 => exact (Kd.R_reads' HO_9.out).2.1); rintro e w' ⟨rfl, ⟨nd, rfl⟩⟩; refine ⟨_, rfl, ?_⟩; (try (rw [drewN_self wr]; generalize hq_ : World.drewN wr _ = wr; have n0_ : Aside0 (Kd.R (Kd.int .i64) 3 wr w.heap.size (fun k_ => some k_ ≠ (.slice Ao39 x9_3.length co39 : Value).ownBlock) (.slice Ao16 t6002.length co16) t6002) := ⟨by rw [← hq_]; exact (by (with_reducible repeat (first | apply Kd.R_alloc | apply Kd.R_drewN | apply Kd.R_drew)); exact HO_4.out)⟩; have n1_ : Aside0 (Kd.R Kd.bool 4 wr w.heap.size (fun _ => True) v6008 x7_2) := ⟨by rw [← hq_]; exact (by (with_reducible repeat (first | apply Kd.R_alloc | apply Kd.R_drewN | apply Kd.R_drew)); exact HO_7.out)⟩; have n2_ : Aside0 (Kd.R (Kd.int .i64) 3 wr w.heap.size (fun k_ => some k_ ≠ (.slice Ao16 t6002.length co16 : Value).ownBlock) (.slice Ao39 x9_3.length co39) x9_3) := ⟨by rw [← hq_]; exact (by (with_reducible repeat (first | apply Kd.R_alloc | apply Kd.R_drewN | apply Kd.R_drew)); exact HO_9.out)⟩; have n3_ : Aside0 (Below w.heap.size w wr) := ⟨by rw [← hq_]; exact (by repeat (first | (with_reducible first | exact HB.out | apply below_alloc | apply pw_below_drewN | apply below_drew1) | exact HB.out))⟩; clear HO_4 HO_7 HO_9 HB hq_; have HO_4 := n0_; have HO_7 := n1_; have HO_9 := n2_; have HB := n3_; clear n0_ n1_ n2_ n3_))) | ((with_reducible refine gate_callee (f := 29) rfl ?_); refine goesL_ (some 62) rfl rfl Try.func29 (by kernel_rfl) rfl #[.slice Ao39 x9_3.length co39] rfl (by (try simp only [List.map_toArray, List.map_cons, List.map_nil]); first | done | rfl | (simp only [List.length_drop, List.length_take]; rfl)) ?_; (with_reducible refine (spec_ValueOf.calls k3 _ _ x9_3 t6018 _ ?side1 ?side2 A29.out).mono ?_); (case side1 => repeat (first | exact (Kd.R_reads' HO_9.out).2.2 | (with_reducible refine Kd.C_alloc ?_ _) | (with_reducible refine Kd.C_drewN ?_ _) | (with_reducible refine Kd.C_drew ?_))); (case side2 => exact (Kd.R_reads' HO_9.out).2.1); rintro e w' ⟨rfl, ⟨nd, rfl⟩⟩; refine ⟨_, rfl, ?_⟩; (try (rw [drewN_self wr]; generalize hq_ : World.drewN wr _ = wr; have n0_ : Aside0 (Kd.R (Kd.int .i64) 3 wr w.heap.size (fun k_ => some k_ ≠ (.slice Ao39 x9_3.length co39 : Value).ownBlock) (.slice Ao16 t6002.length co16) t6002) := ⟨by rw [← hq_]; exact (by (with_reducible repeat (first | apply Kd.R_alloc | apply Kd.R_drewN | apply Kd.R_drew)); exact HO_4.out)⟩; have n1_ : Aside0 (Kd.R Kd.bool 4 wr w.heap.size (fun _ => True) v6008 x7_2) := ⟨by rw [← hq_]; exact (by (with_reducible repeat (first | apply Kd.R_alloc | apply Kd.R_drewN | apply Kd.R_drew)); exact HO_7.out)⟩; have n2_ : Aside0 (Kd.R (Kd.int .i64) 3 wr w.heap.size (fun k_ => some k_ ≠ (.slice Ao16 t6002.length co16 : Value).ownBlock) (.slice Ao39 x9_3.length co39) x9_3) := ⟨by rw [← hq_]; exact (by (with_reducible repeat (first | apply Kd.R_alloc | apply Kd.R_drewN | apply Kd.R_drew)); exact HO_9.out)⟩; have n3_ : Aside0 (Below w.heap.size w wr) := ⟨by rw [← hq_]; exact (by repeat (first | (with_reducible first | exact HB.out | apply below_alloc | apply pw_below_drewN | apply below_drew1) | exact HB.out))⟩; clear HO_4 HO_7 HO_9 HB hq_; have HO_4 := n0_; have HO_7 := n1_; have HO_9 := n2_; have HB := n3_; clear n0_ n1_ n2_ n3_))) | ((with_reducible refine gate_callee (f := 30) rfl ?_); refine goesL_ (some 64) rfl rfl Try.func30 (by kernel_rfl) rfl #[.int .i64 (wrap64 (1 + (Int.tmod t6001 5)))] rfl (by (try simp only [List.map_toArray, List.map_cons, List.map_nil]); first | done | rfl | (simp only [List.length_drop, List.length_take]; rfl)) ?_; (with_reducible refine (spec_LimitOf.calls k3 (wrap64 (1 + (Int.tmod t6001 5))) t6019 _ A30.out).mono ?_); rintro e w' ⟨rfl, ⟨nd, rfl⟩⟩; refine ⟨_, rfl, ?_⟩; (try (rw [drewN_self wr]; generalize hq_ : World.drewN wr _ = wr; have n0_ : Aside0 (Kd.R (Kd.int .i64) 3 wr w.heap.size (fun k_ => some k_ ≠ (.slice Ao39 x9_3.length co39 : Value).ownBlock) (.slice Ao16 t6002.length co16) t6002) := ⟨by rw [← hq_]; exact (by (with_reducible repeat (first | apply Kd.R_alloc | apply Kd.R_drewN | apply Kd.R_drew)); exact HO_4.out)⟩; have n1_ : Aside0 (Kd.R Kd.bool 4 wr w.heap.size (fun _ => True) v6008 x7_2) := ⟨by rw [← hq_]; exact (by (with_reducible repeat (first | apply Kd.R_alloc | apply Kd.R_drewN | apply Kd.R_drew)); exact HO_7.out)⟩; have n2_ : Aside0 (Kd.R (Kd.int .i64) 3 wr w.heap.size (fun k_ => some k_ ≠ (.slice Ao16 t6002.length co16 : Value).ownBlock) (.slice Ao39 x9_3.length co39) x9_3) := ⟨by rw [← hq_]; exact (by (with_reducible repeat (first | apply Kd.R_alloc | apply Kd.R_drewN | apply Kd.R_drew)); exact HO_9.out)⟩; have n3_ : Aside0 (Below w.heap.size w wr) := ⟨by rw [← hq_]; exact (by repeat (first | (with_reducible first | exact HB.out | apply below_alloc | apply pw_below_drewN | apply below_drew1) | exact HB.out))⟩; clear HO_4 HO_7 HO_9 HB hq_; have HO_4 := n0_; have HO_7 := n1_; have HO_9 := n2_; have HB := n3_; clear n0_ n1_ n2_ n3_)); obtain ⟨Ao40, co40, eo40⟩ := Kd.R_slice HO_7.out; subst eo40; have p6020 : 0 ≤ ((ji31) : Int) := of_decide_eq_true (by first | (with_reducible assumption) | assumption); have q6020 : (ji31) < (x7_2.length : Int) := of_decide_eq_true (by first | (with_reducible assumption) | assumption); obtain ⟨ad6020, e6020, hx6020_0⟩ := Kd.at_bool (Kd.R_reads' HO_7.out).2.2 (ji31) p6020 q6020; (try rw [← Nbq34.out] at hx6020_0); cases e6020; replace p6020 := eq_true p6020; replace q6020 := eq_true q6020; have p38 : 0 ≤ ((ji31) : Int) := of_decide_eq_true (by first | (with_reducible assumption) | assumption); have q38 : ((ji31) : Int) < ((x7_2.length : Int) : Int) := of_decide_eq_true (by first | (with_reducible assumption) | assumption); obtain ⟨go38, co38, eo38, gb38, gl38, cl38, HG38⟩ := Kd.R_form HO_7.out (by omega); (first | cases eo38 | (injection eo38 with ea_ en_ ec_; (first | subst ea_ | (injection ea_ with ea_; subst ea_)); subst ec_; clear en_)); have GB38 := Aside0.mk gb38; have GG38 := Aside0.mk HG38; clear gb38 gl38 HG38; (first | simp only [add_plain] at hx6020_0 | skip); obtain ⟨hx38_0, hf38_0⟩ := Kd.R_celln false HO_7.out ((ji31) : Int) p38 q38; replace p38 := eq_true p38; replace q38 := eq_true q38; obtain ⟨hy41_, hz41_⟩ := Kd.R_celln false HO_7.out ((ji31) : Int) (of_decide_eq_true (by first | (with_reducible assumption) | assumption)) (of_decide_eq_true (by first | (with_reducible assumption) | assumption)); have HP41 := Kd.R_putg HO_7.out ((ji31) : Int) true) | ((with_reducible refine gate_store (t := 4) (p := 72) rfl ?_); refine store_event (t := 4) (p := 72) (v := ?vo_w42) (w1 := (wr.setCell ⟨go38, ((ji31) : Int).toNat, none⟩ (.bool true))) ?hg ?ho ?hn ?hr ?_; (case ho => rfl); (case hg => rfl); (case hn => rfl); (case hr => first | (go_simp; done) | (go_simp; rfl)); intro w42 hw; have hg : wr.grownBy w42 (some go38) := (by rw [hw]; exact HP41.2); have hp_ : Kd.R Kd.bool 4 w42 w.heap.size (fun _ => True) (.slice (some ⟨go38, 0, none⟩) x7_2.length co40) y6021 := (by rw [hw, Ny6021.out]; exact HP41.1); clear HP41; have n0_ := Aside0.mk (Kd.R_over' (v := (.slice (some ⟨go38, 0, none⟩) x7_2.length co40)) (by (with_reducible repeat (first | apply Kd.R_alloc | apply Kd.R_drewN | apply Kd.R_drew)); exact HO_4.out) (Kd.R_typed HO_7.out) (by decide) hg); have n1_ := Aside0.mk (hp_); have n2_ := Aside0.mk (Kd.R_over' (v := (.slice (some ⟨go38, 0, none⟩) x7_2.length co40)) (by (with_reducible repeat (first | apply Kd.R_alloc | apply Kd.R_drewN | apply Kd.R_drew)); exact HO_9.out) (Kd.R_typed HO_7.out) (by decide) hg); have n3_ := Aside0.mk ((by rw [hw]; exact below_set (HB.out) GB38.out : Below w.heap.size w w42)); clear HO_4; clear HO_7; clear HO_9; clear HB; have HO_4 := n0_; have HO_7 := n1_; have HO_9 := n2_; have HB := n3_; clear n0_ n1_ n2_ n3_; clear hg hw hp_))
                                  go_roundg k3
                                  case measure => have := HJ5.out; have := HK2.out; have := HK3.out; omega
                                  case rel => exact ⟨(y6021), (wrap64 (x38_2 + 1)), (by first | rfl | (simp; done) | (simp [*]; done)), H', ⟨by have := HJ5.out; have := HK2.out; have := HK3.out; omega⟩, ⟨by (with_reducible repeat (first | apply Kd.R_alloc | apply Kd.R_drewN | apply Kd.R_drew)); exact Kd.R_mono HO_4.out (fun _ hk => trivial)⟩, ⟨by (with_reducible repeat (first | apply Kd.R_alloc | apply Kd.R_drewN | apply Kd.R_drew)); exact HO_7.out⟩, ⟨by repeat (first | (with_reducible first | exact HB.out | apply below_alloc | apply pw_below_drewN | apply below_drew1) | exact HB.out)⟩⟩
                              · rw [if_neg c33] at H
                                exact absurd H (by simp)
                            · rw [if_neg c32] at H
                              exact absurd H (by simp)
                          · replace c28 := Bool.eq_false_iff.mpr c28
                            subst c28
                            have H1 : (some false) = some r := by rw [if_neg (show ¬ (false = true) by decide)] at H; exact H
                            clear H
                            have H := H1
                            clear H1
                            obtain rfl := Option.some.inj H
                            obtain ⟨Ao43, co43, eo43⟩ := Kd.R_slice HO_9.out
                            subst eo43
                            go_wp2_with (first | ((with_reducible refine gate_callee (f := 28) rfl ?_); refine goesL_ (some 59) rfl rfl Try.func28 (by kernel_rfl) rfl #[.slice Ao43 x9_3.length co43] rfl (by (try simp only [List.map_toArray, List.map_cons, List.map_nil]); first | done | rfl | (simp only [List.length_drop, List.length_take]; rfl)) ?_; (with_reducible refine (spec_IsWord.calls k3 _ _ x9_3 false _ ?side1 ?side2 A27.out).mono ?_); (case side1 => repeat (first | exact (Kd.R_reads' HO_9.out).2.2 | (with_reducible refine Kd.C_alloc ?_ _) | (with_reducible refine Kd.C_drewN ?_ _) | (with_reducible refine Kd.C_drew ?_))); (case side2 => exact (Kd.R_reads' HO_9.out).2.1); rintro e w' ⟨rfl, ⟨nd, rfl⟩⟩; refine ⟨_, rfl, ?_⟩))
                            go_ret
                            exact ⟨by first | rfl | (simp [errW_none, errW_some] <;> rfl) | (simp [*, errW_none, errW_some] <;> rfl), by repeat (first | (with_reducible first | exact HB.out | apply below_alloc | apply pw_below_drewN | apply below_drew1) | exact HB.out)⟩
                  · rw [if_neg c17] at H
                    have c17b0 : decide (x38_2 < (t6002.length : Int)) = false := decide_eq_false c17
                    clear c17
                    obtain rfl := Option.some.inj H
                    go_wp2
                    go_ret
                    exact ⟨by first | rfl | (simp [errW_none, errW_some] <;> rfl) | (simp [*, errW_none, errW_some] <;> rfl), by repeat (first | (with_reducible first | exact HB.out | apply below_alloc | apply pw_below_drewN | apply below_drew1) | exact HB.out)⟩
            · rw [if_neg c13] at H
              exact absurd H (by simp)
          · rw [if_neg c12] at H
            exact absurd H (by simp)

/-- THE ONE PURE STATEMENT of laws_FnCircle: yours. -/
def laws_FnCircle.Pure : Prop := ∀ (l0 : List Int), l0.length ≤ maxLen → l0.length * 1 ≤ 140737488351232 → (∀ x ∈ l0, (Lit.int .u8 x).wf = true) → ∃ k, laws_FnCircle.f k l0 = some true
theorem laws_FnCircle.walk (P : laws_FnCircle.Pure) (a0 : Option Addr) (len0 cap0 : Nat) (z0 : List Int) (w : World) (w0 : (a0 = none ∧ len0 = 0 ∧ cap0 = 0 ∧ z0 = []) ∨ ∃ x, a0 = some x ∧ len0 ≤ cap0 ∧ cap0 ≤ maxLen ∧ z0.length = cap0 ∧ (∀ i, i < z0.length → w.cell? (x.add i) = some (.int .u8 (z0.getD i 0))) ∧ ∀ n ∈ z0, (Lit.int .u8 n).wf = true) (y0 : len0 * 1 ≤ 140737488351232) :
    Calls Try.prog 5 #[.slice a0 len0 cap0] w fun e w' => e = .returned (.bool true) ∧ Below w.heap.size w w' := by
  obtain ⟨l0, rfl, hr0, hm0, hw0, hc0⟩ := ReadsInt.ofRowC w0
  obtain ⟨k, h⟩ := P l0 hm0 y0 hw0
  refine (laws_FnCircle.calls k _ _ l0 true w (Kd.C_of_reads (d := (0 : Int)) (h1 := fun _ => rfl) hr0) hc0 h).mono ?_
  rintro e w' ⟨rfl, hd⟩
  exact ⟨rfl, hd⟩

end Go.Proofs.Ytnalbcadegicaaa.X
/- What the laws' function 'at' tells: a number below 256. -/
namespace Go.Proofs.Ytnalbcadegicaaa.Plain
open Go.RowKit Go.Proofs.Ytnalbcadegicaaa.X Go.Proofs.YtnalbcadegicaaaW.PrintWords Go.Proofs.YtnalbcadegicaaaW.PrintLast
theorem at_nat (l0 : List Int) (hl : (l0.length : Int) ≤ 1048576) (hw : ∀ x ∈ l0, (Lit.int .u8 x).wf = true) (i : Int) (h0 : 0 ≤ i) (h3 : i ≤ 1000) : ∃ n : Nat, n < 256 ∧ laws_at.f l0 i = some (n : Int) := by
  unfold laws_at.f
  by_cases h : i < (l0.length : Int)
  · rw [if_pos h, if_pos h0]
    have hr : rd l0 i ∈ l0 := by
      unfold rd
      rw [List.getD_eq_getElem?_getD, List.getElem?_eq_getElem (by omega)]
      exact List.getElem_mem _
    have := hw _ hr
    simp only [Lit.wf, IntKind.min, IntKind.max, IntKind.signed, IntKind.bits, Bool.and_eq_true, decide_eq_true_eq, if_false, Bool.false_eq_true] at this
    generalize rd l0 i = x at *
    refine ⟨x.toNat, by omega, ?_⟩
    unfold wrap64
    congr 1
    omega
  · rw [if_neg h]
    obtain ⟨j, rfl⟩ := Int.eq_ofNat_of_zero_le h0
    refine ⟨(j * 37 + l0.length * 11) % 256, by omega, ?_⟩
    rw [show wrap64 (wrap64 ((j : Int) * 37) + wrap64 ((l0.length : Int) * 11)) = ((j * 37 + l0.length * 11 : Nat) : Int) by unfold wrap64; omega]
    rfl
end Go.Proofs.Ytnalbcadegicaaa.Plain
/- The law FnCircle over numbers and lists: five circles, each computed and read around. -/
namespace Go.Proofs.Ytnalbcadegicaaa.PlainCircle
open Go.RowKit Go.Proofs.Ytnalbcadegicaaa.X Go.Proofs.YtnalbcadegicaaaW.PrintWords Go.Proofs.YtnalbcadegicaaaW.PrintLast Go.Proofs.Ytnalbcadegicaaa.Plain
set_option maxRecDepth 1000000
theorem bind_eq {α β : Type} {o : Option α} {a : α} (h : o = some a) (f : α → Option β) : o.bind f = f a := by rw [h]; rfl
def tailC (K : Nat) (c : Int) : Option Bool := (impl_CircleOf.f K c).bind fun bt6002 => ((spec_MakePower.f K c).bind fun t6006 => (if bt6002.2 = true then (laws_FnCircle.j0 K c bt6002.1 t6006 ((bt6002.1.length : Int) != t6006)) else (laws_FnCircle.j0 K c bt6002.1 t6006 true)))
theorem fin1 (K : Nat) (hK : K = 2999) : tailC (K + 1) 1 = some true := by
  subst hK
  decide +kernel
theorem fin2 (K : Nat) (hK : K = 2999) : tailC (K + 1) 2 = some true := by
  subst hK
  decide +kernel
theorem fin3 (K : Nat) (hK : K = 2999) : tailC (K + 1) 3 = some true := by
  subst hK
  decide +kernel
theorem fin4 (K : Nat) (hK : K = 2999) : tailC (K + 1) 4 = some true := by
  subst hK
  decide +kernel
theorem fin5 (K : Nat) (hK : K = 2999) : tailC (K + 1) 5 = some true := by
  subst hK
  decide +kernel
end Go.Proofs.Ytnalbcadegicaaa.PlainCircle
namespace Go.Proofs.Ytnalbcadegicaaa.Pure
open Go.RowKit Go.Proofs.Ytnalbcadegicaaa.X Go.Proofs.YtnalbcadegicaaaW.PrintWords Go.Proofs.YtnalbcadegicaaaW.PrintLast Go.Proofs.Ytnalbcadegicaaa.PlainCircle Go.Proofs.Ytnalbcadegicaaa.Plain
theorem FnCircle : laws_FnCircle.Pure := by
  intro l0 hm hb hw
  obtain ⟨K, hK⟩ : ∃ K : Nat, K = 2999 := ⟨_, rfl⟩
  refine ⟨K + 1, ?_⟩
  unfold laws_FnCircle.f
  by_cases hl : (l0.length : Int) > 1048576
  · rw [if_pos hl]
  · rw [if_neg hl]
    obtain ⟨n, hn, ha⟩ := at_nat l0 (by omega) hw 1 (by decide) (by decide)
    refine (bind_eq ha _).trans ?_
    have e : wrap64 (1 + Int.tmod (n : Int) 5) = 1 + ((n % 5 : Nat) : Int) := by
      rw [show Int.tmod (n : Int) 5 = ((n % 5 : Nat) : Int) from rfl]
      unfold wrap64
      omega
    rw [e]
    have h5 : n % 5 = 0 ∨ n % 5 = 1 ∨ n % 5 = 2 ∨ n % 5 = 3 ∨ n % 5 = 4 := by omega
    rcases h5 with h | h | h | h | h <;> rw [h]
    · exact fin1 K hK
    · exact fin2 K hK
    · exact fin3 K hK
    · exact fin4 K hK
    · exact fin5 K hK
end Go.Proofs.Ytnalbcadegicaaa.Pure
-- Laid by xprint.py (wip/tools): printed contracts, and hand-written ones between them.
namespace Go.Proofs.Ytnalbcadegicaaa.fnCircle
open Go.ChangeShapes Go.WideShapes Go.ChangeAt Go.RowKit
open Go.ChangeMaps (open_string shut_string)
set_option linter.unusedVariables false
theorem own : ownKnob Try.prog.godebug = none := by kernel_rfl
theorem laidOut : laidOutB Try.prog = true := by kernel_rfl
def IsRow (k : IntKind) (w : World) (a : Option Addr) (len cap : Nat) (zs : List Int) : Prop :=
  (a = none ∧ len = 0 ∧ cap = 0 ∧ zs = []) ∨
  ∃ x, a = some x ∧ len ≤ cap ∧ cap ≤ maxLen ∧ zs.length = cap ∧ (∀ i, i < zs.length → w.cell? (x.add i) = some (.int k (zs.getD i 0))) ∧ ∀ n ∈ zs, (Lit.int k n).wf = true
set_option maxRecDepth 100000 in
theorem lifted (os : Os) (started : os.Started) (H : Type) (enc : TypeId × Value → H) :
    ReturnsInHanded {} Try.checked os 5 .any (Rows.fnCircleSpec.pre6 enc Try.prog Try.f5 Rows.fnCircleRow.domain false) (Rows.fnCircleSpec.post enc Try.prog Try.f5 false true false false) := by
  refine returnsInHanded_of_change_sized (C := Try.checked) own started (by kernel_rfl) Try.func5
    (ChangeSpec.witness6 (enc := enc) (C := Try.checked) false ⟨#[], #[.slice none 0 0], []⟩ 8 (by kernel_rfl) (by kernel_rfl) (by kernel_rfl) (by kernel_rfl)) ?_
  intro W base args ds gs before hval0 hW hcnd hsz0 _
  have hsz : (DataW.weightsEach Try.prog (Try.f5.params.toList ++ Rows.fnCircleSpec.plain.varTypes Try.prog) (ds ++ gs)).all (· ≤ reachBytes) = true := hsz0
  have hval : ∀ (j : Nat) t v, Try.f5.params[j]? = some t → args[j]? = some v → Value.okWide Try.prog W .any base t v := hval0
  have hW' := hW
  obtain ⟨p, q, hA0, hV, rfl, hfz, hnd⟩ := hW
  have hA : DataW.TrodAll enc Try.prog W 0 (fun _ => true) true Try.f5.params.toList args.toList ds p := hA0
  rw [Try.params5] at hA hval hsz
  obtain ⟨v0, vs0, d0, ds0, p0, q0, hargs, rfl, rfl, h0, r0⟩ := trodAll_cons hA
  obtain ⟨rfl, rfl, rfl⟩ := trodAll_nil r0
  obtain rfl : args = #[v0] := by cases args; simp_all
  obtain ⟨rfl, rfl⟩ := trodVars_none hV
  obtain ⟨a0, len0, cap0, rfl⟩ := okWide_slice Try.underlying22 (hval 0 22 v0 rfl rfl)
  have k0 := h0
  have lt0 : ∀ x ∈ p0, x.block < W.heap.size := by obtain ⟨m, hm⟩ := k0; exact DataW.trod_lt m _ _ _ hm
  obtain ⟨z0, w0⟩ : ∃ zs, IsRow .u8 W a0 len0 cap0 zs := by
    obtain ⟨fuel, hf⟩ := h0
    rcases open_ints Try.underlying22 Try.underlying5 (by kernel_rfl) hf with ⟨hcs, _⟩ | ⟨x, l, c, zs, hcs, _, hl, hm, hz, _, hcell, hwz⟩
    · simp [Value.cells] at hcs
      obtain ⟨rfl, rfl, rfl⟩ := hcs
      exact ⟨[], .inl ⟨rfl, rfl, rfl, rfl⟩⟩
    · simp [Value.cells] at hcs
      obtain ⟨rfl, rfl, rfl⟩ := hcs
      exact ⟨zs, .inr ⟨_, rfl, hl, hm, by simpa using hz, hcell, hwz⟩⟩
  have y0 : len0 * 1 ≤ 140737488351232 := Go.Proofs.YtnalbcadegicaaaW.PrintWords.sized_ints hsz (j := 0) (t := 22) rfl rfl Try.underlying22 Try.underlying5 (by kernel_rfl) (by kernel_rfl) h0
  clear hA0 hval0 hsz0 hsz
  refine (X.laws_FnCircle.walk Pure.FnCircle a0 len0 cap0 z0 W w0 y0).mono fun e W' ⟨he, bel⟩ => ?_
  subst he
  exact ⟨_, rfl, _, _, _, [], _, [], hW', trodAll_mk1 (shut_bool Try.underlying4 _), (trodAll_cons_mk (Below.trod laidOut (by kernel_rfl) (of_decide_eq_true (by kernel_rfl)) k0 bel lt0) trodAll_mk0), rfl, bel.frame _, fun h => by cases h⟩
theorem over : Rows.fnCircleRow.holds Try.pinned (OpenSpec.ofChange Rows.fnCircleSpec) :=
  OpenClaim.holds_of_wide 5 Try.f5 rfl rfl rfl rfl rfl rfl rfl ⟨rfl, rfl, rfl, rfl, rfl⟩ rfl rfl rfl rfl rfl (by kernel_rfl) Try.func5 (by kernel_rfl)
    (of_decide_eq_true (by kernel_rfl)) (by unfold Func.isWrapper; first | (rw [if_pos (by decide +kernel)]; kernel_rfl) | (rw [if_neg (by decide +kernel)]; exact ⟨rfl, rfl⟩))
    (fun os started H enc _ => lifted os started H enc)
theorem proved : Rows.FnCircleSaid := over
#print axioms proved
end Go.Proofs.Ytnalbcadegicaaa.fnCircle
namespace Go.Proofs.Ytnalbcadegicaaa
/-- The row, under a short name, for the claim. -/
theorem fnCircle_holds : Rows.FnCircleSaid := fnCircle.proved
end Go.Proofs.Ytnalbcadegicaaa
