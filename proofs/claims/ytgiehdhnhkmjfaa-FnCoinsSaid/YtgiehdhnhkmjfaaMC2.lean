/- The law FnCoins over numbers and lists: three kinds of words, at most fourteen numbers of coins and each odd coin: all of them computed. -/
import Derived.Test.YtgiehdhnhkmjfaaMC0
import Derived.Test.YtgiehdhnhkmjfaaMC1
import Derived.Test.YtgiehdhnhkmjfaaRows
import Derived.WalkKit
import Derived.ProofKit
import Derived.OpenShut
import Derived.ShutString
import Derived.ChangeOld
import Derived.Below
import Derived.SizedLaws
import Derived.Test.YtgiehdhnhkmjfaaWSized
-- Laid by xprint.py (wip/tools): printed contracts, and hand-written ones between them.
namespace Go.Proofs.Ytgiehdhnhkmjfaa.X
open Go.RowKit Go.Proofs.YtgiehdhnhkmjfaaW.PrintWords Go.Proofs.YtgiehdhnhkmjfaaW.PrintLast Go.Proofs.YtgiehdhnhkmjfaaW.PrintMore
attribute [local go_sem] max2_int min2_int max_two min_two max_three min_three max_four min_four   -- for this text's walks alone
set_option linter.unusedVariables false
set_option linter.unusedSimpArgs false

/-! ### laws_FnCoins: function 7 -/
mutual
def laws_FnCoins.j0 : Nat → List Int → Int → List (List Int) → Bool → List (S50) → Bool → Option (Bool)
  | 0, _, _, _, _, _, _ => none
  | k + 1, x0, x4, x5, x6, x7, x76 => if x76 = true then (some (!x6)) else ((laws_at.f x0 3).bind fun t8013 => (if x4 = 0 then (none) else ((laws_trits.f).bind fun t8014 => (laws_FnCoins.l0 k x4 x5 x7 (Int.tmod t8013 x4) t8014 (t8014.length : Int) 0))))
def laws_FnCoins.l0 : Nat → Int → List (List Int) → List (S50) → Int → List Int → Int → Int → Option (Bool)
  | 0, _, _, _, _, _, _, _ => none
  | k + 1, x4, x5, x7, x9, x83, x84, x85 => if x85 < x84 then (if 0 ≤ x85 then (if x85 < (x83.length : Int) then (laws_FnCoins.l1 k x4 x5 x7 x9 (rd x83 x85) (([] : List Int)) 0 x83 x84 x85) else (none)) else (none)) else (some true)
def laws_FnCoins.l1 : Nat → Int → List (List Int) → List (S50) → Int → Int → List Int → Int → List Int → Int → Int → Option (Bool)
  | 0, _, _, _, _, _, _, _, _, _, _ => none
  | k + 1, x4, x5, x7, x9, x11, x12, x13, x83, x84, x85 => if x13 < x4 then (if x12.length < 17592186044416 then (laws_FnCoins.l1 k x4 x5 x7 x9 x11 (x12 ++ [10]) (wrap64 (x13 + 1)) x83 x84 x85) else (none)) else (if 0 ≤ x9 then (if x9 < (x12.length : Int) then (laws_FnCoins.l2 k x4 x5 x7 x9 x11 (x12.set (x9 : Int).toNat (wrap64 ((rd x12 x9) + x11))) (([] : List Int)) x83 x84 x85 x7 (x7.length : Int) 0) else (none)) else (none))
def laws_FnCoins.l2 : Nat → Int → List (List Int) → List (S50) → Int → Int → List Int → List Int → List Int → Int → Int → List (S50) → Int → Int → Option (Bool)
  | 0, _, _, _, _, _, _, _, _, _, _, _, _, _ => none
  | k + 1, x4, x5, x7, x9, x11, x12, x14, x83, x84, x85, x108, x109, x110 => if x110 < x109 then (if 0 ≤ x110 then (if x110 < (x108.length : Int) then ((impl_WeighCoins.f k x12 ((rd_T50 x108 x110).f0) ((rd_T50 x108 x110).f1)).bind fun bt8031 => (if bt8031.2 = true then (if (((rd_T50 x108 x110).f0).length : Int) = (((rd_T50 x108 x110).f1).length : Int) then (if x14.length < 17592186044416 then (laws_FnCoins.l2 k x4 x5 x7 x9 x11 x12 (x14 ++ [bt8031.1]) x83 x84 x85 x108 x109 (wrap64 (x110 + 1))) else (none)) else (some false)) else (some false))) else (none)) else (none)) else ((impl_OutcomeOf.f k x5 x9 x11).bind fun bt8036 => ((impl_GuessOf.f k x5 x14).bind fun bt8040 => (if bt8036.2 = true then (if bt8040.2.2 = true then ((laws_ints.f k x14 bt8036.1).bind fun t8043 => (if t8043 = true then (if bt8040.2.1 = x11 then (if x11 = 0 then (if bt8040.1 = (-1) then (laws_FnCoins.l0 k x4 x5 x7 x9 x83 x84 (wrap64 (x85 + 1))) else (some false)) else (if bt8040.1 = x9 then (laws_FnCoins.l0 k x4 x5 x7 x9 x83 x84 (wrap64 (x85 + 1))) else (some false))) else (some false)) else (some false))) else (some false)) else (some false))))
end
def laws_FnCoins.f (k : Nat) (l0 : List Int) : Option (Bool) := if (l0.length : Int) > 1048576 then (some true) else ((laws_at.f l0 1).bind fun t8001 => ((laws_at.f l0 2).bind fun t8002 => ((spec_CoinsFor.f k (wrap64 (2 + (Int.tmod t8001 3)))).bind fun t8003 => (if (wrap64 ((wrap64 (Int.tdiv t8003 3)) + 1)) = 0 then (none) else ((impl_CoinWords.f k (wrap64 (3 * (wrap64 (1 + (Int.tmod t8002 (wrap64 ((wrap64 (Int.tdiv t8003 3)) + 1))))))) (wrap64 (2 + (Int.tmod t8001 3)))).bind fun bt8004 => ((spec_MakePower.f k (wrap64 (2 + (Int.tmod t8001 3)))).bind fun t8008 => (if (bt8004.2 != (decide ((wrap64 (3 * (wrap64 (1 + (Int.tmod t8002 (wrap64 ((wrap64 (Int.tdiv t8003 3)) + 1))))))) ≤ (wrap64 (Int.tdiv (wrap64 (t8008 - 3)) 2))))) = true then (some false) else ((impl_WeighingsOf.f bt8004.1).bind fun bt8009 => (if bt8004.2 = true then (if bt8009.2 = true then (if (bt8004.1.length : Int) = (wrap64 (3 * (wrap64 (1 + (Int.tmod t8002 (wrap64 ((wrap64 (Int.tdiv t8003 3)) + 1))))))) then (laws_FnCoins.j0 k l0 (wrap64 (3 * (wrap64 (1 + (Int.tmod t8002 (wrap64 ((wrap64 (Int.tdiv t8003 3)) + 1))))))) bt8004.1 bt8004.2 bt8009.1 ((bt8009.1.length : Int) != (wrap64 (2 + (Int.tmod t8001 3))))) else (laws_FnCoins.j0 k l0 (wrap64 (3 * (wrap64 (1 + (Int.tmod t8002 (wrap64 ((wrap64 (Int.tdiv t8003 3)) + 1))))))) bt8004.1 bt8004.2 bt8009.1 true)) else (laws_FnCoins.j0 k l0 (wrap64 (3 * (wrap64 (1 + (Int.tmod t8002 (wrap64 ((wrap64 (Int.tdiv t8003 3)) + 1))))))) bt8004.1 bt8004.2 bt8009.1 true)) else (laws_FnCoins.j0 k l0 (wrap64 (3 * (wrap64 (1 + (Int.tmod t8002 (wrap64 ((wrap64 (Int.tdiv t8003 3)) + 1))))))) bt8004.1 bt8004.2 bt8009.1 true))))))))))
theorem laws_FnCoins.mono_l : ∀ k, (∀ y0 y1 y2 y3 y4 y5, LeO (laws_FnCoins.j0 k y0 y1 y2 y3 y4 y5) (laws_FnCoins.j0 (k + 1) y0 y1 y2 y3 y4 y5)) ∧ (∀ y0 y1 y2 y3 y4 y5 y6, LeO (laws_FnCoins.l0 k y0 y1 y2 y3 y4 y5 y6) (laws_FnCoins.l0 (k + 1) y0 y1 y2 y3 y4 y5 y6)) ∧ (∀ y0 y1 y2 y3 y4 y5 y6 y7 y8 y9, LeO (laws_FnCoins.l1 k y0 y1 y2 y3 y4 y5 y6 y7 y8 y9) (laws_FnCoins.l1 (k + 1) y0 y1 y2 y3 y4 y5 y6 y7 y8 y9)) ∧ (∀ y0 y1 y2 y3 y4 y5 y6 y7 y8 y9 y10 y11 y12, LeO (laws_FnCoins.l2 k y0 y1 y2 y3 y4 y5 y6 y7 y8 y9 y10 y11 y12) (laws_FnCoins.l2 (k + 1) y0 y1 y2 y3 y4 y5 y6 y7 y8 y9 y10 y11 y12))
  | 0 => ⟨fun _ _ _ _ _ _ r h => by simp [laws_FnCoins.j0] at h, fun _ _ _ _ _ _ _ r h => by simp [laws_FnCoins.l0] at h, fun _ _ _ _ _ _ _ _ _ _ r h => by simp [laws_FnCoins.l1] at h, fun _ _ _ _ _ _ _ _ _ _ _ _ _ r h => by simp [laws_FnCoins.l2] at h⟩
  | k + 1 => by
    obtain ⟨ih0, ih1, ih2, ih3⟩ := laws_FnCoins.mono_l k
    refine ⟨?_, ?_, ?_, ?_⟩
    · intro y0 y1 y2 y3 y4 y5
      unfold laws_FnCoins.j0
      repeat' first
      | (with_reducible exact ih0 _ _ _ _ _ _)
      | (with_reducible exact ih1 _ _ _ _ _ _ _)
      | (with_reducible exact ih2 _ _ _ _ _ _ _ _ _ _)
      | (with_reducible exact ih3 _ _ _ _ _ _ _ _ _ _ _ _ _)
      | (with_reducible exact impl_CoinWords.mono _ _ _)
      | (with_reducible exact impl_GuessOf.mono _ _ _)
      | (with_reducible exact impl_OutcomeOf.mono _ _ _ _)
      | (with_reducible exact impl_WeighCoins.mono _ _ _ _)
      | (with_reducible exact laws_ints.mono _ _ _)
      | (with_reducible exact spec_CoinsFor.mono _ _)
      | (with_reducible exact spec_MakePower.mono _ _)
      | (with_reducible exact LeO.refl _)
      | (with_reducible exact LeO.none _)
      | (with_reducible refine LeO.ite ?_ ?_)
      | (with_reducible refine LeO.bind ?_ (fun _ => ?_))
      | exact ih0 _ _ _ _ _ _
      | exact ih1 _ _ _ _ _ _ _
      | exact ih2 _ _ _ _ _ _ _ _ _ _
      | exact ih3 _ _ _ _ _ _ _ _ _ _ _ _ _
      | exact impl_CoinWords.mono _ _ _
      | exact impl_GuessOf.mono _ _ _
      | exact impl_OutcomeOf.mono _ _ _ _
      | exact impl_WeighCoins.mono _ _ _ _
      | exact laws_ints.mono _ _ _
      | exact spec_CoinsFor.mono _ _
      | exact spec_MakePower.mono _ _
      | exact LeO.none _
      | refine LeO.ite ?_ ?_
      | refine LeO.bind ?_ (fun _ => ?_)
    · intro y0 y1 y2 y3 y4 y5 y6
      unfold laws_FnCoins.l0
      repeat' first
      | (with_reducible exact ih0 _ _ _ _ _ _)
      | (with_reducible exact ih1 _ _ _ _ _ _ _)
      | (with_reducible exact ih2 _ _ _ _ _ _ _ _ _ _)
      | (with_reducible exact ih3 _ _ _ _ _ _ _ _ _ _ _ _ _)
      | (with_reducible exact impl_CoinWords.mono _ _ _)
      | (with_reducible exact impl_GuessOf.mono _ _ _)
      | (with_reducible exact impl_OutcomeOf.mono _ _ _ _)
      | (with_reducible exact impl_WeighCoins.mono _ _ _ _)
      | (with_reducible exact laws_ints.mono _ _ _)
      | (with_reducible exact spec_CoinsFor.mono _ _)
      | (with_reducible exact spec_MakePower.mono _ _)
      | (with_reducible exact LeO.refl _)
      | (with_reducible exact LeO.none _)
      | (with_reducible refine LeO.ite ?_ ?_)
      | (with_reducible refine LeO.bind ?_ (fun _ => ?_))
      | exact ih0 _ _ _ _ _ _
      | exact ih1 _ _ _ _ _ _ _
      | exact ih2 _ _ _ _ _ _ _ _ _ _
      | exact ih3 _ _ _ _ _ _ _ _ _ _ _ _ _
      | exact impl_CoinWords.mono _ _ _
      | exact impl_GuessOf.mono _ _ _
      | exact impl_OutcomeOf.mono _ _ _ _
      | exact impl_WeighCoins.mono _ _ _ _
      | exact laws_ints.mono _ _ _
      | exact spec_CoinsFor.mono _ _
      | exact spec_MakePower.mono _ _
      | exact LeO.none _
      | refine LeO.ite ?_ ?_
      | refine LeO.bind ?_ (fun _ => ?_)
    · intro y0 y1 y2 y3 y4 y5 y6 y7 y8 y9
      unfold laws_FnCoins.l1
      repeat' first
      | (with_reducible exact ih0 _ _ _ _ _ _)
      | (with_reducible exact ih1 _ _ _ _ _ _ _)
      | (with_reducible exact ih2 _ _ _ _ _ _ _ _ _ _)
      | (with_reducible exact ih3 _ _ _ _ _ _ _ _ _ _ _ _ _)
      | (with_reducible exact impl_CoinWords.mono _ _ _)
      | (with_reducible exact impl_GuessOf.mono _ _ _)
      | (with_reducible exact impl_OutcomeOf.mono _ _ _ _)
      | (with_reducible exact impl_WeighCoins.mono _ _ _ _)
      | (with_reducible exact laws_ints.mono _ _ _)
      | (with_reducible exact spec_CoinsFor.mono _ _)
      | (with_reducible exact spec_MakePower.mono _ _)
      | (with_reducible exact LeO.refl _)
      | (with_reducible exact LeO.none _)
      | (with_reducible refine LeO.ite ?_ ?_)
      | (with_reducible refine LeO.bind ?_ (fun _ => ?_))
      | exact ih0 _ _ _ _ _ _
      | exact ih1 _ _ _ _ _ _ _
      | exact ih2 _ _ _ _ _ _ _ _ _ _
      | exact ih3 _ _ _ _ _ _ _ _ _ _ _ _ _
      | exact impl_CoinWords.mono _ _ _
      | exact impl_GuessOf.mono _ _ _
      | exact impl_OutcomeOf.mono _ _ _ _
      | exact impl_WeighCoins.mono _ _ _ _
      | exact laws_ints.mono _ _ _
      | exact spec_CoinsFor.mono _ _
      | exact spec_MakePower.mono _ _
      | exact LeO.none _
      | refine LeO.ite ?_ ?_
      | refine LeO.bind ?_ (fun _ => ?_)
    · intro y0 y1 y2 y3 y4 y5 y6 y7 y8 y9 y10 y11 y12
      unfold laws_FnCoins.l2
      repeat' first
      | (with_reducible exact ih0 _ _ _ _ _ _)
      | (with_reducible exact ih1 _ _ _ _ _ _ _)
      | (with_reducible exact ih2 _ _ _ _ _ _ _ _ _ _)
      | (with_reducible exact ih3 _ _ _ _ _ _ _ _ _ _ _ _ _)
      | (with_reducible exact impl_CoinWords.mono _ _ _)
      | (with_reducible exact impl_GuessOf.mono _ _ _)
      | (with_reducible exact impl_OutcomeOf.mono _ _ _ _)
      | (with_reducible exact impl_WeighCoins.mono _ _ _ _)
      | (with_reducible exact laws_ints.mono _ _ _)
      | (with_reducible exact spec_CoinsFor.mono _ _)
      | (with_reducible exact spec_MakePower.mono _ _)
      | (with_reducible exact LeO.refl _)
      | (with_reducible exact LeO.none _)
      | (with_reducible refine LeO.ite ?_ ?_)
      | (with_reducible refine LeO.bind ?_ (fun _ => ?_))
      | exact ih0 _ _ _ _ _ _
      | exact ih1 _ _ _ _ _ _ _
      | exact ih2 _ _ _ _ _ _ _ _ _ _
      | exact ih3 _ _ _ _ _ _ _ _ _ _ _ _ _
      | exact impl_CoinWords.mono _ _ _
      | exact impl_GuessOf.mono _ _ _
      | exact impl_OutcomeOf.mono _ _ _ _
      | exact impl_WeighCoins.mono _ _ _ _
      | exact laws_ints.mono _ _ _
      | exact spec_CoinsFor.mono _ _
      | exact spec_MakePower.mono _ _
      | exact LeO.none _
      | refine LeO.ite ?_ ?_
      | refine LeO.bind ?_ (fun _ => ?_)
theorem laws_FnCoins.mono : ∀ a0 k, LeO (laws_FnCoins.f k a0) (laws_FnCoins.f (k + 1) a0) := by
  intro a0 k
  obtain ⟨ih0, ih1, ih2, ih3⟩ := laws_FnCoins.mono_l k
  unfold laws_FnCoins.f
  repeat' first
      | (with_reducible exact ih0 _ _ _ _ _ _)
      | (with_reducible exact ih1 _ _ _ _ _ _ _)
      | (with_reducible exact ih2 _ _ _ _ _ _ _ _ _ _)
      | (with_reducible exact ih3 _ _ _ _ _ _ _ _ _ _ _ _ _)
      | (with_reducible exact impl_CoinWords.mono _ _ _)
      | (with_reducible exact impl_GuessOf.mono _ _ _)
      | (with_reducible exact impl_OutcomeOf.mono _ _ _ _)
      | (with_reducible exact impl_WeighCoins.mono _ _ _ _)
      | (with_reducible exact laws_ints.mono _ _ _)
      | (with_reducible exact spec_CoinsFor.mono _ _)
      | (with_reducible exact spec_MakePower.mono _ _)
      | (with_reducible exact LeO.refl _)
      | (with_reducible exact LeO.none _)
      | (with_reducible refine LeO.ite ?_ ?_)
      | (with_reducible refine LeO.bind ?_ (fun _ => ?_))
      | exact ih0 _ _ _ _ _ _
      | exact ih1 _ _ _ _ _ _ _
      | exact ih2 _ _ _ _ _ _ _ _ _ _
      | exact ih3 _ _ _ _ _ _ _ _ _ _ _ _ _
      | exact impl_CoinWords.mono _ _ _
      | exact impl_GuessOf.mono _ _ _
      | exact impl_OutcomeOf.mono _ _ _ _
      | exact impl_WeighCoins.mono _ _ _ _
      | exact laws_ints.mono _ _ _
      | exact spec_CoinsFor.mono _ _
      | exact spec_MakePower.mono _ _
      | exact LeO.none _
      | refine LeO.ite ?_ ?_
      | refine LeO.bind ?_ (fun _ => ?_)
set_option maxHeartbeats 8000000 in
set_option maxRecDepth 100000 in
theorem laws_FnCoins.calls (k : Nat) (A0 : Option Addr) (c0 : Nat) (l0 : List Int) (r : Bool) (w : World) (hr0 : Kd.C (Kd.int .u8) w A0 l0.length l0) (hc0 : l0.length ≤ c0) (h : laws_FnCoins.f k l0 = some r) :
    Calls Try.prog 7 #[.slice A0 l0.length c0] w fun e w' => e = .returned (.bool r) ∧ Below w.heap.size w w' := by
  have hu50 := Try.underlying50
  have HR0 := Aside0.mk hr0
  have HC0 := Aside0.mk hc0
  clear hr0 hc0
  have HB := Aside0.mk (Below.refl w.heap.size w)
  have H : (if (l0.length : Int) > 1048576 then (some true) else ((laws_at.f l0 1).bind fun t8001 => ((laws_at.f l0 2).bind fun t8002 => ((spec_CoinsFor.f k (wrap64 (2 + (Int.tmod t8001 3)))).bind fun t8003 => (if (wrap64 ((wrap64 (Int.tdiv t8003 3)) + 1)) = 0 then (none) else ((impl_CoinWords.f k (wrap64 (3 * (wrap64 (1 + (Int.tmod t8002 (wrap64 ((wrap64 (Int.tdiv t8003 3)) + 1))))))) (wrap64 (2 + (Int.tmod t8001 3)))).bind fun bt8004 => ((spec_MakePower.f k (wrap64 (2 + (Int.tmod t8001 3)))).bind fun t8008 => (if (bt8004.2 != (decide ((wrap64 (3 * (wrap64 (1 + (Int.tmod t8002 (wrap64 ((wrap64 (Int.tdiv t8003 3)) + 1))))))) ≤ (wrap64 (Int.tdiv (wrap64 (t8008 - 3)) 2))))) = true then (some false) else ((impl_WeighingsOf.f bt8004.1).bind fun bt8009 => (if bt8004.2 = true then (if bt8009.2 = true then (if (bt8004.1.length : Int) = (wrap64 (3 * (wrap64 (1 + (Int.tmod t8002 (wrap64 ((wrap64 (Int.tdiv t8003 3)) + 1))))))) then (laws_FnCoins.j0 k l0 (wrap64 (3 * (wrap64 (1 + (Int.tmod t8002 (wrap64 ((wrap64 (Int.tdiv t8003 3)) + 1))))))) bt8004.1 bt8004.2 bt8009.1 ((bt8009.1.length : Int) != (wrap64 (2 + (Int.tmod t8001 3))))) else (laws_FnCoins.j0 k l0 (wrap64 (3 * (wrap64 (1 + (Int.tmod t8002 (wrap64 ((wrap64 (Int.tdiv t8003 3)) + 1))))))) bt8004.1 bt8004.2 bt8009.1 true)) else (laws_FnCoins.j0 k l0 (wrap64 (3 * (wrap64 (1 + (Int.tmod t8002 (wrap64 ((wrap64 (Int.tdiv t8003 3)) + 1))))))) bt8004.1 bt8004.2 bt8009.1 true)) else (laws_FnCoins.j0 k l0 (wrap64 (3 * (wrap64 (1 + (Int.tmod t8002 (wrap64 ((wrap64 (Int.tdiv t8003 3)) + 1))))))) bt8004.1 bt8004.2 bt8009.1 true))))))))))) = some r := h
  clear h
  by_cases c2 : (l0.length : Int) > 1048576
  · rw [if_pos c2] at H
    have c2b0 : decide (1048576 < (l0.length : Int)) = true := decide_eq_true c2
    have c2b1 : decide (1048576 < l0.length) = true := decide_eq_true (by omega)
    clear c2
    obtain rfl := Option.some.inj H
    go_enter Try.func7, Try.ntmps7
    go_wp2
    go_ret
    exact ⟨by first | rfl | (simp [errW_none, errW_some] <;> rfl) | (simp [*, errW_none, errW_some] <;> rfl), by repeat (first | (with_reducible first | exact HB.out | apply below_alloc | apply pw_below_drewN | apply below_drew1) | exact HB.out)⟩
  · rw [if_neg c2] at H
    have c2b0 : decide (1048576 < (l0.length : Int)) = false := decide_eq_false c2
    have c2b1 : decide (1048576 < l0.length) = false := decide_eq_false (by omega)
    clear c2
    replace H := Option.bind_eq_some_iff.mp H
    obtain ⟨t8001, A30, H⟩ := H
    replace H : ((laws_at.f l0 2).bind fun t8002 => ((spec_CoinsFor.f k (wrap64 (2 + (Int.tmod t8001 3)))).bind fun t8003 => (if (wrap64 ((wrap64 (Int.tdiv t8003 3)) + 1)) = 0 then (none) else ((impl_CoinWords.f k (wrap64 (3 * (wrap64 (1 + (Int.tmod t8002 (wrap64 ((wrap64 (Int.tdiv t8003 3)) + 1))))))) (wrap64 (2 + (Int.tmod t8001 3)))).bind fun bt8004 => ((spec_MakePower.f k (wrap64 (2 + (Int.tmod t8001 3)))).bind fun t8008 => (if (bt8004.2 != (decide ((wrap64 (3 * (wrap64 (1 + (Int.tmod t8002 (wrap64 ((wrap64 (Int.tdiv t8003 3)) + 1))))))) ≤ (wrap64 (Int.tdiv (wrap64 (t8008 - 3)) 2))))) = true then (some false) else ((impl_WeighingsOf.f bt8004.1).bind fun bt8009 => (if bt8004.2 = true then (if bt8009.2 = true then (if (bt8004.1.length : Int) = (wrap64 (3 * (wrap64 (1 + (Int.tmod t8002 (wrap64 ((wrap64 (Int.tdiv t8003 3)) + 1))))))) then (laws_FnCoins.j0 k l0 (wrap64 (3 * (wrap64 (1 + (Int.tmod t8002 (wrap64 ((wrap64 (Int.tdiv t8003 3)) + 1))))))) bt8004.1 bt8004.2 bt8009.1 ((bt8009.1.length : Int) != (wrap64 (2 + (Int.tmod t8001 3))))) else (laws_FnCoins.j0 k l0 (wrap64 (3 * (wrap64 (1 + (Int.tmod t8002 (wrap64 ((wrap64 (Int.tdiv t8003 3)) + 1))))))) bt8004.1 bt8004.2 bt8009.1 true)) else (laws_FnCoins.j0 k l0 (wrap64 (3 * (wrap64 (1 + (Int.tmod t8002 (wrap64 ((wrap64 (Int.tdiv t8003 3)) + 1))))))) bt8004.1 bt8004.2 bt8009.1 true)) else (laws_FnCoins.j0 k l0 (wrap64 (3 * (wrap64 (1 + (Int.tmod t8002 (wrap64 ((wrap64 (Int.tdiv t8003 3)) + 1))))))) bt8004.1 bt8004.2 bt8009.1 true))))))))) = some r := H
    have A3 := Aside0.mk A30
    clear A30
    replace H := Option.bind_eq_some_iff.mp H
    obtain ⟨t8002, A40, H⟩ := H
    replace H : ((spec_CoinsFor.f k (wrap64 (2 + (Int.tmod t8001 3)))).bind fun t8003 => (if (wrap64 ((wrap64 (Int.tdiv t8003 3)) + 1)) = 0 then (none) else ((impl_CoinWords.f k (wrap64 (3 * (wrap64 (1 + (Int.tmod t8002 (wrap64 ((wrap64 (Int.tdiv t8003 3)) + 1))))))) (wrap64 (2 + (Int.tmod t8001 3)))).bind fun bt8004 => ((spec_MakePower.f k (wrap64 (2 + (Int.tmod t8001 3)))).bind fun t8008 => (if (bt8004.2 != (decide ((wrap64 (3 * (wrap64 (1 + (Int.tmod t8002 (wrap64 ((wrap64 (Int.tdiv t8003 3)) + 1))))))) ≤ (wrap64 (Int.tdiv (wrap64 (t8008 - 3)) 2))))) = true then (some false) else ((impl_WeighingsOf.f bt8004.1).bind fun bt8009 => (if bt8004.2 = true then (if bt8009.2 = true then (if (bt8004.1.length : Int) = (wrap64 (3 * (wrap64 (1 + (Int.tmod t8002 (wrap64 ((wrap64 (Int.tdiv t8003 3)) + 1))))))) then (laws_FnCoins.j0 k l0 (wrap64 (3 * (wrap64 (1 + (Int.tmod t8002 (wrap64 ((wrap64 (Int.tdiv t8003 3)) + 1))))))) bt8004.1 bt8004.2 bt8009.1 ((bt8009.1.length : Int) != (wrap64 (2 + (Int.tmod t8001 3))))) else (laws_FnCoins.j0 k l0 (wrap64 (3 * (wrap64 (1 + (Int.tmod t8002 (wrap64 ((wrap64 (Int.tdiv t8003 3)) + 1))))))) bt8004.1 bt8004.2 bt8009.1 true)) else (laws_FnCoins.j0 k l0 (wrap64 (3 * (wrap64 (1 + (Int.tmod t8002 (wrap64 ((wrap64 (Int.tdiv t8003 3)) + 1))))))) bt8004.1 bt8004.2 bt8009.1 true)) else (laws_FnCoins.j0 k l0 (wrap64 (3 * (wrap64 (1 + (Int.tmod t8002 (wrap64 ((wrap64 (Int.tdiv t8003 3)) + 1))))))) bt8004.1 bt8004.2 bt8009.1 true)))))))) = some r := H
    have A4 := Aside0.mk A40
    clear A40
    replace H := Option.bind_eq_some_iff.mp H
    obtain ⟨t8003, A50, H⟩ := H
    replace H : (if (wrap64 ((wrap64 (Int.tdiv t8003 3)) + 1)) = 0 then (none) else ((impl_CoinWords.f k (wrap64 (3 * (wrap64 (1 + (Int.tmod t8002 (wrap64 ((wrap64 (Int.tdiv t8003 3)) + 1))))))) (wrap64 (2 + (Int.tmod t8001 3)))).bind fun bt8004 => ((spec_MakePower.f k (wrap64 (2 + (Int.tmod t8001 3)))).bind fun t8008 => (if (bt8004.2 != (decide ((wrap64 (3 * (wrap64 (1 + (Int.tmod t8002 (wrap64 ((wrap64 (Int.tdiv t8003 3)) + 1))))))) ≤ (wrap64 (Int.tdiv (wrap64 (t8008 - 3)) 2))))) = true then (some false) else ((impl_WeighingsOf.f bt8004.1).bind fun bt8009 => (if bt8004.2 = true then (if bt8009.2 = true then (if (bt8004.1.length : Int) = (wrap64 (3 * (wrap64 (1 + (Int.tmod t8002 (wrap64 ((wrap64 (Int.tdiv t8003 3)) + 1))))))) then (laws_FnCoins.j0 k l0 (wrap64 (3 * (wrap64 (1 + (Int.tmod t8002 (wrap64 ((wrap64 (Int.tdiv t8003 3)) + 1))))))) bt8004.1 bt8004.2 bt8009.1 ((bt8009.1.length : Int) != (wrap64 (2 + (Int.tmod t8001 3))))) else (laws_FnCoins.j0 k l0 (wrap64 (3 * (wrap64 (1 + (Int.tmod t8002 (wrap64 ((wrap64 (Int.tdiv t8003 3)) + 1))))))) bt8004.1 bt8004.2 bt8009.1 true)) else (laws_FnCoins.j0 k l0 (wrap64 (3 * (wrap64 (1 + (Int.tmod t8002 (wrap64 ((wrap64 (Int.tdiv t8003 3)) + 1))))))) bt8004.1 bt8004.2 bt8009.1 true)) else (laws_FnCoins.j0 k l0 (wrap64 (3 * (wrap64 (1 + (Int.tmod t8002 (wrap64 ((wrap64 (Int.tdiv t8003 3)) + 1))))))) bt8004.1 bt8004.2 bt8009.1 true))))))) = some r := H
    have A5 := Aside0.mk A50
    clear A50
    by_cases c6 : (wrap64 ((wrap64 (Int.tdiv t8003 3)) + 1)) = 0
    · rw [if_pos c6] at H
      exact absurd H (by simp)
    · rw [if_neg c6] at H
      have c6b0 : ((wrap64 ((wrap64 (Int.tdiv t8003 3)) + 1)) == 0) = false := beq_eq_false_iff_ne.mpr c6
      have c6b1 : ((wrap64 ((wrap64 (Int.tdiv t8003 3)) + 1)) != 0) = true := bne_iff_ne.mpr c6
      replace H := Option.bind_eq_some_iff.mp H
      obtain ⟨⟨t8004, t8005⟩, A70, H⟩ := H
      replace H : ((spec_MakePower.f k (wrap64 (2 + (Int.tmod t8001 3)))).bind fun t8008 => (if (t8005 != (decide ((wrap64 (3 * (wrap64 (1 + (Int.tmod t8002 (wrap64 ((wrap64 (Int.tdiv t8003 3)) + 1))))))) ≤ (wrap64 (Int.tdiv (wrap64 (t8008 - 3)) 2))))) = true then (some false) else ((impl_WeighingsOf.f t8004).bind fun bt8009 => (if t8005 = true then (if bt8009.2 = true then (if (t8004.length : Int) = (wrap64 (3 * (wrap64 (1 + (Int.tmod t8002 (wrap64 ((wrap64 (Int.tdiv t8003 3)) + 1))))))) then (laws_FnCoins.j0 k l0 (wrap64 (3 * (wrap64 (1 + (Int.tmod t8002 (wrap64 ((wrap64 (Int.tdiv t8003 3)) + 1))))))) t8004 t8005 bt8009.1 ((bt8009.1.length : Int) != (wrap64 (2 + (Int.tmod t8001 3))))) else (laws_FnCoins.j0 k l0 (wrap64 (3 * (wrap64 (1 + (Int.tmod t8002 (wrap64 ((wrap64 (Int.tdiv t8003 3)) + 1))))))) t8004 t8005 bt8009.1 true)) else (laws_FnCoins.j0 k l0 (wrap64 (3 * (wrap64 (1 + (Int.tmod t8002 (wrap64 ((wrap64 (Int.tdiv t8003 3)) + 1))))))) t8004 t8005 bt8009.1 true)) else (laws_FnCoins.j0 k l0 (wrap64 (3 * (wrap64 (1 + (Int.tmod t8002 (wrap64 ((wrap64 (Int.tdiv t8003 3)) + 1))))))) t8004 t8005 bt8009.1 true))))) = some r := H
      have A7 := Aside0.mk A70
      clear A70
      replace H := Option.bind_eq_some_iff.mp H
      obtain ⟨t8008, A80, H⟩ := H
      replace H : (if (t8005 != (decide ((wrap64 (3 * (wrap64 (1 + (Int.tmod t8002 (wrap64 ((wrap64 (Int.tdiv t8003 3)) + 1))))))) ≤ (wrap64 (Int.tdiv (wrap64 (t8008 - 3)) 2))))) = true then (some false) else ((impl_WeighingsOf.f t8004).bind fun bt8009 => (if t8005 = true then (if bt8009.2 = true then (if (t8004.length : Int) = (wrap64 (3 * (wrap64 (1 + (Int.tmod t8002 (wrap64 ((wrap64 (Int.tdiv t8003 3)) + 1))))))) then (laws_FnCoins.j0 k l0 (wrap64 (3 * (wrap64 (1 + (Int.tmod t8002 (wrap64 ((wrap64 (Int.tdiv t8003 3)) + 1))))))) t8004 t8005 bt8009.1 ((bt8009.1.length : Int) != (wrap64 (2 + (Int.tmod t8001 3))))) else (laws_FnCoins.j0 k l0 (wrap64 (3 * (wrap64 (1 + (Int.tmod t8002 (wrap64 ((wrap64 (Int.tdiv t8003 3)) + 1))))))) t8004 t8005 bt8009.1 true)) else (laws_FnCoins.j0 k l0 (wrap64 (3 * (wrap64 (1 + (Int.tmod t8002 (wrap64 ((wrap64 (Int.tdiv t8003 3)) + 1))))))) t8004 t8005 bt8009.1 true)) else (laws_FnCoins.j0 k l0 (wrap64 (3 * (wrap64 (1 + (Int.tmod t8002 (wrap64 ((wrap64 (Int.tdiv t8003 3)) + 1))))))) t8004 t8005 bt8009.1 true)))) = some r := H
      have A8 := Aside0.mk A80
      clear A80
      by_cases c9 : (t8005 != (decide ((wrap64 (3 * (wrap64 (1 + (Int.tmod t8002 (wrap64 ((wrap64 (Int.tdiv t8003 3)) + 1))))))) ≤ (wrap64 (Int.tdiv (wrap64 (t8008 - 3)) 2))))) = true
      · rw [if_pos c9] at H
        have c9b0 : (t8005 != (decide ((wrap64 (3 * (wrap64 (1 + (Int.tmod t8002 (wrap64 ((wrap64 (Int.tdiv t8003 3)) + 1))))))) ≤ (wrap64 (Int.tdiv (wrap64 (t8008 - 3)) 2))))) = true := c9
        (try (have c9b1 : decide (t8005 = (decide ((wrap64 (3 * (wrap64 (1 + (Int.tmod t8002 (wrap64 ((wrap64 (Int.tdiv t8003 3)) + 1))))))) ≤ (wrap64 (Int.tdiv (wrap64 (t8008 - 3)) 2))))) = false := by simpa using c9))
        (try (have c9b2 : (t8005 == (decide ((wrap64 (3 * (wrap64 (1 + (Int.tmod t8002 (wrap64 ((wrap64 (Int.tdiv t8003 3)) + 1))))))) ≤ (wrap64 (Int.tdiv (wrap64 (t8008 - 3)) 2))))) = false := by simpa using c9))
        (try (have c9b3 : ¬ (t8005 = (decide ((wrap64 (3 * (wrap64 (1 + (Int.tmod t8002 (wrap64 ((wrap64 (Int.tdiv t8003 3)) + 1))))))) ≤ (wrap64 (Int.tdiv (wrap64 (t8008 - 3)) 2))))) := by simpa using c9))
        clear c9
        obtain rfl := Option.some.inj H
        go_enter Try.func7, Try.ntmps7
        go_wp2_with (first | ((with_reducible refine gate_callee (f := 35) rfl ?_); refine goesL_ (some 28) rfl rfl Try.func35 (by kernel_rfl) rfl #[.slice A0 l0.length c0, .int .i64 1] rfl (by (try simp only [List.map_toArray, List.map_cons, List.map_nil]); first | done | rfl | (simp only [List.length_drop, List.length_take]; rfl)) ?_; (with_reducible refine (laws_at.calls _ _ l0 1 t8001 _ ?side1 ?side2 A3.out).mono ?_); (case side1 => repeat (first | exact HR0.out | (with_reducible refine Kd.C_alloc ?_ _) | (with_reducible refine Kd.C_drewN ?_ _) | (with_reducible refine Kd.C_drew ?_))); (case side2 => exact HC0.out); rintro e w' ⟨rfl, ⟨nd, rfl⟩⟩; refine ⟨_, rfl, ?_⟩) | ((with_reducible refine gate_callee (f := 35) rfl ?_); refine goesL_ (some 32) rfl rfl Try.func35 (by kernel_rfl) rfl #[.slice A0 l0.length c0, .int .i64 2] rfl (by (try simp only [List.map_toArray, List.map_cons, List.map_nil]); first | done | rfl | (simp only [List.length_drop, List.length_take]; rfl)) ?_; (with_reducible refine (laws_at.calls _ _ l0 2 t8002 _ ?side1 ?side2 A4.out).mono ?_); (case side1 => repeat (first | exact HR0.out | (with_reducible refine Kd.C_alloc ?_ _) | (with_reducible refine Kd.C_drewN ?_ _) | (with_reducible refine Kd.C_drew ?_))); (case side2 => exact HC0.out); rintro e w' ⟨rfl, ⟨nd, rfl⟩⟩; refine ⟨_, rfl, ?_⟩) | ((with_reducible refine gate_callee (f := 36) rfl ?_); refine goesL_ (some 34) rfl rfl Try.func36 (by kernel_rfl) rfl #[.int .i64 (wrap64 (2 + (Int.tmod t8001 3)))] rfl (by (try simp only [List.map_toArray, List.map_cons, List.map_nil]); first | done | rfl | (simp only [List.length_drop, List.length_take]; rfl)) ?_; (with_reducible refine (spec_CoinsFor.calls k (wrap64 (2 + (Int.tmod t8001 3))) t8003 _ A5.out).mono ?_); rintro e w' ⟨rfl, ⟨nd, rfl⟩⟩; refine ⟨_, rfl, ?_⟩) | ((with_reducible refine gate_callee (f := 33) rfl ?_); refine goesL_ (some 43) rfl rfl Try.func33 (by kernel_rfl) rfl #[.int .i64 (wrap64 (3 * (wrap64 (1 + (Int.tmod t8002 (wrap64 ((wrap64 (Int.tdiv t8003 3)) + 1))))))), .int .i64 (wrap64 (2 + (Int.tmod t8001 3)))] rfl (by (try simp only [List.map_toArray, List.map_cons, List.map_nil]); first | done | rfl | (simp only [List.length_drop, List.length_take]; rfl)) ?_; (with_reducible refine (impl_CoinWords.calls k (wrap64 (3 * (wrap64 (1 + (Int.tmod t8002 (wrap64 ((wrap64 (Int.tdiv t8003 3)) + 1))))))) (wrap64 (2 + (Int.tmod t8001 3))) t8004 t8005 _ A7.out).mono ?_); rintro e w10 ⟨v8006, rfl, ho0, hb⟩; refine ⟨_, rfl, ?_⟩; have n0_ := Aside0.mk (Kd.S_lower ho0 (below_size (by repeat (first | (with_reducible first | exact HB.out | apply below_alloc | apply pw_below_drewN | apply below_drew1) | exact HB.out)))); have n1_ := Aside0.mk (below_step (by repeat (first | (with_reducible first | exact HB.out | apply below_alloc | apply pw_below_drewN | apply below_drew1) | exact HB.out)) hb); clear HB; have HO8007 := n0_; have HB := n1_; clear n0_ n1_; (try clear hb); (try clear hb2); (try clear hk); (try clear hi); (try clear ho0)) | ((with_reducible refine gate_callee (f := 28) rfl ?_); refine goesL_ (some 49) rfl rfl Try.func28 (by kernel_rfl) rfl #[.int .i64 (wrap64 (2 + (Int.tmod t8001 3)))] rfl (by (try simp only [List.map_toArray, List.map_cons, List.map_nil]); first | done | rfl | (simp only [List.length_drop, List.length_take]; rfl)) ?_; (with_reducible refine (spec_MakePower.calls k (wrap64 (2 + (Int.tmod t8001 3))) t8008 _ A8.out).mono ?_); rintro e w11 ⟨rfl, hb⟩; refine ⟨_, rfl, ?_⟩; have n0_ := Aside0.mk (Kd.S_below (by (with_reducible repeat (first | apply Kd.S_alloc | apply Kd.S_drewN | apply Kd.S_drew)); exact HO8007.out) hb); have n1_ := Aside0.mk (below_step (by repeat (first | (with_reducible first | exact HB.out | apply below_alloc | apply pw_below_drewN | apply below_drew1) | exact HB.out)) hb); clear HO8007; clear HB; have HO8007 := n0_; have HB := n1_; clear n0_ n1_; (try clear hb); (try clear hb2); (try clear hk); (try clear hi)))
        go_ret
        exact ⟨by first | rfl | (simp [errW_none, errW_some] <;> rfl) | (simp [*, errW_none, errW_some] <;> rfl), by repeat (first | (with_reducible first | exact HB.out | apply below_alloc | apply pw_below_drewN | apply below_drew1) | exact HB.out)⟩
      · rw [if_neg c9] at H
        have c9b0 : (t8005 != (decide ((wrap64 (3 * (wrap64 (1 + (Int.tmod t8002 (wrap64 ((wrap64 (Int.tdiv t8003 3)) + 1))))))) ≤ (wrap64 (Int.tdiv (wrap64 (t8008 - 3)) 2))))) = false := by simpa using c9
        (try (have c9b1 : decide (t8005 = (decide ((wrap64 (3 * (wrap64 (1 + (Int.tmod t8002 (wrap64 ((wrap64 (Int.tdiv t8003 3)) + 1))))))) ≤ (wrap64 (Int.tdiv (wrap64 (t8008 - 3)) 2))))) = true := by simpa using c9))
        (try (have c9b2 : (t8005 == (decide ((wrap64 (3 * (wrap64 (1 + (Int.tmod t8002 (wrap64 ((wrap64 (Int.tdiv t8003 3)) + 1))))))) ≤ (wrap64 (Int.tdiv (wrap64 (t8008 - 3)) 2))))) = true := by simpa using c9))
        clear c9
        replace H := Option.bind_eq_some_iff.mp H
        obtain ⟨⟨t8009, t8010⟩, A120, H⟩ := H
        replace H : (if t8005 = true then (if t8010 = true then (if (t8004.length : Int) = (wrap64 (3 * (wrap64 (1 + (Int.tmod t8002 (wrap64 ((wrap64 (Int.tdiv t8003 3)) + 1))))))) then (laws_FnCoins.j0 k l0 (wrap64 (3 * (wrap64 (1 + (Int.tmod t8002 (wrap64 ((wrap64 (Int.tdiv t8003 3)) + 1))))))) t8004 t8005 t8009 ((t8009.length : Int) != (wrap64 (2 + (Int.tmod t8001 3))))) else (laws_FnCoins.j0 k l0 (wrap64 (3 * (wrap64 (1 + (Int.tmod t8002 (wrap64 ((wrap64 (Int.tdiv t8003 3)) + 1))))))) t8004 t8005 t8009 true)) else (laws_FnCoins.j0 k l0 (wrap64 (3 * (wrap64 (1 + (Int.tmod t8002 (wrap64 ((wrap64 (Int.tdiv t8003 3)) + 1))))))) t8004 t8005 t8009 true)) else (laws_FnCoins.j0 k l0 (wrap64 (3 * (wrap64 (1 + (Int.tmod t8002 (wrap64 ((wrap64 (Int.tdiv t8003 3)) + 1))))))) t8004 t8005 t8009 true)) = some r := H
        have A12 := Aside0.mk A120
        clear A120
        have HC13 := Aside0.mk H
        clear H
        go_enter Try.func7, Try.ntmps7
        go_upto_region 9 with (first | ((with_reducible refine gate_callee (f := 35) rfl ?_); refine goesL_ (some 28) rfl rfl Try.func35 (by kernel_rfl) rfl #[.slice A0 l0.length c0, .int .i64 1] rfl (by (try simp only [List.map_toArray, List.map_cons, List.map_nil]); first | done | rfl | (simp only [List.length_drop, List.length_take]; rfl)) ?_; (with_reducible refine (laws_at.calls _ _ l0 1 t8001 _ ?side1 ?side2 A3.out).mono ?_); (case side1 => repeat (first | exact HR0.out | (with_reducible refine Kd.C_alloc ?_ _) | (with_reducible refine Kd.C_drewN ?_ _) | (with_reducible refine Kd.C_drew ?_))); (case side2 => exact HC0.out); rintro e w' ⟨rfl, ⟨nd, rfl⟩⟩; refine ⟨_, rfl, ?_⟩) | ((with_reducible refine gate_callee (f := 35) rfl ?_); refine goesL_ (some 32) rfl rfl Try.func35 (by kernel_rfl) rfl #[.slice A0 l0.length c0, .int .i64 2] rfl (by (try simp only [List.map_toArray, List.map_cons, List.map_nil]); first | done | rfl | (simp only [List.length_drop, List.length_take]; rfl)) ?_; (with_reducible refine (laws_at.calls _ _ l0 2 t8002 _ ?side1 ?side2 A4.out).mono ?_); (case side1 => repeat (first | exact HR0.out | (with_reducible refine Kd.C_alloc ?_ _) | (with_reducible refine Kd.C_drewN ?_ _) | (with_reducible refine Kd.C_drew ?_))); (case side2 => exact HC0.out); rintro e w' ⟨rfl, ⟨nd, rfl⟩⟩; refine ⟨_, rfl, ?_⟩) | ((with_reducible refine gate_callee (f := 36) rfl ?_); refine goesL_ (some 34) rfl rfl Try.func36 (by kernel_rfl) rfl #[.int .i64 (wrap64 (2 + (Int.tmod t8001 3)))] rfl (by (try simp only [List.map_toArray, List.map_cons, List.map_nil]); first | done | rfl | (simp only [List.length_drop, List.length_take]; rfl)) ?_; (with_reducible refine (spec_CoinsFor.calls k (wrap64 (2 + (Int.tmod t8001 3))) t8003 _ A5.out).mono ?_); rintro e w' ⟨rfl, ⟨nd, rfl⟩⟩; refine ⟨_, rfl, ?_⟩) | ((with_reducible refine gate_callee (f := 33) rfl ?_); refine goesL_ (some 43) rfl rfl Try.func33 (by kernel_rfl) rfl #[.int .i64 (wrap64 (3 * (wrap64 (1 + (Int.tmod t8002 (wrap64 ((wrap64 (Int.tdiv t8003 3)) + 1))))))), .int .i64 (wrap64 (2 + (Int.tmod t8001 3)))] rfl (by (try simp only [List.map_toArray, List.map_cons, List.map_nil]); first | done | rfl | (simp only [List.length_drop, List.length_take]; rfl)) ?_; (with_reducible refine (impl_CoinWords.calls k (wrap64 (3 * (wrap64 (1 + (Int.tmod t8002 (wrap64 ((wrap64 (Int.tdiv t8003 3)) + 1))))))) (wrap64 (2 + (Int.tmod t8001 3))) t8004 t8005 _ A7.out).mono ?_); rintro e w14 ⟨v8006, rfl, ho0, hb⟩; refine ⟨_, rfl, ?_⟩; have n0_ := Aside0.mk (Kd.S_lower ho0 (below_size (by repeat (first | (with_reducible first | exact HB.out | apply below_alloc | apply pw_below_drewN | apply below_drew1) | exact HB.out)))); have n1_ := Aside0.mk (below_step (by repeat (first | (with_reducible first | exact HB.out | apply below_alloc | apply pw_below_drewN | apply below_drew1) | exact HB.out)) hb); clear HB; have HO8007 := n0_; have HB := n1_; clear n0_ n1_; (try clear hb); (try clear hb2); (try clear hk); (try clear hi); (try clear ho0)) | ((with_reducible refine gate_callee (f := 28) rfl ?_); refine goesL_ (some 49) rfl rfl Try.func28 (by kernel_rfl) rfl #[.int .i64 (wrap64 (2 + (Int.tmod t8001 3)))] rfl (by (try simp only [List.map_toArray, List.map_cons, List.map_nil]); first | done | rfl | (simp only [List.length_drop, List.length_take]; rfl)) ?_; (with_reducible refine (spec_MakePower.calls k (wrap64 (2 + (Int.tmod t8001 3))) t8008 _ A8.out).mono ?_); rintro e w15 ⟨rfl, hb⟩; refine ⟨_, rfl, ?_⟩; have n0_ := Aside0.mk (Kd.S_below (by (with_reducible repeat (first | apply Kd.S_alloc | apply Kd.S_drewN | apply Kd.S_drew)); exact HO8007.out) hb); have n1_ := Aside0.mk (below_step (by repeat (first | (with_reducible first | exact HB.out | apply below_alloc | apply pw_below_drewN | apply below_drew1) | exact HB.out)) hb); clear HO8007; clear HB; have HO8007 := n0_; have HB := n1_; clear n0_ n1_; (try clear hb); (try clear hb2); (try clear hk); (try clear hi); obtain ⟨Ao16, co16, eo16⟩ := Kd.S_slice HO8007.out; subst eo16) | ((with_reducible refine gate_callee (f := 11) rfl ?_); refine goesL_ (some 56) rfl rfl Try.func11 (by kernel_rfl) rfl #[.slice Ao16 t8004.length co16] rfl (by (try simp only [List.map_toArray, List.map_cons, List.map_nil]); first | done | rfl | (simp only [List.length_drop, List.length_take]; rfl)) ?_; (with_reducible refine (impl_WeighingsOf.calls _ _ t8004 t8009 t8010 _ ?side1 ?side2 A12.out).mono ?_); (case side1 => repeat (first | exact (Kd.S_reads' HO8007.out).2.2 | (with_reducible refine Kd.C_alloc ?_ _) | (with_reducible refine Kd.C_drewN ?_ _) | (with_reducible refine Kd.C_drew ?_))); (case side2 => exact (Kd.S_reads' HO8007.out).2.1); rintro e w17 ⟨v8011, rfl, ho0, hb⟩; refine ⟨_, rfl, ?_⟩; have n0_ := Aside0.mk (Kd.S_below (by (with_reducible repeat (first | apply Kd.S_alloc | apply Kd.S_drewN | apply Kd.S_drew)); exact HO8007.out) hb); have n1_ := Aside0.mk (Kd.S_lower ho0 (below_size (by repeat (first | (with_reducible first | exact HB.out | apply below_alloc | apply pw_below_drewN | apply below_drew1) | exact HB.out)))); have n2_ := Aside0.mk (below_step (by repeat (first | (with_reducible first | exact HB.out | apply below_alloc | apply pw_below_drewN | apply below_drew1) | exact HB.out)) hb); clear HO8007; clear HB; have HO8007 := n0_; have HO8012 := n1_; have HB := n2_; clear n0_ n1_ n2_; (try clear hb); (try clear hb2); (try clear hk); (try clear hi); (try clear ho0)))
        (try simp only [Act.put, List.setIfInBounds_toArray, List.set_cons_zero, List.set_cons_succ])
        go_cut [76] (fun v76 wc => ∃ (kq : Nat) (x76_12 : Bool), v76 = .bool x76_12 ∧ Aside0 (laws_FnCoins.j0 kq l0 (wrap64 (3 * (wrap64 (1 + (Int.tmod t8002 (wrap64 ((wrap64 (Int.tdiv t8003 3)) + 1))))))) t8004 t8005 t8009 x76_12 = some r) ∧ Aside0 (kq ≤ k) ∧ Aside0 (Kd.S (Kd.slice 3 (Kd.int .i64)) 47 wc w.heap.size (fun _ => True) (.slice Ao16 t8004.length co16) t8004) ∧ Aside0 (Kd.S k50 50 wc w.heap.size (fun _ => True) v8011 t8009) ∧ Aside0 (Below w.heap.size w wc))
        case first =>
          have H := HC13.out
          clear HC13
          by_cases c18 : t8005 = true
          · subst c18
            have H1 : (if t8010 = true then (if (t8004.length : Int) = (wrap64 (3 * (wrap64 (1 + (Int.tmod t8002 (wrap64 ((wrap64 (Int.tdiv t8003 3)) + 1))))))) then (laws_FnCoins.j0 k l0 (wrap64 (3 * (wrap64 (1 + (Int.tmod t8002 (wrap64 ((wrap64 (Int.tdiv t8003 3)) + 1))))))) t8004 true t8009 ((t8009.length : Int) != (wrap64 (2 + (Int.tmod t8001 3))))) else (laws_FnCoins.j0 k l0 (wrap64 (3 * (wrap64 (1 + (Int.tmod t8002 (wrap64 ((wrap64 (Int.tdiv t8003 3)) + 1))))))) t8004 true t8009 true)) else (laws_FnCoins.j0 k l0 (wrap64 (3 * (wrap64 (1 + (Int.tmod t8002 (wrap64 ((wrap64 (Int.tdiv t8003 3)) + 1))))))) t8004 true t8009 true)) = some r := by rw [if_pos rfl] at H; exact H
            clear H
            have H := H1
            clear H1
            by_cases c19 : t8010 = true
            · subst c19
              have H1 : (if (t8004.length : Int) = (wrap64 (3 * (wrap64 (1 + (Int.tmod t8002 (wrap64 ((wrap64 (Int.tdiv t8003 3)) + 1))))))) then (laws_FnCoins.j0 k l0 (wrap64 (3 * (wrap64 (1 + (Int.tmod t8002 (wrap64 ((wrap64 (Int.tdiv t8003 3)) + 1))))))) t8004 true t8009 ((t8009.length : Int) != (wrap64 (2 + (Int.tmod t8001 3))))) else (laws_FnCoins.j0 k l0 (wrap64 (3 * (wrap64 (1 + (Int.tmod t8002 (wrap64 ((wrap64 (Int.tdiv t8003 3)) + 1))))))) t8004 true t8009 true)) = some r := by rw [if_pos rfl] at H; exact H
              clear H
              have H := H1
              clear H1
              by_cases c20 : (t8004.length : Int) = (wrap64 (3 * (wrap64 (1 + (Int.tmod t8002 (wrap64 ((wrap64 (Int.tdiv t8003 3)) + 1)))))))
              · rw [if_pos c20] at H
                have c20b0 : ((t8004.length : Int) == (wrap64 (3 * (wrap64 (1 + (Int.tmod t8002 (wrap64 ((wrap64 (Int.tdiv t8003 3)) + 1)))))))) = true := beq_iff_eq.mpr c20
                have c20b1 : ((t8004.length : Int) != (wrap64 (3 * (wrap64 (1 + (Int.tmod t8002 (wrap64 ((wrap64 (Int.tdiv t8003 3)) + 1)))))))) = false := bne_eq_false_iff_eq.mpr c20
                clear c20
                (first | rw [c20b0] | (simp only [i64_w, i32_w]; rw [c20b0]) | skip)
                have H' := Aside0.mk H
                clear H
                obtain ⟨Ao21, co21, eo21⟩ := Kd.S_slice HO8012.out
                subst eo21
                go_wp2
                go_meet
                case rel => exact ⟨_, (((t8009.length : Int) != (wrap64 (2 + (Int.tmod t8001 3))))), (by first | rfl | (simp; done) | (simp [*]; done)), H', ⟨by first | omega | exact Nat.le_refl _⟩, ⟨by (with_reducible repeat (first | apply Kd.S_alloc | apply Kd.S_drewN | apply Kd.S_drew)); exact HO8007.out⟩, ⟨by (with_reducible repeat (first | apply Kd.S_alloc | apply Kd.S_drewN | apply Kd.S_drew)); exact HO8012.out⟩, ⟨by repeat (first | (with_reducible first | exact HB.out | apply below_alloc | apply pw_below_drewN | apply below_drew1) | exact HB.out)⟩⟩
              · rw [if_neg c20] at H
                have c20b0 : ((t8004.length : Int) == (wrap64 (3 * (wrap64 (1 + (Int.tmod t8002 (wrap64 ((wrap64 (Int.tdiv t8003 3)) + 1)))))))) = false := beq_eq_false_iff_ne.mpr c20
                have c20b1 : ((t8004.length : Int) != (wrap64 (3 * (wrap64 (1 + (Int.tmod t8002 (wrap64 ((wrap64 (Int.tdiv t8003 3)) + 1)))))))) = true := bne_iff_ne.mpr c20
                (first | rw [c20b0] | (simp only [i64_w, i32_w]; rw [c20b0]) | skip)
                have H' := Aside0.mk H
                clear H
                go_wp2
                go_meet
                case rel => exact ⟨_, (true), (by first | rfl | (simp; done) | (simp [*]; done)), H', ⟨by first | omega | exact Nat.le_refl _⟩, ⟨by (with_reducible repeat (first | apply Kd.S_alloc | apply Kd.S_drewN | apply Kd.S_drew)); exact HO8007.out⟩, ⟨by (with_reducible repeat (first | apply Kd.S_alloc | apply Kd.S_drewN | apply Kd.S_drew)); exact HO8012.out⟩, ⟨by repeat (first | (with_reducible first | exact HB.out | apply below_alloc | apply pw_below_drewN | apply below_drew1) | exact HB.out)⟩⟩
            · replace c19 := Bool.eq_false_iff.mpr c19
              subst c19
              have H1 : (laws_FnCoins.j0 k l0 (wrap64 (3 * (wrap64 (1 + (Int.tmod t8002 (wrap64 ((wrap64 (Int.tdiv t8003 3)) + 1))))))) t8004 true t8009 true) = some r := by rw [if_neg (show ¬ (false = true) by decide)] at H; exact H
              clear H
              have H := H1
              clear H1
              have H' := Aside0.mk H
              clear H
              go_wp2
              go_meet
              case rel => exact ⟨_, (true), (by first | rfl | (simp; done) | (simp [*]; done)), H', ⟨by first | omega | exact Nat.le_refl _⟩, ⟨by (with_reducible repeat (first | apply Kd.S_alloc | apply Kd.S_drewN | apply Kd.S_drew)); exact HO8007.out⟩, ⟨by (with_reducible repeat (first | apply Kd.S_alloc | apply Kd.S_drewN | apply Kd.S_drew)); exact HO8012.out⟩, ⟨by repeat (first | (with_reducible first | exact HB.out | apply below_alloc | apply pw_below_drewN | apply below_drew1) | exact HB.out)⟩⟩
          · replace c18 := Bool.eq_false_iff.mpr c18
            subst c18
            have H1 : (laws_FnCoins.j0 k l0 (wrap64 (3 * (wrap64 (1 + (Int.tmod t8002 (wrap64 ((wrap64 (Int.tdiv t8003 3)) + 1))))))) t8004 false t8009 true) = some r := by rw [if_neg (show ¬ (false = true) by decide)] at H; exact H
            clear H
            have H := H1
            clear H1
            have H' := Aside0.mk H
            clear H
            go_wp2
            go_meet
            case rel => exact ⟨_, (true), (by first | rfl | (simp; done) | (simp [*]; done)), H', ⟨by first | omega | exact Nat.le_refl _⟩, ⟨by (with_reducible repeat (first | apply Kd.S_alloc | apply Kd.S_drewN | apply Kd.S_drew)); exact HO8007.out⟩, ⟨by (with_reducible repeat (first | apply Kd.S_alloc | apply Kd.S_drewN | apply Kd.S_drew)); exact HO8012.out⟩, ⟨by repeat (first | (with_reducible first | exact HB.out | apply below_alloc | apply pw_below_drewN | apply below_drew1) | exact HB.out)⟩⟩
        case rest =>
          clear HC13
          try clear c1
          try clear c2
          try clear c2b0
          try clear c2b1
          try clear p2
          try clear c3
          try clear c6
          try clear c6b0
          try clear c6b1
          try clear p6
          try clear c7
          try clear c9
          try clear c9b0
          try clear c9b1
          try clear c9b2
          try clear c11
          try clear c18
          try clear c19
          try clear c20
          try clear c20b0
          try clear c20b1
          obtain ⟨kq, x76_12, rfl, HA, HJ12, HO_5, HO_7, HB⟩ := hcut
          cases kq with
          | zero => exact absurd HA.out (by simp [laws_FnCoins.j0])
          | succ kj12 =>
            have H := HA.out
            clear HA
            simp only [laws_FnCoins.j0] at H
            by_cases c22 : x76_12 = true
            · subst c22
              have H1 : (some (!t8005)) = some r := by rw [if_pos rfl] at H; exact H
              clear H
              have H := H1
              clear H1
              obtain rfl := Option.some.inj H
              go_wp2
              go_ret
              exact ⟨by first | rfl | (simp [errW_none, errW_some] <;> rfl) | (simp [*, errW_none, errW_some] <;> rfl), by repeat (first | (with_reducible first | exact HB.out | apply below_alloc | apply pw_below_drewN | apply below_drew1) | exact HB.out)⟩
            · replace c22 := Bool.eq_false_iff.mpr c22
              subst c22
              have H1 : ((laws_at.f l0 3).bind fun t8013 => (if (wrap64 (3 * (wrap64 (1 + (Int.tmod t8002 (wrap64 ((wrap64 (Int.tdiv t8003 3)) + 1))))))) = 0 then (none) else ((laws_trits.f).bind fun t8014 => (laws_FnCoins.l0 kj12 (wrap64 (3 * (wrap64 (1 + (Int.tmod t8002 (wrap64 ((wrap64 (Int.tdiv t8003 3)) + 1))))))) t8004 t8009 (Int.tmod t8013 (wrap64 (3 * (wrap64 (1 + (Int.tmod t8002 (wrap64 ((wrap64 (Int.tdiv t8003 3)) + 1)))))))) t8014 (t8014.length : Int) 0)))) = some r := by rw [if_neg (show ¬ (false = true) by decide)] at H; exact H
              clear H
              have H := H1
              clear H1
              replace H := Option.bind_eq_some_iff.mp H
              obtain ⟨t8013, A230, H⟩ := H
              replace H : (if (wrap64 (3 * (wrap64 (1 + (Int.tmod t8002 (wrap64 ((wrap64 (Int.tdiv t8003 3)) + 1))))))) = 0 then (none) else ((laws_trits.f).bind fun t8014 => (laws_FnCoins.l0 kj12 (wrap64 (3 * (wrap64 (1 + (Int.tmod t8002 (wrap64 ((wrap64 (Int.tdiv t8003 3)) + 1))))))) t8004 t8009 (Int.tmod t8013 (wrap64 (3 * (wrap64 (1 + (Int.tmod t8002 (wrap64 ((wrap64 (Int.tdiv t8003 3)) + 1)))))))) t8014 (t8014.length : Int) 0))) = some r := H
              have A23 := Aside0.mk A230
              clear A230
              by_cases c24 : (wrap64 (3 * (wrap64 (1 + (Int.tmod t8002 (wrap64 ((wrap64 (Int.tdiv t8003 3)) + 1))))))) = 0
              · rw [if_pos c24] at H
                exact absurd H (by simp)
              · rw [if_neg c24] at H
                have c24b0 : ((wrap64 (3 * (wrap64 (1 + (Int.tmod t8002 (wrap64 ((wrap64 (Int.tdiv t8003 3)) + 1))))))) == 0) = false := beq_eq_false_iff_ne.mpr c24
                have c24b1 : ((wrap64 (3 * (wrap64 (1 + (Int.tmod t8002 (wrap64 ((wrap64 (Int.tdiv t8003 3)) + 1))))))) != 0) = true := bne_iff_ne.mpr c24
                replace H := Option.bind_eq_some_iff.mp H
                obtain ⟨t8014, A250, H⟩ := H
                replace H : (laws_FnCoins.l0 kj12 (wrap64 (3 * (wrap64 (1 + (Int.tmod t8002 (wrap64 ((wrap64 (Int.tdiv t8003 3)) + 1))))))) t8004 t8009 (Int.tmod t8013 (wrap64 (3 * (wrap64 (1 + (Int.tmod t8002 (wrap64 ((wrap64 (Int.tdiv t8003 3)) + 1)))))))) t8014 (t8014.length : Int) 0) = some r := H
                have A25 := Aside0.mk A250
                clear A250
                have H' := Aside0.mk H
                clear H
                go_wp2_with (first | ((with_reducible refine gate_callee (f := 35) rfl ?_); refine goesL_ (some 80) rfl rfl Try.func35 (by kernel_rfl) rfl #[.slice A0 l0.length c0, .int .i64 3] rfl (by (try simp only [List.map_toArray, List.map_cons, List.map_nil]); first | done | rfl | (simp only [List.length_drop, List.length_take]; rfl)) ?_; (with_reducible refine (laws_at.calls _ _ l0 3 t8013 _ ?side1 ?side2 A23.out).mono ?_); (case side1 => repeat (first | exact (Kd.C_below HR0.out HB.out) | (with_reducible refine Kd.C_alloc ?_ _) | (with_reducible refine Kd.C_drewN ?_ _) | (with_reducible refine Kd.C_drew ?_))); (case side2 => exact HC0.out); rintro e w' ⟨rfl, ⟨nd, rfl⟩⟩; refine ⟨_, rfl, ?_⟩) | ((with_reducible refine gate_callee (f := 37) rfl ?_); refine goesL_ (some 83) rfl rfl Try.func37 (by kernel_rfl) rfl #[] rfl (by (try simp only [List.map_toArray, List.map_cons, List.map_nil]); first | done | rfl | (simp only [List.length_drop, List.length_take]; rfl)) ?_; (with_reducible refine (laws_trits.calls  t8014 _ A25.out).mono ?_); rintro e w26 ⟨v8015, rfl, ho0, hb⟩; refine ⟨_, rfl, ?_⟩; have n0_ := Aside0.mk (Kd.S_elder' (by (with_reducible repeat (first | apply Kd.S_alloc | apply Kd.S_drewN | apply Kd.S_drew)); exact HO_5.out) (Kd.R_base ho0) hb); have n1_ := Aside0.mk (Kd.S_elder' (by (with_reducible repeat (first | apply Kd.S_alloc | apply Kd.S_drewN | apply Kd.S_drew)); exact HO_7.out) (Kd.R_base ho0) hb); have n2_ := Aside0.mk (Kd.R_lower ho0 (below_size (by repeat (first | (with_reducible first | exact HB.out | apply below_alloc | apply pw_below_drewN | apply below_drew1) | exact HB.out)))); have n3_ := Aside0.mk (below_step (by repeat (first | (with_reducible first | exact HB.out | apply below_alloc | apply pw_below_drewN | apply below_drew1) | exact HB.out)) hb); clear HO_5; clear HO_7; clear HB; have HO_5 := n0_; have HO_7 := n1_; have HO8016 := n2_; have HB := n3_; clear n0_ n1_ n2_ n3_; (try clear hb); (try clear hb2); (try clear hk); (try clear hi); (try clear ho0); obtain ⟨Ao27, co27, eo27⟩ := Kd.R_slice HO8016.out; subst eo27))
                go_loopg [85] kj12 (fun kq v85 w' => ∃ (x83_2 : List Int) (x85_2 : Int), v85 = .int .i64 x85_2 ∧ Aside0 (laws_FnCoins.l0 kq (wrap64 (3 * (wrap64 (1 + (Int.tmod t8002 (wrap64 ((wrap64 (Int.tdiv t8003 3)) + 1))))))) t8004 t8009 (Int.tmod t8013 (wrap64 (3 * (wrap64 (1 + (Int.tmod t8002 (wrap64 ((wrap64 (Int.tdiv t8003 3)) + 1)))))))) x83_2 (t8014.length : Int) x85_2 = some r) ∧ Aside0 (kq ≤ kj12) ∧ Aside0 (Kd.S (Kd.slice 3 (Kd.int .i64)) 47 w' w.heap.size (fun k_ => some k_ ≠ ((.slice Ao27 t8014.length co27) : Value).ownBlock) (.slice Ao16 t8004.length co16) t8004) ∧ Aside0 (Kd.S k50 50 w' w.heap.size (fun k_ => some k_ ≠ ((.slice Ao27 t8014.length co27) : Value).ownBlock) v8011 t8009) ∧ Aside0 (Kd.R (Kd.int .i64) 3 w' w.heap.size (fun _ => True) (.slice Ao27 t8014.length co27) x83_2) ∧ Aside0 (Below w.heap.size w w'))
                case atStart => exact ⟨(t8014), (0), (by first | rfl | (simp; done) | (simp [*]; done)), H', ⟨Nat.le_refl _⟩, ⟨by (with_reducible repeat (first | apply Kd.S_alloc | apply Kd.S_drewN | apply Kd.S_drew)); exact Kd.S_mono HO_5.out (fun _ hk => hk.2)⟩, ⟨by (with_reducible repeat (first | apply Kd.S_alloc | apply Kd.S_drewN | apply Kd.S_drew)); exact Kd.S_mono HO_7.out (fun _ hk => hk.2)⟩, ⟨by (with_reducible repeat (first | apply Kd.R_alloc | apply Kd.R_drewN | apply Kd.R_drew)); exact HO8016.out⟩, ⟨by repeat (first | (with_reducible first | exact HB.out | apply below_alloc | apply pw_below_drewN | apply below_drew1) | exact HB.out)⟩⟩
                case round =>
                  clear H'
                  try clear c1
                  try clear c2
                  try clear c2b0
                  try clear c2b1
                  try clear p2
                  try clear c3
                  try clear c6
                  try clear c6b0
                  try clear c6b1
                  try clear p6
                  try clear c7
                  try clear c9
                  try clear c9b0
                  try clear c9b1
                  try clear c9b2
                  try clear c11
                  try clear c18
                  try clear c19
                  try clear c20
                  try clear c20b0
                  try clear c20b1
                  try clear c22
                  try clear c24
                  try clear c24b0
                  try clear c24b1
                  try clear p2
                  try clear p6
                  obtain ⟨x83_2, x85_2, rfl, HA, HK2, HO_5, HO_7, HO_83, HB⟩ := hrel
                  have hl83_2 := (Kd.R_reads' HO_83.out).1
                  rw [hl83_2] at HO_83
                  (try simp only [hl83_2])
                  (try simp only [hl83_2] at HO_5)
                  (try simp only [hl83_2] at HO_7)
                  cases gk with
                  | zero => exact absurd HA.out (by simp [laws_FnCoins.l0])
                  | succ k2 =>
                    have H := HA.out
                    clear HA
                    simp only [laws_FnCoins.l0] at H
                    by_cases c28 : x85_2 < (t8014.length : Int)
                    · rw [if_pos c28] at H
                      have c28b0 : decide (x85_2 < (t8014.length : Int)) = true := decide_eq_true c28
                      clear c28
                      by_cases c29 : 0 ≤ x85_2
                      · rw [if_pos c29] at H
                        have c29b0 : decide (0 ≤ x85_2) = true := decide_eq_true c29
                        clear c29
                        by_cases c30 : x85_2 < (x83_2.length : Int)
                        · rw [if_pos c30] at H
                          have c30b0 : decide (x85_2 < (x83_2.length : Int)) = true := decide_eq_true c30
                          clear c30
                          obtain ⟨y8018, hy8018⟩ : ∃ y_ : List Int, y_ = (([] : List Int)) := ⟨_, rfl⟩
                          replace H : (laws_FnCoins.l1 k2 (wrap64 (3 * (wrap64 (1 + (Int.tmod t8002 (wrap64 ((wrap64 (Int.tdiv t8003 3)) + 1))))))) t8004 t8009 (Int.tmod t8013 (wrap64 (3 * (wrap64 (1 + (Int.tmod t8002 (wrap64 ((wrap64 (Int.tdiv t8003 3)) + 1)))))))) (rd x83_2 x85_2) y8018 0 x83_2 (t8014.length : Int) x85_2) = some r := by first | (rw [hy8018]; with_reducible exact H) | (have H2_ := (Option.bind_some _ _).symm.trans H; rw [hy8018]; with_reducible exact H2_) | (have H2_ := (Option.bind_some _ _).symm.trans H; with_reducible exact H2_) | with_reducible exact H | (rw [hy8018]; exact H) | exact H
                          have Ny8018 := Aside0.mk hy8018
                          clear hy8018
                          have H' := Aside0.mk H
                          clear H
                          have p8017 : 0 ≤ (x85_2 : Int) := of_decide_eq_true (by first | (with_reducible assumption) | assumption)
                          have q8017 : x85_2 < (x83_2.length : Int) := of_decide_eq_true (by first | (with_reducible assumption) | assumption)
                          obtain ⟨ad8017, e8017, hx8017_0⟩ := Kd.at_int (Kd.R_reads' HO_83.out).2.2 x85_2 p8017 q8017
                          cases e8017
                          replace p8017 := eq_true p8017
                          replace q8017 := eq_true q8017
                          go_wp2_with (first | ((with_reducible refine gate_dst (N := 89) rfl ?_); (try (refine gate_guard (by rfl) ?_; dsimp only)); refine Kd.R_lit (Kd.int .i64) _ 3 ?hg (N := 89) ?hd (xs := ([] : List Int)) (inner := []) (ok := fun _ => True) (okp := fun _ => True) ?hr ?hp (fun _ hk => hk) trivial (Below.refl _ _) (Nat.le_refl _) (by simp) ?_; (case hd => rfl); (case hg => rfl); (case hr => first | (go_simp; done) | (go_simp; rfl)); (case hp => exact (Reps.none _ _)); intro v8019 w31 ho32 hb hg_ hnew_; clear hg_ hnew_; (first | rw [← Ny8018.out] at ho32 | (simp only [Int.reduceToNat] at ho32; rw [← Ny8018.out] at ho32)); have n0_ := Aside0.mk (Kd.S_elder' (by (with_reducible repeat (first | apply Kd.S_alloc | apply Kd.S_drewN | apply Kd.S_drew)); exact HO_5.out) (Kd.R_base ho32) hb); have n1_ := Aside0.mk (Kd.S_elder' (by (with_reducible repeat (first | apply Kd.S_alloc | apply Kd.S_drewN | apply Kd.S_drew)); exact HO_7.out) (Kd.R_base ho32) hb); have n2_ := Aside0.mk (Kd.R_elder' (by (with_reducible repeat (first | apply Kd.R_alloc | apply Kd.R_drewN | apply Kd.R_drew)); exact HO_83.out) (Kd.R_base ho32) hb); have n3_ := Aside0.mk (Kd.R_lower (Kd.R_new' ho32 (Kd.R_lt (by (with_reducible repeat (first | apply Kd.R_alloc | apply Kd.R_drewN | apply Kd.R_drew)); exact HO_83.out))) (below_size (by repeat (first | (with_reducible first | exact HB.out | apply below_alloc | apply pw_below_drewN | apply below_drew1) | exact HB.out)))); have n4_ := Aside0.mk (below_step (by repeat (first | (with_reducible first | exact HB.out | apply below_alloc | apply pw_below_drewN | apply below_drew1) | exact HB.out)) hb); clear HO_5; clear HO_7; clear HO_83; clear HB; have HO_5 := n0_; have HO_7 := n1_; have HO_83 := n2_; have HO8020 := n3_; have HB := n4_; clear n0_ n1_ n2_ n3_ n4_; clear hb ho32))
                          go_loopg [12, 13] k2 (fun kq v12 v13 w' => ∃ (x12_3 : List Int) (x13_3 : Int), v13 = .int .i64 x13_3 ∧ Aside0 (laws_FnCoins.l1 kq (wrap64 (3 * (wrap64 (1 + (Int.tmod t8002 (wrap64 ((wrap64 (Int.tdiv t8003 3)) + 1))))))) t8004 t8009 (Int.tmod t8013 (wrap64 (3 * (wrap64 (1 + (Int.tmod t8002 (wrap64 ((wrap64 (Int.tdiv t8003 3)) + 1)))))))) (rd x83_2 x85_2) x12_3 x13_3 x83_2 (t8014.length : Int) x85_2 = some r) ∧ Aside0 (kq ≤ k2) ∧ Aside0 (Kd.S (Kd.slice 3 (Kd.int .i64)) 47 w' w.heap.size (fun k_ => some k_ ≠ (v12 : Value).ownBlock ∧ some k_ ≠ ((.slice (some ad8017) x83_2.length co27) : Value).ownBlock) (.slice Ao16 t8004.length co16) t8004) ∧ Aside0 (Kd.S k50 50 w' w.heap.size (fun k_ => some k_ ≠ (v12 : Value).ownBlock ∧ some k_ ≠ ((.slice (some ad8017) x83_2.length co27) : Value).ownBlock) v8011 t8009) ∧ Aside0 (Kd.R (Kd.int .i64) 3 w' w.heap.size (fun k_ => some k_ ≠ ((.slice (some ad8017) x83_2.length co27) : Value).ownBlock) v12 x12_3) ∧ Aside0 (Kd.R (Kd.int .i64) 3 w' w.heap.size (fun k_ => some k_ ≠ (v12 : Value).ownBlock) (.slice (some ad8017) x83_2.length co27) x83_2) ∧ Aside0 (Below w.heap.size w w'))
                          case atStart => exact ⟨(y8018), (0), (by first | rfl | (simp; done) | (simp [*]; done)), H', ⟨Nat.le_refl _⟩, ⟨by (try simp only [hl83_2]); (with_reducible repeat (first | apply Kd.S_alloc | apply Kd.S_drewN | apply Kd.S_drew)); exact Kd.S_mono HO_5.out (fun _ hk => ⟨hk.2, hk.1⟩)⟩, ⟨by (try simp only [hl83_2]); (with_reducible repeat (first | apply Kd.S_alloc | apply Kd.S_drewN | apply Kd.S_drew)); exact Kd.S_mono HO_7.out (fun _ hk => ⟨hk.2, hk.1⟩)⟩, ⟨by (try simp only [hl83_2]); (with_reducible repeat (first | apply Kd.R_alloc | apply Kd.R_drewN | apply Kd.R_drew)); exact Kd.R_mono HO8020.out (fun _ hk => hk.2)⟩, ⟨by (try simp only [hl83_2]); (with_reducible repeat (first | apply Kd.R_alloc | apply Kd.R_drewN | apply Kd.R_drew)); exact Kd.R_mono HO_83.out (fun _ hk => hk.2)⟩, ⟨by repeat (first | (with_reducible first | exact HB.out | apply below_alloc | apply pw_below_drewN | apply below_drew1) | exact HB.out)⟩⟩
                          case round =>
                            clear H'
                            try clear c1
                            try clear c2
                            try clear c2b0
                            try clear c2b1
                            try clear p2
                            try clear c3
                            try clear c6
                            try clear c6b0
                            try clear c6b1
                            try clear p6
                            try clear c7
                            try clear p8
                            try clear q8
                            try clear hx8
                            try clear c9
                            try clear c9b0
                            try clear c9b1
                            try clear c9b2
                            try clear c11
                            try clear c18
                            try clear c19
                            try clear c20
                            try clear c20b0
                            try clear c20b1
                            try clear c22
                            try clear c24
                            try clear c24b0
                            try clear c24b1
                            try clear c28
                            try clear c28b0
                            try clear c29
                            try clear c29b0
                            try clear c30
                            try clear c30b0
                            try clear hx8017_0
                            try clear p2
                            try clear p6
                            try clear p8017
                            try clear q8017
                            obtain ⟨x12_3, x13_3, rfl, HA, HK3, HO_5, HO_7, HO_12, HO_83, HB⟩ := hrel
                            cases gk with
                            | zero => exact absurd HA.out (by simp [laws_FnCoins.l1])
                            | succ k3 =>
                              have H := HA.out
                              clear HA
                              simp only [laws_FnCoins.l1] at H
                              by_cases c33 : x13_3 < (wrap64 (3 * (wrap64 (1 + (Int.tmod t8002 (wrap64 ((wrap64 (Int.tdiv t8003 3)) + 1)))))))
                              · rw [if_pos c33] at H
                                have c33b0 : decide (x13_3 < (wrap64 (3 * (wrap64 (1 + (Int.tmod t8002 (wrap64 ((wrap64 (Int.tdiv t8003 3)) + 1)))))))) = true := decide_eq_true c33
                                clear c33
                                by_cases c34 : x12_3.length < 17592186044416
                                · rw [if_pos c34] at H
                                  have LMc34 := Aside0.mk c34
                                  clear c34
                                  obtain ⟨y8021, hy8021⟩ : ∃ y_ : List Int, y_ = (x12_3 ++ [10]) := ⟨_, rfl⟩
                                  replace H : (laws_FnCoins.l1 k3 (wrap64 (3 * (wrap64 (1 + (Int.tmod t8002 (wrap64 ((wrap64 (Int.tdiv t8003 3)) + 1))))))) t8004 t8009 (Int.tmod t8013 (wrap64 (3 * (wrap64 (1 + (Int.tmod t8002 (wrap64 ((wrap64 (Int.tdiv t8003 3)) + 1)))))))) (rd x83_2 x85_2) y8021 (wrap64 (x13_3 + 1)) x83_2 (t8014.length : Int) x85_2) = some r := by first | (rw [hy8021]; with_reducible exact H) | (have H2_ := (Option.bind_some _ _).symm.trans H; rw [hy8021]; with_reducible exact H2_) | (have H2_ := (Option.bind_some _ _).symm.trans H; with_reducible exact H2_) | with_reducible exact H | (rw [hy8021]; exact H) | exact H
                                  have Ny8021 := Aside0.mk hy8021
                                  clear hy8021
                                  have H' := Aside0.mk H
                                  clear H
                                  go_wp2_with (first | ((with_reducible refine gate_builtin (b := .append) (xs := #[.tmp 95, .tmp 96]) rfl ?_); (try (refine gate_guard (by rfl) ?_; dsimp only)); at_builtin; refine Kd.R_append (Kd.int .i64) (w0 := w) w.heap.size rfl (.tmp 95) (.tmp 96) 47 3 (.int .i64 0) 8 rfl Try.underlying47 info3 rfl (by decide) (by omega) u12 x12_3 10 [.int .i64 10] (fun k_ => some k_ ≠ (.slice (some ad8017) x83_2.length co27 : Value).ownBlock) (fun _ => False) rfl rfl ?aP (fun _ hk => hk.elim) ?aF ?aO ?aB ?aS ?aL ?_; (case aP => exact rfl); (case aB => exact (by repeat (first | (with_reducible first | exact HB.out | apply below_alloc | apply pw_below_drewN | apply below_drew1) | exact HB.out))); (case aF => exact (fun k_ hk => Kd.fresh' (Kd.R_lt (by (with_reducible repeat (first | apply Kd.R_alloc | apply Kd.R_drewN | apply Kd.R_drew)); exact HO_83.out)) k_ hk)); (case aO => exact (by (with_reducible repeat (first | apply Kd.R_alloc | apply Kd.R_drewN | apply Kd.R_drew)); exact HO_12.out)); (case aS => exact (below_size (by repeat (first | (with_reducible first | exact HB.out | apply below_alloc | apply pw_below_drewN | apply below_drew1) | exact HB.out)))); (case aL => have := LMc34.out; omega); intro v8022 w35 ho hb hg hat; rw [← Ny8021.out] at ho; have n0_ := Aside0.mk (Kd.S_after (ok := (fun k_ => some k_ ≠ (.slice (some ad8017) x83_2.length co27 : Value).ownBlock)) (by (with_reducible repeat (first | apply Kd.S_alloc | apply Kd.S_drewN | apply Kd.S_drew)); exact Kd.S_mono HO_5.out (fun _ hk => ⟨hk.2, hk.1⟩)) hg hat); have n1_ := Aside0.mk (Kd.S_after (ok := (fun k_ => some k_ ≠ (.slice (some ad8017) x83_2.length co27 : Value).ownBlock)) (by (with_reducible repeat (first | apply Kd.S_alloc | apply Kd.S_drewN | apply Kd.S_drew)); exact Kd.S_mono HO_7.out (fun _ hk => ⟨hk.2, hk.1⟩)) hg hat); have n2_ := Aside0.mk (Kd.R_after (ok := (fun _ => True)) (by (with_reducible repeat (first | apply Kd.R_alloc | apply Kd.R_drewN | apply Kd.R_drew)); exact Kd.R_mono HO_83.out (fun _ hk => ⟨trivial, hk⟩)) hg hat); have n3_ := Aside0.mk (hb); have n4_ := Aside0.mk (ho); clear HO_5; clear HO_7; clear HO_83; clear HB; clear HO_12; have HO_5 := n0_; have HO_7 := n1_; have HO_83 := n2_; have HB := n3_; have HO8023 := n4_; clear n0_ n1_ n2_ n3_ n4_; clear ho hb hg hat))
                                  go_roundg k3
                                  case measure => have := HJ12.out; have := HK2.out; have := HK3.out; omega
                                  case rel => exact ⟨(y8021), (wrap64 (x13_3 + 1)), (by first | rfl | (simp; done) | (simp [*]; done)), H', ⟨by have := HJ12.out; have := HK2.out; have := HK3.out; omega⟩, ⟨by (try simp only [hl83_2]); (with_reducible repeat (first | apply Kd.S_alloc | apply Kd.S_drewN | apply Kd.S_drew)); exact Kd.S_mono HO_5.out (fun _ hk => ⟨hk.2, hk.1⟩)⟩, ⟨by (try simp only [hl83_2]); (with_reducible repeat (first | apply Kd.S_alloc | apply Kd.S_drewN | apply Kd.S_drew)); exact Kd.S_mono HO_7.out (fun _ hk => ⟨hk.2, hk.1⟩)⟩, ⟨by (try simp only [hl83_2]); (with_reducible repeat (first | apply Kd.R_alloc | apply Kd.R_drewN | apply Kd.R_drew)); exact HO8023.out⟩, ⟨by (try simp only [hl83_2]); (with_reducible repeat (first | apply Kd.R_alloc | apply Kd.R_drewN | apply Kd.R_drew)); exact Kd.R_mono HO_83.out (fun _ hk => hk.2)⟩, ⟨by repeat (first | (with_reducible first | exact HB.out | apply below_alloc | apply pw_below_drewN | apply below_drew1) | exact HB.out)⟩⟩
                                · rw [if_neg c34] at H
                                  exact absurd H (by simp)
                              · rw [if_neg c33] at H
                                have c33b0 : decide (x13_3 < (wrap64 (3 * (wrap64 (1 + (Int.tmod t8002 (wrap64 ((wrap64 (Int.tdiv t8003 3)) + 1)))))))) = false := decide_eq_false c33
                                clear c33
                                obtain ⟨ji36, hji36⟩ : ∃ j_ : Int, (Int.tmod t8013 (wrap64 (3 * (wrap64 (1 + (Int.tmod t8002 (wrap64 ((wrap64 (Int.tdiv t8003 3)) + 1)))))))) = j_ := ⟨_, rfl⟩
                                replace H : (if 0 ≤ (ji36) then (if (ji36) < (x12_3.length : Int) then (laws_FnCoins.l2 k3 (wrap64 (3 * (wrap64 (1 + (Int.tmod t8002 (wrap64 ((wrap64 (Int.tdiv t8003 3)) + 1))))))) t8004 t8009 (ji36) (rd x83_2 x85_2) (x12_3.set ((ji36) : Int).toNat (wrap64 ((rd x12_3 (ji36)) + (rd x83_2 x85_2)))) (([] : List Int)) x83_2 (t8014.length : Int) x85_2 t8009 (t8009.length : Int) 0) else (none)) else (none)) = some r := by first | (rw [hji36] at H; exact H) | (simp only [hji36] at H ⊢; exact H)
                                by_cases c37 : 0 ≤ (ji36)
                                · rw [if_pos c37] at H
                                  have c37b0 : decide (0 ≤ (ji36)) = true := decide_eq_true c37
                                  clear c37
                                  by_cases c38 : (ji36) < (x12_3.length : Int)
                                  · rw [if_pos c38] at H
                                    have c38b0 : decide ((ji36) < (x12_3.length : Int)) = true := decide_eq_true c38
                                    clear c38
                                    obtain ⟨y8025, hy8025⟩ : ∃ y_ : List Int, y_ = (x12_3.set ((ji36) : Int).toNat (wrap64 ((rd x12_3 (ji36)) + (rd x83_2 x85_2)))) := ⟨_, rfl⟩
                                    replace H : (laws_FnCoins.l2 k3 (wrap64 (3 * (wrap64 (1 + (Int.tmod t8002 (wrap64 ((wrap64 (Int.tdiv t8003 3)) + 1))))))) t8004 t8009 (ji36) (rd x83_2 x85_2) y8025 (([] : List Int)) x83_2 (t8014.length : Int) x85_2 t8009 (t8009.length : Int) 0) = some r := by first | (rw [hy8025]; with_reducible exact H) | (have H2_ := (Option.bind_some _ _).symm.trans H; rw [hy8025]; with_reducible exact H2_) | (have H2_ := (Option.bind_some _ _).symm.trans H; with_reducible exact H2_) | with_reducible exact H | (rw [hy8025]; exact H) | exact H
                                    have Ny8025 := Aside0.mk hy8025
                                    clear hy8025
                                    obtain ⟨y8026, hy8026⟩ : ∃ y_ : List Int, y_ = (([] : List Int)) := ⟨_, rfl⟩
                                    replace H : (laws_FnCoins.l2 k3 (wrap64 (3 * (wrap64 (1 + (Int.tmod t8002 (wrap64 ((wrap64 (Int.tdiv t8003 3)) + 1))))))) t8004 t8009 (ji36) (rd x83_2 x85_2) y8025 y8026 x83_2 (t8014.length : Int) x85_2 t8009 (t8009.length : Int) 0) = some r := by first | (rw [hy8026]; with_reducible exact H) | (have H2_ := (Option.bind_some _ _).symm.trans H; rw [hy8026]; with_reducible exact H2_) | (have H2_ := (Option.bind_some _ _).symm.trans H; with_reducible exact H2_) | with_reducible exact H | (rw [hy8026]; exact H) | exact H
                                    have Ny8026 := Aside0.mk hy8026
                                    clear hy8026
                                    have H' := Aside0.mk H
                                    clear H
                                    obtain ⟨Ao40, co40, eo40⟩ := Kd.R_slice HO_12.out
                                    subst eo40
                                    have p8024 : 0 ≤ ((ji36) : Int) := of_decide_eq_true (by first | (with_reducible assumption) | assumption)
                                    have q8024 : (ji36) < (x12_3.length : Int) := of_decide_eq_true (by first | (with_reducible assumption) | assumption)
                                    obtain ⟨ad8024, e8024, hx8024_0⟩ := Kd.at_int (Kd.R_reads' HO_12.out).2.2 (ji36) p8024 q8024
                                    cases e8024
                                    replace p8024 := eq_true p8024
                                    replace q8024 := eq_true q8024
                                    have p39 : 0 ≤ ((ji36) : Int) := of_decide_eq_true (by first | (with_reducible assumption) | assumption)
                                    have q39 : ((ji36) : Int) < ((x12_3.length : Int) : Int) := of_decide_eq_true (by first | (with_reducible assumption) | assumption)
                                    obtain ⟨go39, co39, eo39, gb39, gl39, cl39, HG39⟩ := Kd.R_form HO_12.out (by omega)
                                    (first | cases eo39 | (injection eo39 with ea_ en_ ec_; (first | subst ea_ | (injection ea_ with ea_; subst ea_)); subst ec_; clear en_))
                                    have GB39 := Aside0.mk gb39
                                    have GG39 := Aside0.mk HG39
                                    clear gb39 gl39 HG39
                                    (first | simp only [add_plain] at hx8024_0 | skip)
                                    obtain ⟨hx39_0, hf39_0⟩ := Kd.R_celln 0 HO_12.out ((ji36) : Int) p39 q39
                                    replace p39 := eq_true p39
                                    replace q39 := eq_true q39
                                    have HP41 := Kd.R_putg HO_12.out ((ji36) : Int) (wrap64 ((rd x12_3 (ji36)) + (rd x83_2 x85_2)))
                                    go_wp2_with (first | ((with_reducible refine gate_store (t := 3) (p := 106) rfl ?_); refine store_event (t := 3) (p := 106) (v := ?vo_w42) (w1 := (wr.setCell ⟨go39, ((ji36) : Int).toNat, none⟩ (.int .i64 (wrap64 ((rd x12_3 (ji36)) + (rd x83_2 x85_2)))))) ?hg ?ho ?hn ?hr ?_; (case ho => rfl); (case hg => rfl); (case hn => rfl); (case hr => first | (go_simp; done) | (go_simp; rfl)); intro w42 hw; have hg : wr.grownBy w42 (some go39) := (by rw [hw]; exact HP41.2); have hp_ : Kd.R (Kd.int .i64) 3 w42 w.heap.size (fun k_ => some k_ ≠ (.slice (some ad8017) x83_2.length co27 : Value).ownBlock) (.slice (some ⟨go39, 0, none⟩) x12_3.length co40) y8025 := (by rw [hw, Ny8025.out]; exact HP41.1); clear HP41; have n0_ := Aside0.mk (Kd.S_after (v := (.slice (some ⟨go39, 0, none⟩) x12_3.length co40)) (v1 := (.slice (some ⟨go39, 0, none⟩) x12_3.length co40)) (ok := (fun k_ => some k_ ≠ (.slice (some ad8017) x83_2.length co27 : Value).ownBlock)) (by (with_reducible repeat (first | apply Kd.S_alloc | apply Kd.S_drewN | apply Kd.S_drew)); exact Kd.S_mono HO_5.out (fun _ hk => ⟨hk.2, hk.1⟩)) hg (.inl rfl)); have n1_ := Aside0.mk (Kd.S_after (v := (.slice (some ⟨go39, 0, none⟩) x12_3.length co40)) (v1 := (.slice (some ⟨go39, 0, none⟩) x12_3.length co40)) (ok := (fun k_ => some k_ ≠ (.slice (some ad8017) x83_2.length co27 : Value).ownBlock)) (by (with_reducible repeat (first | apply Kd.S_alloc | apply Kd.S_drewN | apply Kd.S_drew)); exact Kd.S_mono HO_7.out (fun _ hk => ⟨hk.2, hk.1⟩)) hg (.inl rfl)); have n2_ := Aside0.mk (hp_); have n3_ := Aside0.mk (Kd.R_after (v := (.slice (some ⟨go39, 0, none⟩) x12_3.length co40)) (v1 := (.slice (some ⟨go39, 0, none⟩) x12_3.length co40)) (ok := (fun _ => True)) (by (with_reducible repeat (first | apply Kd.R_alloc | apply Kd.R_drewN | apply Kd.R_drew)); exact Kd.R_mono HO_83.out (fun _ hk => ⟨trivial, hk⟩)) hg (.inl rfl)); have n4_ := Aside0.mk ((by rw [hw]; exact below_set (HB.out) GB39.out : Below w.heap.size w w42)); clear HO_5; clear HO_7; clear HO_12; clear HO_83; clear HB; have HO_5 := n0_; have HO_7 := n1_; have HO_12 := n2_; have HO_83 := n3_; have HB := n4_; clear n0_ n1_ n2_ n3_ n4_; clear hg hw hp_) | ((with_reducible refine gate_dst (N := 107) rfl ?_); (try (refine gate_guard (by rfl) ?_; dsimp only)); refine Kd.R_lit (Kd.int .i64) _ 3 ?hg (N := 107) ?hd (xs := ([] : List Int)) (inner := []) (ok := fun _ => True) (okp := fun _ => True) ?hr ?hp (fun _ hk => hk) trivial (Below.refl _ _) (Nat.le_refl _) (by simp) ?_; (case hd => rfl); (case hg => rfl); (case hr => first | (go_simp; done) | (go_simp; rfl)); (case hp => exact (Reps.none _ _)); intro v8027 w43 ho44 hb hg_ hnew_; clear hg_ hnew_; (first | rw [← Ny8026.out] at ho44 | (simp only [Int.reduceToNat] at ho44; rw [← Ny8026.out] at ho44)); have n0_ := Aside0.mk (Kd.S_elder' (by (with_reducible repeat (first | apply Kd.S_alloc | apply Kd.S_drewN | apply Kd.S_drew)); exact HO_5.out) (Kd.R_base ho44) hb); have n1_ := Aside0.mk (Kd.S_elder' (by (with_reducible repeat (first | apply Kd.S_alloc | apply Kd.S_drewN | apply Kd.S_drew)); exact HO_7.out) (Kd.R_base ho44) hb); have n2_ := Aside0.mk (Kd.R_elder' (by (with_reducible repeat (first | apply Kd.R_alloc | apply Kd.R_drewN | apply Kd.R_drew)); exact HO_12.out) (Kd.R_base ho44) hb); have n3_ := Aside0.mk (Kd.R_elder' (by (with_reducible repeat (first | apply Kd.R_alloc | apply Kd.R_drewN | apply Kd.R_drew)); exact HO_83.out) (Kd.R_base ho44) hb); have n4_ := Aside0.mk (Kd.R_lower (Kd.R_new' (Kd.R_new' ho44 (Kd.R_lt (by (with_reducible repeat (first | apply Kd.R_alloc | apply Kd.R_drewN | apply Kd.R_drew)); exact HO_12.out))) (Kd.R_lt (by (with_reducible repeat (first | apply Kd.R_alloc | apply Kd.R_drewN | apply Kd.R_drew)); exact HO_83.out))) (below_size (by repeat (first | (with_reducible first | exact HB.out | apply below_alloc | apply pw_below_drewN | apply below_drew1) | exact HB.out)))); have n5_ := Aside0.mk (below_step (by repeat (first | (with_reducible first | exact HB.out | apply below_alloc | apply pw_below_drewN | apply below_drew1) | exact HB.out)) hb); clear HO_5; clear HO_7; clear HO_12; clear HO_83; clear HB; have HO_5 := n0_; have HO_7 := n1_; have HO_12 := n2_; have HO_83 := n3_; have HO8028 := n4_; have HB := n5_; clear n0_ n1_ n2_ n3_ n4_ n5_; clear hb ho44; obtain ⟨Ao45, co45, eo45⟩ := Kd.S_slice HO_7.out; subst eo45))
                                    go_loopg [14, 110] k3 (fun kq v14 v110 w' => ∃ (x14_4 : List Int) (x110_4 : Int), v110 = .int .i64 x110_4 ∧ Aside0 (laws_FnCoins.l2 kq (wrap64 (3 * (wrap64 (1 + (Int.tmod t8002 (wrap64 ((wrap64 (Int.tdiv t8003 3)) + 1))))))) t8004 t8009 (ji36) (rd x83_2 x85_2) y8025 x14_4 x83_2 (t8014.length : Int) x85_2 t8009 (t8009.length : Int) x110_4 = some r) ∧ Aside0 (kq ≤ k3) ∧ Aside0 (Kd.S (Kd.slice 3 (Kd.int .i64)) 47 w' w.heap.size (fun k_ => some k_ ≠ ((.slice (some ⟨go39, 0, none⟩) x12_3.length co40) : Value).ownBlock ∧ some k_ ≠ (v14 : Value).ownBlock ∧ some k_ ≠ ((.slice (some ad8017) x83_2.length co27) : Value).ownBlock) (.slice Ao16 t8004.length co16) t8004) ∧ Aside0 (Kd.S k50 50 w' w.heap.size (fun k_ => some k_ ≠ ((.slice (some ⟨go39, 0, none⟩) x12_3.length co40) : Value).ownBlock ∧ some k_ ≠ (v14 : Value).ownBlock ∧ some k_ ≠ ((.slice (some ad8017) x83_2.length co27) : Value).ownBlock) (.slice Ao45 t8009.length co45) t8009) ∧ Aside0 (Kd.R (Kd.int .i64) 3 w' w.heap.size (fun k_ => some k_ ≠ (v14 : Value).ownBlock ∧ some k_ ≠ ((.slice (some ad8017) x83_2.length co27) : Value).ownBlock) (.slice (some ⟨go39, 0, none⟩) x12_3.length co40) y8025) ∧ Aside0 (Kd.R (Kd.int .i64) 3 w' w.heap.size (fun k_ => some k_ ≠ ((.slice (some ⟨go39, 0, none⟩) x12_3.length co40) : Value).ownBlock ∧ some k_ ≠ ((.slice (some ad8017) x83_2.length co27) : Value).ownBlock) v14 x14_4) ∧ Aside0 (Kd.R (Kd.int .i64) 3 w' w.heap.size (fun k_ => some k_ ≠ ((.slice (some ⟨go39, 0, none⟩) x12_3.length co40) : Value).ownBlock ∧ some k_ ≠ (v14 : Value).ownBlock) (.slice (some ad8017) x83_2.length co27) x83_2) ∧ Aside0 (Kd.S k50 50 w' w.heap.size (fun k_ => some k_ ≠ ((.slice (some ⟨go39, 0, none⟩) x12_3.length co40) : Value).ownBlock ∧ some k_ ≠ (v14 : Value).ownBlock ∧ some k_ ≠ ((.slice (some ad8017) x83_2.length co27) : Value).ownBlock) (.slice Ao45 t8009.length co45) t8009) ∧ Aside0 (Below w.heap.size w w'))
                                    case atStart => exact ⟨(y8026), (0), (by first | rfl | (simp; done) | (simp [*]; done)), H', ⟨Nat.le_refl _⟩, ⟨by (try simp only [hl83_2]); (with_reducible repeat (first | apply Kd.S_alloc | apply Kd.S_drewN | apply Kd.S_drew)); exact Kd.S_mono HO_5.out (fun _ hk => ⟨hk.1.2, ⟨hk.2, hk.1.1⟩⟩)⟩, ⟨by (try simp only [hl83_2]); (with_reducible repeat (first | apply Kd.S_alloc | apply Kd.S_drewN | apply Kd.S_drew)); exact Kd.S_mono HO_7.out (fun _ hk => ⟨hk.1.2, ⟨hk.2, hk.1.1⟩⟩)⟩, ⟨by (try simp only [hl83_2]); (with_reducible repeat (first | apply Kd.R_alloc | apply Kd.R_drewN | apply Kd.R_drew)); exact Kd.R_mono HO_12.out (fun _ hk => ⟨hk.2, hk.1⟩)⟩, ⟨by (try simp only [hl83_2]); (with_reducible repeat (first | apply Kd.R_alloc | apply Kd.R_drewN | apply Kd.R_drew)); exact Kd.R_mono HO8028.out (fun _ hk => ⟨hk.1.2, hk.2⟩)⟩, ⟨by (try simp only [hl83_2]); (with_reducible repeat (first | apply Kd.R_alloc | apply Kd.R_drewN | apply Kd.R_drew)); exact Kd.R_mono HO_83.out (fun _ hk => ⟨hk.1.2, hk.2⟩)⟩, ⟨by (try simp only [hl83_2]); (with_reducible repeat (first | apply Kd.S_alloc | apply Kd.S_drewN | apply Kd.S_drew)); exact Kd.S_mono HO_7.out (fun _ hk => ⟨hk.1.2, ⟨hk.2, hk.1.1⟩⟩)⟩, ⟨by repeat (first | (with_reducible first | exact HB.out | apply below_alloc | apply pw_below_drewN | apply below_drew1) | exact HB.out)⟩⟩
                                    case round =>
                                      clear H'
                                      try clear c1
                                      try clear c2
                                      try clear c2b0
                                      try clear c2b1
                                      try clear p2
                                      try clear c3
                                      try clear p3
                                      try clear q3
                                      try clear hx3
                                      try clear hf3
                                      try clear c6
                                      try clear c6b0
                                      try clear c6b1
                                      try clear p6
                                      try clear c7
                                      try clear p8
                                      try clear q8
                                      try clear hx8
                                      try clear c9
                                      try clear c9b0
                                      try clear c9b1
                                      try clear c9b2
                                      try clear c11
                                      try clear c18
                                      try clear c19
                                      try clear c20
                                      try clear c20b0
                                      try clear c20b1
                                      try clear c22
                                      try clear c24
                                      try clear c24b0
                                      try clear c24b1
                                      try clear c28
                                      try clear c28b0
                                      try clear c29
                                      try clear c29b0
                                      try clear c30
                                      try clear c30b0
                                      try clear c33
                                      try clear c33b0
                                      try clear c34
                                      try clear c35
                                      try clear c36
                                      try clear c37
                                      try clear c37b0
                                      try clear c38
                                      try clear c38b0
                                      try clear p39
                                      try clear q39
                                      try clear hx39
                                      try clear hf39
                                      try clear hx39_0
                                      try clear hx8017_0
                                      try clear hx8024_0
                                      try clear p2
                                      try clear p39
                                      try clear p6
                                      try clear p8
                                      try clear p8017
                                      try clear p8024
                                      try clear q39
                                      try clear q8
                                      try clear q8017
                                      try clear q8024
                                      obtain ⟨x14_4, x110_4, rfl, HA, HK4, HO_5, HO_7, HO_12, HO_14, HO_83, HO_108, HB⟩ := hrel
                                      have hl12_4 := (Kd.R_reads' HO_12.out).1
                                      rw [hl12_4] at HO_12
                                      (try simp only [hl12_4])
                                      (try simp only [hl12_4] at HO_5)
                                      (try simp only [hl12_4] at HO_7)
                                      (try simp only [hl12_4] at HO_14)
                                      (try simp only [hl12_4] at HO_83)
                                      (try simp only [hl12_4] at HO_108)
                                      cases gk with
                                      | zero => exact absurd HA.out (by simp [laws_FnCoins.l2])
                                      | succ k4 =>
                                        have H := HA.out
                                        clear HA
                                        simp only [laws_FnCoins.l2] at H
                                        by_cases c46 : x110_4 < (t8009.length : Int)
                                        · rw [if_pos c46] at H
                                          have c46b0 : decide (x110_4 < (t8009.length : Int)) = true := decide_eq_true c46
                                          clear c46
                                          by_cases c47 : 0 ≤ x110_4
                                          · rw [if_pos c47] at H
                                            have c47b0 : decide (0 ≤ x110_4) = true := decide_eq_true c47
                                            clear c47
                                            by_cases c48 : x110_4 < (t8009.length : Int)
                                            · rw [if_pos c48] at H
                                              have c48b0 : decide (x110_4 < (t8009.length : Int)) = true := decide_eq_true c48
                                              clear c48
                                              replace H := Option.bind_eq_some_iff.mp H
                                              obtain ⟨⟨t8031, t8032⟩, A490, H⟩ := H
                                              replace H : (if t8032 = true then (if (((rd_T50 t8009 x110_4).f0).length : Int) = (((rd_T50 t8009 x110_4).f1).length : Int) then (if x14_4.length < 17592186044416 then (laws_FnCoins.l2 k4 (wrap64 (3 * (wrap64 (1 + (Int.tmod t8002 (wrap64 ((wrap64 (Int.tdiv t8003 3)) + 1))))))) t8004 t8009 (ji36) (rd x83_2 x85_2) y8025 (x14_4 ++ [t8031]) x83_2 (t8014.length : Int) x85_2 t8009 (t8009.length : Int) (wrap64 (x110_4 + 1))) else (none)) else (some false)) else (some false)) = some r := H
                                              have A49 := Aside0.mk A490
                                              clear A490
                                              by_cases c50 : t8032 = true
                                              · subst c50
                                                have H1 : (if (((rd_T50 t8009 x110_4).f0).length : Int) = (((rd_T50 t8009 x110_4).f1).length : Int) then (if x14_4.length < 17592186044416 then (laws_FnCoins.l2 k4 (wrap64 (3 * (wrap64 (1 + (Int.tmod t8002 (wrap64 ((wrap64 (Int.tdiv t8003 3)) + 1))))))) t8004 t8009 (ji36) (rd x83_2 x85_2) y8025 (x14_4 ++ [t8031]) x83_2 (t8014.length : Int) x85_2 t8009 (t8009.length : Int) (wrap64 (x110_4 + 1))) else (none)) else (some false)) = some r := by rw [if_pos rfl] at H; exact H
                                                clear H
                                                have H := H1
                                                clear H1
                                                by_cases c51 : (((rd_T50 t8009 x110_4).f0).length : Int) = (((rd_T50 t8009 x110_4).f1).length : Int)
                                                · rw [if_pos c51] at H
                                                  have c51b0 : ((((rd_T50 t8009 x110_4).f0).length : Int) == (((rd_T50 t8009 x110_4).f1).length : Int)) = true := beq_iff_eq.mpr c51
                                                  have c51b1 : ((((rd_T50 t8009 x110_4).f0).length : Int) != (((rd_T50 t8009 x110_4).f1).length : Int)) = false := bne_eq_false_iff_eq.mpr c51
                                                  have c51b2 : (((rd_T50 t8009 x110_4).f0).length == ((rd_T50 t8009 x110_4).f1).length) = true := by first | simpa using c51 | (simp at c51 ⊢; omega)
                                                  clear c51
                                                  by_cases c52 : x14_4.length < 17592186044416
                                                  · rw [if_pos c52] at H
                                                    have LMc52 := Aside0.mk c52
                                                    clear c52
                                                    obtain ⟨y8033, hy8033⟩ : ∃ y_ : List Int, y_ = (x14_4 ++ [t8031]) := ⟨_, rfl⟩
                                                    replace H : (laws_FnCoins.l2 k4 (wrap64 (3 * (wrap64 (1 + (Int.tmod t8002 (wrap64 ((wrap64 (Int.tdiv t8003 3)) + 1))))))) t8004 t8009 (ji36) (rd x83_2 x85_2) y8025 y8033 x83_2 (t8014.length : Int) x85_2 t8009 (t8009.length : Int) (wrap64 (x110_4 + 1))) = some r := by first | (rw [hy8033]; with_reducible exact H) | (have H2_ := (Option.bind_some _ _).symm.trans H; rw [hy8033]; with_reducible exact H2_) | (have H2_ := (Option.bind_some _ _).symm.trans H; with_reducible exact H2_) | with_reducible exact H | (rw [hy8033]; exact H) | exact H
                                                    have Ny8033 := Aside0.mk hy8033
                                                    clear hy8033
                                                    have H' := Aside0.mk H
                                                    clear H
                                                    have p8029 : 0 ≤ (x110_4 : Int) := of_decide_eq_true (by first | (with_reducible assumption) | assumption)
                                                    have q8029 : x110_4 < (t8009.length : Int) := of_decide_eq_true (by first | (with_reducible assumption) | assumption)
                                                    obtain ⟨ad8029, A8029_0, c8029_0, A8029_1, c8029_1, e8029, hx8029_0, hx8029_1, hl8029_0, hi8029_0, hl8029_1, hi8029_1⟩ := at_T50 (Kd.S_reads' HO_108.out).2.2 x110_4 p8029 q8029
                                                    cases e8029
                                                    obtain ⟨ce8029, hce8029, hMe8029, hcc8029⟩ := Kd.S_get HO_108.out z50 x110_4 p8029 (by first | exact q8029 | exact of_decide_eq_true (by first | (with_reducible assumption) | assumption) | (have e_ := (Kd.S_reads' HO_108.out).1; omega))
                                                    obtain ⟨ve8029_0, ve8029_1, rfl, ge8029_0, ge8029_1⟩ := k50_openM hMe8029
                                                    have hv8029_0 := hcc8029 0 _ rfl
                                                    rw [Nat.add_zero] at hv8029_0
                                                    replace hv8029_0 := Option.some.inj (hv8029_0.symm.trans hx8029_0)
                                                    rw [hv8029_0] at ge8029_0
                                                    have HL8029_0 := Aside0.mk (show Kd.R (Kd.int .i64) 3 _ _ _ _ ((rd_T50 t8009 x110_4).f0) from ge8029_0)
                                                    clear hv8029_0 ge8029_0
                                                    have hv8029_1 := hcc8029 1 _ rfl
                                                    rw [add_field _ _ 1 (by omega)] at hv8029_1
                                                    replace hv8029_1 := Option.some.inj (hv8029_1.symm.trans hx8029_1)
                                                    rw [hv8029_1] at ge8029_1
                                                    have HL8029_1 := Aside0.mk (show Kd.R (Kd.int .i64) 3 _ _ _ _ ((rd_T50 t8009 x110_4).f1) from ge8029_1)
                                                    clear hv8029_1 ge8029_1
                                                    clear hcc8029 hce8029
                                                    have HR8029_0 := Aside0.mk hi8029_0
                                                    have HC8029_0 := Aside0.mk hl8029_0
                                                    clear hi8029_0 hl8029_0
                                                    have HR8029_1 := Aside0.mk hi8029_1
                                                    have HC8029_1 := Aside0.mk hl8029_1
                                                    clear hi8029_1 hl8029_1
                                                    replace p8029 := eq_true p8029
                                                    replace q8029 := eq_true q8029
                                                    go_wp2_with (first | ((with_reducible refine gate_dst (N := 16) rfl ?_); (try (refine gate_guard (by rfl) ?_; dsimp only)); refine box_event ?hg (N := 16) ?hd (cs := #[.slice none 0 0, .slice none 0 0]) (t := 50) ?hr ?_; (case hd => rfl); (case hg => rfl); (case hr => first | (go_simp; done) | (go_simp; rfl)); intro gb8030 hg w53 hbox hb; have n0_ := Aside0.mk (Kd.S_below (by (with_reducible repeat (first | apply Kd.S_alloc | apply Kd.S_drewN | apply Kd.S_drew)); exact HO_5.out) hb); have n1_ := Aside0.mk (Kd.S_below (Kd.S_elderB (by (with_reducible repeat (first | apply Kd.S_alloc | apply Kd.S_drewN | apply Kd.S_drew)); exact HO_7.out) gb8030 (Nat.le_of_eq hg.symm)) hb); have n2_ := Aside0.mk (Kd.R_below (by (with_reducible repeat (first | apply Kd.R_alloc | apply Kd.R_drewN | apply Kd.R_drew)); exact HO_12.out) hb); have n3_ := Aside0.mk (Kd.R_below (by (with_reducible repeat (first | apply Kd.R_alloc | apply Kd.R_drewN | apply Kd.R_drew)); exact HO_14.out) hb); have n4_ := Aside0.mk (Kd.R_below (by (with_reducible repeat (first | apply Kd.R_alloc | apply Kd.R_drewN | apply Kd.R_drew)); exact HO_83.out) hb); have n5_ := Aside0.mk (Kd.S_below (Kd.S_elderB (by (with_reducible repeat (first | apply Kd.S_alloc | apply Kd.S_drewN | apply Kd.S_drew)); exact HO_108.out) gb8030 (Nat.le_of_eq hg.symm)) hb); have n6_ := Aside0.mk (Kd.R_below (by (with_reducible repeat (first | apply Kd.R_alloc | apply Kd.R_drewN | apply Kd.R_drew)); exact HL8029_0.out) hb); have n7_ := Aside0.mk (Kd.R_below (by (with_reducible repeat (first | apply Kd.R_alloc | apply Kd.R_drewN | apply Kd.R_drew)); exact HL8029_1.out) hb); have n8_ := Aside0.mk (Kd.C_below (by repeat (first | (with_reducible exact HR8029_0.out) | (with_reducible refine Kd.C_alloc ?_ _) | (with_reducible refine Kd.C_drewN ?_ _) | (with_reducible refine Kd.C_drew ?_) | exact HR8029_0.out)) hb); have n9_ := Aside0.mk (Kd.C_below (by repeat (first | (with_reducible exact HR8029_1.out) | (with_reducible refine Kd.C_alloc ?_ _) | (with_reducible refine Kd.C_drewN ?_ _) | (with_reducible refine Kd.C_drew ?_) | exact HR8029_1.out)) hb); have n10_ := Aside0.mk (below_step (by repeat (first | (with_reducible first | exact HB.out | apply below_alloc | apply pw_below_drewN | apply below_drew1) | exact HB.out)) hb); have n11_ := Aside0.mk (hbox); have n12_ := Aside0.mk ((by rw [hg]; exact (below_size (by repeat (first | (with_reducible first | exact HB.out | apply below_alloc | apply pw_below_drewN | apply below_drew1) | exact HB.out))) : w.heap.size ≤ gb8030)); have n13_ := Aside0.mk ((by rw [hg]; exact (below_size (by repeat (first | (with_reducible first | exact HB.out | apply below_alloc | apply pw_below_drewN | apply below_drew1) | exact HB.out))) : w.heap.size ≤ gb8030)); clear HO_5; clear HO_7; clear HO_12; clear HO_14; clear HO_83; clear HO_108; clear HL8029_0; clear HL8029_1; clear HR8029_0; clear HR8029_1; clear HB; have HO_5 := n0_; have HO_7 := n1_; have HO_12 := n2_; have HO_14 := n3_; have HO_83 := n4_; have HO_108 := n5_; have HL8029_0 := n6_; have HL8029_1 := n7_; have HR8029_0 := n8_; have HR8029_1 := n9_; have HB := n10_; have BK8030 := n11_; have GW8030 := n12_; have GE8030 := n13_; clear n0_ n1_ n2_ n3_ n4_ n5_ n6_ n7_ n8_ n9_ n10_ n11_ n12_ n13_; clear hb hbox hg; have hcz54_0 : w53.cell? ⟨gb8030, 0, none⟩ = some (.slice none 0 0) := (blk_cell BK8030.out 0).trans rfl; have hcz54_1 : w53.cell? ⟨gb8030, 1, none⟩ = some (.slice none 0 0) := (blk_cell BK8030.out 1).trans rfl; have hfz54_0 := blk_frozen BK8030.out 0; have hfz54_1 := blk_frozen BK8030.out 1) | ((with_reducible refine gate_callee (f := 38) rfl ?_); refine goesL_ (some 117) rfl rfl Try.func38 (by kernel_rfl) rfl #[.slice (some ⟨go39, 0, none⟩) y8025.length co40, .agg #[.slice A8029_0 ((rd_T50 t8009 x110_4).f0).length c8029_0, .slice A8029_1 ((rd_T50 t8009 x110_4).f1).length c8029_1]] rfl (by (try simp only [List.map_toArray, List.map_cons, List.map_nil]); first | done | rfl | (simp only [List.length_drop, List.length_take]; rfl)) ?_; (with_reducible refine (impl_WeighCoins.calls k4 _ _ y8025 _ _ ((rd_T50 t8009 x110_4).f0) _ _ ((rd_T50 t8009 x110_4).f1) t8031 true _ ?side1 ?side2 ?side3 ?side4 ?side5 ?side6 A49.out).mono ?_); (case side1 => refine (Kd.R_reads' (e := 3) (base := w.heap.size) (ok := fun k_ => (some k_ ≠ (u14 : Value).ownBlock ∧ some k_ ≠ (.slice (some ad8017) x83_2.length co27 : Value).ownBlock)) (n := y8025.length) (c := co40) ?_).2.2; exact (by (with_reducible repeat (first | apply Kd.R_alloc | apply Kd.R_drewN | apply Kd.R_drew)); exact (Kd.R_mono (Kd.R_far (p := ⟨gb8030, 1, none⟩) (Kd.R_far (p := ⟨gb8030, 0, none⟩) (Kd.R_types HO_12.out BK8030.out (by decide)) (fun _ hk => hk.2) (.slice A8029_0 ((rd_T50 t8009 x110_4).f0).length c8029_0)) (fun _ hk => hk.2) (.slice A8029_1 ((rd_T50 t8009 x110_4).f1).length c8029_1)) (fun _ h_ => h_.1)))); (case side2 => exact (Kd.R_reads' HO_12.out).2.1); (case side3 => repeat (first | exact ((Kd.R_reads' (by (with_reducible repeat (first | apply Kd.R_alloc | apply Kd.R_drewN | apply Kd.R_drew)); exact (Kd.R_mono (Kd.R_far (p := ⟨gb8030, 1, none⟩) (Kd.R_far (p := ⟨gb8030, 0, none⟩) (Kd.R_types HL8029_0.out BK8030.out (by decide)) (fun _ hk => hk.2) (.slice A8029_0 ((rd_T50 t8009 x110_4).f0).length c8029_0)) (fun _ hk => hk.2) (.slice A8029_1 ((rd_T50 t8009 x110_4).f1).length c8029_1)) (fun _ h_ => h_.1)))).2.2) | (with_reducible refine Kd.C_alloc ?_ _) | (with_reducible refine Kd.C_drewN ?_ _) | (with_reducible refine Kd.C_drew ?_))); (case side4 => exact HC8029_0.out); (case side5 => repeat (first | exact ((Kd.R_reads' (by (with_reducible repeat (first | apply Kd.R_alloc | apply Kd.R_drewN | apply Kd.R_drew)); exact (Kd.R_mono (Kd.R_far (p := ⟨gb8030, 1, none⟩) (Kd.R_far (p := ⟨gb8030, 0, none⟩) (Kd.R_types HL8029_1.out BK8030.out (by decide)) (fun _ hk => hk.2) (.slice A8029_0 ((rd_T50 t8009 x110_4).f0).length c8029_0)) (fun _ hk => hk.2) (.slice A8029_1 ((rd_T50 t8009 x110_4).f1).length c8029_1)) (fun _ h_ => h_.1)))).2.2) | (with_reducible refine Kd.C_alloc ?_ _) | (with_reducible refine Kd.C_drewN ?_ _) | (with_reducible refine Kd.C_drew ?_))); (case side6 => exact HC8029_1.out); rintro e w55 ⟨rfl, hb⟩; refine ⟨_, rfl, ?_⟩; have n0_ := Aside0.mk (Kd.S_below (by (with_reducible repeat (first | apply Kd.S_alloc | apply Kd.S_drewN | apply Kd.S_drew)); exact (Kd.S_mono (Kd.S_far (p := ⟨gb8030, 1, none⟩) (Kd.S_far (p := ⟨gb8030, 0, none⟩) (Kd.S_types HO_5.out BK8030.out (by decide)) (fun _ hk => hk.2) (.slice A8029_0 ((rd_T50 t8009 x110_4).f0).length c8029_0)) (fun _ hk => hk.2) (.slice A8029_1 ((rd_T50 t8009 x110_4).f1).length c8029_1)) (fun _ h_ => h_.1))) hb); have n1_ := Aside0.mk (Kd.S_below (by (with_reducible repeat (first | apply Kd.S_alloc | apply Kd.S_drewN | apply Kd.S_drew)); exact (Kd.S_mono (Kd.S_far (p := ⟨gb8030, 1, none⟩) (Kd.S_far (p := ⟨gb8030, 0, none⟩) (Kd.S_mono HO_7.out (fun k_ hk => (⟨hk, hk.2⟩ : _ ∧ k_ ≠ gb8030))) (fun _ hk => hk.2) (.slice A8029_0 ((rd_T50 t8009 x110_4).f0).length c8029_0)) (fun _ hk => hk.2) (.slice A8029_1 ((rd_T50 t8009 x110_4).f1).length c8029_1)) (fun _ h_ => h_.1))) hb); have n2_ := Aside0.mk (Kd.R_below (by (with_reducible repeat (first | apply Kd.R_alloc | apply Kd.R_drewN | apply Kd.R_drew)); exact (Kd.R_mono (Kd.R_far (p := ⟨gb8030, 1, none⟩) (Kd.R_far (p := ⟨gb8030, 0, none⟩) (Kd.R_types HO_12.out BK8030.out (by decide)) (fun _ hk => hk.2) (.slice A8029_0 ((rd_T50 t8009 x110_4).f0).length c8029_0)) (fun _ hk => hk.2) (.slice A8029_1 ((rd_T50 t8009 x110_4).f1).length c8029_1)) (fun _ h_ => h_.1))) hb); have n3_ := Aside0.mk (Kd.R_below (by (with_reducible repeat (first | apply Kd.R_alloc | apply Kd.R_drewN | apply Kd.R_drew)); exact (Kd.R_mono (Kd.R_far (p := ⟨gb8030, 1, none⟩) (Kd.R_far (p := ⟨gb8030, 0, none⟩) (Kd.R_types HO_14.out BK8030.out (by decide)) (fun _ hk => hk.2) (.slice A8029_0 ((rd_T50 t8009 x110_4).f0).length c8029_0)) (fun _ hk => hk.2) (.slice A8029_1 ((rd_T50 t8009 x110_4).f1).length c8029_1)) (fun _ h_ => h_.1))) hb); have n4_ := Aside0.mk (Kd.R_below (by (with_reducible repeat (first | apply Kd.R_alloc | apply Kd.R_drewN | apply Kd.R_drew)); exact (Kd.R_mono (Kd.R_far (p := ⟨gb8030, 1, none⟩) (Kd.R_far (p := ⟨gb8030, 0, none⟩) (Kd.R_types HO_83.out BK8030.out (by decide)) (fun _ hk => hk.2) (.slice A8029_0 ((rd_T50 t8009 x110_4).f0).length c8029_0)) (fun _ hk => hk.2) (.slice A8029_1 ((rd_T50 t8009 x110_4).f1).length c8029_1)) (fun _ h_ => h_.1))) hb); have n5_ := Aside0.mk (Kd.S_below (by (with_reducible repeat (first | apply Kd.S_alloc | apply Kd.S_drewN | apply Kd.S_drew)); exact (Kd.S_mono (Kd.S_far (p := ⟨gb8030, 1, none⟩) (Kd.S_far (p := ⟨gb8030, 0, none⟩) (Kd.S_mono HO_108.out (fun k_ hk => (⟨hk, hk.2⟩ : _ ∧ k_ ≠ gb8030))) (fun _ hk => hk.2) (.slice A8029_0 ((rd_T50 t8009 x110_4).f0).length c8029_0)) (fun _ hk => hk.2) (.slice A8029_1 ((rd_T50 t8009 x110_4).f1).length c8029_1)) (fun _ h_ => h_.1))) hb); have n6_ := Aside0.mk (Kd.R_below (by (with_reducible repeat (first | apply Kd.R_alloc | apply Kd.R_drewN | apply Kd.R_drew)); exact (Kd.R_mono (Kd.R_far (p := ⟨gb8030, 1, none⟩) (Kd.R_far (p := ⟨gb8030, 0, none⟩) (Kd.R_types HL8029_0.out BK8030.out (by decide)) (fun _ hk => hk.2) (.slice A8029_0 ((rd_T50 t8009 x110_4).f0).length c8029_0)) (fun _ hk => hk.2) (.slice A8029_1 ((rd_T50 t8009 x110_4).f1).length c8029_1)) (fun _ h_ => h_.1))) hb); have n7_ := Aside0.mk (Kd.R_below (by (with_reducible repeat (first | apply Kd.R_alloc | apply Kd.R_drewN | apply Kd.R_drew)); exact (Kd.R_mono (Kd.R_far (p := ⟨gb8030, 1, none⟩) (Kd.R_far (p := ⟨gb8030, 0, none⟩) (Kd.R_types HL8029_1.out BK8030.out (by decide)) (fun _ hk => hk.2) (.slice A8029_0 ((rd_T50 t8009 x110_4).f0).length c8029_0)) (fun _ hk => hk.2) (.slice A8029_1 ((rd_T50 t8009 x110_4).f1).length c8029_1)) (fun _ h_ => h_.1))) hb); have n8_ := Aside0.mk (Kd.C_below ((Kd.R_reads' (by (with_reducible repeat (first | apply Kd.R_alloc | apply Kd.R_drewN | apply Kd.R_drew)); exact (Kd.R_mono (Kd.R_far (p := ⟨gb8030, 1, none⟩) (Kd.R_far (p := ⟨gb8030, 0, none⟩) (Kd.R_types HL8029_0.out BK8030.out (by decide)) (fun _ hk => hk.2) (.slice A8029_0 ((rd_T50 t8009 x110_4).f0).length c8029_0)) (fun _ hk => hk.2) (.slice A8029_1 ((rd_T50 t8009 x110_4).f1).length c8029_1)) (fun _ h_ => h_.1)))).2.2) hb); have n9_ := Aside0.mk (Kd.C_below ((Kd.R_reads' (by (with_reducible repeat (first | apply Kd.R_alloc | apply Kd.R_drewN | apply Kd.R_drew)); exact (Kd.R_mono (Kd.R_far (p := ⟨gb8030, 1, none⟩) (Kd.R_far (p := ⟨gb8030, 0, none⟩) (Kd.R_types HL8029_1.out BK8030.out (by decide)) (fun _ hk => hk.2) (.slice A8029_0 ((rd_T50 t8009 x110_4).f0).length c8029_0)) (fun _ hk => hk.2) (.slice A8029_1 ((rd_T50 t8009 x110_4).f1).length c8029_1)) (fun _ h_ => h_.1)))).2.2) hb); have n10_ := Aside0.mk (blk_below (g := gb8030) (o := .cells #[.slice A8029_0 ((rd_T50 t8009 x110_4).f0).length c8029_0, .slice A8029_1 ((rd_T50 t8009 x110_4).f1).length c8029_1] 50 (0, 0)) (by (with_reducible repeat (first | refine blk_drewN ?_ _ | refine blk_drew ?_ | refine blk_alloc ?_ _)); refine blk_put (cs := #[.slice A8029_0 ((rd_T50 t8009 x110_4).f0).length c8029_0, .slice none 0 0]) ?_ 1 _ rfl; (with_reducible repeat (first | refine blk_drewN ?_ _ | refine blk_drew ?_ | refine blk_alloc ?_ _)); refine blk_put (cs := #[.slice none 0 0, .slice none 0 0]) ?_ 0 _ rfl; (with_reducible repeat (first | refine blk_drewN ?_ _ | refine blk_drew ?_ | refine blk_alloc ?_ _)); exact BK8030.out) hb); have n11_ := Aside0.mk (below_step (by repeat (first | (with_reducible first | exact HB.out | apply below_alloc | apply pw_below_drewN | apply below_drew1 | refine below_set ?_ GE8030.out) | exact HB.out)) hb); clear HO_5; clear HO_7; clear HO_12; clear HO_14; clear HO_83; clear HO_108; clear HL8029_0; clear HL8029_1; clear HR8029_0; clear HR8029_1; clear BK8030; clear HB; have HO_5 := n0_; have HO_7 := n1_; have HO_12 := n2_; have HO_14 := n3_; have HO_83 := n4_; have HO_108 := n5_; have HL8029_0 := n6_; have HL8029_1 := n7_; have HR8029_0 := n8_; have HR8029_1 := n9_; have BK8030 := n10_; have HB := n11_; clear n0_ n1_ n2_ n3_ n4_ n5_ n6_ n7_ n8_ n9_ n10_ n11_; (try clear hb); (try clear hb2); (try clear hk); (try clear hi); have hcz56_0 : w55.cell? ⟨gb8030, 0, none⟩ = some (.slice A8029_0 ((rd_T50 t8009 x110_4).f0).length c8029_0) := (blk_cell BK8030.out 0).trans rfl; have hcz56_1 : w55.cell? ⟨gb8030, 1, none⟩ = some (.slice A8029_1 ((rd_T50 t8009 x110_4).f1).length c8029_1) := (blk_cell BK8030.out 1).trans rfl; have hfz56_0 := blk_frozen BK8030.out 0; have hfz56_1 := blk_frozen BK8030.out 1) | ((with_reducible refine gate_builtin (b := .append) (xs := #[.tmp 131, .tmp 133]) rfl ?_); (try (refine gate_guard (by rfl) ?_; dsimp only)); at_builtin; refine Kd.R_append (Kd.int .i64) (w0 := w) w.heap.size rfl (.tmp 131) (.tmp 133) 47 3 (.int .i64 0) 8 rfl Try.underlying47 info3 rfl (by decide) (by omega) u14 x14_4 t8031 [.int .i64 t8031] (fun k_ => some k_ ≠ (.slice (some ⟨go39, 0, none⟩) y8025.length co40 : Value).ownBlock ∧ some k_ ≠ (.slice (some ad8017) x83_2.length co27 : Value).ownBlock) (fun _ => False) rfl rfl ?aP (fun _ hk => hk.elim) ?aF ?aO ?aB ?aS ?aL ?_; (case aP => exact rfl); (case aB => exact (by repeat (first | (with_reducible first | exact HB.out | apply below_alloc | apply pw_below_drewN | apply below_drew1 | refine below_set ?_ GE8030.out) | exact HB.out))); (case aF => exact (fun k_ hk => ⟨Kd.fresh' (Kd.R_lt (by (with_reducible repeat (first | apply Kd.R_alloc | apply Kd.R_drewN | apply Kd.R_drew)); exact HO_12.out)) k_ hk, Kd.fresh' (Kd.R_lt (by (with_reducible repeat (first | apply Kd.R_alloc | apply Kd.R_drewN | apply Kd.R_drew)); exact HO_83.out)) k_ hk⟩)); (case aO => exact (by (with_reducible repeat (first | apply Kd.R_alloc | apply Kd.R_drewN | apply Kd.R_drew)); exact HO_14.out)); (case aS => exact (below_size (by repeat (first | (with_reducible first | exact HB.out | apply below_alloc | apply pw_below_drewN | apply below_drew1 | refine below_set ?_ GE8030.out) | exact HB.out)))); (case aL => have := LMc52.out; omega); intro v8034 w57 ho hb hg hat; rw [← Ny8033.out] at ho; have n0_ := Aside0.mk (Kd.S_after (ok := (fun k_ => some k_ ≠ (.slice (some ⟨go39, 0, none⟩) y8025.length co40 : Value).ownBlock ∧ some k_ ≠ (.slice (some ad8017) x83_2.length co27 : Value).ownBlock)) (by (with_reducible repeat (first | apply Kd.S_alloc | apply Kd.S_drewN | apply Kd.S_drew)); exact Kd.S_mono HO_5.out (fun _ hk => ⟨⟨hk.1, hk.2.2⟩, hk.2.1⟩)) hg hat); have n1_ := Aside0.mk (Kd.S_after (ok := (fun k_ => some k_ ≠ (.slice (some ⟨go39, 0, none⟩) y8025.length co40 : Value).ownBlock ∧ some k_ ≠ (.slice (some ad8017) x83_2.length co27 : Value).ownBlock ∧ k_ ≠ gb8030)) (by (with_reducible repeat (first | apply Kd.S_alloc | apply Kd.S_drewN | apply Kd.S_drew)); exact Kd.S_mono HO_7.out (fun _ hk => ⟨⟨hk.1.1, ⟨hk.1.2.2, hk.2⟩⟩, hk.1.2.1⟩)) hg hat); have n2_ := Aside0.mk (Kd.R_after (ok := (fun k_ => some k_ ≠ (.slice (some ad8017) x83_2.length co27 : Value).ownBlock)) (by (with_reducible repeat (first | apply Kd.R_alloc | apply Kd.R_drewN | apply Kd.R_drew)); exact Kd.R_mono HO_12.out (fun _ hk => ⟨hk.2, hk.1⟩)) hg hat); have n3_ := Aside0.mk (Kd.R_after (ok := (fun k_ => some k_ ≠ (.slice (some ⟨go39, 0, none⟩) y8025.length co40 : Value).ownBlock)) (by (with_reducible repeat (first | apply Kd.R_alloc | apply Kd.R_drewN | apply Kd.R_drew)); exact HO_83.out) hg hat); have n4_ := Aside0.mk (Kd.S_after (ok := (fun k_ => some k_ ≠ (.slice (some ⟨go39, 0, none⟩) y8025.length co40 : Value).ownBlock ∧ some k_ ≠ (.slice (some ad8017) x83_2.length co27 : Value).ownBlock ∧ k_ ≠ gb8030)) (by (with_reducible repeat (first | apply Kd.S_alloc | apply Kd.S_drewN | apply Kd.S_drew)); exact Kd.S_mono HO_108.out (fun _ hk => ⟨⟨hk.1.1, ⟨hk.1.2.2, hk.2⟩⟩, hk.1.2.1⟩)) hg hat); have n5_ := Aside0.mk (Kd.R_after (ok := (fun k_ => some k_ ≠ (.slice (some ⟨go39, 0, none⟩) y8025.length co40 : Value).ownBlock ∧ some k_ ≠ (.slice (some ad8017) x83_2.length co27 : Value).ownBlock ∧ some k_ ≠ (.slice (some ad8029) t8009.length co45 : Value).ownBlock)) (by (with_reducible repeat (first | apply Kd.R_alloc | apply Kd.R_drewN | apply Kd.R_drew)); exact Kd.R_mono HL8029_0.out (fun _ hk => ⟨⟨hk.1.1, ⟨hk.1.2.2, hk.2⟩⟩, hk.1.2.1⟩)) hg hat); have n6_ := Aside0.mk (Kd.R_after (ok := (fun k_ => some k_ ≠ (.slice (some ⟨go39, 0, none⟩) y8025.length co40 : Value).ownBlock ∧ some k_ ≠ (.slice (some ad8017) x83_2.length co27 : Value).ownBlock ∧ some k_ ≠ (.slice (some ad8029) t8009.length co45 : Value).ownBlock)) (by (with_reducible repeat (first | apply Kd.R_alloc | apply Kd.R_drewN | apply Kd.R_drew)); exact Kd.R_mono HL8029_1.out (fun _ hk => ⟨⟨hk.1.1, ⟨hk.1.2.2, hk.2⟩⟩, hk.1.2.1⟩)) hg hat); have n7_ := Aside0.mk (blk_grown (g := gb8030) (o := .cells #[.slice A8029_0 ((rd_T50 t8009 x110_4).f0).length c8029_0, .slice A8029_1 ((rd_T50 t8009 x110_4).f1).length c8029_1] 50 (0, 0)) (by (with_reducible repeat (first | refine blk_drewN ?_ _ | refine blk_drew ?_ | refine blk_alloc ?_ _)); exact BK8030.out) hg (Kd.R_ne HO_14.out BK8030.out (by decide))); have n8_ := Aside0.mk (hb); have n9_ := Aside0.mk (ho); clear HO_5; clear HO_7; clear HO_12; clear HO_83; clear HO_108; clear HL8029_0; clear HL8029_1; clear BK8030; clear HB; clear HO_14; have HO_5 := n0_; have HO_7 := n1_; have HO_12 := n2_; have HO_83 := n3_; have HO_108 := n4_; have HL8029_0 := n5_; have HL8029_1 := n6_; have BK8030 := n7_; have HB := n8_; have HO8035 := n9_; clear n0_ n1_ n2_ n3_ n4_ n5_ n6_ n7_ n8_ n9_; clear ho hb hg hat))
                                                    (try simp only [← hl12_4])
                                                    go_roundg k4
                                                    case measure => have := HJ12.out; have := HK2.out; have := HK3.out; have := HK4.out; omega
                                                    case rel => exact ⟨(y8033), (wrap64 (x110_4 + 1)), (by first | rfl | (simp; done) | (simp [*]; done)), H', ⟨by have := HJ12.out; have := HK2.out; have := HK3.out; have := HK4.out; omega⟩, ⟨by (try simp only [hl83_2]); (try simp only [hl12_4]); (with_reducible repeat (first | apply Kd.S_alloc | apply Kd.S_drewN | apply Kd.S_drew)); exact Kd.S_mono HO_5.out (fun _ hk => ⟨hk.1.1, ⟨hk.2, hk.1.2⟩⟩)⟩, ⟨by (try simp only [hl83_2]); (try simp only [hl12_4]); (with_reducible repeat (first | apply Kd.S_alloc | apply Kd.S_drewN | apply Kd.S_drew)); exact Kd.S_mono HO_7.out (fun _ hk => ⟨hk.1.1, ⟨hk.2, hk.1.2.1⟩⟩)⟩, ⟨by (try simp only [hl83_2]); (try simp only [hl12_4]); (with_reducible repeat (first | apply Kd.R_alloc | apply Kd.R_drewN | apply Kd.R_drew)); exact Kd.R_mono HO_12.out (fun _ hk => ⟨hk.2, hk.1⟩)⟩, ⟨by (try simp only [hl83_2]); (try simp only [hl12_4]); (with_reducible repeat (first | apply Kd.R_alloc | apply Kd.R_drewN | apply Kd.R_drew)); exact HO8035.out⟩, ⟨by (try simp only [hl83_2]); (try simp only [hl12_4]); (with_reducible repeat (first | apply Kd.R_alloc | apply Kd.R_drewN | apply Kd.R_drew)); exact HO_83.out⟩, ⟨by (try simp only [hl83_2]); (try simp only [hl12_4]); (with_reducible repeat (first | apply Kd.S_alloc | apply Kd.S_drewN | apply Kd.S_drew)); exact Kd.S_mono HO_108.out (fun _ hk => ⟨hk.1.1, ⟨hk.2, hk.1.2.1⟩⟩)⟩, ⟨by repeat (first | (with_reducible first | exact HB.out | apply below_alloc | apply pw_below_drewN | apply below_drew1 | refine below_set ?_ GE8030.out) | exact HB.out)⟩⟩
                                                  · rw [if_neg c52] at H
                                                    exact absurd H (by simp)
                                                · rw [if_neg c51] at H
                                                  have c51b0 : ((((rd_T50 t8009 x110_4).f0).length : Int) == (((rd_T50 t8009 x110_4).f1).length : Int)) = false := beq_eq_false_iff_ne.mpr c51
                                                  have c51b1 : ((((rd_T50 t8009 x110_4).f0).length : Int) != (((rd_T50 t8009 x110_4).f1).length : Int)) = true := bne_iff_ne.mpr c51
                                                  have c51b2 : (((rd_T50 t8009 x110_4).f0).length == ((rd_T50 t8009 x110_4).f1).length) = false := by first | simpa using c51 | (simp at c51 ⊢; omega)
                                                  obtain rfl := Option.some.inj H
                                                  have p8029 : 0 ≤ (x110_4 : Int) := of_decide_eq_true (by first | (with_reducible assumption) | assumption)
                                                  have q8029 : x110_4 < (t8009.length : Int) := of_decide_eq_true (by first | (with_reducible assumption) | assumption)
                                                  obtain ⟨ad8029, A8029_0, c8029_0, A8029_1, c8029_1, e8029, hx8029_0, hx8029_1, hl8029_0, hi8029_0, hl8029_1, hi8029_1⟩ := at_T50 (Kd.S_reads' HO_108.out).2.2 x110_4 p8029 q8029
                                                  cases e8029
                                                  obtain ⟨ce8029, hce8029, hMe8029, hcc8029⟩ := Kd.S_get HO_108.out z50 x110_4 p8029 (by first | exact q8029 | exact of_decide_eq_true (by first | (with_reducible assumption) | assumption) | (have e_ := (Kd.S_reads' HO_108.out).1; omega))
                                                  obtain ⟨ve8029_0, ve8029_1, rfl, ge8029_0, ge8029_1⟩ := k50_openM hMe8029
                                                  have hv8029_0 := hcc8029 0 _ rfl
                                                  rw [Nat.add_zero] at hv8029_0
                                                  replace hv8029_0 := Option.some.inj (hv8029_0.symm.trans hx8029_0)
                                                  rw [hv8029_0] at ge8029_0
                                                  have HL8029_0 := Aside0.mk (show Kd.R (Kd.int .i64) 3 _ _ _ _ ((rd_T50 t8009 x110_4).f0) from ge8029_0)
                                                  clear hv8029_0 ge8029_0
                                                  have hv8029_1 := hcc8029 1 _ rfl
                                                  rw [add_field _ _ 1 (by omega)] at hv8029_1
                                                  replace hv8029_1 := Option.some.inj (hv8029_1.symm.trans hx8029_1)
                                                  rw [hv8029_1] at ge8029_1
                                                  have HL8029_1 := Aside0.mk (show Kd.R (Kd.int .i64) 3 _ _ _ _ ((rd_T50 t8009 x110_4).f1) from ge8029_1)
                                                  clear hv8029_1 ge8029_1
                                                  clear hcc8029 hce8029
                                                  have HR8029_0 := Aside0.mk hi8029_0
                                                  have HC8029_0 := Aside0.mk hl8029_0
                                                  clear hi8029_0 hl8029_0
                                                  have HR8029_1 := Aside0.mk hi8029_1
                                                  have HC8029_1 := Aside0.mk hl8029_1
                                                  clear hi8029_1 hl8029_1
                                                  replace p8029 := eq_true p8029
                                                  replace q8029 := eq_true q8029
                                                  go_wp2_with (first | ((with_reducible refine gate_dst (N := 16) rfl ?_); (try (refine gate_guard (by rfl) ?_; dsimp only)); refine box_event ?hg (N := 16) ?hd (cs := #[.slice none 0 0, .slice none 0 0]) (t := 50) ?hr ?_; (case hd => rfl); (case hg => rfl); (case hr => first | (go_simp; done) | (go_simp; rfl)); intro gb8030 hg w58 hbox hb; have n0_ := Aside0.mk (Kd.S_below (by (with_reducible repeat (first | apply Kd.S_alloc | apply Kd.S_drewN | apply Kd.S_drew)); exact HO_5.out) hb); have n1_ := Aside0.mk (Kd.S_below (Kd.S_elderB (by (with_reducible repeat (first | apply Kd.S_alloc | apply Kd.S_drewN | apply Kd.S_drew)); exact HO_7.out) gb8030 (Nat.le_of_eq hg.symm)) hb); have n2_ := Aside0.mk (Kd.R_below (by (with_reducible repeat (first | apply Kd.R_alloc | apply Kd.R_drewN | apply Kd.R_drew)); exact HO_12.out) hb); have n3_ := Aside0.mk (Kd.R_below (by (with_reducible repeat (first | apply Kd.R_alloc | apply Kd.R_drewN | apply Kd.R_drew)); exact HO_14.out) hb); have n4_ := Aside0.mk (Kd.R_below (by (with_reducible repeat (first | apply Kd.R_alloc | apply Kd.R_drewN | apply Kd.R_drew)); exact HO_83.out) hb); have n5_ := Aside0.mk (Kd.S_below (Kd.S_elderB (by (with_reducible repeat (first | apply Kd.S_alloc | apply Kd.S_drewN | apply Kd.S_drew)); exact HO_108.out) gb8030 (Nat.le_of_eq hg.symm)) hb); have n6_ := Aside0.mk (Kd.R_below (by (with_reducible repeat (first | apply Kd.R_alloc | apply Kd.R_drewN | apply Kd.R_drew)); exact HL8029_0.out) hb); have n7_ := Aside0.mk (Kd.R_below (by (with_reducible repeat (first | apply Kd.R_alloc | apply Kd.R_drewN | apply Kd.R_drew)); exact HL8029_1.out) hb); have n8_ := Aside0.mk (Kd.C_below (by repeat (first | (with_reducible exact HR8029_0.out) | (with_reducible refine Kd.C_alloc ?_ _) | (with_reducible refine Kd.C_drewN ?_ _) | (with_reducible refine Kd.C_drew ?_) | exact HR8029_0.out)) hb); have n9_ := Aside0.mk (Kd.C_below (by repeat (first | (with_reducible exact HR8029_1.out) | (with_reducible refine Kd.C_alloc ?_ _) | (with_reducible refine Kd.C_drewN ?_ _) | (with_reducible refine Kd.C_drew ?_) | exact HR8029_1.out)) hb); have n10_ := Aside0.mk (below_step (by repeat (first | (with_reducible first | exact HB.out | apply below_alloc | apply pw_below_drewN | apply below_drew1) | exact HB.out)) hb); have n11_ := Aside0.mk (hbox); have n12_ := Aside0.mk ((by rw [hg]; exact (below_size (by repeat (first | (with_reducible first | exact HB.out | apply below_alloc | apply pw_below_drewN | apply below_drew1) | exact HB.out))) : w.heap.size ≤ gb8030)); have n13_ := Aside0.mk ((by rw [hg]; exact (below_size (by repeat (first | (with_reducible first | exact HB.out | apply below_alloc | apply pw_below_drewN | apply below_drew1) | exact HB.out))) : w.heap.size ≤ gb8030)); clear HO_5; clear HO_7; clear HO_12; clear HO_14; clear HO_83; clear HO_108; clear HL8029_0; clear HL8029_1; clear HR8029_0; clear HR8029_1; clear HB; have HO_5 := n0_; have HO_7 := n1_; have HO_12 := n2_; have HO_14 := n3_; have HO_83 := n4_; have HO_108 := n5_; have HL8029_0 := n6_; have HL8029_1 := n7_; have HR8029_0 := n8_; have HR8029_1 := n9_; have HB := n10_; have BK8030 := n11_; have GW8030 := n12_; have GE8030 := n13_; clear n0_ n1_ n2_ n3_ n4_ n5_ n6_ n7_ n8_ n9_ n10_ n11_ n12_ n13_; clear hb hbox hg; have hcz59_0 : w58.cell? ⟨gb8030, 0, none⟩ = some (.slice none 0 0) := (blk_cell BK8030.out 0).trans rfl; have hcz59_1 : w58.cell? ⟨gb8030, 1, none⟩ = some (.slice none 0 0) := (blk_cell BK8030.out 1).trans rfl; have hfz59_0 := blk_frozen BK8030.out 0; have hfz59_1 := blk_frozen BK8030.out 1) | ((with_reducible refine gate_callee (f := 38) rfl ?_); refine goesL_ (some 117) rfl rfl Try.func38 (by kernel_rfl) rfl #[.slice (some ⟨go39, 0, none⟩) y8025.length co40, .agg #[.slice A8029_0 ((rd_T50 t8009 x110_4).f0).length c8029_0, .slice A8029_1 ((rd_T50 t8009 x110_4).f1).length c8029_1]] rfl (by (try simp only [List.map_toArray, List.map_cons, List.map_nil]); first | done | rfl | (simp only [List.length_drop, List.length_take]; rfl)) ?_; (with_reducible refine (impl_WeighCoins.calls k4 _ _ y8025 _ _ ((rd_T50 t8009 x110_4).f0) _ _ ((rd_T50 t8009 x110_4).f1) t8031 true _ ?side1 ?side2 ?side3 ?side4 ?side5 ?side6 A49.out).mono ?_); (case side1 => refine (Kd.R_reads' (e := 3) (base := w.heap.size) (ok := fun k_ => (some k_ ≠ (u14 : Value).ownBlock ∧ some k_ ≠ (.slice (some ad8017) x83_2.length co27 : Value).ownBlock)) (n := y8025.length) (c := co40) ?_).2.2; exact (by (with_reducible repeat (first | apply Kd.R_alloc | apply Kd.R_drewN | apply Kd.R_drew)); exact (Kd.R_mono (Kd.R_far (p := ⟨gb8030, 1, none⟩) (Kd.R_far (p := ⟨gb8030, 0, none⟩) (Kd.R_types HO_12.out BK8030.out (by decide)) (fun _ hk => hk.2) (.slice A8029_0 ((rd_T50 t8009 x110_4).f0).length c8029_0)) (fun _ hk => hk.2) (.slice A8029_1 ((rd_T50 t8009 x110_4).f1).length c8029_1)) (fun _ h_ => h_.1)))); (case side2 => exact (Kd.R_reads' HO_12.out).2.1); (case side3 => repeat (first | exact ((Kd.R_reads' (by (with_reducible repeat (first | apply Kd.R_alloc | apply Kd.R_drewN | apply Kd.R_drew)); exact (Kd.R_mono (Kd.R_far (p := ⟨gb8030, 1, none⟩) (Kd.R_far (p := ⟨gb8030, 0, none⟩) (Kd.R_types HL8029_0.out BK8030.out (by decide)) (fun _ hk => hk.2) (.slice A8029_0 ((rd_T50 t8009 x110_4).f0).length c8029_0)) (fun _ hk => hk.2) (.slice A8029_1 ((rd_T50 t8009 x110_4).f1).length c8029_1)) (fun _ h_ => h_.1)))).2.2) | (with_reducible refine Kd.C_alloc ?_ _) | (with_reducible refine Kd.C_drewN ?_ _) | (with_reducible refine Kd.C_drew ?_))); (case side4 => exact HC8029_0.out); (case side5 => repeat (first | exact ((Kd.R_reads' (by (with_reducible repeat (first | apply Kd.R_alloc | apply Kd.R_drewN | apply Kd.R_drew)); exact (Kd.R_mono (Kd.R_far (p := ⟨gb8030, 1, none⟩) (Kd.R_far (p := ⟨gb8030, 0, none⟩) (Kd.R_types HL8029_1.out BK8030.out (by decide)) (fun _ hk => hk.2) (.slice A8029_0 ((rd_T50 t8009 x110_4).f0).length c8029_0)) (fun _ hk => hk.2) (.slice A8029_1 ((rd_T50 t8009 x110_4).f1).length c8029_1)) (fun _ h_ => h_.1)))).2.2) | (with_reducible refine Kd.C_alloc ?_ _) | (with_reducible refine Kd.C_drewN ?_ _) | (with_reducible refine Kd.C_drew ?_))); (case side6 => exact HC8029_1.out); rintro e w60 ⟨rfl, hb⟩; refine ⟨_, rfl, ?_⟩; have n0_ := Aside0.mk (Kd.S_below (by (with_reducible repeat (first | apply Kd.S_alloc | apply Kd.S_drewN | apply Kd.S_drew)); exact (Kd.S_mono (Kd.S_far (p := ⟨gb8030, 1, none⟩) (Kd.S_far (p := ⟨gb8030, 0, none⟩) (Kd.S_types HO_5.out BK8030.out (by decide)) (fun _ hk => hk.2) (.slice A8029_0 ((rd_T50 t8009 x110_4).f0).length c8029_0)) (fun _ hk => hk.2) (.slice A8029_1 ((rd_T50 t8009 x110_4).f1).length c8029_1)) (fun _ h_ => h_.1))) hb); have n1_ := Aside0.mk (Kd.S_below (by (with_reducible repeat (first | apply Kd.S_alloc | apply Kd.S_drewN | apply Kd.S_drew)); exact (Kd.S_mono (Kd.S_far (p := ⟨gb8030, 1, none⟩) (Kd.S_far (p := ⟨gb8030, 0, none⟩) (Kd.S_mono HO_7.out (fun k_ hk => (⟨hk, hk.2⟩ : _ ∧ k_ ≠ gb8030))) (fun _ hk => hk.2) (.slice A8029_0 ((rd_T50 t8009 x110_4).f0).length c8029_0)) (fun _ hk => hk.2) (.slice A8029_1 ((rd_T50 t8009 x110_4).f1).length c8029_1)) (fun _ h_ => h_.1))) hb); have n2_ := Aside0.mk (Kd.R_below (by (with_reducible repeat (first | apply Kd.R_alloc | apply Kd.R_drewN | apply Kd.R_drew)); exact (Kd.R_mono (Kd.R_far (p := ⟨gb8030, 1, none⟩) (Kd.R_far (p := ⟨gb8030, 0, none⟩) (Kd.R_types HO_12.out BK8030.out (by decide)) (fun _ hk => hk.2) (.slice A8029_0 ((rd_T50 t8009 x110_4).f0).length c8029_0)) (fun _ hk => hk.2) (.slice A8029_1 ((rd_T50 t8009 x110_4).f1).length c8029_1)) (fun _ h_ => h_.1))) hb); have n3_ := Aside0.mk (Kd.R_below (by (with_reducible repeat (first | apply Kd.R_alloc | apply Kd.R_drewN | apply Kd.R_drew)); exact (Kd.R_mono (Kd.R_far (p := ⟨gb8030, 1, none⟩) (Kd.R_far (p := ⟨gb8030, 0, none⟩) (Kd.R_types HO_14.out BK8030.out (by decide)) (fun _ hk => hk.2) (.slice A8029_0 ((rd_T50 t8009 x110_4).f0).length c8029_0)) (fun _ hk => hk.2) (.slice A8029_1 ((rd_T50 t8009 x110_4).f1).length c8029_1)) (fun _ h_ => h_.1))) hb); have n4_ := Aside0.mk (Kd.R_below (by (with_reducible repeat (first | apply Kd.R_alloc | apply Kd.R_drewN | apply Kd.R_drew)); exact (Kd.R_mono (Kd.R_far (p := ⟨gb8030, 1, none⟩) (Kd.R_far (p := ⟨gb8030, 0, none⟩) (Kd.R_types HO_83.out BK8030.out (by decide)) (fun _ hk => hk.2) (.slice A8029_0 ((rd_T50 t8009 x110_4).f0).length c8029_0)) (fun _ hk => hk.2) (.slice A8029_1 ((rd_T50 t8009 x110_4).f1).length c8029_1)) (fun _ h_ => h_.1))) hb); have n5_ := Aside0.mk (Kd.S_below (by (with_reducible repeat (first | apply Kd.S_alloc | apply Kd.S_drewN | apply Kd.S_drew)); exact (Kd.S_mono (Kd.S_far (p := ⟨gb8030, 1, none⟩) (Kd.S_far (p := ⟨gb8030, 0, none⟩) (Kd.S_mono HO_108.out (fun k_ hk => (⟨hk, hk.2⟩ : _ ∧ k_ ≠ gb8030))) (fun _ hk => hk.2) (.slice A8029_0 ((rd_T50 t8009 x110_4).f0).length c8029_0)) (fun _ hk => hk.2) (.slice A8029_1 ((rd_T50 t8009 x110_4).f1).length c8029_1)) (fun _ h_ => h_.1))) hb); have n6_ := Aside0.mk (Kd.R_below (by (with_reducible repeat (first | apply Kd.R_alloc | apply Kd.R_drewN | apply Kd.R_drew)); exact (Kd.R_mono (Kd.R_far (p := ⟨gb8030, 1, none⟩) (Kd.R_far (p := ⟨gb8030, 0, none⟩) (Kd.R_types HL8029_0.out BK8030.out (by decide)) (fun _ hk => hk.2) (.slice A8029_0 ((rd_T50 t8009 x110_4).f0).length c8029_0)) (fun _ hk => hk.2) (.slice A8029_1 ((rd_T50 t8009 x110_4).f1).length c8029_1)) (fun _ h_ => h_.1))) hb); have n7_ := Aside0.mk (Kd.R_below (by (with_reducible repeat (first | apply Kd.R_alloc | apply Kd.R_drewN | apply Kd.R_drew)); exact (Kd.R_mono (Kd.R_far (p := ⟨gb8030, 1, none⟩) (Kd.R_far (p := ⟨gb8030, 0, none⟩) (Kd.R_types HL8029_1.out BK8030.out (by decide)) (fun _ hk => hk.2) (.slice A8029_0 ((rd_T50 t8009 x110_4).f0).length c8029_0)) (fun _ hk => hk.2) (.slice A8029_1 ((rd_T50 t8009 x110_4).f1).length c8029_1)) (fun _ h_ => h_.1))) hb); have n8_ := Aside0.mk (Kd.C_below ((Kd.R_reads' (by (with_reducible repeat (first | apply Kd.R_alloc | apply Kd.R_drewN | apply Kd.R_drew)); exact (Kd.R_mono (Kd.R_far (p := ⟨gb8030, 1, none⟩) (Kd.R_far (p := ⟨gb8030, 0, none⟩) (Kd.R_types HL8029_0.out BK8030.out (by decide)) (fun _ hk => hk.2) (.slice A8029_0 ((rd_T50 t8009 x110_4).f0).length c8029_0)) (fun _ hk => hk.2) (.slice A8029_1 ((rd_T50 t8009 x110_4).f1).length c8029_1)) (fun _ h_ => h_.1)))).2.2) hb); have n9_ := Aside0.mk (Kd.C_below ((Kd.R_reads' (by (with_reducible repeat (first | apply Kd.R_alloc | apply Kd.R_drewN | apply Kd.R_drew)); exact (Kd.R_mono (Kd.R_far (p := ⟨gb8030, 1, none⟩) (Kd.R_far (p := ⟨gb8030, 0, none⟩) (Kd.R_types HL8029_1.out BK8030.out (by decide)) (fun _ hk => hk.2) (.slice A8029_0 ((rd_T50 t8009 x110_4).f0).length c8029_0)) (fun _ hk => hk.2) (.slice A8029_1 ((rd_T50 t8009 x110_4).f1).length c8029_1)) (fun _ h_ => h_.1)))).2.2) hb); have n10_ := Aside0.mk (blk_below (g := gb8030) (o := .cells #[.slice A8029_0 ((rd_T50 t8009 x110_4).f0).length c8029_0, .slice A8029_1 ((rd_T50 t8009 x110_4).f1).length c8029_1] 50 (0, 0)) (by (with_reducible repeat (first | refine blk_drewN ?_ _ | refine blk_drew ?_ | refine blk_alloc ?_ _)); refine blk_put (cs := #[.slice A8029_0 ((rd_T50 t8009 x110_4).f0).length c8029_0, .slice none 0 0]) ?_ 1 _ rfl; (with_reducible repeat (first | refine blk_drewN ?_ _ | refine blk_drew ?_ | refine blk_alloc ?_ _)); refine blk_put (cs := #[.slice none 0 0, .slice none 0 0]) ?_ 0 _ rfl; (with_reducible repeat (first | refine blk_drewN ?_ _ | refine blk_drew ?_ | refine blk_alloc ?_ _)); exact BK8030.out) hb); have n11_ := Aside0.mk (below_step (by repeat (first | (with_reducible first | exact HB.out | apply below_alloc | apply pw_below_drewN | apply below_drew1 | refine below_set ?_ GE8030.out) | exact HB.out)) hb); clear HO_5; clear HO_7; clear HO_12; clear HO_14; clear HO_83; clear HO_108; clear HL8029_0; clear HL8029_1; clear HR8029_0; clear HR8029_1; clear BK8030; clear HB; have HO_5 := n0_; have HO_7 := n1_; have HO_12 := n2_; have HO_14 := n3_; have HO_83 := n4_; have HO_108 := n5_; have HL8029_0 := n6_; have HL8029_1 := n7_; have HR8029_0 := n8_; have HR8029_1 := n9_; have BK8030 := n10_; have HB := n11_; clear n0_ n1_ n2_ n3_ n4_ n5_ n6_ n7_ n8_ n9_ n10_ n11_; (try clear hb); (try clear hb2); (try clear hk); (try clear hi); have hcz61_0 : w60.cell? ⟨gb8030, 0, none⟩ = some (.slice A8029_0 ((rd_T50 t8009 x110_4).f0).length c8029_0) := (blk_cell BK8030.out 0).trans rfl; have hcz61_1 : w60.cell? ⟨gb8030, 1, none⟩ = some (.slice A8029_1 ((rd_T50 t8009 x110_4).f1).length c8029_1) := (blk_cell BK8030.out 1).trans rfl; have hfz61_0 := blk_frozen BK8030.out 0; have hfz61_1 := blk_frozen BK8030.out 1))
                                                  go_ret
                                                  exact ⟨by first | rfl | (simp [errW_none, errW_some] <;> rfl) | (simp only [← hji36]; first | rfl | (simp [errW_none, errW_some] <;> rfl)) | (simp [*, errW_none, errW_some] <;> rfl), by repeat (first | (with_reducible first | exact HB.out | apply below_alloc | apply pw_below_drewN | apply below_drew1 | refine below_set ?_ GE8030.out) | exact HB.out)⟩
                                              · replace c50 := Bool.eq_false_iff.mpr c50
                                                subst c50
                                                have H1 : (some false) = some r := by rw [if_neg (show ¬ (false = true) by decide)] at H; exact H
                                                clear H
                                                have H := H1
                                                clear H1
                                                obtain rfl := Option.some.inj H
                                                have p8029 : 0 ≤ (x110_4 : Int) := of_decide_eq_true (by first | (with_reducible assumption) | assumption)
                                                have q8029 : x110_4 < (t8009.length : Int) := of_decide_eq_true (by first | (with_reducible assumption) | assumption)
                                                obtain ⟨ad8029, A8029_0, c8029_0, A8029_1, c8029_1, e8029, hx8029_0, hx8029_1, hl8029_0, hi8029_0, hl8029_1, hi8029_1⟩ := at_T50 (Kd.S_reads' HO_108.out).2.2 x110_4 p8029 q8029
                                                cases e8029
                                                obtain ⟨ce8029, hce8029, hMe8029, hcc8029⟩ := Kd.S_get HO_108.out z50 x110_4 p8029 (by first | exact q8029 | exact of_decide_eq_true (by first | (with_reducible assumption) | assumption) | (have e_ := (Kd.S_reads' HO_108.out).1; omega))
                                                obtain ⟨ve8029_0, ve8029_1, rfl, ge8029_0, ge8029_1⟩ := k50_openM hMe8029
                                                have hv8029_0 := hcc8029 0 _ rfl
                                                rw [Nat.add_zero] at hv8029_0
                                                replace hv8029_0 := Option.some.inj (hv8029_0.symm.trans hx8029_0)
                                                rw [hv8029_0] at ge8029_0
                                                have HL8029_0 := Aside0.mk (show Kd.R (Kd.int .i64) 3 _ _ _ _ ((rd_T50 t8009 x110_4).f0) from ge8029_0)
                                                clear hv8029_0 ge8029_0
                                                have hv8029_1 := hcc8029 1 _ rfl
                                                rw [add_field _ _ 1 (by omega)] at hv8029_1
                                                replace hv8029_1 := Option.some.inj (hv8029_1.symm.trans hx8029_1)
                                                rw [hv8029_1] at ge8029_1
                                                have HL8029_1 := Aside0.mk (show Kd.R (Kd.int .i64) 3 _ _ _ _ ((rd_T50 t8009 x110_4).f1) from ge8029_1)
                                                clear hv8029_1 ge8029_1
                                                clear hcc8029 hce8029
                                                have HR8029_0 := Aside0.mk hi8029_0
                                                have HC8029_0 := Aside0.mk hl8029_0
                                                clear hi8029_0 hl8029_0
                                                have HR8029_1 := Aside0.mk hi8029_1
                                                have HC8029_1 := Aside0.mk hl8029_1
                                                clear hi8029_1 hl8029_1
                                                replace p8029 := eq_true p8029
                                                replace q8029 := eq_true q8029
                                                go_wp2_with (first | ((with_reducible refine gate_dst (N := 16) rfl ?_); (try (refine gate_guard (by rfl) ?_; dsimp only)); refine box_event ?hg (N := 16) ?hd (cs := #[.slice none 0 0, .slice none 0 0]) (t := 50) ?hr ?_; (case hd => rfl); (case hg => rfl); (case hr => first | (go_simp; done) | (go_simp; rfl)); intro gb8030 hg w62 hbox hb; have n0_ := Aside0.mk (Kd.S_below (by (with_reducible repeat (first | apply Kd.S_alloc | apply Kd.S_drewN | apply Kd.S_drew)); exact HO_5.out) hb); have n1_ := Aside0.mk (Kd.S_below (Kd.S_elderB (by (with_reducible repeat (first | apply Kd.S_alloc | apply Kd.S_drewN | apply Kd.S_drew)); exact HO_7.out) gb8030 (Nat.le_of_eq hg.symm)) hb); have n2_ := Aside0.mk (Kd.R_below (by (with_reducible repeat (first | apply Kd.R_alloc | apply Kd.R_drewN | apply Kd.R_drew)); exact HO_12.out) hb); have n3_ := Aside0.mk (Kd.R_below (by (with_reducible repeat (first | apply Kd.R_alloc | apply Kd.R_drewN | apply Kd.R_drew)); exact HO_14.out) hb); have n4_ := Aside0.mk (Kd.R_below (by (with_reducible repeat (first | apply Kd.R_alloc | apply Kd.R_drewN | apply Kd.R_drew)); exact HO_83.out) hb); have n5_ := Aside0.mk (Kd.S_below (Kd.S_elderB (by (with_reducible repeat (first | apply Kd.S_alloc | apply Kd.S_drewN | apply Kd.S_drew)); exact HO_108.out) gb8030 (Nat.le_of_eq hg.symm)) hb); have n6_ := Aside0.mk (Kd.R_below (by (with_reducible repeat (first | apply Kd.R_alloc | apply Kd.R_drewN | apply Kd.R_drew)); exact HL8029_0.out) hb); have n7_ := Aside0.mk (Kd.R_below (by (with_reducible repeat (first | apply Kd.R_alloc | apply Kd.R_drewN | apply Kd.R_drew)); exact HL8029_1.out) hb); have n8_ := Aside0.mk (Kd.C_below (by repeat (first | (with_reducible exact HR8029_0.out) | (with_reducible refine Kd.C_alloc ?_ _) | (with_reducible refine Kd.C_drewN ?_ _) | (with_reducible refine Kd.C_drew ?_) | exact HR8029_0.out)) hb); have n9_ := Aside0.mk (Kd.C_below (by repeat (first | (with_reducible exact HR8029_1.out) | (with_reducible refine Kd.C_alloc ?_ _) | (with_reducible refine Kd.C_drewN ?_ _) | (with_reducible refine Kd.C_drew ?_) | exact HR8029_1.out)) hb); have n10_ := Aside0.mk (below_step (by repeat (first | (with_reducible first | exact HB.out | apply below_alloc | apply pw_below_drewN | apply below_drew1) | exact HB.out)) hb); have n11_ := Aside0.mk (hbox); have n12_ := Aside0.mk ((by rw [hg]; exact (below_size (by repeat (first | (with_reducible first | exact HB.out | apply below_alloc | apply pw_below_drewN | apply below_drew1) | exact HB.out))) : w.heap.size ≤ gb8030)); have n13_ := Aside0.mk ((by rw [hg]; exact (below_size (by repeat (first | (with_reducible first | exact HB.out | apply below_alloc | apply pw_below_drewN | apply below_drew1) | exact HB.out))) : w.heap.size ≤ gb8030)); clear HO_5; clear HO_7; clear HO_12; clear HO_14; clear HO_83; clear HO_108; clear HL8029_0; clear HL8029_1; clear HR8029_0; clear HR8029_1; clear HB; have HO_5 := n0_; have HO_7 := n1_; have HO_12 := n2_; have HO_14 := n3_; have HO_83 := n4_; have HO_108 := n5_; have HL8029_0 := n6_; have HL8029_1 := n7_; have HR8029_0 := n8_; have HR8029_1 := n9_; have HB := n10_; have BK8030 := n11_; have GW8030 := n12_; have GE8030 := n13_; clear n0_ n1_ n2_ n3_ n4_ n5_ n6_ n7_ n8_ n9_ n10_ n11_ n12_ n13_; clear hb hbox hg; have hcz63_0 : w62.cell? ⟨gb8030, 0, none⟩ = some (.slice none 0 0) := (blk_cell BK8030.out 0).trans rfl; have hcz63_1 : w62.cell? ⟨gb8030, 1, none⟩ = some (.slice none 0 0) := (blk_cell BK8030.out 1).trans rfl; have hfz63_0 := blk_frozen BK8030.out 0; have hfz63_1 := blk_frozen BK8030.out 1) | ((with_reducible refine gate_callee (f := 38) rfl ?_); refine goesL_ (some 117) rfl rfl Try.func38 (by kernel_rfl) rfl #[.slice (some ⟨go39, 0, none⟩) y8025.length co40, .agg #[.slice A8029_0 ((rd_T50 t8009 x110_4).f0).length c8029_0, .slice A8029_1 ((rd_T50 t8009 x110_4).f1).length c8029_1]] rfl (by (try simp only [List.map_toArray, List.map_cons, List.map_nil]); first | done | rfl | (simp only [List.length_drop, List.length_take]; rfl)) ?_; (with_reducible refine (impl_WeighCoins.calls k4 _ _ y8025 _ _ ((rd_T50 t8009 x110_4).f0) _ _ ((rd_T50 t8009 x110_4).f1) t8031 false _ ?side1 ?side2 ?side3 ?side4 ?side5 ?side6 A49.out).mono ?_); (case side1 => refine (Kd.R_reads' (e := 3) (base := w.heap.size) (ok := fun k_ => (some k_ ≠ (u14 : Value).ownBlock ∧ some k_ ≠ (.slice (some ad8017) x83_2.length co27 : Value).ownBlock)) (n := y8025.length) (c := co40) ?_).2.2; exact (by (with_reducible repeat (first | apply Kd.R_alloc | apply Kd.R_drewN | apply Kd.R_drew)); exact (Kd.R_mono (Kd.R_far (p := ⟨gb8030, 1, none⟩) (Kd.R_far (p := ⟨gb8030, 0, none⟩) (Kd.R_types HO_12.out BK8030.out (by decide)) (fun _ hk => hk.2) (.slice A8029_0 ((rd_T50 t8009 x110_4).f0).length c8029_0)) (fun _ hk => hk.2) (.slice A8029_1 ((rd_T50 t8009 x110_4).f1).length c8029_1)) (fun _ h_ => h_.1)))); (case side2 => exact (Kd.R_reads' HO_12.out).2.1); (case side3 => repeat (first | exact ((Kd.R_reads' (by (with_reducible repeat (first | apply Kd.R_alloc | apply Kd.R_drewN | apply Kd.R_drew)); exact (Kd.R_mono (Kd.R_far (p := ⟨gb8030, 1, none⟩) (Kd.R_far (p := ⟨gb8030, 0, none⟩) (Kd.R_types HL8029_0.out BK8030.out (by decide)) (fun _ hk => hk.2) (.slice A8029_0 ((rd_T50 t8009 x110_4).f0).length c8029_0)) (fun _ hk => hk.2) (.slice A8029_1 ((rd_T50 t8009 x110_4).f1).length c8029_1)) (fun _ h_ => h_.1)))).2.2) | (with_reducible refine Kd.C_alloc ?_ _) | (with_reducible refine Kd.C_drewN ?_ _) | (with_reducible refine Kd.C_drew ?_))); (case side4 => exact HC8029_0.out); (case side5 => repeat (first | exact ((Kd.R_reads' (by (with_reducible repeat (first | apply Kd.R_alloc | apply Kd.R_drewN | apply Kd.R_drew)); exact (Kd.R_mono (Kd.R_far (p := ⟨gb8030, 1, none⟩) (Kd.R_far (p := ⟨gb8030, 0, none⟩) (Kd.R_types HL8029_1.out BK8030.out (by decide)) (fun _ hk => hk.2) (.slice A8029_0 ((rd_T50 t8009 x110_4).f0).length c8029_0)) (fun _ hk => hk.2) (.slice A8029_1 ((rd_T50 t8009 x110_4).f1).length c8029_1)) (fun _ h_ => h_.1)))).2.2) | (with_reducible refine Kd.C_alloc ?_ _) | (with_reducible refine Kd.C_drewN ?_ _) | (with_reducible refine Kd.C_drew ?_))); (case side6 => exact HC8029_1.out); rintro e w64 ⟨rfl, hb⟩; refine ⟨_, rfl, ?_⟩; have n0_ := Aside0.mk (Kd.S_below (by (with_reducible repeat (first | apply Kd.S_alloc | apply Kd.S_drewN | apply Kd.S_drew)); exact (Kd.S_mono (Kd.S_far (p := ⟨gb8030, 1, none⟩) (Kd.S_far (p := ⟨gb8030, 0, none⟩) (Kd.S_types HO_5.out BK8030.out (by decide)) (fun _ hk => hk.2) (.slice A8029_0 ((rd_T50 t8009 x110_4).f0).length c8029_0)) (fun _ hk => hk.2) (.slice A8029_1 ((rd_T50 t8009 x110_4).f1).length c8029_1)) (fun _ h_ => h_.1))) hb); have n1_ := Aside0.mk (Kd.S_below (by (with_reducible repeat (first | apply Kd.S_alloc | apply Kd.S_drewN | apply Kd.S_drew)); exact (Kd.S_mono (Kd.S_far (p := ⟨gb8030, 1, none⟩) (Kd.S_far (p := ⟨gb8030, 0, none⟩) (Kd.S_mono HO_7.out (fun k_ hk => (⟨hk, hk.2⟩ : _ ∧ k_ ≠ gb8030))) (fun _ hk => hk.2) (.slice A8029_0 ((rd_T50 t8009 x110_4).f0).length c8029_0)) (fun _ hk => hk.2) (.slice A8029_1 ((rd_T50 t8009 x110_4).f1).length c8029_1)) (fun _ h_ => h_.1))) hb); have n2_ := Aside0.mk (Kd.R_below (by (with_reducible repeat (first | apply Kd.R_alloc | apply Kd.R_drewN | apply Kd.R_drew)); exact (Kd.R_mono (Kd.R_far (p := ⟨gb8030, 1, none⟩) (Kd.R_far (p := ⟨gb8030, 0, none⟩) (Kd.R_types HO_12.out BK8030.out (by decide)) (fun _ hk => hk.2) (.slice A8029_0 ((rd_T50 t8009 x110_4).f0).length c8029_0)) (fun _ hk => hk.2) (.slice A8029_1 ((rd_T50 t8009 x110_4).f1).length c8029_1)) (fun _ h_ => h_.1))) hb); have n3_ := Aside0.mk (Kd.R_below (by (with_reducible repeat (first | apply Kd.R_alloc | apply Kd.R_drewN | apply Kd.R_drew)); exact (Kd.R_mono (Kd.R_far (p := ⟨gb8030, 1, none⟩) (Kd.R_far (p := ⟨gb8030, 0, none⟩) (Kd.R_types HO_14.out BK8030.out (by decide)) (fun _ hk => hk.2) (.slice A8029_0 ((rd_T50 t8009 x110_4).f0).length c8029_0)) (fun _ hk => hk.2) (.slice A8029_1 ((rd_T50 t8009 x110_4).f1).length c8029_1)) (fun _ h_ => h_.1))) hb); have n4_ := Aside0.mk (Kd.R_below (by (with_reducible repeat (first | apply Kd.R_alloc | apply Kd.R_drewN | apply Kd.R_drew)); exact (Kd.R_mono (Kd.R_far (p := ⟨gb8030, 1, none⟩) (Kd.R_far (p := ⟨gb8030, 0, none⟩) (Kd.R_types HO_83.out BK8030.out (by decide)) (fun _ hk => hk.2) (.slice A8029_0 ((rd_T50 t8009 x110_4).f0).length c8029_0)) (fun _ hk => hk.2) (.slice A8029_1 ((rd_T50 t8009 x110_4).f1).length c8029_1)) (fun _ h_ => h_.1))) hb); have n5_ := Aside0.mk (Kd.S_below (by (with_reducible repeat (first | apply Kd.S_alloc | apply Kd.S_drewN | apply Kd.S_drew)); exact (Kd.S_mono (Kd.S_far (p := ⟨gb8030, 1, none⟩) (Kd.S_far (p := ⟨gb8030, 0, none⟩) (Kd.S_mono HO_108.out (fun k_ hk => (⟨hk, hk.2⟩ : _ ∧ k_ ≠ gb8030))) (fun _ hk => hk.2) (.slice A8029_0 ((rd_T50 t8009 x110_4).f0).length c8029_0)) (fun _ hk => hk.2) (.slice A8029_1 ((rd_T50 t8009 x110_4).f1).length c8029_1)) (fun _ h_ => h_.1))) hb); have n6_ := Aside0.mk (Kd.R_below (by (with_reducible repeat (first | apply Kd.R_alloc | apply Kd.R_drewN | apply Kd.R_drew)); exact (Kd.R_mono (Kd.R_far (p := ⟨gb8030, 1, none⟩) (Kd.R_far (p := ⟨gb8030, 0, none⟩) (Kd.R_types HL8029_0.out BK8030.out (by decide)) (fun _ hk => hk.2) (.slice A8029_0 ((rd_T50 t8009 x110_4).f0).length c8029_0)) (fun _ hk => hk.2) (.slice A8029_1 ((rd_T50 t8009 x110_4).f1).length c8029_1)) (fun _ h_ => h_.1))) hb); have n7_ := Aside0.mk (Kd.R_below (by (with_reducible repeat (first | apply Kd.R_alloc | apply Kd.R_drewN | apply Kd.R_drew)); exact (Kd.R_mono (Kd.R_far (p := ⟨gb8030, 1, none⟩) (Kd.R_far (p := ⟨gb8030, 0, none⟩) (Kd.R_types HL8029_1.out BK8030.out (by decide)) (fun _ hk => hk.2) (.slice A8029_0 ((rd_T50 t8009 x110_4).f0).length c8029_0)) (fun _ hk => hk.2) (.slice A8029_1 ((rd_T50 t8009 x110_4).f1).length c8029_1)) (fun _ h_ => h_.1))) hb); have n8_ := Aside0.mk (Kd.C_below ((Kd.R_reads' (by (with_reducible repeat (first | apply Kd.R_alloc | apply Kd.R_drewN | apply Kd.R_drew)); exact (Kd.R_mono (Kd.R_far (p := ⟨gb8030, 1, none⟩) (Kd.R_far (p := ⟨gb8030, 0, none⟩) (Kd.R_types HL8029_0.out BK8030.out (by decide)) (fun _ hk => hk.2) (.slice A8029_0 ((rd_T50 t8009 x110_4).f0).length c8029_0)) (fun _ hk => hk.2) (.slice A8029_1 ((rd_T50 t8009 x110_4).f1).length c8029_1)) (fun _ h_ => h_.1)))).2.2) hb); have n9_ := Aside0.mk (Kd.C_below ((Kd.R_reads' (by (with_reducible repeat (first | apply Kd.R_alloc | apply Kd.R_drewN | apply Kd.R_drew)); exact (Kd.R_mono (Kd.R_far (p := ⟨gb8030, 1, none⟩) (Kd.R_far (p := ⟨gb8030, 0, none⟩) (Kd.R_types HL8029_1.out BK8030.out (by decide)) (fun _ hk => hk.2) (.slice A8029_0 ((rd_T50 t8009 x110_4).f0).length c8029_0)) (fun _ hk => hk.2) (.slice A8029_1 ((rd_T50 t8009 x110_4).f1).length c8029_1)) (fun _ h_ => h_.1)))).2.2) hb); have n10_ := Aside0.mk (blk_below (g := gb8030) (o := .cells #[.slice A8029_0 ((rd_T50 t8009 x110_4).f0).length c8029_0, .slice A8029_1 ((rd_T50 t8009 x110_4).f1).length c8029_1] 50 (0, 0)) (by (with_reducible repeat (first | refine blk_drewN ?_ _ | refine blk_drew ?_ | refine blk_alloc ?_ _)); refine blk_put (cs := #[.slice A8029_0 ((rd_T50 t8009 x110_4).f0).length c8029_0, .slice none 0 0]) ?_ 1 _ rfl; (with_reducible repeat (first | refine blk_drewN ?_ _ | refine blk_drew ?_ | refine blk_alloc ?_ _)); refine blk_put (cs := #[.slice none 0 0, .slice none 0 0]) ?_ 0 _ rfl; (with_reducible repeat (first | refine blk_drewN ?_ _ | refine blk_drew ?_ | refine blk_alloc ?_ _)); exact BK8030.out) hb); have n11_ := Aside0.mk (below_step (by repeat (first | (with_reducible first | exact HB.out | apply below_alloc | apply pw_below_drewN | apply below_drew1 | refine below_set ?_ GE8030.out) | exact HB.out)) hb); clear HO_5; clear HO_7; clear HO_12; clear HO_14; clear HO_83; clear HO_108; clear HL8029_0; clear HL8029_1; clear HR8029_0; clear HR8029_1; clear BK8030; clear HB; have HO_5 := n0_; have HO_7 := n1_; have HO_12 := n2_; have HO_14 := n3_; have HO_83 := n4_; have HO_108 := n5_; have HL8029_0 := n6_; have HL8029_1 := n7_; have HR8029_0 := n8_; have HR8029_1 := n9_; have BK8030 := n10_; have HB := n11_; clear n0_ n1_ n2_ n3_ n4_ n5_ n6_ n7_ n8_ n9_ n10_ n11_; (try clear hb); (try clear hb2); (try clear hk); (try clear hi)))
                                                go_ret
                                                exact ⟨by first | rfl | (simp [errW_none, errW_some] <;> rfl) | (simp only [← hji36]; first | rfl | (simp [errW_none, errW_some] <;> rfl)) | (simp [*, errW_none, errW_some] <;> rfl), by repeat (first | (with_reducible first | exact HB.out | apply below_alloc | apply pw_below_drewN | apply below_drew1 | refine below_set ?_ GE8030.out) | exact HB.out)⟩
                                            · rw [if_neg c48] at H
                                              exact absurd H (by simp)
                                          · rw [if_neg c47] at H
                                            exact absurd H (by simp)
                                        · rw [if_neg c46] at H
                                          have c46b0 : decide (x110_4 < (t8009.length : Int)) = false := decide_eq_false c46
                                          clear c46
                                          replace H := Option.bind_eq_some_iff.mp H
                                          obtain ⟨⟨t8036, t8037⟩, A650, H⟩ := H
                                          replace H : ((impl_GuessOf.f k4 t8004 x14_4).bind fun bt8040 => (if t8037 = true then (if bt8040.2.2 = true then ((laws_ints.f k4 x14_4 t8036).bind fun t8043 => (if t8043 = true then (if bt8040.2.1 = (rd x83_2 x85_2) then (if (rd x83_2 x85_2) = 0 then (if bt8040.1 = (-1) then (laws_FnCoins.l0 k4 (wrap64 (3 * (wrap64 (1 + (Int.tmod t8002 (wrap64 ((wrap64 (Int.tdiv t8003 3)) + 1))))))) t8004 t8009 (ji36) x83_2 (t8014.length : Int) (wrap64 (x85_2 + 1))) else (some false)) else (if bt8040.1 = (ji36) then (laws_FnCoins.l0 k4 (wrap64 (3 * (wrap64 (1 + (Int.tmod t8002 (wrap64 ((wrap64 (Int.tdiv t8003 3)) + 1))))))) t8004 t8009 (ji36) x83_2 (t8014.length : Int) (wrap64 (x85_2 + 1))) else (some false))) else (some false)) else (some false))) else (some false)) else (some false))) = some r := H
                                          have A65 := Aside0.mk A650
                                          clear A650
                                          replace H := Option.bind_eq_some_iff.mp H
                                          obtain ⟨⟨t8040, t8041, t8042⟩, A660, H⟩ := H
                                          replace H : (if t8037 = true then (if t8042 = true then ((laws_ints.f k4 x14_4 t8036).bind fun t8043 => (if t8043 = true then (if t8041 = (rd x83_2 x85_2) then (if (rd x83_2 x85_2) = 0 then (if t8040 = (-1) then (laws_FnCoins.l0 k4 (wrap64 (3 * (wrap64 (1 + (Int.tmod t8002 (wrap64 ((wrap64 (Int.tdiv t8003 3)) + 1))))))) t8004 t8009 (ji36) x83_2 (t8014.length : Int) (wrap64 (x85_2 + 1))) else (some false)) else (if t8040 = (ji36) then (laws_FnCoins.l0 k4 (wrap64 (3 * (wrap64 (1 + (Int.tmod t8002 (wrap64 ((wrap64 (Int.tdiv t8003 3)) + 1))))))) t8004 t8009 (ji36) x83_2 (t8014.length : Int) (wrap64 (x85_2 + 1))) else (some false))) else (some false)) else (some false))) else (some false)) else (some false)) = some r := H
                                          have A66 := Aside0.mk A660
                                          clear A660
                                          by_cases c67 : t8037 = true
                                          · subst c67
                                            have H1 : (if t8042 = true then ((laws_ints.f k4 x14_4 t8036).bind fun t8043 => (if t8043 = true then (if t8041 = (rd x83_2 x85_2) then (if (rd x83_2 x85_2) = 0 then (if t8040 = (-1) then (laws_FnCoins.l0 k4 (wrap64 (3 * (wrap64 (1 + (Int.tmod t8002 (wrap64 ((wrap64 (Int.tdiv t8003 3)) + 1))))))) t8004 t8009 (ji36) x83_2 (t8014.length : Int) (wrap64 (x85_2 + 1))) else (some false)) else (if t8040 = (ji36) then (laws_FnCoins.l0 k4 (wrap64 (3 * (wrap64 (1 + (Int.tmod t8002 (wrap64 ((wrap64 (Int.tdiv t8003 3)) + 1))))))) t8004 t8009 (ji36) x83_2 (t8014.length : Int) (wrap64 (x85_2 + 1))) else (some false))) else (some false)) else (some false))) else (some false)) = some r := by rw [if_pos rfl] at H; exact H
                                            clear H
                                            have H := H1
                                            clear H1
                                            by_cases c68 : t8042 = true
                                            · subst c68
                                              have H1 : ((laws_ints.f k4 x14_4 t8036).bind fun t8043 => (if t8043 = true then (if t8041 = (rd x83_2 x85_2) then (if (rd x83_2 x85_2) = 0 then (if t8040 = (-1) then (laws_FnCoins.l0 k4 (wrap64 (3 * (wrap64 (1 + (Int.tmod t8002 (wrap64 ((wrap64 (Int.tdiv t8003 3)) + 1))))))) t8004 t8009 (ji36) x83_2 (t8014.length : Int) (wrap64 (x85_2 + 1))) else (some false)) else (if t8040 = (ji36) then (laws_FnCoins.l0 k4 (wrap64 (3 * (wrap64 (1 + (Int.tmod t8002 (wrap64 ((wrap64 (Int.tdiv t8003 3)) + 1))))))) t8004 t8009 (ji36) x83_2 (t8014.length : Int) (wrap64 (x85_2 + 1))) else (some false))) else (some false)) else (some false))) = some r := by rw [if_pos rfl] at H; exact H
                                              clear H
                                              have H := H1
                                              clear H1
                                              replace H := Option.bind_eq_some_iff.mp H
                                              obtain ⟨t8043, A690, H⟩ := H
                                              replace H : (if t8043 = true then (if t8041 = (rd x83_2 x85_2) then (if (rd x83_2 x85_2) = 0 then (if t8040 = (-1) then (laws_FnCoins.l0 k4 (wrap64 (3 * (wrap64 (1 + (Int.tmod t8002 (wrap64 ((wrap64 (Int.tdiv t8003 3)) + 1))))))) t8004 t8009 (ji36) x83_2 (t8014.length : Int) (wrap64 (x85_2 + 1))) else (some false)) else (if t8040 = (ji36) then (laws_FnCoins.l0 k4 (wrap64 (3 * (wrap64 (1 + (Int.tmod t8002 (wrap64 ((wrap64 (Int.tdiv t8003 3)) + 1))))))) t8004 t8009 (ji36) x83_2 (t8014.length : Int) (wrap64 (x85_2 + 1))) else (some false))) else (some false)) else (some false)) = some r := H
                                              have A69 := Aside0.mk A690
                                              clear A690
                                              by_cases c70 : t8043 = true
                                              · subst c70
                                                have H1 : (if t8041 = (rd x83_2 x85_2) then (if (rd x83_2 x85_2) = 0 then (if t8040 = (-1) then (laws_FnCoins.l0 k4 (wrap64 (3 * (wrap64 (1 + (Int.tmod t8002 (wrap64 ((wrap64 (Int.tdiv t8003 3)) + 1))))))) t8004 t8009 (ji36) x83_2 (t8014.length : Int) (wrap64 (x85_2 + 1))) else (some false)) else (if t8040 = (ji36) then (laws_FnCoins.l0 k4 (wrap64 (3 * (wrap64 (1 + (Int.tmod t8002 (wrap64 ((wrap64 (Int.tdiv t8003 3)) + 1))))))) t8004 t8009 (ji36) x83_2 (t8014.length : Int) (wrap64 (x85_2 + 1))) else (some false))) else (some false)) = some r := by rw [if_pos rfl] at H; exact H
                                                clear H
                                                have H := H1
                                                clear H1
                                                by_cases c71 : t8041 = (rd x83_2 x85_2)
                                                · rw [if_pos c71] at H
                                                  have c71b0 : (t8041 == (rd x83_2 x85_2)) = true := beq_iff_eq.mpr c71
                                                  have c71b1 : (t8041 != (rd x83_2 x85_2)) = false := bne_eq_false_iff_eq.mpr c71
                                                  clear c71
                                                  by_cases c72 : (rd x83_2 x85_2) = 0
                                                  · rw [if_pos c72] at H
                                                    have c72b0 : ((rd x83_2 x85_2) == 0) = true := beq_iff_eq.mpr c72
                                                    have c72b1 : ((rd x83_2 x85_2) != 0) = false := bne_eq_false_iff_eq.mpr c72
                                                    clear c72
                                                    by_cases c73 : t8040 = (-1)
                                                    · rw [if_pos c73] at H
                                                      have c73b0 : (t8040 == (-1)) = true := beq_iff_eq.mpr c73
                                                      have c73b1 : (t8040 != (-1)) = false := bne_eq_false_iff_eq.mpr c73
                                                      clear c73
                                                      have H' := Aside0.mk H
                                                      clear H
                                                      go_wp2_with (first | ((with_reducible refine gate_callee (f := 39) rfl ?_); refine goesL_ (some 140) rfl rfl Try.func39 (by kernel_rfl) rfl #[.slice Ao16 t8004.length co16, .int .i64 (ji36), .int .i64 (rd x83_2 x85_2)] rfl (by (try simp only [List.map_toArray, List.map_cons, List.map_nil]); first | done | (simp only [hji36]; rfl) | rfl | (simp only [List.length_drop, List.length_take]; rfl)) ?_; (with_reducible refine (impl_OutcomeOf.calls k4 _ _ t8004 (ji36) (rd x83_2 x85_2) t8036 true _ ?side1 ?side2 A65.out).mono ?_); (case side1 => repeat (first | exact (Kd.S_reads' HO_5.out).2.2 | (with_reducible refine Kd.C_alloc ?_ _) | (with_reducible refine Kd.C_drewN ?_ _) | (with_reducible refine Kd.C_drew ?_))); (case side2 => exact (Kd.S_reads' HO_5.out).2.1); rintro e w74 ⟨v8038, rfl, ho0, hb⟩; refine ⟨_, rfl, ?_⟩; have n0_ := Aside0.mk (Kd.S_elder' (by (with_reducible repeat (first | apply Kd.S_alloc | apply Kd.S_drewN | apply Kd.S_drew)); exact HO_5.out) (Kd.R_base ho0) hb); have n1_ := Aside0.mk (Kd.S_elder' (by (with_reducible repeat (first | apply Kd.S_alloc | apply Kd.S_drewN | apply Kd.S_drew)); exact HO_7.out) (Kd.R_base ho0) hb); have n2_ := Aside0.mk (Kd.R_elder' (by (with_reducible repeat (first | apply Kd.R_alloc | apply Kd.R_drewN | apply Kd.R_drew)); exact HO_12.out) (Kd.R_base ho0) hb); have n3_ := Aside0.mk (Kd.R_elder' (by (with_reducible repeat (first | apply Kd.R_alloc | apply Kd.R_drewN | apply Kd.R_drew)); exact HO_14.out) (Kd.R_base ho0) hb); have n4_ := Aside0.mk (Kd.R_elder' (by (with_reducible repeat (first | apply Kd.R_alloc | apply Kd.R_drewN | apply Kd.R_drew)); exact HO_83.out) (Kd.R_base ho0) hb); have n5_ := Aside0.mk (Kd.S_elder' (by (with_reducible repeat (first | apply Kd.S_alloc | apply Kd.S_drewN | apply Kd.S_drew)); exact HO_108.out) (Kd.R_base ho0) hb); have n6_ := Aside0.mk (Kd.R_lower (Kd.R_new' (Kd.R_new' (Kd.R_new' ho0 (Kd.R_lt (by (with_reducible repeat (first | apply Kd.R_alloc | apply Kd.R_drewN | apply Kd.R_drew)); exact HO_12.out))) (Kd.R_lt (by (with_reducible repeat (first | apply Kd.R_alloc | apply Kd.R_drewN | apply Kd.R_drew)); exact HO_14.out))) (Kd.R_lt (by (with_reducible repeat (first | apply Kd.R_alloc | apply Kd.R_drewN | apply Kd.R_drew)); exact HO_83.out))) (below_size (by repeat (first | (with_reducible first | exact HB.out | apply below_alloc | apply pw_below_drewN | apply below_drew1) | exact HB.out)))); have n7_ := Aside0.mk (below_step (by repeat (first | (with_reducible first | exact HB.out | apply below_alloc | apply pw_below_drewN | apply below_drew1) | exact HB.out)) hb); clear HO_5; clear HO_7; clear HO_12; clear HO_14; clear HO_83; clear HO_108; clear HB; have HO_5 := n0_; have HO_7 := n1_; have HO_12 := n2_; have HO_14 := n3_; have HO_83 := n4_; have HO_108 := n5_; have HO8039 := n6_; have HB := n7_; clear n0_ n1_ n2_ n3_ n4_ n5_ n6_ n7_; (try clear hb); (try clear hb2); (try clear hk); (try clear hi); (try clear ho0); obtain ⟨Ao75, co75, eo75⟩ := Kd.R_slice HO_14.out; subst eo75) | ((with_reducible refine gate_callee (f := 40) rfl ?_); refine goesL_ (some 146) rfl rfl Try.func40 (by kernel_rfl) rfl #[.slice Ao16 t8004.length co16, .slice Ao75 x14_4.length co75] rfl (by (try simp only [List.map_toArray, List.map_cons, List.map_nil]); first | done | rfl | (simp only [List.length_drop, List.length_take]; rfl)) ?_; (with_reducible refine (impl_GuessOf.calls k4 _ _ t8004 _ _ x14_4 t8040 t8041 true _ ?side1 ?side2 ?side3 ?side4 A66.out).mono ?_); (case side1 => repeat (first | exact (Kd.S_reads' HO_5.out).2.2 | (with_reducible refine Kd.C_alloc ?_ _) | (with_reducible refine Kd.C_drewN ?_ _) | (with_reducible refine Kd.C_drew ?_))); (case side2 => exact (Kd.S_reads' HO_5.out).2.1); (case side3 => repeat (first | exact (Kd.R_reads' HO_14.out).2.2 | (with_reducible refine Kd.C_alloc ?_ _) | (with_reducible refine Kd.C_drewN ?_ _) | (with_reducible refine Kd.C_drew ?_))); (case side4 => exact (Kd.R_reads' HO_14.out).2.1); rintro e w76 ⟨rfl, hb⟩; refine ⟨_, rfl, ?_⟩; have n0_ := Aside0.mk (Kd.S_below (by (with_reducible repeat (first | apply Kd.S_alloc | apply Kd.S_drewN | apply Kd.S_drew)); exact HO_5.out) hb); have n1_ := Aside0.mk (Kd.S_below (by (with_reducible repeat (first | apply Kd.S_alloc | apply Kd.S_drewN | apply Kd.S_drew)); exact HO_7.out) hb); have n2_ := Aside0.mk (Kd.R_below (by (with_reducible repeat (first | apply Kd.R_alloc | apply Kd.R_drewN | apply Kd.R_drew)); exact HO_12.out) hb); have n3_ := Aside0.mk (Kd.R_below (by (with_reducible repeat (first | apply Kd.R_alloc | apply Kd.R_drewN | apply Kd.R_drew)); exact HO_14.out) hb); have n4_ := Aside0.mk (Kd.R_below (by (with_reducible repeat (first | apply Kd.R_alloc | apply Kd.R_drewN | apply Kd.R_drew)); exact HO_83.out) hb); have n5_ := Aside0.mk (Kd.S_below (by (with_reducible repeat (first | apply Kd.S_alloc | apply Kd.S_drewN | apply Kd.S_drew)); exact HO_108.out) hb); have n6_ := Aside0.mk (Kd.R_below (by (with_reducible repeat (first | apply Kd.R_alloc | apply Kd.R_drewN | apply Kd.R_drew)); exact HO8039.out) hb); have n7_ := Aside0.mk (below_step (by repeat (first | (with_reducible first | exact HB.out | apply below_alloc | apply pw_below_drewN | apply below_drew1) | exact HB.out)) hb); clear HO_5; clear HO_7; clear HO_12; clear HO_14; clear HO_83; clear HO_108; clear HO8039; clear HB; have HO_5 := n0_; have HO_7 := n1_; have HO_12 := n2_; have HO_14 := n3_; have HO_83 := n4_; have HO_108 := n5_; have HO8039 := n6_; have HB := n7_; clear n0_ n1_ n2_ n3_ n4_ n5_ n6_ n7_; (try clear hb); (try clear hb2); (try clear hk); (try clear hi); obtain ⟨Ao77, co77, eo77⟩ := Kd.R_slice HO8039.out; subst eo77) | (go_at_call 41; (with_reducible refine (laws_ints.calls k4 _ _ x14_4 _ _ t8036 true _ ?side1 ?side2 ?side3 ?side4 A69.out).mono ?_); (case side1 => repeat (first | exact (Kd.R_reads' HO_14.out).2.2 | (with_reducible refine Kd.C_alloc ?_ _) | (with_reducible refine Kd.C_drewN ?_ _) | (with_reducible refine Kd.C_drew ?_))); (case side2 => exact (Kd.R_reads' HO_14.out).2.1); (case side3 => repeat (first | exact (Kd.R_reads' HO8039.out).2.2 | (with_reducible refine Kd.C_alloc ?_ _) | (with_reducible refine Kd.C_drewN ?_ _) | (with_reducible refine Kd.C_drew ?_))); (case side4 => exact (Kd.R_reads' HO8039.out).2.1); rintro e w' ⟨rfl, ⟨nd, rfl⟩⟩))
                                                      (try simp only [← hl83_2, ← hl12_4])
                                                      subst hji36
                                                      go_roundg k4
                                                      case measure => have := HJ12.out; have := HK2.out; have := HK3.out; have := HK4.out; omega
                                                      case rel => exact ⟨(x83_2), (wrap64 (x85_2 + 1)), (by first | rfl | (simp; done) | (simp [*]; done)), H', ⟨by have := HJ12.out; have := HK2.out; have := HK3.out; have := HK4.out; omega⟩, ⟨by (try simp only [hl83_2]); (try simp only [hl12_4]); (with_reducible repeat (first | apply Kd.S_alloc | apply Kd.S_drewN | apply Kd.S_drew)); exact Kd.S_mono HO_5.out (fun _ hk => hk.1.2.2)⟩, ⟨by (try simp only [hl83_2]); (try simp only [hl12_4]); (with_reducible repeat (first | apply Kd.S_alloc | apply Kd.S_drewN | apply Kd.S_drew)); exact Kd.S_mono HO_7.out (fun _ hk => hk.1.2.2)⟩, ⟨by (try simp only [hl83_2]); (try simp only [hl12_4]); (with_reducible repeat (first | apply Kd.R_alloc | apply Kd.R_drewN | apply Kd.R_drew)); exact Kd.R_mono HO_83.out (fun _ hk => trivial)⟩, ⟨by repeat (first | (with_reducible first | exact HB.out | apply below_alloc | apply pw_below_drewN | apply below_drew1) | exact HB.out)⟩⟩
                                                    · rw [if_neg c73] at H
                                                      have c73b0 : (t8040 == (-1)) = false := beq_eq_false_iff_ne.mpr c73
                                                      have c73b1 : (t8040 != (-1)) = true := bne_iff_ne.mpr c73
                                                      obtain rfl := Option.some.inj H
                                                      go_wp2_with (first | ((with_reducible refine gate_callee (f := 39) rfl ?_); refine goesL_ (some 140) rfl rfl Try.func39 (by kernel_rfl) rfl #[.slice Ao16 t8004.length co16, .int .i64 (ji36), .int .i64 (rd x83_2 x85_2)] rfl (by (try simp only [List.map_toArray, List.map_cons, List.map_nil]); first | done | (simp only [hji36]; rfl) | rfl | (simp only [List.length_drop, List.length_take]; rfl)) ?_; (with_reducible refine (impl_OutcomeOf.calls k4 _ _ t8004 (ji36) (rd x83_2 x85_2) t8036 true _ ?side1 ?side2 A65.out).mono ?_); (case side1 => repeat (first | exact (Kd.S_reads' HO_5.out).2.2 | (with_reducible refine Kd.C_alloc ?_ _) | (with_reducible refine Kd.C_drewN ?_ _) | (with_reducible refine Kd.C_drew ?_))); (case side2 => exact (Kd.S_reads' HO_5.out).2.1); rintro e w78 ⟨v8038, rfl, ho0, hb⟩; refine ⟨_, rfl, ?_⟩; have n0_ := Aside0.mk (Kd.S_elder' (by (with_reducible repeat (first | apply Kd.S_alloc | apply Kd.S_drewN | apply Kd.S_drew)); exact HO_5.out) (Kd.R_base ho0) hb); have n1_ := Aside0.mk (Kd.S_elder' (by (with_reducible repeat (first | apply Kd.S_alloc | apply Kd.S_drewN | apply Kd.S_drew)); exact HO_7.out) (Kd.R_base ho0) hb); have n2_ := Aside0.mk (Kd.R_elder' (by (with_reducible repeat (first | apply Kd.R_alloc | apply Kd.R_drewN | apply Kd.R_drew)); exact HO_12.out) (Kd.R_base ho0) hb); have n3_ := Aside0.mk (Kd.R_elder' (by (with_reducible repeat (first | apply Kd.R_alloc | apply Kd.R_drewN | apply Kd.R_drew)); exact HO_14.out) (Kd.R_base ho0) hb); have n4_ := Aside0.mk (Kd.R_elder' (by (with_reducible repeat (first | apply Kd.R_alloc | apply Kd.R_drewN | apply Kd.R_drew)); exact HO_83.out) (Kd.R_base ho0) hb); have n5_ := Aside0.mk (Kd.S_elder' (by (with_reducible repeat (first | apply Kd.S_alloc | apply Kd.S_drewN | apply Kd.S_drew)); exact HO_108.out) (Kd.R_base ho0) hb); have n6_ := Aside0.mk (Kd.R_lower (Kd.R_new' (Kd.R_new' (Kd.R_new' ho0 (Kd.R_lt (by (with_reducible repeat (first | apply Kd.R_alloc | apply Kd.R_drewN | apply Kd.R_drew)); exact HO_12.out))) (Kd.R_lt (by (with_reducible repeat (first | apply Kd.R_alloc | apply Kd.R_drewN | apply Kd.R_drew)); exact HO_14.out))) (Kd.R_lt (by (with_reducible repeat (first | apply Kd.R_alloc | apply Kd.R_drewN | apply Kd.R_drew)); exact HO_83.out))) (below_size (by repeat (first | (with_reducible first | exact HB.out | apply below_alloc | apply pw_below_drewN | apply below_drew1) | exact HB.out)))); have n7_ := Aside0.mk (below_step (by repeat (first | (with_reducible first | exact HB.out | apply below_alloc | apply pw_below_drewN | apply below_drew1) | exact HB.out)) hb); clear HO_5; clear HO_7; clear HO_12; clear HO_14; clear HO_83; clear HO_108; clear HB; have HO_5 := n0_; have HO_7 := n1_; have HO_12 := n2_; have HO_14 := n3_; have HO_83 := n4_; have HO_108 := n5_; have HO8039 := n6_; have HB := n7_; clear n0_ n1_ n2_ n3_ n4_ n5_ n6_ n7_; (try clear hb); (try clear hb2); (try clear hk); (try clear hi); (try clear ho0); obtain ⟨Ao79, co79, eo79⟩ := Kd.R_slice HO_14.out; subst eo79) | ((with_reducible refine gate_callee (f := 40) rfl ?_); refine goesL_ (some 146) rfl rfl Try.func40 (by kernel_rfl) rfl #[.slice Ao16 t8004.length co16, .slice Ao79 x14_4.length co79] rfl (by (try simp only [List.map_toArray, List.map_cons, List.map_nil]); first | done | rfl | (simp only [List.length_drop, List.length_take]; rfl)) ?_; (with_reducible refine (impl_GuessOf.calls k4 _ _ t8004 _ _ x14_4 t8040 t8041 true _ ?side1 ?side2 ?side3 ?side4 A66.out).mono ?_); (case side1 => repeat (first | exact (Kd.S_reads' HO_5.out).2.2 | (with_reducible refine Kd.C_alloc ?_ _) | (with_reducible refine Kd.C_drewN ?_ _) | (with_reducible refine Kd.C_drew ?_))); (case side2 => exact (Kd.S_reads' HO_5.out).2.1); (case side3 => repeat (first | exact (Kd.R_reads' HO_14.out).2.2 | (with_reducible refine Kd.C_alloc ?_ _) | (with_reducible refine Kd.C_drewN ?_ _) | (with_reducible refine Kd.C_drew ?_))); (case side4 => exact (Kd.R_reads' HO_14.out).2.1); rintro e w80 ⟨rfl, hb⟩; refine ⟨_, rfl, ?_⟩; have n0_ := Aside0.mk (Kd.S_below (by (with_reducible repeat (first | apply Kd.S_alloc | apply Kd.S_drewN | apply Kd.S_drew)); exact HO_5.out) hb); have n1_ := Aside0.mk (Kd.S_below (by (with_reducible repeat (first | apply Kd.S_alloc | apply Kd.S_drewN | apply Kd.S_drew)); exact HO_7.out) hb); have n2_ := Aside0.mk (Kd.R_below (by (with_reducible repeat (first | apply Kd.R_alloc | apply Kd.R_drewN | apply Kd.R_drew)); exact HO_12.out) hb); have n3_ := Aside0.mk (Kd.R_below (by (with_reducible repeat (first | apply Kd.R_alloc | apply Kd.R_drewN | apply Kd.R_drew)); exact HO_14.out) hb); have n4_ := Aside0.mk (Kd.R_below (by (with_reducible repeat (first | apply Kd.R_alloc | apply Kd.R_drewN | apply Kd.R_drew)); exact HO_83.out) hb); have n5_ := Aside0.mk (Kd.S_below (by (with_reducible repeat (first | apply Kd.S_alloc | apply Kd.S_drewN | apply Kd.S_drew)); exact HO_108.out) hb); have n6_ := Aside0.mk (Kd.R_below (by (with_reducible repeat (first | apply Kd.R_alloc | apply Kd.R_drewN | apply Kd.R_drew)); exact HO8039.out) hb); have n7_ := Aside0.mk (below_step (by repeat (first | (with_reducible first | exact HB.out | apply below_alloc | apply pw_below_drewN | apply below_drew1) | exact HB.out)) hb); clear HO_5; clear HO_7; clear HO_12; clear HO_14; clear HO_83; clear HO_108; clear HO8039; clear HB; have HO_5 := n0_; have HO_7 := n1_; have HO_12 := n2_; have HO_14 := n3_; have HO_83 := n4_; have HO_108 := n5_; have HO8039 := n6_; have HB := n7_; clear n0_ n1_ n2_ n3_ n4_ n5_ n6_ n7_; (try clear hb); (try clear hb2); (try clear hk); (try clear hi); obtain ⟨Ao81, co81, eo81⟩ := Kd.R_slice HO8039.out; subst eo81) | (go_at_call 41; (with_reducible refine (laws_ints.calls k4 _ _ x14_4 _ _ t8036 true _ ?side1 ?side2 ?side3 ?side4 A69.out).mono ?_); (case side1 => repeat (first | exact (Kd.R_reads' HO_14.out).2.2 | (with_reducible refine Kd.C_alloc ?_ _) | (with_reducible refine Kd.C_drewN ?_ _) | (with_reducible refine Kd.C_drew ?_))); (case side2 => exact (Kd.R_reads' HO_14.out).2.1); (case side3 => repeat (first | exact (Kd.R_reads' HO8039.out).2.2 | (with_reducible refine Kd.C_alloc ?_ _) | (with_reducible refine Kd.C_drewN ?_ _) | (with_reducible refine Kd.C_drew ?_))); (case side4 => exact (Kd.R_reads' HO8039.out).2.1); rintro e w' ⟨rfl, ⟨nd, rfl⟩⟩))
                                                      go_ret
                                                      exact ⟨by first | rfl | (simp [errW_none, errW_some] <;> rfl) | (simp only [← hji36]; first | rfl | (simp [errW_none, errW_some] <;> rfl)) | (simp [*, errW_none, errW_some] <;> rfl), by repeat (first | (with_reducible first | exact HB.out | apply below_alloc | apply pw_below_drewN | apply below_drew1) | exact HB.out)⟩
                                                  · rw [if_neg c72] at H
                                                    have c72b0 : ((rd x83_2 x85_2) == 0) = false := beq_eq_false_iff_ne.mpr c72
                                                    have c72b1 : ((rd x83_2 x85_2) != 0) = true := bne_iff_ne.mpr c72
                                                    by_cases c82 : t8040 = (ji36)
                                                    · rw [if_pos c82] at H
                                                      have c82b0 : (t8040 == (ji36)) = true := beq_iff_eq.mpr c82
                                                      have c82b1 : (t8040 != (ji36)) = false := bne_eq_false_iff_eq.mpr c82
                                                      clear c82
                                                      have H' := Aside0.mk H
                                                      clear H
                                                      go_wp2_with (first | ((with_reducible refine gate_callee (f := 39) rfl ?_); refine goesL_ (some 140) rfl rfl Try.func39 (by kernel_rfl) rfl #[.slice Ao16 t8004.length co16, .int .i64 (ji36), .int .i64 (rd x83_2 x85_2)] rfl (by (try simp only [List.map_toArray, List.map_cons, List.map_nil]); first | done | (simp only [hji36]; rfl) | rfl | (simp only [List.length_drop, List.length_take]; rfl)) ?_; (with_reducible refine (impl_OutcomeOf.calls k4 _ _ t8004 (ji36) (rd x83_2 x85_2) t8036 true _ ?side1 ?side2 A65.out).mono ?_); (case side1 => repeat (first | exact (Kd.S_reads' HO_5.out).2.2 | (with_reducible refine Kd.C_alloc ?_ _) | (with_reducible refine Kd.C_drewN ?_ _) | (with_reducible refine Kd.C_drew ?_))); (case side2 => exact (Kd.S_reads' HO_5.out).2.1); rintro e w83 ⟨v8038, rfl, ho0, hb⟩; refine ⟨_, rfl, ?_⟩; have n0_ := Aside0.mk (Kd.S_elder' (by (with_reducible repeat (first | apply Kd.S_alloc | apply Kd.S_drewN | apply Kd.S_drew)); exact HO_5.out) (Kd.R_base ho0) hb); have n1_ := Aside0.mk (Kd.S_elder' (by (with_reducible repeat (first | apply Kd.S_alloc | apply Kd.S_drewN | apply Kd.S_drew)); exact HO_7.out) (Kd.R_base ho0) hb); have n2_ := Aside0.mk (Kd.R_elder' (by (with_reducible repeat (first | apply Kd.R_alloc | apply Kd.R_drewN | apply Kd.R_drew)); exact HO_12.out) (Kd.R_base ho0) hb); have n3_ := Aside0.mk (Kd.R_elder' (by (with_reducible repeat (first | apply Kd.R_alloc | apply Kd.R_drewN | apply Kd.R_drew)); exact HO_14.out) (Kd.R_base ho0) hb); have n4_ := Aside0.mk (Kd.R_elder' (by (with_reducible repeat (first | apply Kd.R_alloc | apply Kd.R_drewN | apply Kd.R_drew)); exact HO_83.out) (Kd.R_base ho0) hb); have n5_ := Aside0.mk (Kd.S_elder' (by (with_reducible repeat (first | apply Kd.S_alloc | apply Kd.S_drewN | apply Kd.S_drew)); exact HO_108.out) (Kd.R_base ho0) hb); have n6_ := Aside0.mk (Kd.R_lower (Kd.R_new' (Kd.R_new' (Kd.R_new' ho0 (Kd.R_lt (by (with_reducible repeat (first | apply Kd.R_alloc | apply Kd.R_drewN | apply Kd.R_drew)); exact HO_12.out))) (Kd.R_lt (by (with_reducible repeat (first | apply Kd.R_alloc | apply Kd.R_drewN | apply Kd.R_drew)); exact HO_14.out))) (Kd.R_lt (by (with_reducible repeat (first | apply Kd.R_alloc | apply Kd.R_drewN | apply Kd.R_drew)); exact HO_83.out))) (below_size (by repeat (first | (with_reducible first | exact HB.out | apply below_alloc | apply pw_below_drewN | apply below_drew1) | exact HB.out)))); have n7_ := Aside0.mk (below_step (by repeat (first | (with_reducible first | exact HB.out | apply below_alloc | apply pw_below_drewN | apply below_drew1) | exact HB.out)) hb); clear HO_5; clear HO_7; clear HO_12; clear HO_14; clear HO_83; clear HO_108; clear HB; have HO_5 := n0_; have HO_7 := n1_; have HO_12 := n2_; have HO_14 := n3_; have HO_83 := n4_; have HO_108 := n5_; have HO8039 := n6_; have HB := n7_; clear n0_ n1_ n2_ n3_ n4_ n5_ n6_ n7_; (try clear hb); (try clear hb2); (try clear hk); (try clear hi); (try clear ho0); obtain ⟨Ao84, co84, eo84⟩ := Kd.R_slice HO_14.out; subst eo84) | ((with_reducible refine gate_callee (f := 40) rfl ?_); refine goesL_ (some 146) rfl rfl Try.func40 (by kernel_rfl) rfl #[.slice Ao16 t8004.length co16, .slice Ao84 x14_4.length co84] rfl (by (try simp only [List.map_toArray, List.map_cons, List.map_nil]); first | done | rfl | (simp only [List.length_drop, List.length_take]; rfl)) ?_; (with_reducible refine (impl_GuessOf.calls k4 _ _ t8004 _ _ x14_4 t8040 t8041 true _ ?side1 ?side2 ?side3 ?side4 A66.out).mono ?_); (case side1 => repeat (first | exact (Kd.S_reads' HO_5.out).2.2 | (with_reducible refine Kd.C_alloc ?_ _) | (with_reducible refine Kd.C_drewN ?_ _) | (with_reducible refine Kd.C_drew ?_))); (case side2 => exact (Kd.S_reads' HO_5.out).2.1); (case side3 => repeat (first | exact (Kd.R_reads' HO_14.out).2.2 | (with_reducible refine Kd.C_alloc ?_ _) | (with_reducible refine Kd.C_drewN ?_ _) | (with_reducible refine Kd.C_drew ?_))); (case side4 => exact (Kd.R_reads' HO_14.out).2.1); rintro e w85 ⟨rfl, hb⟩; refine ⟨_, rfl, ?_⟩; have n0_ := Aside0.mk (Kd.S_below (by (with_reducible repeat (first | apply Kd.S_alloc | apply Kd.S_drewN | apply Kd.S_drew)); exact HO_5.out) hb); have n1_ := Aside0.mk (Kd.S_below (by (with_reducible repeat (first | apply Kd.S_alloc | apply Kd.S_drewN | apply Kd.S_drew)); exact HO_7.out) hb); have n2_ := Aside0.mk (Kd.R_below (by (with_reducible repeat (first | apply Kd.R_alloc | apply Kd.R_drewN | apply Kd.R_drew)); exact HO_12.out) hb); have n3_ := Aside0.mk (Kd.R_below (by (with_reducible repeat (first | apply Kd.R_alloc | apply Kd.R_drewN | apply Kd.R_drew)); exact HO_14.out) hb); have n4_ := Aside0.mk (Kd.R_below (by (with_reducible repeat (first | apply Kd.R_alloc | apply Kd.R_drewN | apply Kd.R_drew)); exact HO_83.out) hb); have n5_ := Aside0.mk (Kd.S_below (by (with_reducible repeat (first | apply Kd.S_alloc | apply Kd.S_drewN | apply Kd.S_drew)); exact HO_108.out) hb); have n6_ := Aside0.mk (Kd.R_below (by (with_reducible repeat (first | apply Kd.R_alloc | apply Kd.R_drewN | apply Kd.R_drew)); exact HO8039.out) hb); have n7_ := Aside0.mk (below_step (by repeat (first | (with_reducible first | exact HB.out | apply below_alloc | apply pw_below_drewN | apply below_drew1) | exact HB.out)) hb); clear HO_5; clear HO_7; clear HO_12; clear HO_14; clear HO_83; clear HO_108; clear HO8039; clear HB; have HO_5 := n0_; have HO_7 := n1_; have HO_12 := n2_; have HO_14 := n3_; have HO_83 := n4_; have HO_108 := n5_; have HO8039 := n6_; have HB := n7_; clear n0_ n1_ n2_ n3_ n4_ n5_ n6_ n7_; (try clear hb); (try clear hb2); (try clear hk); (try clear hi); obtain ⟨Ao86, co86, eo86⟩ := Kd.R_slice HO8039.out; subst eo86) | (go_at_call 41; (with_reducible refine (laws_ints.calls k4 _ _ x14_4 _ _ t8036 true _ ?side1 ?side2 ?side3 ?side4 A69.out).mono ?_); (case side1 => repeat (first | exact (Kd.R_reads' HO_14.out).2.2 | (with_reducible refine Kd.C_alloc ?_ _) | (with_reducible refine Kd.C_drewN ?_ _) | (with_reducible refine Kd.C_drew ?_))); (case side2 => exact (Kd.R_reads' HO_14.out).2.1); (case side3 => repeat (first | exact (Kd.R_reads' HO8039.out).2.2 | (with_reducible refine Kd.C_alloc ?_ _) | (with_reducible refine Kd.C_drewN ?_ _) | (with_reducible refine Kd.C_drew ?_))); (case side4 => exact (Kd.R_reads' HO8039.out).2.1); rintro e w' ⟨rfl, ⟨nd, rfl⟩⟩))
                                                      (try simp only [← hl83_2, ← hl12_4])
                                                      subst hji36
                                                      go_roundg k4
                                                      case measure => have := HJ12.out; have := HK2.out; have := HK3.out; have := HK4.out; omega
                                                      case rel => exact ⟨(x83_2), (wrap64 (x85_2 + 1)), (by first | rfl | (simp; done) | (simp [*]; done)), H', ⟨by have := HJ12.out; have := HK2.out; have := HK3.out; have := HK4.out; omega⟩, ⟨by (try simp only [hl83_2]); (try simp only [hl12_4]); (with_reducible repeat (first | apply Kd.S_alloc | apply Kd.S_drewN | apply Kd.S_drew)); exact Kd.S_mono HO_5.out (fun _ hk => hk.1.2.2)⟩, ⟨by (try simp only [hl83_2]); (try simp only [hl12_4]); (with_reducible repeat (first | apply Kd.S_alloc | apply Kd.S_drewN | apply Kd.S_drew)); exact Kd.S_mono HO_7.out (fun _ hk => hk.1.2.2)⟩, ⟨by (try simp only [hl83_2]); (try simp only [hl12_4]); (with_reducible repeat (first | apply Kd.R_alloc | apply Kd.R_drewN | apply Kd.R_drew)); exact Kd.R_mono HO_83.out (fun _ hk => trivial)⟩, ⟨by repeat (first | (with_reducible first | exact HB.out | apply below_alloc | apply pw_below_drewN | apply below_drew1) | exact HB.out)⟩⟩
                                                    · rw [if_neg c82] at H
                                                      have c82b0 : (t8040 == (ji36)) = false := beq_eq_false_iff_ne.mpr c82
                                                      have c82b1 : (t8040 != (ji36)) = true := bne_iff_ne.mpr c82
                                                      obtain rfl := Option.some.inj H
                                                      go_wp2_with (first | ((with_reducible refine gate_callee (f := 39) rfl ?_); refine goesL_ (some 140) rfl rfl Try.func39 (by kernel_rfl) rfl #[.slice Ao16 t8004.length co16, .int .i64 (ji36), .int .i64 (rd x83_2 x85_2)] rfl (by (try simp only [List.map_toArray, List.map_cons, List.map_nil]); first | done | (simp only [hji36]; rfl) | rfl | (simp only [List.length_drop, List.length_take]; rfl)) ?_; (with_reducible refine (impl_OutcomeOf.calls k4 _ _ t8004 (ji36) (rd x83_2 x85_2) t8036 true _ ?side1 ?side2 A65.out).mono ?_); (case side1 => repeat (first | exact (Kd.S_reads' HO_5.out).2.2 | (with_reducible refine Kd.C_alloc ?_ _) | (with_reducible refine Kd.C_drewN ?_ _) | (with_reducible refine Kd.C_drew ?_))); (case side2 => exact (Kd.S_reads' HO_5.out).2.1); rintro e w87 ⟨v8038, rfl, ho0, hb⟩; refine ⟨_, rfl, ?_⟩; have n0_ := Aside0.mk (Kd.S_elder' (by (with_reducible repeat (first | apply Kd.S_alloc | apply Kd.S_drewN | apply Kd.S_drew)); exact HO_5.out) (Kd.R_base ho0) hb); have n1_ := Aside0.mk (Kd.S_elder' (by (with_reducible repeat (first | apply Kd.S_alloc | apply Kd.S_drewN | apply Kd.S_drew)); exact HO_7.out) (Kd.R_base ho0) hb); have n2_ := Aside0.mk (Kd.R_elder' (by (with_reducible repeat (first | apply Kd.R_alloc | apply Kd.R_drewN | apply Kd.R_drew)); exact HO_12.out) (Kd.R_base ho0) hb); have n3_ := Aside0.mk (Kd.R_elder' (by (with_reducible repeat (first | apply Kd.R_alloc | apply Kd.R_drewN | apply Kd.R_drew)); exact HO_14.out) (Kd.R_base ho0) hb); have n4_ := Aside0.mk (Kd.R_elder' (by (with_reducible repeat (first | apply Kd.R_alloc | apply Kd.R_drewN | apply Kd.R_drew)); exact HO_83.out) (Kd.R_base ho0) hb); have n5_ := Aside0.mk (Kd.S_elder' (by (with_reducible repeat (first | apply Kd.S_alloc | apply Kd.S_drewN | apply Kd.S_drew)); exact HO_108.out) (Kd.R_base ho0) hb); have n6_ := Aside0.mk (Kd.R_lower (Kd.R_new' (Kd.R_new' (Kd.R_new' ho0 (Kd.R_lt (by (with_reducible repeat (first | apply Kd.R_alloc | apply Kd.R_drewN | apply Kd.R_drew)); exact HO_12.out))) (Kd.R_lt (by (with_reducible repeat (first | apply Kd.R_alloc | apply Kd.R_drewN | apply Kd.R_drew)); exact HO_14.out))) (Kd.R_lt (by (with_reducible repeat (first | apply Kd.R_alloc | apply Kd.R_drewN | apply Kd.R_drew)); exact HO_83.out))) (below_size (by repeat (first | (with_reducible first | exact HB.out | apply below_alloc | apply pw_below_drewN | apply below_drew1) | exact HB.out)))); have n7_ := Aside0.mk (below_step (by repeat (first | (with_reducible first | exact HB.out | apply below_alloc | apply pw_below_drewN | apply below_drew1) | exact HB.out)) hb); clear HO_5; clear HO_7; clear HO_12; clear HO_14; clear HO_83; clear HO_108; clear HB; have HO_5 := n0_; have HO_7 := n1_; have HO_12 := n2_; have HO_14 := n3_; have HO_83 := n4_; have HO_108 := n5_; have HO8039 := n6_; have HB := n7_; clear n0_ n1_ n2_ n3_ n4_ n5_ n6_ n7_; (try clear hb); (try clear hb2); (try clear hk); (try clear hi); (try clear ho0); obtain ⟨Ao88, co88, eo88⟩ := Kd.R_slice HO_14.out; subst eo88) | ((with_reducible refine gate_callee (f := 40) rfl ?_); refine goesL_ (some 146) rfl rfl Try.func40 (by kernel_rfl) rfl #[.slice Ao16 t8004.length co16, .slice Ao88 x14_4.length co88] rfl (by (try simp only [List.map_toArray, List.map_cons, List.map_nil]); first | done | rfl | (simp only [List.length_drop, List.length_take]; rfl)) ?_; (with_reducible refine (impl_GuessOf.calls k4 _ _ t8004 _ _ x14_4 t8040 t8041 true _ ?side1 ?side2 ?side3 ?side4 A66.out).mono ?_); (case side1 => repeat (first | exact (Kd.S_reads' HO_5.out).2.2 | (with_reducible refine Kd.C_alloc ?_ _) | (with_reducible refine Kd.C_drewN ?_ _) | (with_reducible refine Kd.C_drew ?_))); (case side2 => exact (Kd.S_reads' HO_5.out).2.1); (case side3 => repeat (first | exact (Kd.R_reads' HO_14.out).2.2 | (with_reducible refine Kd.C_alloc ?_ _) | (with_reducible refine Kd.C_drewN ?_ _) | (with_reducible refine Kd.C_drew ?_))); (case side4 => exact (Kd.R_reads' HO_14.out).2.1); rintro e w89 ⟨rfl, hb⟩; refine ⟨_, rfl, ?_⟩; have n0_ := Aside0.mk (Kd.S_below (by (with_reducible repeat (first | apply Kd.S_alloc | apply Kd.S_drewN | apply Kd.S_drew)); exact HO_5.out) hb); have n1_ := Aside0.mk (Kd.S_below (by (with_reducible repeat (first | apply Kd.S_alloc | apply Kd.S_drewN | apply Kd.S_drew)); exact HO_7.out) hb); have n2_ := Aside0.mk (Kd.R_below (by (with_reducible repeat (first | apply Kd.R_alloc | apply Kd.R_drewN | apply Kd.R_drew)); exact HO_12.out) hb); have n3_ := Aside0.mk (Kd.R_below (by (with_reducible repeat (first | apply Kd.R_alloc | apply Kd.R_drewN | apply Kd.R_drew)); exact HO_14.out) hb); have n4_ := Aside0.mk (Kd.R_below (by (with_reducible repeat (first | apply Kd.R_alloc | apply Kd.R_drewN | apply Kd.R_drew)); exact HO_83.out) hb); have n5_ := Aside0.mk (Kd.S_below (by (with_reducible repeat (first | apply Kd.S_alloc | apply Kd.S_drewN | apply Kd.S_drew)); exact HO_108.out) hb); have n6_ := Aside0.mk (Kd.R_below (by (with_reducible repeat (first | apply Kd.R_alloc | apply Kd.R_drewN | apply Kd.R_drew)); exact HO8039.out) hb); have n7_ := Aside0.mk (below_step (by repeat (first | (with_reducible first | exact HB.out | apply below_alloc | apply pw_below_drewN | apply below_drew1) | exact HB.out)) hb); clear HO_5; clear HO_7; clear HO_12; clear HO_14; clear HO_83; clear HO_108; clear HO8039; clear HB; have HO_5 := n0_; have HO_7 := n1_; have HO_12 := n2_; have HO_14 := n3_; have HO_83 := n4_; have HO_108 := n5_; have HO8039 := n6_; have HB := n7_; clear n0_ n1_ n2_ n3_ n4_ n5_ n6_ n7_; (try clear hb); (try clear hb2); (try clear hk); (try clear hi); obtain ⟨Ao90, co90, eo90⟩ := Kd.R_slice HO8039.out; subst eo90) | (go_at_call 41; (with_reducible refine (laws_ints.calls k4 _ _ x14_4 _ _ t8036 true _ ?side1 ?side2 ?side3 ?side4 A69.out).mono ?_); (case side1 => repeat (first | exact (Kd.R_reads' HO_14.out).2.2 | (with_reducible refine Kd.C_alloc ?_ _) | (with_reducible refine Kd.C_drewN ?_ _) | (with_reducible refine Kd.C_drew ?_))); (case side2 => exact (Kd.R_reads' HO_14.out).2.1); (case side3 => repeat (first | exact (Kd.R_reads' HO8039.out).2.2 | (with_reducible refine Kd.C_alloc ?_ _) | (with_reducible refine Kd.C_drewN ?_ _) | (with_reducible refine Kd.C_drew ?_))); (case side4 => exact (Kd.R_reads' HO8039.out).2.1); rintro e w' ⟨rfl, ⟨nd, rfl⟩⟩))
                                                      go_ret
                                                      exact ⟨by first | rfl | (simp [errW_none, errW_some] <;> rfl) | (simp only [← hji36]; first | rfl | (simp [errW_none, errW_some] <;> rfl)) | (simp [*, errW_none, errW_some] <;> rfl), by repeat (first | (with_reducible first | exact HB.out | apply below_alloc | apply pw_below_drewN | apply below_drew1) | exact HB.out)⟩
                                                · rw [if_neg c71] at H
                                                  have c71b0 : (t8041 == (rd x83_2 x85_2)) = false := beq_eq_false_iff_ne.mpr c71
                                                  have c71b1 : (t8041 != (rd x83_2 x85_2)) = true := bne_iff_ne.mpr c71
                                                  obtain rfl := Option.some.inj H
                                                  go_wp2_with (first | ((with_reducible refine gate_callee (f := 39) rfl ?_); refine goesL_ (some 140) rfl rfl Try.func39 (by kernel_rfl) rfl #[.slice Ao16 t8004.length co16, .int .i64 (ji36), .int .i64 (rd x83_2 x85_2)] rfl (by (try simp only [List.map_toArray, List.map_cons, List.map_nil]); first | done | (simp only [hji36]; rfl) | rfl | (simp only [List.length_drop, List.length_take]; rfl)) ?_; (with_reducible refine (impl_OutcomeOf.calls k4 _ _ t8004 (ji36) (rd x83_2 x85_2) t8036 true _ ?side1 ?side2 A65.out).mono ?_); (case side1 => repeat (first | exact (Kd.S_reads' HO_5.out).2.2 | (with_reducible refine Kd.C_alloc ?_ _) | (with_reducible refine Kd.C_drewN ?_ _) | (with_reducible refine Kd.C_drew ?_))); (case side2 => exact (Kd.S_reads' HO_5.out).2.1); rintro e w91 ⟨v8038, rfl, ho0, hb⟩; refine ⟨_, rfl, ?_⟩; have n0_ := Aside0.mk (Kd.S_elder' (by (with_reducible repeat (first | apply Kd.S_alloc | apply Kd.S_drewN | apply Kd.S_drew)); exact HO_5.out) (Kd.R_base ho0) hb); have n1_ := Aside0.mk (Kd.S_elder' (by (with_reducible repeat (first | apply Kd.S_alloc | apply Kd.S_drewN | apply Kd.S_drew)); exact HO_7.out) (Kd.R_base ho0) hb); have n2_ := Aside0.mk (Kd.R_elder' (by (with_reducible repeat (first | apply Kd.R_alloc | apply Kd.R_drewN | apply Kd.R_drew)); exact HO_12.out) (Kd.R_base ho0) hb); have n3_ := Aside0.mk (Kd.R_elder' (by (with_reducible repeat (first | apply Kd.R_alloc | apply Kd.R_drewN | apply Kd.R_drew)); exact HO_14.out) (Kd.R_base ho0) hb); have n4_ := Aside0.mk (Kd.R_elder' (by (with_reducible repeat (first | apply Kd.R_alloc | apply Kd.R_drewN | apply Kd.R_drew)); exact HO_83.out) (Kd.R_base ho0) hb); have n5_ := Aside0.mk (Kd.S_elder' (by (with_reducible repeat (first | apply Kd.S_alloc | apply Kd.S_drewN | apply Kd.S_drew)); exact HO_108.out) (Kd.R_base ho0) hb); have n6_ := Aside0.mk (Kd.R_lower (Kd.R_new' (Kd.R_new' (Kd.R_new' ho0 (Kd.R_lt (by (with_reducible repeat (first | apply Kd.R_alloc | apply Kd.R_drewN | apply Kd.R_drew)); exact HO_12.out))) (Kd.R_lt (by (with_reducible repeat (first | apply Kd.R_alloc | apply Kd.R_drewN | apply Kd.R_drew)); exact HO_14.out))) (Kd.R_lt (by (with_reducible repeat (first | apply Kd.R_alloc | apply Kd.R_drewN | apply Kd.R_drew)); exact HO_83.out))) (below_size (by repeat (first | (with_reducible first | exact HB.out | apply below_alloc | apply pw_below_drewN | apply below_drew1) | exact HB.out)))); have n7_ := Aside0.mk (below_step (by repeat (first | (with_reducible first | exact HB.out | apply below_alloc | apply pw_below_drewN | apply below_drew1) | exact HB.out)) hb); clear HO_5; clear HO_7; clear HO_12; clear HO_14; clear HO_83; clear HO_108; clear HB; have HO_5 := n0_; have HO_7 := n1_; have HO_12 := n2_; have HO_14 := n3_; have HO_83 := n4_; have HO_108 := n5_; have HO8039 := n6_; have HB := n7_; clear n0_ n1_ n2_ n3_ n4_ n5_ n6_ n7_; (try clear hb); (try clear hb2); (try clear hk); (try clear hi); (try clear ho0); obtain ⟨Ao92, co92, eo92⟩ := Kd.R_slice HO_14.out; subst eo92) | ((with_reducible refine gate_callee (f := 40) rfl ?_); refine goesL_ (some 146) rfl rfl Try.func40 (by kernel_rfl) rfl #[.slice Ao16 t8004.length co16, .slice Ao92 x14_4.length co92] rfl (by (try simp only [List.map_toArray, List.map_cons, List.map_nil]); first | done | rfl | (simp only [List.length_drop, List.length_take]; rfl)) ?_; (with_reducible refine (impl_GuessOf.calls k4 _ _ t8004 _ _ x14_4 t8040 t8041 true _ ?side1 ?side2 ?side3 ?side4 A66.out).mono ?_); (case side1 => repeat (first | exact (Kd.S_reads' HO_5.out).2.2 | (with_reducible refine Kd.C_alloc ?_ _) | (with_reducible refine Kd.C_drewN ?_ _) | (with_reducible refine Kd.C_drew ?_))); (case side2 => exact (Kd.S_reads' HO_5.out).2.1); (case side3 => repeat (first | exact (Kd.R_reads' HO_14.out).2.2 | (with_reducible refine Kd.C_alloc ?_ _) | (with_reducible refine Kd.C_drewN ?_ _) | (with_reducible refine Kd.C_drew ?_))); (case side4 => exact (Kd.R_reads' HO_14.out).2.1); rintro e w93 ⟨rfl, hb⟩; refine ⟨_, rfl, ?_⟩; have n0_ := Aside0.mk (Kd.S_below (by (with_reducible repeat (first | apply Kd.S_alloc | apply Kd.S_drewN | apply Kd.S_drew)); exact HO_5.out) hb); have n1_ := Aside0.mk (Kd.S_below (by (with_reducible repeat (first | apply Kd.S_alloc | apply Kd.S_drewN | apply Kd.S_drew)); exact HO_7.out) hb); have n2_ := Aside0.mk (Kd.R_below (by (with_reducible repeat (first | apply Kd.R_alloc | apply Kd.R_drewN | apply Kd.R_drew)); exact HO_12.out) hb); have n3_ := Aside0.mk (Kd.R_below (by (with_reducible repeat (first | apply Kd.R_alloc | apply Kd.R_drewN | apply Kd.R_drew)); exact HO_14.out) hb); have n4_ := Aside0.mk (Kd.R_below (by (with_reducible repeat (first | apply Kd.R_alloc | apply Kd.R_drewN | apply Kd.R_drew)); exact HO_83.out) hb); have n5_ := Aside0.mk (Kd.S_below (by (with_reducible repeat (first | apply Kd.S_alloc | apply Kd.S_drewN | apply Kd.S_drew)); exact HO_108.out) hb); have n6_ := Aside0.mk (Kd.R_below (by (with_reducible repeat (first | apply Kd.R_alloc | apply Kd.R_drewN | apply Kd.R_drew)); exact HO8039.out) hb); have n7_ := Aside0.mk (below_step (by repeat (first | (with_reducible first | exact HB.out | apply below_alloc | apply pw_below_drewN | apply below_drew1) | exact HB.out)) hb); clear HO_5; clear HO_7; clear HO_12; clear HO_14; clear HO_83; clear HO_108; clear HO8039; clear HB; have HO_5 := n0_; have HO_7 := n1_; have HO_12 := n2_; have HO_14 := n3_; have HO_83 := n4_; have HO_108 := n5_; have HO8039 := n6_; have HB := n7_; clear n0_ n1_ n2_ n3_ n4_ n5_ n6_ n7_; (try clear hb); (try clear hb2); (try clear hk); (try clear hi); obtain ⟨Ao94, co94, eo94⟩ := Kd.R_slice HO8039.out; subst eo94) | (go_at_call 41; (with_reducible refine (laws_ints.calls k4 _ _ x14_4 _ _ t8036 true _ ?side1 ?side2 ?side3 ?side4 A69.out).mono ?_); (case side1 => repeat (first | exact (Kd.R_reads' HO_14.out).2.2 | (with_reducible refine Kd.C_alloc ?_ _) | (with_reducible refine Kd.C_drewN ?_ _) | (with_reducible refine Kd.C_drew ?_))); (case side2 => exact (Kd.R_reads' HO_14.out).2.1); (case side3 => repeat (first | exact (Kd.R_reads' HO8039.out).2.2 | (with_reducible refine Kd.C_alloc ?_ _) | (with_reducible refine Kd.C_drewN ?_ _) | (with_reducible refine Kd.C_drew ?_))); (case side4 => exact (Kd.R_reads' HO8039.out).2.1); rintro e w' ⟨rfl, ⟨nd, rfl⟩⟩))
                                                  go_ret
                                                  exact ⟨by first | rfl | (simp [errW_none, errW_some] <;> rfl) | (simp only [← hji36]; first | rfl | (simp [errW_none, errW_some] <;> rfl)) | (simp [*, errW_none, errW_some] <;> rfl), by repeat (first | (with_reducible first | exact HB.out | apply below_alloc | apply pw_below_drewN | apply below_drew1) | exact HB.out)⟩
                                              · replace c70 := Bool.eq_false_iff.mpr c70
                                                subst c70
                                                have H1 : (some false) = some r := by rw [if_neg (show ¬ (false = true) by decide)] at H; exact H
                                                clear H
                                                have H := H1
                                                clear H1
                                                obtain rfl := Option.some.inj H
                                                go_wp2_with (first | ((with_reducible refine gate_callee (f := 39) rfl ?_); refine goesL_ (some 140) rfl rfl Try.func39 (by kernel_rfl) rfl #[.slice Ao16 t8004.length co16, .int .i64 (ji36), .int .i64 (rd x83_2 x85_2)] rfl (by (try simp only [List.map_toArray, List.map_cons, List.map_nil]); first | done | (simp only [hji36]; rfl) | rfl | (simp only [List.length_drop, List.length_take]; rfl)) ?_; (with_reducible refine (impl_OutcomeOf.calls k4 _ _ t8004 (ji36) (rd x83_2 x85_2) t8036 true _ ?side1 ?side2 A65.out).mono ?_); (case side1 => repeat (first | exact (Kd.S_reads' HO_5.out).2.2 | (with_reducible refine Kd.C_alloc ?_ _) | (with_reducible refine Kd.C_drewN ?_ _) | (with_reducible refine Kd.C_drew ?_))); (case side2 => exact (Kd.S_reads' HO_5.out).2.1); rintro e w95 ⟨v8038, rfl, ho0, hb⟩; refine ⟨_, rfl, ?_⟩; have n0_ := Aside0.mk (Kd.S_elder' (by (with_reducible repeat (first | apply Kd.S_alloc | apply Kd.S_drewN | apply Kd.S_drew)); exact HO_5.out) (Kd.R_base ho0) hb); have n1_ := Aside0.mk (Kd.S_elder' (by (with_reducible repeat (first | apply Kd.S_alloc | apply Kd.S_drewN | apply Kd.S_drew)); exact HO_7.out) (Kd.R_base ho0) hb); have n2_ := Aside0.mk (Kd.R_elder' (by (with_reducible repeat (first | apply Kd.R_alloc | apply Kd.R_drewN | apply Kd.R_drew)); exact HO_12.out) (Kd.R_base ho0) hb); have n3_ := Aside0.mk (Kd.R_elder' (by (with_reducible repeat (first | apply Kd.R_alloc | apply Kd.R_drewN | apply Kd.R_drew)); exact HO_14.out) (Kd.R_base ho0) hb); have n4_ := Aside0.mk (Kd.R_elder' (by (with_reducible repeat (first | apply Kd.R_alloc | apply Kd.R_drewN | apply Kd.R_drew)); exact HO_83.out) (Kd.R_base ho0) hb); have n5_ := Aside0.mk (Kd.S_elder' (by (with_reducible repeat (first | apply Kd.S_alloc | apply Kd.S_drewN | apply Kd.S_drew)); exact HO_108.out) (Kd.R_base ho0) hb); have n6_ := Aside0.mk (Kd.R_lower (Kd.R_new' (Kd.R_new' (Kd.R_new' ho0 (Kd.R_lt (by (with_reducible repeat (first | apply Kd.R_alloc | apply Kd.R_drewN | apply Kd.R_drew)); exact HO_12.out))) (Kd.R_lt (by (with_reducible repeat (first | apply Kd.R_alloc | apply Kd.R_drewN | apply Kd.R_drew)); exact HO_14.out))) (Kd.R_lt (by (with_reducible repeat (first | apply Kd.R_alloc | apply Kd.R_drewN | apply Kd.R_drew)); exact HO_83.out))) (below_size (by repeat (first | (with_reducible first | exact HB.out | apply below_alloc | apply pw_below_drewN | apply below_drew1) | exact HB.out)))); have n7_ := Aside0.mk (below_step (by repeat (first | (with_reducible first | exact HB.out | apply below_alloc | apply pw_below_drewN | apply below_drew1) | exact HB.out)) hb); clear HO_5; clear HO_7; clear HO_12; clear HO_14; clear HO_83; clear HO_108; clear HB; have HO_5 := n0_; have HO_7 := n1_; have HO_12 := n2_; have HO_14 := n3_; have HO_83 := n4_; have HO_108 := n5_; have HO8039 := n6_; have HB := n7_; clear n0_ n1_ n2_ n3_ n4_ n5_ n6_ n7_; (try clear hb); (try clear hb2); (try clear hk); (try clear hi); (try clear ho0); obtain ⟨Ao96, co96, eo96⟩ := Kd.R_slice HO_14.out; subst eo96) | ((with_reducible refine gate_callee (f := 40) rfl ?_); refine goesL_ (some 146) rfl rfl Try.func40 (by kernel_rfl) rfl #[.slice Ao16 t8004.length co16, .slice Ao96 x14_4.length co96] rfl (by (try simp only [List.map_toArray, List.map_cons, List.map_nil]); first | done | rfl | (simp only [List.length_drop, List.length_take]; rfl)) ?_; (with_reducible refine (impl_GuessOf.calls k4 _ _ t8004 _ _ x14_4 t8040 t8041 true _ ?side1 ?side2 ?side3 ?side4 A66.out).mono ?_); (case side1 => repeat (first | exact (Kd.S_reads' HO_5.out).2.2 | (with_reducible refine Kd.C_alloc ?_ _) | (with_reducible refine Kd.C_drewN ?_ _) | (with_reducible refine Kd.C_drew ?_))); (case side2 => exact (Kd.S_reads' HO_5.out).2.1); (case side3 => repeat (first | exact (Kd.R_reads' HO_14.out).2.2 | (with_reducible refine Kd.C_alloc ?_ _) | (with_reducible refine Kd.C_drewN ?_ _) | (with_reducible refine Kd.C_drew ?_))); (case side4 => exact (Kd.R_reads' HO_14.out).2.1); rintro e w97 ⟨rfl, hb⟩; refine ⟨_, rfl, ?_⟩; have n0_ := Aside0.mk (Kd.S_below (by (with_reducible repeat (first | apply Kd.S_alloc | apply Kd.S_drewN | apply Kd.S_drew)); exact HO_5.out) hb); have n1_ := Aside0.mk (Kd.S_below (by (with_reducible repeat (first | apply Kd.S_alloc | apply Kd.S_drewN | apply Kd.S_drew)); exact HO_7.out) hb); have n2_ := Aside0.mk (Kd.R_below (by (with_reducible repeat (first | apply Kd.R_alloc | apply Kd.R_drewN | apply Kd.R_drew)); exact HO_12.out) hb); have n3_ := Aside0.mk (Kd.R_below (by (with_reducible repeat (first | apply Kd.R_alloc | apply Kd.R_drewN | apply Kd.R_drew)); exact HO_14.out) hb); have n4_ := Aside0.mk (Kd.R_below (by (with_reducible repeat (first | apply Kd.R_alloc | apply Kd.R_drewN | apply Kd.R_drew)); exact HO_83.out) hb); have n5_ := Aside0.mk (Kd.S_below (by (with_reducible repeat (first | apply Kd.S_alloc | apply Kd.S_drewN | apply Kd.S_drew)); exact HO_108.out) hb); have n6_ := Aside0.mk (Kd.R_below (by (with_reducible repeat (first | apply Kd.R_alloc | apply Kd.R_drewN | apply Kd.R_drew)); exact HO8039.out) hb); have n7_ := Aside0.mk (below_step (by repeat (first | (with_reducible first | exact HB.out | apply below_alloc | apply pw_below_drewN | apply below_drew1) | exact HB.out)) hb); clear HO_5; clear HO_7; clear HO_12; clear HO_14; clear HO_83; clear HO_108; clear HO8039; clear HB; have HO_5 := n0_; have HO_7 := n1_; have HO_12 := n2_; have HO_14 := n3_; have HO_83 := n4_; have HO_108 := n5_; have HO8039 := n6_; have HB := n7_; clear n0_ n1_ n2_ n3_ n4_ n5_ n6_ n7_; (try clear hb); (try clear hb2); (try clear hk); (try clear hi); obtain ⟨Ao98, co98, eo98⟩ := Kd.R_slice HO8039.out; subst eo98) | (go_at_call 41; (with_reducible refine (laws_ints.calls k4 _ _ x14_4 _ _ t8036 false _ ?side1 ?side2 ?side3 ?side4 A69.out).mono ?_); (case side1 => repeat (first | exact (Kd.R_reads' HO_14.out).2.2 | (with_reducible refine Kd.C_alloc ?_ _) | (with_reducible refine Kd.C_drewN ?_ _) | (with_reducible refine Kd.C_drew ?_))); (case side2 => exact (Kd.R_reads' HO_14.out).2.1); (case side3 => repeat (first | exact (Kd.R_reads' HO8039.out).2.2 | (with_reducible refine Kd.C_alloc ?_ _) | (with_reducible refine Kd.C_drewN ?_ _) | (with_reducible refine Kd.C_drew ?_))); (case side4 => exact (Kd.R_reads' HO8039.out).2.1); rintro e w' ⟨rfl, ⟨nd, rfl⟩⟩))
                                                go_ret
                                                exact ⟨by first | rfl | (simp [errW_none, errW_some] <;> rfl) | (simp only [← hji36]; first | rfl | (simp [errW_none, errW_some] <;> rfl)) | (simp [*, errW_none, errW_some] <;> rfl), by repeat (first | (with_reducible first | exact HB.out | apply below_alloc | apply pw_below_drewN | apply below_drew1) | exact HB.out)⟩
                                            · replace c68 := Bool.eq_false_iff.mpr c68
                                              subst c68
                                              have H1 : (some false) = some r := by rw [if_neg (show ¬ (false = true) by decide)] at H; exact H
                                              clear H
                                              have H := H1
                                              clear H1
                                              obtain rfl := Option.some.inj H
                                              go_wp2_with (first | ((with_reducible refine gate_callee (f := 39) rfl ?_); refine goesL_ (some 140) rfl rfl Try.func39 (by kernel_rfl) rfl #[.slice Ao16 t8004.length co16, .int .i64 (ji36), .int .i64 (rd x83_2 x85_2)] rfl (by (try simp only [List.map_toArray, List.map_cons, List.map_nil]); first | done | (simp only [hji36]; rfl) | rfl | (simp only [List.length_drop, List.length_take]; rfl)) ?_; (with_reducible refine (impl_OutcomeOf.calls k4 _ _ t8004 (ji36) (rd x83_2 x85_2) t8036 true _ ?side1 ?side2 A65.out).mono ?_); (case side1 => repeat (first | exact (Kd.S_reads' HO_5.out).2.2 | (with_reducible refine Kd.C_alloc ?_ _) | (with_reducible refine Kd.C_drewN ?_ _) | (with_reducible refine Kd.C_drew ?_))); (case side2 => exact (Kd.S_reads' HO_5.out).2.1); rintro e w99 ⟨v8038, rfl, ho0, hb⟩; refine ⟨_, rfl, ?_⟩; have n0_ := Aside0.mk (Kd.S_elder' (by (with_reducible repeat (first | apply Kd.S_alloc | apply Kd.S_drewN | apply Kd.S_drew)); exact HO_5.out) (Kd.R_base ho0) hb); have n1_ := Aside0.mk (Kd.S_elder' (by (with_reducible repeat (first | apply Kd.S_alloc | apply Kd.S_drewN | apply Kd.S_drew)); exact HO_7.out) (Kd.R_base ho0) hb); have n2_ := Aside0.mk (Kd.R_elder' (by (with_reducible repeat (first | apply Kd.R_alloc | apply Kd.R_drewN | apply Kd.R_drew)); exact HO_12.out) (Kd.R_base ho0) hb); have n3_ := Aside0.mk (Kd.R_elder' (by (with_reducible repeat (first | apply Kd.R_alloc | apply Kd.R_drewN | apply Kd.R_drew)); exact HO_14.out) (Kd.R_base ho0) hb); have n4_ := Aside0.mk (Kd.R_elder' (by (with_reducible repeat (first | apply Kd.R_alloc | apply Kd.R_drewN | apply Kd.R_drew)); exact HO_83.out) (Kd.R_base ho0) hb); have n5_ := Aside0.mk (Kd.S_elder' (by (with_reducible repeat (first | apply Kd.S_alloc | apply Kd.S_drewN | apply Kd.S_drew)); exact HO_108.out) (Kd.R_base ho0) hb); have n6_ := Aside0.mk (Kd.R_lower (Kd.R_new' (Kd.R_new' (Kd.R_new' ho0 (Kd.R_lt (by (with_reducible repeat (first | apply Kd.R_alloc | apply Kd.R_drewN | apply Kd.R_drew)); exact HO_12.out))) (Kd.R_lt (by (with_reducible repeat (first | apply Kd.R_alloc | apply Kd.R_drewN | apply Kd.R_drew)); exact HO_14.out))) (Kd.R_lt (by (with_reducible repeat (first | apply Kd.R_alloc | apply Kd.R_drewN | apply Kd.R_drew)); exact HO_83.out))) (below_size (by repeat (first | (with_reducible first | exact HB.out | apply below_alloc | apply pw_below_drewN | apply below_drew1) | exact HB.out)))); have n7_ := Aside0.mk (below_step (by repeat (first | (with_reducible first | exact HB.out | apply below_alloc | apply pw_below_drewN | apply below_drew1) | exact HB.out)) hb); clear HO_5; clear HO_7; clear HO_12; clear HO_14; clear HO_83; clear HO_108; clear HB; have HO_5 := n0_; have HO_7 := n1_; have HO_12 := n2_; have HO_14 := n3_; have HO_83 := n4_; have HO_108 := n5_; have HO8039 := n6_; have HB := n7_; clear n0_ n1_ n2_ n3_ n4_ n5_ n6_ n7_; (try clear hb); (try clear hb2); (try clear hk); (try clear hi); (try clear ho0); obtain ⟨Ao100, co100, eo100⟩ := Kd.R_slice HO_14.out; subst eo100) | ((with_reducible refine gate_callee (f := 40) rfl ?_); refine goesL_ (some 146) rfl rfl Try.func40 (by kernel_rfl) rfl #[.slice Ao16 t8004.length co16, .slice Ao100 x14_4.length co100] rfl (by (try simp only [List.map_toArray, List.map_cons, List.map_nil]); first | done | rfl | (simp only [List.length_drop, List.length_take]; rfl)) ?_; (with_reducible refine (impl_GuessOf.calls k4 _ _ t8004 _ _ x14_4 t8040 t8041 false _ ?side1 ?side2 ?side3 ?side4 A66.out).mono ?_); (case side1 => repeat (first | exact (Kd.S_reads' HO_5.out).2.2 | (with_reducible refine Kd.C_alloc ?_ _) | (with_reducible refine Kd.C_drewN ?_ _) | (with_reducible refine Kd.C_drew ?_))); (case side2 => exact (Kd.S_reads' HO_5.out).2.1); (case side3 => repeat (first | exact (Kd.R_reads' HO_14.out).2.2 | (with_reducible refine Kd.C_alloc ?_ _) | (with_reducible refine Kd.C_drewN ?_ _) | (with_reducible refine Kd.C_drew ?_))); (case side4 => exact (Kd.R_reads' HO_14.out).2.1); rintro e w101 ⟨rfl, hb⟩; refine ⟨_, rfl, ?_⟩; have n0_ := Aside0.mk (Kd.S_below (by (with_reducible repeat (first | apply Kd.S_alloc | apply Kd.S_drewN | apply Kd.S_drew)); exact HO_5.out) hb); have n1_ := Aside0.mk (Kd.S_below (by (with_reducible repeat (first | apply Kd.S_alloc | apply Kd.S_drewN | apply Kd.S_drew)); exact HO_7.out) hb); have n2_ := Aside0.mk (Kd.R_below (by (with_reducible repeat (first | apply Kd.R_alloc | apply Kd.R_drewN | apply Kd.R_drew)); exact HO_12.out) hb); have n3_ := Aside0.mk (Kd.R_below (by (with_reducible repeat (first | apply Kd.R_alloc | apply Kd.R_drewN | apply Kd.R_drew)); exact HO_14.out) hb); have n4_ := Aside0.mk (Kd.R_below (by (with_reducible repeat (first | apply Kd.R_alloc | apply Kd.R_drewN | apply Kd.R_drew)); exact HO_83.out) hb); have n5_ := Aside0.mk (Kd.S_below (by (with_reducible repeat (first | apply Kd.S_alloc | apply Kd.S_drewN | apply Kd.S_drew)); exact HO_108.out) hb); have n6_ := Aside0.mk (Kd.R_below (by (with_reducible repeat (first | apply Kd.R_alloc | apply Kd.R_drewN | apply Kd.R_drew)); exact HO8039.out) hb); have n7_ := Aside0.mk (below_step (by repeat (first | (with_reducible first | exact HB.out | apply below_alloc | apply pw_below_drewN | apply below_drew1) | exact HB.out)) hb); clear HO_5; clear HO_7; clear HO_12; clear HO_14; clear HO_83; clear HO_108; clear HO8039; clear HB; have HO_5 := n0_; have HO_7 := n1_; have HO_12 := n2_; have HO_14 := n3_; have HO_83 := n4_; have HO_108 := n5_; have HO8039 := n6_; have HB := n7_; clear n0_ n1_ n2_ n3_ n4_ n5_ n6_ n7_; (try clear hb); (try clear hb2); (try clear hk); (try clear hi)))
                                              go_ret
                                              exact ⟨by first | rfl | (simp [errW_none, errW_some] <;> rfl) | (simp only [← hji36]; first | rfl | (simp [errW_none, errW_some] <;> rfl)) | (simp [*, errW_none, errW_some] <;> rfl), by repeat (first | (with_reducible first | exact HB.out | apply below_alloc | apply pw_below_drewN | apply below_drew1) | exact HB.out)⟩
                                          · replace c67 := Bool.eq_false_iff.mpr c67
                                            subst c67
                                            have H1 : (some false) = some r := by rw [if_neg (show ¬ (false = true) by decide)] at H; exact H
                                            clear H
                                            have H := H1
                                            clear H1
                                            obtain rfl := Option.some.inj H
                                            go_wp2_with (first | ((with_reducible refine gate_callee (f := 39) rfl ?_); refine goesL_ (some 140) rfl rfl Try.func39 (by kernel_rfl) rfl #[.slice Ao16 t8004.length co16, .int .i64 (ji36), .int .i64 (rd x83_2 x85_2)] rfl (by (try simp only [List.map_toArray, List.map_cons, List.map_nil]); first | done | (simp only [hji36]; rfl) | rfl | (simp only [List.length_drop, List.length_take]; rfl)) ?_; (with_reducible refine (impl_OutcomeOf.calls k4 _ _ t8004 (ji36) (rd x83_2 x85_2) t8036 false _ ?side1 ?side2 A65.out).mono ?_); (case side1 => repeat (first | exact (Kd.S_reads' HO_5.out).2.2 | (with_reducible refine Kd.C_alloc ?_ _) | (with_reducible refine Kd.C_drewN ?_ _) | (with_reducible refine Kd.C_drew ?_))); (case side2 => exact (Kd.S_reads' HO_5.out).2.1); rintro e w102 ⟨v8038, rfl, ho0, hb⟩; refine ⟨_, rfl, ?_⟩; have n0_ := Aside0.mk (Kd.S_elder' (by (with_reducible repeat (first | apply Kd.S_alloc | apply Kd.S_drewN | apply Kd.S_drew)); exact HO_5.out) (Kd.R_base ho0) hb); have n1_ := Aside0.mk (Kd.S_elder' (by (with_reducible repeat (first | apply Kd.S_alloc | apply Kd.S_drewN | apply Kd.S_drew)); exact HO_7.out) (Kd.R_base ho0) hb); have n2_ := Aside0.mk (Kd.R_elder' (by (with_reducible repeat (first | apply Kd.R_alloc | apply Kd.R_drewN | apply Kd.R_drew)); exact HO_12.out) (Kd.R_base ho0) hb); have n3_ := Aside0.mk (Kd.R_elder' (by (with_reducible repeat (first | apply Kd.R_alloc | apply Kd.R_drewN | apply Kd.R_drew)); exact HO_14.out) (Kd.R_base ho0) hb); have n4_ := Aside0.mk (Kd.R_elder' (by (with_reducible repeat (first | apply Kd.R_alloc | apply Kd.R_drewN | apply Kd.R_drew)); exact HO_83.out) (Kd.R_base ho0) hb); have n5_ := Aside0.mk (Kd.S_elder' (by (with_reducible repeat (first | apply Kd.S_alloc | apply Kd.S_drewN | apply Kd.S_drew)); exact HO_108.out) (Kd.R_base ho0) hb); have n6_ := Aside0.mk (Kd.R_lower (Kd.R_new' (Kd.R_new' (Kd.R_new' ho0 (Kd.R_lt (by (with_reducible repeat (first | apply Kd.R_alloc | apply Kd.R_drewN | apply Kd.R_drew)); exact HO_12.out))) (Kd.R_lt (by (with_reducible repeat (first | apply Kd.R_alloc | apply Kd.R_drewN | apply Kd.R_drew)); exact HO_14.out))) (Kd.R_lt (by (with_reducible repeat (first | apply Kd.R_alloc | apply Kd.R_drewN | apply Kd.R_drew)); exact HO_83.out))) (below_size (by repeat (first | (with_reducible first | exact HB.out | apply below_alloc | apply pw_below_drewN | apply below_drew1) | exact HB.out)))); have n7_ := Aside0.mk (below_step (by repeat (first | (with_reducible first | exact HB.out | apply below_alloc | apply pw_below_drewN | apply below_drew1) | exact HB.out)) hb); clear HO_5; clear HO_7; clear HO_12; clear HO_14; clear HO_83; clear HO_108; clear HB; have HO_5 := n0_; have HO_7 := n1_; have HO_12 := n2_; have HO_14 := n3_; have HO_83 := n4_; have HO_108 := n5_; have HO8039 := n6_; have HB := n7_; clear n0_ n1_ n2_ n3_ n4_ n5_ n6_ n7_; (try clear hb); (try clear hb2); (try clear hk); (try clear hi); (try clear ho0); obtain ⟨Ao103, co103, eo103⟩ := Kd.R_slice HO_14.out; subst eo103) | ((with_reducible refine gate_callee (f := 40) rfl ?_); refine goesL_ (some 146) rfl rfl Try.func40 (by kernel_rfl) rfl #[.slice Ao16 t8004.length co16, .slice Ao103 x14_4.length co103] rfl (by (try simp only [List.map_toArray, List.map_cons, List.map_nil]); first | done | rfl | (simp only [List.length_drop, List.length_take]; rfl)) ?_; (with_reducible refine (impl_GuessOf.calls k4 _ _ t8004 _ _ x14_4 t8040 t8041 t8042 _ ?side1 ?side2 ?side3 ?side4 A66.out).mono ?_); (case side1 => repeat (first | exact (Kd.S_reads' HO_5.out).2.2 | (with_reducible refine Kd.C_alloc ?_ _) | (with_reducible refine Kd.C_drewN ?_ _) | (with_reducible refine Kd.C_drew ?_))); (case side2 => exact (Kd.S_reads' HO_5.out).2.1); (case side3 => repeat (first | exact (Kd.R_reads' HO_14.out).2.2 | (with_reducible refine Kd.C_alloc ?_ _) | (with_reducible refine Kd.C_drewN ?_ _) | (with_reducible refine Kd.C_drew ?_))); (case side4 => exact (Kd.R_reads' HO_14.out).2.1); rintro e w104 ⟨rfl, hb⟩; refine ⟨_, rfl, ?_⟩; have n0_ := Aside0.mk (Kd.S_below (by (with_reducible repeat (first | apply Kd.S_alloc | apply Kd.S_drewN | apply Kd.S_drew)); exact HO_5.out) hb); have n1_ := Aside0.mk (Kd.S_below (by (with_reducible repeat (first | apply Kd.S_alloc | apply Kd.S_drewN | apply Kd.S_drew)); exact HO_7.out) hb); have n2_ := Aside0.mk (Kd.R_below (by (with_reducible repeat (first | apply Kd.R_alloc | apply Kd.R_drewN | apply Kd.R_drew)); exact HO_12.out) hb); have n3_ := Aside0.mk (Kd.R_below (by (with_reducible repeat (first | apply Kd.R_alloc | apply Kd.R_drewN | apply Kd.R_drew)); exact HO_14.out) hb); have n4_ := Aside0.mk (Kd.R_below (by (with_reducible repeat (first | apply Kd.R_alloc | apply Kd.R_drewN | apply Kd.R_drew)); exact HO_83.out) hb); have n5_ := Aside0.mk (Kd.S_below (by (with_reducible repeat (first | apply Kd.S_alloc | apply Kd.S_drewN | apply Kd.S_drew)); exact HO_108.out) hb); have n6_ := Aside0.mk (Kd.R_below (by (with_reducible repeat (first | apply Kd.R_alloc | apply Kd.R_drewN | apply Kd.R_drew)); exact HO8039.out) hb); have n7_ := Aside0.mk (below_step (by repeat (first | (with_reducible first | exact HB.out | apply below_alloc | apply pw_below_drewN | apply below_drew1) | exact HB.out)) hb); clear HO_5; clear HO_7; clear HO_12; clear HO_14; clear HO_83; clear HO_108; clear HO8039; clear HB; have HO_5 := n0_; have HO_7 := n1_; have HO_12 := n2_; have HO_14 := n3_; have HO_83 := n4_; have HO_108 := n5_; have HO8039 := n6_; have HB := n7_; clear n0_ n1_ n2_ n3_ n4_ n5_ n6_ n7_; (try clear hb); (try clear hb2); (try clear hk); (try clear hi)))
                                            go_ret
                                            exact ⟨by first | rfl | (simp [errW_none, errW_some] <;> rfl) | (simp only [← hji36]; first | rfl | (simp [errW_none, errW_some] <;> rfl)) | (simp [*, errW_none, errW_some] <;> rfl), by repeat (first | (with_reducible first | exact HB.out | apply below_alloc | apply pw_below_drewN | apply below_drew1) | exact HB.out)⟩
                                  · rw [if_neg c38] at H
                                    exact absurd H (by simp)
                                · rw [if_neg c37] at H
                                  exact absurd H (by simp)
                        · rw [if_neg c30] at H
                          exact absurd H (by simp)
                      · rw [if_neg c29] at H
                        exact absurd H (by simp)
                    · rw [if_neg c28] at H
                      have c28b0 : decide (x85_2 < (t8014.length : Int)) = false := decide_eq_false c28
                      (try rw [hl83_2] at c28b0)
                      clear c28
                      obtain rfl := Option.some.inj H
                      go_wp2
                      go_ret
                      exact ⟨by first | rfl | (simp [errW_none, errW_some] <;> rfl) | (simp [*, errW_none, errW_some] <;> rfl), by repeat (first | (with_reducible first | exact HB.out | apply below_alloc | apply pw_below_drewN | apply below_drew1) | exact HB.out)⟩

/-- THE ONE PURE STATEMENT of laws_FnCoins: yours. -/
def laws_FnCoins.Pure : Prop := ∀ (l0 : List Int), l0.length ≤ maxLen → l0.length * 1 ≤ 140737488351232 → (∀ x ∈ l0, (Lit.int .u8 x).wf = true) → ∃ k, laws_FnCoins.f k l0 = some true
theorem laws_FnCoins.walk (P : laws_FnCoins.Pure) (a0 : Option Addr) (len0 cap0 : Nat) (z0 : List Int) (w : World) (w0 : (a0 = none ∧ len0 = 0 ∧ cap0 = 0 ∧ z0 = []) ∨ ∃ x, a0 = some x ∧ len0 ≤ cap0 ∧ cap0 ≤ maxLen ∧ z0.length = cap0 ∧ (∀ i, i < z0.length → w.cell? (x.add i) = some (.int .u8 (z0.getD i 0))) ∧ ∀ n ∈ z0, (Lit.int .u8 n).wf = true) (y0 : len0 * 1 ≤ 140737488351232) :
    Calls Try.prog 7 #[.slice a0 len0 cap0] w fun e w' => e = .returned (.bool true) ∧ Below w.heap.size w w' := by
  obtain ⟨l0, rfl, hr0, hm0, hw0, hc0⟩ := ReadsInt.ofRowC w0
  obtain ⟨k, h⟩ := P l0 hm0 y0 hw0
  refine (laws_FnCoins.calls k _ _ l0 true w (Kd.C_of_reads (d := (0 : Int)) (h1 := fun _ => rfl) hr0) hc0 h).mono ?_
  rintro e w' ⟨rfl, hd⟩
  exact ⟨rfl, hd⟩

end Go.Proofs.Ytgiehdhnhkmjfaa.X
/- The law FnCoins over numbers and lists: three kinds of words, at most fourteen numbers of coins and each odd coin: all of them computed. -/
namespace Go.Proofs.Ytgiehdhnhkmjfaa.PlainCoins
open Go.RowKit Go.Proofs.Ytgiehdhnhkmjfaa.X Go.Proofs.YtgiehdhnhkmjfaaW.PrintWords Go.Proofs.YtgiehdhnhkmjfaaW.PrintLast
set_option maxRecDepth 1000000
/-- What FnCoins does once the number of coins c and the length k of the words are known; J is what stands behind the weighings. -/
def tailJ (J : List (List Int) → Bool → List (S50) → Bool → Option Bool) (K : Nat) (c k : Int) : Option Bool :=
  (impl_CoinWords.f K c k).bind fun a => (spec_MakePower.f K k).bind fun p => if (a.2 != (decide (c ≤ (wrap64 (Int.tdiv (wrap64 (p - 3)) 2))))) = true then some false else (impl_WeighingsOf.f a.1).bind fun b => if a.2 = true then (if b.2 = true then (if (a.1.length : Int) = c then J a.1 a.2 b.1 ((b.1.length : Int) != k) else J a.1 a.2 b.1 true) else J a.1 a.2 b.1 true) else J a.1 a.2 b.1 true
def J1 (K : Nat) (o c : Int) (x5 : List (List Int)) (x6 : Bool) (x7 : List (S50)) (x76 : Bool) : Option Bool :=
  if x76 = true then some (!x6) else laws_FnCoins.l0 K c x5 x7 o [(-1), 0, 1] 3 0
theorem j0_J1 (K : Nat) {l0 : List Int} {n c : Int} (h : laws_at.f l0 3 = some n) (hc : c ≠ 0) (x5 : List (List Int)) (x6 : Bool) (x7 : List (S50)) (x76 : Bool) :
    laws_FnCoins.j0 (K + 1) l0 c x5 x6 x7 x76 = J1 K (Int.tmod n c) c x5 x6 x7 x76 := by
  rw [laws_FnCoins.j0, h]
  unfold J1 laws_trits.f
  simp only [Option.bind_some]
  rw [if_neg hc]
  rfl
theorem fin2 (K : Nat) (hK : K = 499) : ∀ q : Nat, q < 2 → ∀ o : Nat, o < 3 * (1 + q) → tailJ (J1 K (o : Int) ((3 * (1 + q) : Nat) : Int)) (K + 1) ((3 * (1 + q) : Nat) : Int) 2 = some true := by
  subst hK
  decide +kernel
theorem fin3 (K : Nat) (hK : K = 499) : ∀ q : Nat, q < 5 → ∀ o : Nat, o < 3 * (1 + q) → tailJ (J1 K (o : Int) ((3 * (1 + q) : Nat) : Int)) (K + 1) ((3 * (1 + q) : Nat) : Int) 3 = some true := by
  subst hK
  decide +kernel
theorem fin4_0 (K : Nat) (hK : K = 499) : ∀ o : Nat, o < 3 * (1 + 0) → tailJ (J1 K (o : Int) ((3 * (1 + 0) : Nat) : Int)) (K + 1) ((3 * (1 + 0) : Nat) : Int) 4 = some true := by
  subst hK
  decide +kernel
theorem fin4_1 (K : Nat) (hK : K = 499) : ∀ o : Nat, o < 3 * (1 + 1) → tailJ (J1 K (o : Int) ((3 * (1 + 1) : Nat) : Int)) (K + 1) ((3 * (1 + 1) : Nat) : Int) 4 = some true := by
  subst hK
  decide +kernel
theorem fin4_2 (K : Nat) (hK : K = 499) : ∀ o : Nat, o < 3 * (1 + 2) → tailJ (J1 K (o : Int) ((3 * (1 + 2) : Nat) : Int)) (K + 1) ((3 * (1 + 2) : Nat) : Int) 4 = some true := by
  subst hK
  decide +kernel
theorem fin4_3 (K : Nat) (hK : K = 499) : ∀ o : Nat, o < 3 * (1 + 3) → tailJ (J1 K (o : Int) ((3 * (1 + 3) : Nat) : Int)) (K + 1) ((3 * (1 + 3) : Nat) : Int) 4 = some true := by
  subst hK
  decide +kernel
theorem fin4_4 (K : Nat) (hK : K = 499) : ∀ o : Nat, o < 3 * (1 + 4) → tailJ (J1 K (o : Int) ((3 * (1 + 4) : Nat) : Int)) (K + 1) ((3 * (1 + 4) : Nat) : Int) 4 = some true := by
  subst hK
  decide +kernel
theorem fin4_5 (K : Nat) (hK : K = 499) : ∀ o : Nat, o < 3 * (1 + 5) → tailJ (J1 K (o : Int) ((3 * (1 + 5) : Nat) : Int)) (K + 1) ((3 * (1 + 5) : Nat) : Int) 4 = some true := by
  subst hK
  decide +kernel
theorem fin4_6 (K : Nat) (hK : K = 499) : ∀ o : Nat, o < 3 * (1 + 6) → tailJ (J1 K (o : Int) ((3 * (1 + 6) : Nat) : Int)) (K + 1) ((3 * (1 + 6) : Nat) : Int) 4 = some true := by
  subst hK
  decide +kernel
theorem fin4_7 (K : Nat) (hK : K = 499) : ∀ o : Nat, o < 3 * (1 + 7) → tailJ (J1 K (o : Int) ((3 * (1 + 7) : Nat) : Int)) (K + 1) ((3 * (1 + 7) : Nat) : Int) 4 = some true := by
  subst hK
  decide +kernel
theorem fin4_8 (K : Nat) (hK : K = 499) : ∀ o : Nat, o < 3 * (1 + 8) → tailJ (J1 K (o : Int) ((3 * (1 + 8) : Nat) : Int)) (K + 1) ((3 * (1 + 8) : Nat) : Int) 4 = some true := by
  subst hK
  decide +kernel
theorem fin4_9 (K : Nat) (hK : K = 499) : ∀ o : Nat, o < 3 * (1 + 9) → tailJ (J1 K (o : Int) ((3 * (1 + 9) : Nat) : Int)) (K + 1) ((3 * (1 + 9) : Nat) : Int) 4 = some true := by
  subst hK
  decide +kernel
theorem fin4_10 (K : Nat) (hK : K = 499) : ∀ o : Nat, o < 3 * (1 + 10) → tailJ (J1 K (o : Int) ((3 * (1 + 10) : Nat) : Int)) (K + 1) ((3 * (1 + 10) : Nat) : Int) 4 = some true := by
  subst hK
  decide +kernel
theorem fin4_11 (K : Nat) (hK : K = 499) : ∀ o : Nat, o < 3 * (1 + 11) → tailJ (J1 K (o : Int) ((3 * (1 + 11) : Nat) : Int)) (K + 1) ((3 * (1 + 11) : Nat) : Int) 4 = some true := by
  subst hK
  decide +kernel
theorem fin4_12 (K : Nat) (hK : K = 499) : ∀ o : Nat, o < 3 * (1 + 12) → tailJ (J1 K (o : Int) ((3 * (1 + 12) : Nat) : Int)) (K + 1) ((3 * (1 + 12) : Nat) : Int) 4 = some true := by
  subst hK
  decide +kernel
theorem fin4_13 (K : Nat) (hK : K = 499) : ∀ o : Nat, o < 3 * (1 + 13) → tailJ (J1 K (o : Int) ((3 * (1 + 13) : Nat) : Int)) (K + 1) ((3 * (1 + 13) : Nat) : Int) 4 = some true := by
  subst hK
  decide +kernel
theorem fin4 (K : Nat) (hK : K = 499) : ∀ q : Nat, q < 14 → ∀ o : Nat, o < 3 * (1 + q) → tailJ (J1 K (o : Int) ((3 * (1 + q) : Nat) : Int)) (K + 1) ((3 * (1 + q) : Nat) : Int) 4 = some true
  | 0, _ => fin4_0 K hK
  | 1, _ => fin4_1 K hK
  | 2, _ => fin4_2 K hK
  | 3, _ => fin4_3 K hK
  | 4, _ => fin4_4 K hK
  | 5, _ => fin4_5 K hK
  | 6, _ => fin4_6 K hK
  | 7, _ => fin4_7 K hK
  | 8, _ => fin4_8 K hK
  | 9, _ => fin4_9 K hK
  | 10, _ => fin4_10 K hK
  | 11, _ => fin4_11 K hK
  | 12, _ => fin4_12 K hK
  | 13, _ => fin4_13 K hK
  | q + 14, h => absurd h (by omega)
theorem cf2 (K : Nat) (hK : K = 499) : spec_CoinsFor.f (K + 1) 2 = some 3 := by
  subst hK
  decide +kernel
theorem cf3 (K : Nat) (hK : K = 499) : spec_CoinsFor.f (K + 1) 3 = some 12 := by
  subst hK
  decide +kernel
theorem cf4 (K : Nat) (hK : K = 499) : spec_CoinsFor.f (K + 1) 4 = some 39 := by
  subst hK
  decide +kernel
theorem coinsNat (n m : Nat) (h0 : 0 < m) (hm : m ≤ 14) : wrap64 (3 * (wrap64 (1 + Int.tmod (n : Int) (m : Int)))) = ((3 * (1 + n % m) : Nat) : Int) := by
  rw [show Int.tmod (n : Int) (m : Int) = ((n % m : Nat) : Int) from rfl]
  have := Nat.mod_lt n h0
  generalize n % m = r at *
  unfold wrap64
  omega
theorem at_nat (l0 : List Int) (hl : (l0.length : Int) ≤ 1048576) (hw : ∀ x ∈ l0, (Lit.int .u8 x).wf = true) (i : Int) (h0 : 0 ≤ i) (h3 : i ≤ 3) : ∃ n : Nat, laws_at.f l0 i = some (n : Int) := by
  unfold laws_at.f
  by_cases h : i < (l0.length : Int)
  · rw [if_pos h, if_pos h0]
    have hr : rd l0 i ∈ l0 := by
      unfold rd
      rw [List.getD_eq_getElem?_getD, List.getElem?_eq_getElem (by omega)]
      exact List.getElem_mem _
    have := hw _ hr
    simp only [Lit.wf, IntKind.min, IntKind.max, IntKind.signed, IntKind.bits, Bool.and_eq_true, decide_eq_true_eq, if_false, Bool.false_eq_true] at this
    refine ⟨(rd l0 i).toNat, ?_⟩
    generalize rd l0 i = x at *
    unfold wrap64
    congr 1
    omega
  · rw [if_neg h]
    obtain ⟨j, rfl⟩ := Int.eq_ofNat_of_zero_le h0
    refine ⟨(j * 37 + l0.length * 11) % 256, ?_⟩
    rw [show wrap64 (wrap64 ((j : Int) * 37) + wrap64 ((l0.length : Int) * 11)) = ((j * 37 + l0.length * 11 : Nat) : Int) by unfold wrap64; omega]
    rfl
theorem rest (K : Nat) (l0 : List Int) (n3 : Nat) (e3 : laws_at.f l0 3 = some (n3 : Int)) (k : Int) (m : Nat) (h0 : 0 < m)
    (H : ∀ q : Nat, q < m → ∀ o : Nat, o < 3 * (1 + q) → tailJ (J1 K (o : Int) ((3 * (1 + q) : Nat) : Int)) (K + 1) ((3 * (1 + q) : Nat) : Int) k = some true) (n2 : Nat) :
    tailJ (fun x5 x6 x7 x76 => laws_FnCoins.j0 (K + 1) l0 ((3 * (1 + n2 % m) : Nat) : Int) x5 x6 x7 x76) (K + 1) ((3 * (1 + n2 % m) : Nat) : Int) k = some true := by
  have hq := Nat.mod_lt n2 h0
  generalize n2 % m = q at *
  have e : (fun x5 x6 x7 x76 => laws_FnCoins.j0 (K + 1) l0 ((3 * (1 + q) : Nat) : Int) x5 x6 x7 x76) = J1 K ((n3 % (3 * (1 + q)) : Nat) : Int) ((3 * (1 + q) : Nat) : Int) := by
    funext x5 x6 x7 x76
    exact j0_J1 K e3 (by omega) x5 x6 x7 x76
  rw [e]
  exact H q hq _ (Nat.mod_lt _ (by omega))
end Go.Proofs.Ytgiehdhnhkmjfaa.PlainCoins
namespace Go.Proofs.Ytgiehdhnhkmjfaa.Pure
open Go.RowKit Go.Proofs.Ytgiehdhnhkmjfaa.X Go.Proofs.YtgiehdhnhkmjfaaW.PrintWords Go.Proofs.YtgiehdhnhkmjfaaW.PrintLast Go.Proofs.Ytgiehdhnhkmjfaa.PlainCoins
set_option maxRecDepth 100000
theorem bind_eq {α β : Type} {o : Option α} {a : α} (h : o = some a) (f : α → Option β) : o.bind f = f a := by rw [h]; rfl
theorem FnCoins : laws_FnCoins.Pure := by
  intro l0 hl1 hl2 hw
  obtain ⟨K, hK⟩ : ∃ K : Nat, K = 499 := ⟨_, rfl⟩
  refine ⟨K + 1, ?_⟩
  unfold laws_FnCoins.f
  by_cases hbig : (l0.length : Int) > 1048576
  · rw [if_pos hbig]
  · rw [if_neg hbig]
    obtain ⟨n1, e1⟩ := at_nat l0 (by omega) hw 1 (by decide) (by decide)
    obtain ⟨n2, e2⟩ := at_nat l0 (by omega) hw 2 (by decide) (by decide)
    obtain ⟨n3, e3⟩ := at_nat l0 (by omega) hw 3 (by decide) (by decide)
    refine (bind_eq e1 _).trans ?_
    refine (bind_eq e2 _).trans ?_
    have hm : Int.tmod (n1 : Int) 3 = ((n1 % 3 : Nat) : Int) := rfl
    have hr : n1 % 3 = 0 ∨ n1 % 3 = 1 ∨ n1 % 3 = 2 := by omega
    rw [hm]
    rcases hr with h | h | h
    · rw [h, show wrap64 (2 + ((0 : Nat) : Int)) = 2 by decide +kernel]
      refine (bind_eq (cf2 K hK) _).trans ?_
      rw [show wrap64 (wrap64 (Int.tdiv 3 3) + 1) = 2 by decide +kernel, if_neg (by decide), show wrap64 (3 * (wrap64 (1 + Int.tmod (n2 : Int) 2))) = ((3 * (1 + n2 % 2) : Nat) : Int) from coinsNat n2 2 (by decide) (by decide)]
      have R := rest K l0 n3 e3 2 2 (by decide) (fin2 K hK) n2
      unfold tailJ at R
      exact R
    · rw [h, show wrap64 (2 + ((1 : Nat) : Int)) = 3 by decide +kernel]
      refine (bind_eq (cf3 K hK) _).trans ?_
      rw [show wrap64 (wrap64 (Int.tdiv 12 3) + 1) = 5 by decide +kernel, if_neg (by decide), show wrap64 (3 * (wrap64 (1 + Int.tmod (n2 : Int) 5))) = ((3 * (1 + n2 % 5) : Nat) : Int) from coinsNat n2 5 (by decide) (by decide)]
      have R := rest K l0 n3 e3 3 5 (by decide) (fin3 K hK) n2
      unfold tailJ at R
      exact R
    · rw [h, show wrap64 (2 + ((2 : Nat) : Int)) = 4 by decide +kernel]
      refine (bind_eq (cf4 K hK) _).trans ?_
      rw [show wrap64 (wrap64 (Int.tdiv 39 3) + 1) = 14 by decide +kernel, if_neg (by decide), show wrap64 (3 * (wrap64 (1 + Int.tmod (n2 : Int) 14))) = ((3 * (1 + n2 % 14) : Nat) : Int) from coinsNat n2 14 (by decide) (by decide)]
      have R := rest K l0 n3 e3 4 14 (by decide) (fin4 K hK) n2
      unfold tailJ at R
      exact R
end Go.Proofs.Ytgiehdhnhkmjfaa.Pure
-- Laid by xprint.py (wip/tools): printed contracts, and hand-written ones between them.
namespace Go.Proofs.Ytgiehdhnhkmjfaa.fnCoins
open Go.ChangeShapes Go.WideShapes Go.ChangeAt Go.RowKit
open Go.ChangeMaps (open_string shut_string)
set_option linter.unusedVariables false
theorem own : ownKnob Try.prog.godebug = none := by kernel_rfl
theorem laidOut : laidOutB Try.prog = true := by kernel_rfl
def IsRow (k : IntKind) (w : World) (a : Option Addr) (len cap : Nat) (zs : List Int) : Prop :=
  (a = none ∧ len = 0 ∧ cap = 0 ∧ zs = []) ∨
  ∃ x, a = some x ∧ len ≤ cap ∧ cap ≤ maxLen ∧ zs.length = cap ∧ (∀ i, i < zs.length → w.cell? (x.add i) = some (.int k (zs.getD i 0))) ∧ ∀ n ∈ zs, (Lit.int k n).wf = true
set_option maxRecDepth 100000 in
theorem lifted (os : Os) (started : os.Started) (H : Type) (enc : TypeId × Value → H) :
    ReturnsInHanded {} Try.checked os 7 .any (Rows.fnCoinsSpec.pre6 enc Try.prog Try.f7 Rows.fnCoinsRow.domain false) (Rows.fnCoinsSpec.post enc Try.prog Try.f7 false true false false) := by
  refine returnsInHanded_of_change_sized (C := Try.checked) own started (by kernel_rfl) Try.func7
    (ChangeSpec.witness6 (enc := enc) (C := Try.checked) false ⟨#[], #[.slice none 0 0], []⟩ 8 (by kernel_rfl) (by kernel_rfl) (by kernel_rfl) (by kernel_rfl)) ?_
  intro W base args ds gs before hval0 hW hcnd hsz0 _
  have hsz : (DataW.weightsEach Try.prog (Try.f7.params.toList ++ Rows.fnCoinsSpec.plain.varTypes Try.prog) (ds ++ gs)).all (· ≤ reachBytes) = true := hsz0
  have hval : ∀ (j : Nat) t v, Try.f7.params[j]? = some t → args[j]? = some v → Value.okWide Try.prog W .any base t v := hval0
  have hW' := hW
  obtain ⟨p, q, hA0, hV, rfl, hfz, hnd⟩ := hW
  have hA : DataW.TrodAll enc Try.prog W 0 (fun _ => true) true Try.f7.params.toList args.toList ds p := hA0
  rw [Try.params7] at hA hval hsz
  obtain ⟨v0, vs0, d0, ds0, p0, q0, hargs, rfl, rfl, h0, r0⟩ := trodAll_cons hA
  obtain ⟨rfl, rfl, rfl⟩ := trodAll_nil r0
  obtain rfl : args = #[v0] := by cases args; simp_all
  obtain ⟨rfl, rfl⟩ := trodVars_none hV
  obtain ⟨a0, len0, cap0, rfl⟩ := okWide_slice Try.underlying45 (hval 0 45 v0 rfl rfl)
  have k0 := h0
  have lt0 : ∀ x ∈ p0, x.block < W.heap.size := by obtain ⟨m, hm⟩ := k0; exact DataW.trod_lt m _ _ _ hm
  obtain ⟨z0, w0⟩ : ∃ zs, IsRow .u8 W a0 len0 cap0 zs := by
    obtain ⟨fuel, hf⟩ := h0
    rcases open_ints Try.underlying45 Try.underlying5 (by kernel_rfl) hf with ⟨hcs, _⟩ | ⟨x, l, c, zs, hcs, _, hl, hm, hz, _, hcell, hwz⟩
    · simp [Value.cells] at hcs
      obtain ⟨rfl, rfl, rfl⟩ := hcs
      exact ⟨[], .inl ⟨rfl, rfl, rfl, rfl⟩⟩
    · simp [Value.cells] at hcs
      obtain ⟨rfl, rfl, rfl⟩ := hcs
      exact ⟨zs, .inr ⟨_, rfl, hl, hm, by simpa using hz, hcell, hwz⟩⟩
  have y0 : len0 * 1 ≤ 140737488351232 := Go.Proofs.YtgiehdhnhkmjfaaW.PrintWords.sized_ints hsz (j := 0) (t := 45) rfl rfl Try.underlying45 Try.underlying5 (by kernel_rfl) (by kernel_rfl) h0
  clear hA0 hval0 hsz0 hsz
  refine (X.laws_FnCoins.walk Pure.FnCoins a0 len0 cap0 z0 W w0 y0).mono fun e W' ⟨he, bel⟩ => ?_
  subst he
  exact ⟨_, rfl, _, _, _, [], _, [], hW', trodAll_mk1 (shut_bool Try.underlying4 _), (trodAll_cons_mk (Below.trod laidOut (by kernel_rfl) (of_decide_eq_true (by kernel_rfl)) k0 bel lt0) trodAll_mk0), rfl, bel.frame _, fun h => by cases h⟩
theorem over : Rows.fnCoinsRow.holds Try.pinned (OpenSpec.ofChange Rows.fnCoinsSpec) :=
  OpenClaim.holds_of_wide 7 Try.f7 rfl rfl rfl rfl rfl rfl rfl ⟨rfl, rfl, rfl, rfl, rfl⟩ rfl rfl rfl rfl rfl (by kernel_rfl) Try.func7 (by kernel_rfl)
    (of_decide_eq_true (by kernel_rfl)) (by unfold Func.isWrapper; first | (rw [if_pos (by decide +kernel)]; kernel_rfl) | (rw [if_neg (by decide +kernel)]; exact ⟨rfl, rfl⟩))
    (fun os started H enc _ => lifted os started H enc)
theorem proved : Rows.FnCoinsSaid := over
#print axioms proved
end Go.Proofs.Ytgiehdhnhkmjfaa.fnCoins
namespace Go.Proofs.Ytgiehdhnhkmjfaa
/-- The row, under a short name, for the claim. -/
theorem fnCoins_holds : Rows.FnCoinsSaid := fnCoins.proved
end Go.Proofs.Ytgiehdhnhkmjfaa
