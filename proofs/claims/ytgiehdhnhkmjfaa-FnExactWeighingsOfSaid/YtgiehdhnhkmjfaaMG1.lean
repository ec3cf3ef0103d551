/- The texts Xf32, Xp1, Xp2, Xf67, Xf77, Xf97, Xf98, Xf64, Xf76, Xf86, Xf104, Xf90, Xf101, Xf78, Xf102, Xf79, Xf81, Xf82, Xf33, Xf34, Xf6, Xf42, Xf8, Xf60, Xf88, Xf43 of this claim, one behind the other. -/
import Derived.Test.YtgiehdhnhkmjfaaMG0
-- Laid by xprint.py (wip/tools): printed contracts, and hand-written ones between them.
namespace Go.Proofs.Ytgiehdhnhkmjfaa.X
open Go.RowKit Go.Proofs.YtgiehdhnhkmjfaaW.PrintWords Go.Proofs.YtgiehdhnhkmjfaaW.PrintLast Go.Proofs.YtgiehdhnhkmjfaaW.PrintMore
attribute [local go_sem] max2_int min2_int max_two min_two max_three min_three max_four min_four   -- for this text's walks alone
set_option linter.unusedVariables false
set_option linter.unusedSimpArgs false

/-! ### spec_CoinWords: function 32 -/
mutual
def spec_CoinWords.j0 : Nat → Int → Int → Bool → Option ((List (List Int)) × Bool)
  | 0, _, _, _ => none
  | k + 1, x0, x1, x24 => if x24 = true then (some (([] : List (List Int)), false)) else ((spec_LimitOf.f k x1).bind fun t33007 => (spec_CoinWords.l0 k x0 x1 (([] : List (List Int))) (wrap64 (-t33007))))
def spec_CoinWords.l0 : Nat → Int → Int → List (List Int) → Int → Option ((List (List Int)) × Bool)
  | 0, _, _, _, _ => none
  | k + 1, x0, x1, x6, x7 => if (x6.length : Int) < x0 then ((spec_l2Word.f k x7 x1).bind fun t33008 => ((spec_l8Forward.f k t33008).bind fun t33011 => (if t33011 = true then ((spec_l8Has.f k x6 t33008).bind fun t33012 => (spec_CoinWords.j2 k x0 x1 x6 x7 t33008 t33012)) else (spec_CoinWords.j2 k x0 x1 x6 x7 t33008 true)))) else (some (x6, true))
def spec_CoinWords.j2 : Nat → Int → Int → List (List Int) → Int → List Int → Bool → Option ((List (List Int)) × Bool)
  | 0, _, _, _, _, _, _ => none
  | k + 1, x0, x1, x6, x7, x8, x45 => if x45 = true then (spec_CoinWords.l0 k x0 x1 x6 (wrap64 (x7 + 1))) else ((spec_l8Turned.f k x8).bind fun t33013 => ((spec_l8Turned.f k t33013).bind fun t33016 => ((some (([x8, t33013, t33016] : List (List Int)) : List (List Int))).bind fun y33019 => (if x6.length + y33019.length < 5864062014805 then (spec_CoinWords.l0 k x0 x1 (x6 ++ y33019) (wrap64 (x7 + 1))) else (none)))))
end
def spec_CoinWords.f (k : Nat) (a0 : Int) (a1 : Int) : Option ((List (List Int)) × Bool) := (spec_l1In.f a1 2 5).bind fun t33001 => (if t33001 = true then ((spec_CoinsFor.f k a1).bind fun t33002 => ((spec_l1In.f a0 3 t33002).bind fun t33003 => (if t33003 = true then (spec_CoinWords.j0 k a0 a1 ((Int.tmod a0 3) != 0)) else (spec_CoinWords.j0 k a0 a1 true)))) else (spec_CoinWords.j0 k a0 a1 true))
theorem spec_CoinWords.mono_l : ∀ k, (∀ y0 y1 y2, LeO (spec_CoinWords.j0 k y0 y1 y2) (spec_CoinWords.j0 (k + 1) y0 y1 y2)) ∧ (∀ y0 y1 y2 y3, LeO (spec_CoinWords.l0 k y0 y1 y2 y3) (spec_CoinWords.l0 (k + 1) y0 y1 y2 y3)) ∧ (∀ y0 y1 y2 y3 y4 y5, LeO (spec_CoinWords.j2 k y0 y1 y2 y3 y4 y5) (spec_CoinWords.j2 (k + 1) y0 y1 y2 y3 y4 y5))
  | 0 => ⟨fun _ _ _ r h => by simp [spec_CoinWords.j0] at h, fun _ _ _ _ r h => by simp [spec_CoinWords.l0] at h, fun _ _ _ _ _ _ r h => by simp [spec_CoinWords.j2] at h⟩
  | k + 1 => by
    obtain ⟨ih0, ih1, ih2⟩ := spec_CoinWords.mono_l k
    refine ⟨?_, ?_, ?_⟩
    · intro y0 y1 y2
      unfold spec_CoinWords.j0
      repeat' first
      | (with_reducible exact ih0 _ _ _)
      | (with_reducible exact ih1 _ _ _ _)
      | (with_reducible exact ih2 _ _ _ _ _ _)
      | (with_reducible exact spec_CoinsFor.mono _ _)
      | (with_reducible exact spec_LimitOf.mono _ _)
      | (with_reducible exact spec_l2Word.mono _ _ _)
      | (with_reducible exact spec_l8Forward.mono _ _)
      | (with_reducible exact spec_l8Has.mono _ _ _)
      | (with_reducible exact spec_l8Turned.mono _ _)
      | (with_reducible exact LeO.refl _)
      | (with_reducible exact LeO.none _)
      | (with_reducible refine LeO.ite ?_ ?_)
      | (with_reducible refine LeO.bind ?_ (fun _ => ?_))
      | exact ih0 _ _ _
      | exact ih1 _ _ _ _
      | exact ih2 _ _ _ _ _ _
      | exact spec_CoinsFor.mono _ _
      | exact spec_LimitOf.mono _ _
      | exact spec_l2Word.mono _ _ _
      | exact spec_l8Forward.mono _ _
      | exact spec_l8Has.mono _ _ _
      | exact spec_l8Turned.mono _ _
      | exact LeO.none _
      | refine LeO.ite ?_ ?_
      | refine LeO.bind ?_ (fun _ => ?_)
    · intro y0 y1 y2 y3
      unfold spec_CoinWords.l0
      repeat' first
      | (with_reducible exact ih0 _ _ _)
      | (with_reducible exact ih1 _ _ _ _)
      | (with_reducible exact ih2 _ _ _ _ _ _)
      | (with_reducible exact spec_CoinsFor.mono _ _)
      | (with_reducible exact spec_LimitOf.mono _ _)
      | (with_reducible exact spec_l2Word.mono _ _ _)
      | (with_reducible exact spec_l8Forward.mono _ _)
      | (with_reducible exact spec_l8Has.mono _ _ _)
      | (with_reducible exact spec_l8Turned.mono _ _)
      | (with_reducible exact LeO.refl _)
      | (with_reducible exact LeO.none _)
      | (with_reducible refine LeO.ite ?_ ?_)
      | (with_reducible refine LeO.bind ?_ (fun _ => ?_))
      | exact ih0 _ _ _
      | exact ih1 _ _ _ _
      | exact ih2 _ _ _ _ _ _
      | exact spec_CoinsFor.mono _ _
      | exact spec_LimitOf.mono _ _
      | exact spec_l2Word.mono _ _ _
      | exact spec_l8Forward.mono _ _
      | exact spec_l8Has.mono _ _ _
      | exact spec_l8Turned.mono _ _
      | exact LeO.none _
      | refine LeO.ite ?_ ?_
      | refine LeO.bind ?_ (fun _ => ?_)
    · intro y0 y1 y2 y3 y4 y5
      unfold spec_CoinWords.j2
      repeat' first
      | (with_reducible exact ih0 _ _ _)
      | (with_reducible exact ih1 _ _ _ _)
      | (with_reducible exact ih2 _ _ _ _ _ _)
      | (with_reducible exact spec_CoinsFor.mono _ _)
      | (with_reducible exact spec_LimitOf.mono _ _)
      | (with_reducible exact spec_l2Word.mono _ _ _)
      | (with_reducible exact spec_l8Forward.mono _ _)
      | (with_reducible exact spec_l8Has.mono _ _ _)
      | (with_reducible exact spec_l8Turned.mono _ _)
      | (with_reducible exact LeO.refl _)
      | (with_reducible exact LeO.none _)
      | (with_reducible refine LeO.ite ?_ ?_)
      | (with_reducible refine LeO.bind ?_ (fun _ => ?_))
      | exact ih0 _ _ _
      | exact ih1 _ _ _ _
      | exact ih2 _ _ _ _ _ _
      | exact spec_CoinsFor.mono _ _
      | exact spec_LimitOf.mono _ _
      | exact spec_l2Word.mono _ _ _
      | exact spec_l8Forward.mono _ _
      | exact spec_l8Has.mono _ _ _
      | exact spec_l8Turned.mono _ _
      | exact LeO.none _
      | refine LeO.ite ?_ ?_
      | refine LeO.bind ?_ (fun _ => ?_)
theorem spec_CoinWords.mono : ∀ a0 a1 k, LeO (spec_CoinWords.f k a0 a1) (spec_CoinWords.f (k + 1) a0 a1) := by
  intro a0 a1 k
  obtain ⟨ih0, ih1, ih2⟩ := spec_CoinWords.mono_l k
  unfold spec_CoinWords.f
  repeat' first
      | (with_reducible exact ih0 _ _ _)
      | (with_reducible exact ih1 _ _ _ _)
      | (with_reducible exact ih2 _ _ _ _ _ _)
      | (with_reducible exact spec_CoinsFor.mono _ _)
      | (with_reducible exact spec_LimitOf.mono _ _)
      | (with_reducible exact spec_l2Word.mono _ _ _)
      | (with_reducible exact spec_l8Forward.mono _ _)
      | (with_reducible exact spec_l8Has.mono _ _ _)
      | (with_reducible exact spec_l8Turned.mono _ _)
      | (with_reducible exact LeO.refl _)
      | (with_reducible exact LeO.none _)
      | (with_reducible refine LeO.ite ?_ ?_)
      | (with_reducible refine LeO.bind ?_ (fun _ => ?_))
      | exact ih0 _ _ _
      | exact ih1 _ _ _ _
      | exact ih2 _ _ _ _ _ _
      | exact spec_CoinsFor.mono _ _
      | exact spec_LimitOf.mono _ _
      | exact spec_l2Word.mono _ _ _
      | exact spec_l8Forward.mono _ _
      | exact spec_l8Has.mono _ _ _
      | exact spec_l8Turned.mono _ _
      | exact LeO.none _
      | refine LeO.ite ?_ ?_
      | refine LeO.bind ?_ (fun _ => ?_)
set_option maxHeartbeats 8000000 in
set_option maxRecDepth 100000 in
theorem spec_CoinWords.calls (k : Nat) (a0 : Int) (a1 : Int) (r1 : List (List Int)) (r2 : Bool) (w : World) (h : spec_CoinWords.f k a0 a1 = some (r1, r2)) :
    Calls Try.prog 32 #[.int .i64 a0, .int .i64 a1] w fun e w' => ∃ v0_ : Value, e = .returned (.tuple #[v0_, .bool r2]) ∧ Kd.N (Kd.slice 3 (Kd.int .i64)) 47 w' w.heap.size (fun k_ => (w.heap.size ≤ k_)) v0_ r1 ∧ Below w.heap.size w w' := by
  have HB := Aside0.mk (Below.refl w.heap.size w)
  have H : ((spec_l1In.f a1 2 5).bind fun t33001 => (if t33001 = true then ((spec_CoinsFor.f k a1).bind fun t33002 => ((spec_l1In.f a0 3 t33002).bind fun t33003 => (if t33003 = true then (spec_CoinWords.j0 k a0 a1 ((Int.tmod a0 3) != 0)) else (spec_CoinWords.j0 k a0 a1 true)))) else (spec_CoinWords.j0 k a0 a1 true))) = some (r1, r2) := h
  clear h
  have HC3 := Aside0.mk H
  clear H
  go_enter Try.func32, Try.ntmps32
  go_upto_region 1 with (fail)
  go_cut [24] (fun v24 wc => ∃ (kq : Nat) (x24_2 : Bool), v24 = .bool x24_2 ∧ Aside0 (spec_CoinWords.j0 kq a0 a1 x24_2 = some (r1, r2)) ∧ Aside0 (kq ≤ k) ∧ Aside0 (Below w.heap.size w wc))
  case first =>
    have H := HC3.out
    clear HC3
    replace H := Option.bind_eq_some_iff.mp H
    obtain ⟨t33001, A40, H⟩ := H
    replace H : (if t33001 = true then ((spec_CoinsFor.f k a1).bind fun t33002 => ((spec_l1In.f a0 3 t33002).bind fun t33003 => (if t33003 = true then (spec_CoinWords.j0 k a0 a1 ((Int.tmod a0 3) != 0)) else (spec_CoinWords.j0 k a0 a1 true)))) else (spec_CoinWords.j0 k a0 a1 true)) = some (r1, r2) := H
    have A4 := Aside0.mk A40
    clear A40
    by_cases c5 : t33001 = true
    · subst c5
      have H1 : ((spec_CoinsFor.f k a1).bind fun t33002 => ((spec_l1In.f a0 3 t33002).bind fun t33003 => (if t33003 = true then (spec_CoinWords.j0 k a0 a1 ((Int.tmod a0 3) != 0)) else (spec_CoinWords.j0 k a0 a1 true)))) = some (r1, r2) := by rw [if_pos rfl] at H; exact H
      clear H
      have H := H1
      clear H1
      replace H := Option.bind_eq_some_iff.mp H
      obtain ⟨t33002, A60, H⟩ := H
      replace H : ((spec_l1In.f a0 3 t33002).bind fun t33003 => (if t33003 = true then (spec_CoinWords.j0 k a0 a1 ((Int.tmod a0 3) != 0)) else (spec_CoinWords.j0 k a0 a1 true))) = some (r1, r2) := H
      have A6 := Aside0.mk A60
      clear A60
      replace H := Option.bind_eq_some_iff.mp H
      obtain ⟨t33003, A70, H⟩ := H
      replace H : (if t33003 = true then (spec_CoinWords.j0 k a0 a1 ((Int.tmod a0 3) != 0)) else (spec_CoinWords.j0 k a0 a1 true)) = some (r1, r2) := H
      have A7 := Aside0.mk A70
      clear A70
      by_cases c8 : t33003 = true
      · subst c8
        have H1 : (spec_CoinWords.j0 k a0 a1 ((Int.tmod a0 3) != 0)) = some (r1, r2) := by rw [if_pos rfl] at H; exact H
        clear H
        have H := H1
        clear H1
        have H' := Aside0.mk H
        clear H
        go_wp2_with (first | ((with_reducible refine gate_callee (f := 70) rfl ?_); refine goesL_ (some 11) rfl rfl Try.func70 (by kernel_rfl) rfl #[.int .i64 a1, .int .i64 2, .int .i64 5] rfl (by (try simp only [List.map_toArray, List.map_cons, List.map_nil]); first | done | rfl | (simp only [List.length_drop, List.length_take]; rfl)) ?_; (with_reducible refine (spec_l1In.calls a1 2 5 true _ A4.out).mono ?_); rintro e w' ⟨rfl, ⟨nd, rfl⟩⟩; refine ⟨_, rfl, ?_⟩) | (go_at_call 36; (with_reducible refine (spec_CoinsFor.calls k a1 t33002 _ A6.out).mono ?_); rintro e w' ⟨rfl, ⟨nd, rfl⟩⟩) | (go_at_call 70; (with_reducible refine (spec_l1In.calls a0 3 t33002 true _ A7.out).mono ?_); rintro e w' ⟨rfl, ⟨nd, rfl⟩⟩))
        go_meet
        case rel => exact ⟨_, (((Int.tmod a0 3) != 0)), (by first | rfl | (simp; done) | (simp [*]; done)), H', ⟨by first | omega | exact Nat.le_refl _⟩, ⟨by repeat (first | (with_reducible first | exact HB.out | apply below_alloc | apply pw_below_drewN | apply below_drew1) | exact HB.out)⟩⟩
      · replace c8 := Bool.eq_false_iff.mpr c8
        subst c8
        have H1 : (spec_CoinWords.j0 k a0 a1 true) = some (r1, r2) := by rw [if_neg (show ¬ (false = true) by decide)] at H; exact H
        clear H
        have H := H1
        clear H1
        have H' := Aside0.mk H
        clear H
        go_wp2_with (first | ((with_reducible refine gate_callee (f := 70) rfl ?_); refine goesL_ (some 11) rfl rfl Try.func70 (by kernel_rfl) rfl #[.int .i64 a1, .int .i64 2, .int .i64 5] rfl (by (try simp only [List.map_toArray, List.map_cons, List.map_nil]); first | done | rfl | (simp only [List.length_drop, List.length_take]; rfl)) ?_; (with_reducible refine (spec_l1In.calls a1 2 5 true _ A4.out).mono ?_); rintro e w' ⟨rfl, ⟨nd, rfl⟩⟩; refine ⟨_, rfl, ?_⟩) | (go_at_call 36; (with_reducible refine (spec_CoinsFor.calls k a1 t33002 _ A6.out).mono ?_); rintro e w' ⟨rfl, ⟨nd, rfl⟩⟩) | (go_at_call 70; (with_reducible refine (spec_l1In.calls a0 3 t33002 false _ A7.out).mono ?_); rintro e w' ⟨rfl, ⟨nd, rfl⟩⟩))
        go_meet
        case rel => exact ⟨_, (true), (by first | rfl | (simp; done) | (simp [*]; done)), H', ⟨by first | omega | exact Nat.le_refl _⟩, ⟨by repeat (first | (with_reducible first | exact HB.out | apply below_alloc | apply pw_below_drewN | apply below_drew1) | exact HB.out)⟩⟩
    · replace c5 := Bool.eq_false_iff.mpr c5
      subst c5
      have H1 : (spec_CoinWords.j0 k a0 a1 true) = some (r1, r2) := by rw [if_neg (show ¬ (false = true) by decide)] at H; exact H
      clear H
      have H := H1
      clear H1
      have H' := Aside0.mk H
      clear H
      go_wp2_with (first | ((with_reducible refine gate_callee (f := 70) rfl ?_); refine goesL_ (some 11) rfl rfl Try.func70 (by kernel_rfl) rfl #[.int .i64 a1, .int .i64 2, .int .i64 5] rfl (by (try simp only [List.map_toArray, List.map_cons, List.map_nil]); first | done | rfl | (simp only [List.length_drop, List.length_take]; rfl)) ?_; (with_reducible refine (spec_l1In.calls a1 2 5 false _ A4.out).mono ?_); rintro e w' ⟨rfl, ⟨nd, rfl⟩⟩; refine ⟨_, rfl, ?_⟩))
      go_meet
      case rel => exact ⟨_, (true), (by first | rfl | (simp; done) | (simp [*]; done)), H', ⟨by first | omega | exact Nat.le_refl _⟩, ⟨by repeat (first | (with_reducible first | exact HB.out | apply below_alloc | apply pw_below_drewN | apply below_drew1) | exact HB.out)⟩⟩
  case rest =>
    clear HC3
    try clear p2
    try clear c3
    try clear c5
    try clear c7
    try clear c8
    obtain ⟨kq, x24_2, rfl, HA, HJ2, HB⟩ := hcut
    cases kq with
    | zero => exact absurd HA.out (by simp [spec_CoinWords.j0])
    | succ kj2 =>
      have H := HA.out
      clear HA
      simp only [spec_CoinWords.j0] at H
      by_cases c9 : x24_2 = true
      · subst c9
        have H1 : (some (([] : List (List Int)), false)) = some (r1, r2) := by rw [if_pos rfl] at H; exact H
        clear H
        have H := H1
        clear H1
        simp only [Option.some.injEq, Prod.mk.injEq] at H
        obtain ⟨rfl, rfl⟩ := H
        go_wp2
        go_ret2
        exact ⟨_, by first | rfl | (simp [errW_none, errW_some] <;> rfl) | (simp [*, errW_none, errW_some] <;> rfl), by first | exact Kd.S_nil _ _ _ _ _ | exact Kd.N_nil _ _ _ _ _ | exact Kd.V_nil _ _ _ _ _ | exact Kd.Q_nil _ _ _ _ _ | exact Kd.R_nil _ _ _ _ _, by repeat (first | (with_reducible first | exact HB.out | apply below_alloc | apply pw_below_drewN | apply below_drew1) | exact HB.out)⟩
      · replace c9 := Bool.eq_false_iff.mpr c9
        subst c9
        have H1 : ((spec_LimitOf.f kj2 a1).bind fun t33007 => (spec_CoinWords.l0 kj2 a0 a1 (([] : List (List Int))) (wrap64 (-t33007)))) = some (r1, r2) := by rw [if_neg (show ¬ (false = true) by decide)] at H; exact H
        clear H
        have H := H1
        clear H1
        obtain ⟨y33004, hy33004⟩ : ∃ y_ : List (List Int), y_ = (([] : List (List Int))) := ⟨_, rfl⟩
        replace H : ((spec_LimitOf.f kj2 a1).bind fun t33007 => (spec_CoinWords.l0 kj2 a0 a1 y33004 (wrap64 (-t33007)))) = some (r1, r2) := by first | (rw [hy33004]; with_reducible exact H) | (have H2_ := (Option.bind_some _ _).symm.trans H; rw [hy33004]; with_reducible exact H2_) | (have H2_ := (Option.bind_some _ _).symm.trans H; with_reducible exact H2_) | with_reducible exact H | (rw [hy33004]; exact H) | exact H
        have Ny33004 := Aside0.mk hy33004
        clear hy33004
        replace H := Option.bind_eq_some_iff.mp H
        obtain ⟨t33007, A100, H⟩ := H
        replace H : (spec_CoinWords.l0 kj2 a0 a1 y33004 (wrap64 (-t33007))) = some (r1, r2) := H
        have A10 := Aside0.mk A100
        clear A100
        have H' := Aside0.mk H
        clear H
        go_wp2_with (first | ((with_reducible refine gate_dst (N := 25) rfl ?_); refine Kd.N_lit (Kd.slice 3 (Kd.int .i64)) _ 47 ?hg (N' := 25) ?hd (xs := ([] : List (List Int))) (inner := []) (ok := (fun k_ => (w.heap.size ≤ k_))) (okp := (fun k_ => (w.heap.size ≤ k_))) ?hr ?hp (fun _ hk => hk) ((show ∀ k_, wc.heap.size ≤ k_ → (fun k_ => (w.heap.size ≤ k_)) k_ from fun k_ hk => (Nat.le_trans (below_size (by repeat (first | (with_reducible first | exact HB.out | apply below_alloc | apply pw_below_drewN | apply below_drew1) | exact HB.out))) hk)) _ (Nat.le_refl _)) (Below.refl _ _) (Nat.le_refl _) (by simp) ?_; (case hd => rfl); (case hg => rfl); (case hr => first | (go_simp; done) | (go_simp; rfl)); (case hp => exact (Reps.none _ _)); intro v33005 w11 ho12 hb hg_ hnew_; clear hg_ hnew_; (first | rw [← Ny33004.out] at ho12 | (simp only [Int.reduceToNat] at ho12; rw [← Ny33004.out] at ho12)); have n0_ := Aside0.mk (Kd.N_lower ho12 (below_size (by repeat (first | (with_reducible first | exact HB.out | apply below_alloc | apply pw_below_drewN | apply below_drew1) | exact HB.out)))); have n1_ := Aside0.mk (below_step (by repeat (first | (with_reducible first | exact HB.out | apply below_alloc | apply pw_below_drewN | apply below_drew1) | exact HB.out)) hb); clear HB; have HO33006 := n0_; have HB := n1_; clear n0_ n1_; clear hb ho12) | ((with_reducible refine gate_callee (f := 71) rfl ?_); refine goesL_ (some 27) rfl rfl Try.func71 (by kernel_rfl) rfl #[.int .i64 a1] rfl (by (try simp only [List.map_toArray, List.map_cons, List.map_nil]); first | done | rfl | (simp only [List.length_drop, List.length_take]; rfl)) ?_; (with_reducible refine (spec_LimitOf.calls kj2 a1 t33007 _ A10.out).mono ?_); rintro e w' ⟨rfl, ⟨nd, rfl⟩⟩; refine ⟨_, rfl, ?_⟩))
        go_loopg [6, 7] kj2 (fun kq v6 v7 w' => ∃ (x6_2 : List (List Int)) (x7_2 : Int), v7 = .int .i64 x7_2 ∧ Aside0 (spec_CoinWords.l0 kq a0 a1 x6_2 x7_2 = some (r1, r2)) ∧ Aside0 (kq ≤ kj2) ∧ Aside0 (Kd.N (Kd.slice 3 (Kd.int .i64)) 47 w' w.heap.size (fun k_ => (w.heap.size ≤ k_)) v6 x6_2) ∧ Aside0 (Below w.heap.size w w'))
        case atStart => exact ⟨(y33004), (wrap64 (-t33007)), (by first | rfl | (simp; done) | (simp [*]; done)), H', ⟨Nat.le_refl _⟩, ⟨by (with_reducible repeat (first | apply Kd.N_alloc | apply Kd.N_drewN | apply Kd.N_drew)); exact HO33006.out⟩, ⟨by repeat (first | (with_reducible first | exact HB.out | apply below_alloc | apply pw_below_drewN | apply below_drew1) | exact HB.out)⟩⟩
        case round =>
          clear H'
          try clear p2
          try clear c3
          try clear c5
          try clear p6
          try clear c7
          try clear c8
          try clear c9
          try clear p2
          obtain ⟨x6_2, x7_2, rfl, HA, HK2, HO_6, HB⟩ := hrel
          cases gk with
          | zero => exact absurd HA.out (by simp [spec_CoinWords.l0])
          | succ k2 =>
            have H := HA.out
            clear HA
            simp only [spec_CoinWords.l0] at H
            by_cases c13 : (x6_2.length : Int) < a0
            · rw [if_pos c13] at H
              have c13b0 : decide ((x6_2.length : Int) < a0) = true := decide_eq_true c13
              clear c13
              replace H := Option.bind_eq_some_iff.mp H
              obtain ⟨t33008, A140, H⟩ := H
              replace H : ((spec_l8Forward.f k2 t33008).bind fun t33011 => (if t33011 = true then ((spec_l8Has.f k2 x6_2 t33008).bind fun t33012 => (spec_CoinWords.j2 k2 a0 a1 x6_2 x7_2 t33008 t33012)) else (spec_CoinWords.j2 k2 a0 a1 x6_2 x7_2 t33008 true))) = some (r1, r2) := H
              have A14 := Aside0.mk A140
              clear A140
              have HC15 := Aside0.mk H
              clear H
              obtain ⟨Ao16, co16, eo16⟩ := Kd.N_slice HO_6.out
              subst eo16
              go_upto_region 8 with (first | ((with_reducible refine gate_callee (f := 72) rfl ?_); refine goesL_ (some 37) rfl rfl Try.func72 (by kernel_rfl) rfl #[.int .i64 x7_2, .int .i64 a1] rfl (by (try simp only [List.map_toArray, List.map_cons, List.map_nil]); first | done | rfl | (simp only [List.length_drop, List.length_take]; rfl)) ?_; (with_reducible refine (spec_l2Word.calls k2 x7_2 a1 t33008 _ A14.out).mono ?_); rintro e w17 ⟨v33009, rfl, ho0, hb⟩; refine ⟨_, rfl, ?_⟩; have n0_ := Aside0.mk (Kd.N_elder' (by (with_reducible repeat (first | apply Kd.N_alloc | apply Kd.N_drewN | apply Kd.N_drew)); exact HO_6.out) (Kd.R_base ho0) hb); have n1_ := Aside0.mk (Kd.R_lower (Kd.R_newM (M := fun k_ => (w.heap.size ≤ k_)) ho0 (below_size (by repeat (first | (with_reducible first | exact HB.out | apply below_alloc | apply pw_below_drewN | apply below_drew1) | exact HB.out))) (fun k_ h_ => h_)) (below_size (by repeat (first | (with_reducible first | exact HB.out | apply below_alloc | apply pw_below_drewN | apply below_drew1) | exact HB.out)))); have n2_ := Aside0.mk (below_step (by repeat (first | (with_reducible first | exact HB.out | apply below_alloc | apply pw_below_drewN | apply below_drew1) | exact HB.out)) hb); clear HO_6; clear HB; have HO_6 := n0_; have HO33010 := n1_; have HB := n2_; clear n0_ n1_ n2_; (try clear hb); (try clear hb2); (try clear hk); (try clear hi); (try clear ho0)))
              (try simp only [Act.put, List.setIfInBounds_toArray, List.set_cons_zero, List.set_cons_succ])
              go_cut [45] (fun v45 wc => ∃ (kq : Nat) (x45_14 : Bool), v45 = .bool x45_14 ∧ Aside0 (spec_CoinWords.j2 kq a0 a1 x6_2 x7_2 t33008 x45_14 = some (r1, r2)) ∧ Aside0 (kq ≤ k2) ∧ Aside0 (Kd.N (Kd.slice 3 (Kd.int .i64)) 47 wc w.heap.size (fun k_ => (w.heap.size ≤ k_) ∧ some k_ ≠ (v33009 : Value).ownBlock) (.slice Ao16 x6_2.length co16) x6_2) ∧ Aside0 (Kd.R (Kd.int .i64) 3 wc w.heap.size (fun k_ => (w.heap.size ≤ k_)) v33009 t33008) ∧ Aside0 (Below w.heap.size w wc))
              case first =>
                have H := HC15.out
                clear HC15
                replace H := Option.bind_eq_some_iff.mp H
                obtain ⟨t33011, A180, H⟩ := H
                replace H : (if t33011 = true then ((spec_l8Has.f k2 x6_2 t33008).bind fun t33012 => (spec_CoinWords.j2 k2 a0 a1 x6_2 x7_2 t33008 t33012)) else (spec_CoinWords.j2 k2 a0 a1 x6_2 x7_2 t33008 true)) = some (r1, r2) := H
                have A18 := Aside0.mk A180
                clear A180
                by_cases c19 : t33011 = true
                · subst c19
                  have H1 : ((spec_l8Has.f k2 x6_2 t33008).bind fun t33012 => (spec_CoinWords.j2 k2 a0 a1 x6_2 x7_2 t33008 t33012)) = some (r1, r2) := by rw [if_pos rfl] at H; exact H
                  clear H
                  have H := H1
                  clear H1
                  replace H := Option.bind_eq_some_iff.mp H
                  obtain ⟨t33012, A200, H⟩ := H
                  replace H : (spec_CoinWords.j2 k2 a0 a1 x6_2 x7_2 t33008 t33012) = some (r1, r2) := H
                  have A20 := Aside0.mk A200
                  clear A200
                  have H' := Aside0.mk H
                  clear H
                  obtain ⟨Ao21, co21, eo21⟩ := Kd.R_slice HO33010.out
                  subst eo21
                  go_wp2_with (first | ((with_reducible refine gate_callee (f := 73) rfl ?_); refine goesL_ (some 39) rfl rfl Try.func73 (by kernel_rfl) rfl #[.slice Ao21 t33008.length co21] rfl (by (try simp only [List.map_toArray, List.map_cons, List.map_nil]); first | done | rfl | (simp only [List.length_drop, List.length_take]; rfl)) ?_; (with_reducible refine (spec_l8Forward.calls k2 _ _ t33008 true _ ?side1 ?side2 A18.out).mono ?_); (case side1 => repeat (first | exact (Kd.R_reads' HO33010.out).2.2 | (with_reducible refine Kd.C_alloc ?_ _) | (with_reducible refine Kd.C_drewN ?_ _) | (with_reducible refine Kd.C_drew ?_))); (case side2 => exact (Kd.R_reads' HO33010.out).2.1); rintro e w' ⟨rfl, ⟨nd, rfl⟩⟩; refine ⟨_, rfl, ?_⟩) | (go_at_call 74; (with_reducible refine (spec_l8Has.calls k2 _ _ x6_2 _ _ t33008 t33012 _ ?side1 ?side2 ?side3 ?side4 A20.out).mono ?_); (case side1 => repeat (first | exact (Kd.N_reads' HO_6.out).2.2 | (with_reducible refine Kd.C_alloc ?_ _) | (with_reducible refine Kd.C_drewN ?_ _) | (with_reducible refine Kd.C_drew ?_))); (case side2 => exact (Kd.N_reads' HO_6.out).2.1); (case side3 => repeat (first | exact (Kd.R_reads' HO33010.out).2.2 | (with_reducible refine Kd.C_alloc ?_ _) | (with_reducible refine Kd.C_drewN ?_ _) | (with_reducible refine Kd.C_drew ?_))); (case side4 => exact (Kd.R_reads' HO33010.out).2.1); rintro e w' ⟨rfl, ⟨nd, rfl⟩⟩))
                  go_meet
                  case rel => exact ⟨_, (t33012), (by first | rfl | (simp; done) | (simp [*]; done)), H', ⟨by have := HJ2.out; have := HK2.out; first | omega | exact Nat.le_refl _⟩, ⟨by (with_reducible repeat (first | apply Kd.N_alloc | apply Kd.N_drewN | apply Kd.N_drew)); exact HO_6.out⟩, ⟨by (with_reducible repeat (first | apply Kd.R_alloc | apply Kd.R_drewN | apply Kd.R_drew)); exact Kd.R_mono HO33010.out (fun _ hk => hk.1)⟩, ⟨by repeat (first | (with_reducible first | exact HB.out | apply below_alloc | apply pw_below_drewN | apply below_drew1) | exact HB.out)⟩⟩
                · replace c19 := Bool.eq_false_iff.mpr c19
                  subst c19
                  have H1 : (spec_CoinWords.j2 k2 a0 a1 x6_2 x7_2 t33008 true) = some (r1, r2) := by rw [if_neg (show ¬ (false = true) by decide)] at H; exact H
                  clear H
                  have H := H1
                  clear H1
                  have H' := Aside0.mk H
                  clear H
                  obtain ⟨Ao22, co22, eo22⟩ := Kd.R_slice HO33010.out
                  subst eo22
                  go_wp2_with (first | ((with_reducible refine gate_callee (f := 73) rfl ?_); refine goesL_ (some 39) rfl rfl Try.func73 (by kernel_rfl) rfl #[.slice Ao22 t33008.length co22] rfl (by (try simp only [List.map_toArray, List.map_cons, List.map_nil]); first | done | rfl | (simp only [List.length_drop, List.length_take]; rfl)) ?_; (with_reducible refine (spec_l8Forward.calls k2 _ _ t33008 false _ ?side1 ?side2 A18.out).mono ?_); (case side1 => repeat (first | exact (Kd.R_reads' HO33010.out).2.2 | (with_reducible refine Kd.C_alloc ?_ _) | (with_reducible refine Kd.C_drewN ?_ _) | (with_reducible refine Kd.C_drew ?_))); (case side2 => exact (Kd.R_reads' HO33010.out).2.1); rintro e w' ⟨rfl, ⟨nd, rfl⟩⟩; refine ⟨_, rfl, ?_⟩))
                  go_meet
                  case rel => exact ⟨_, (true), (by first | rfl | (simp; done) | (simp [*]; done)), H', ⟨by have := HJ2.out; have := HK2.out; first | omega | exact Nat.le_refl _⟩, ⟨by (with_reducible repeat (first | apply Kd.N_alloc | apply Kd.N_drewN | apply Kd.N_drew)); exact HO_6.out⟩, ⟨by (with_reducible repeat (first | apply Kd.R_alloc | apply Kd.R_drewN | apply Kd.R_drew)); exact Kd.R_mono HO33010.out (fun _ hk => hk.1)⟩, ⟨by repeat (first | (with_reducible first | exact HB.out | apply below_alloc | apply pw_below_drewN | apply below_drew1) | exact HB.out)⟩⟩
              case rest =>
                clear HC15
                try clear c1
                try clear p2
                try clear c3
                try clear c5
                try clear p6
                try clear c7
                try clear c8
                try clear c9
                try clear c13
                try clear c13b0
                try clear c19
                try clear p2
                try clear p6
                obtain ⟨kq, x45_14, rfl, HA, HJ14, HO_6, HO_8, HB⟩ := hcut
                cases kq with
                | zero => exact absurd HA.out (by simp [spec_CoinWords.j2])
                | succ kj14 =>
                  have H := HA.out
                  clear HA
                  simp only [spec_CoinWords.j2] at H
                  by_cases c23 : x45_14 = true
                  · subst c23
                    have H1 : (spec_CoinWords.l0 kj14 a0 a1 x6_2 (wrap64 (x7_2 + 1))) = some (r1, r2) := by rw [if_pos rfl] at H; exact H
                    clear H
                    have H := H1
                    clear H1
                    have H' := Aside0.mk H
                    clear H
                    go_wp2
                    go_roundg kj14
                    case measure => have := HJ2.out; have := HK2.out; have := HJ14.out; omega
                    case rel => exact ⟨(x6_2), (wrap64 (x7_2 + 1)), (by first | rfl | (simp; done) | (simp [*]; done)), H', ⟨by have := HJ2.out; have := HK2.out; have := HJ14.out; omega⟩, ⟨by (with_reducible repeat (first | apply Kd.N_alloc | apply Kd.N_drewN | apply Kd.N_drew)); exact Kd.N_mono HO_6.out (fun _ hk => hk.1)⟩, ⟨by repeat (first | (with_reducible first | exact HB.out | apply below_alloc | apply pw_below_drewN | apply below_drew1) | exact HB.out)⟩⟩
                  · replace c23 := Bool.eq_false_iff.mpr c23
                    subst c23
                    have H1 : ((spec_l8Turned.f kj14 t33008).bind fun t33013 => ((spec_l8Turned.f kj14 t33013).bind fun t33016 => ((some (([t33008, t33013, t33016] : List (List Int)) : List (List Int))).bind fun y33019 => (if x6_2.length + y33019.length < 5864062014805 then (spec_CoinWords.l0 kj14 a0 a1 (x6_2 ++ y33019) (wrap64 (x7_2 + 1))) else (none))))) = some (r1, r2) := by rw [if_neg (show ¬ (false = true) by decide)] at H; exact H
                    clear H
                    have H := H1
                    clear H1
                    replace H := Option.bind_eq_some_iff.mp H
                    obtain ⟨t33013, A240, H⟩ := H
                    replace H : ((spec_l8Turned.f kj14 t33013).bind fun t33016 => ((some (([t33008, t33013, t33016] : List (List Int)) : List (List Int))).bind fun y33019 => (if x6_2.length + y33019.length < 5864062014805 then (spec_CoinWords.l0 kj14 a0 a1 (x6_2 ++ y33019) (wrap64 (x7_2 + 1))) else (none)))) = some (r1, r2) := H
                    have A24 := Aside0.mk A240
                    clear A240
                    replace H := Option.bind_eq_some_iff.mp H
                    obtain ⟨t33016, A250, H⟩ := H
                    replace H : ((some (([t33008, t33013, t33016] : List (List Int)) : List (List Int))).bind fun y33019 => (if x6_2.length + y33019.length < 5864062014805 then (spec_CoinWords.l0 kj14 a0 a1 (x6_2 ++ y33019) (wrap64 (x7_2 + 1))) else (none))) = some (r1, r2) := H
                    have A25 := Aside0.mk A250
                    clear A250
                    obtain ⟨y33019, hy33019⟩ : ∃ y_ : List (List Int), y_ = (([t33008, t33013, t33016] : List (List Int))) := ⟨_, rfl⟩
                    replace H : (if x6_2.length + y33019.length < 5864062014805 then (spec_CoinWords.l0 kj14 a0 a1 (x6_2 ++ y33019) (wrap64 (x7_2 + 1))) else (none)) = some (r1, r2) := by first | (rw [hy33019]; with_reducible exact H) | (have H2_ := (Option.bind_some _ _).symm.trans H; rw [hy33019]; with_reducible exact H2_) | (have H2_ := (Option.bind_some _ _).symm.trans H; with_reducible exact H2_) | with_reducible exact H | (rw [hy33019]; exact H) | exact H
                    have Ny33019 := Aside0.mk hy33019
                    clear hy33019
                    by_cases c26 : x6_2.length + y33019.length < 5864062014805
                    · rw [if_pos c26] at H
                      have LMc26 := Aside0.mk c26
                      clear c26
                      obtain ⟨y33022, hy33022⟩ : ∃ y_ : List (List Int), y_ = (x6_2 ++ y33019) := ⟨_, rfl⟩
                      replace H : (spec_CoinWords.l0 kj14 a0 a1 y33022 (wrap64 (x7_2 + 1))) = some (r1, r2) := by first | (rw [hy33022]; with_reducible exact H) | (have H2_ := (Option.bind_some _ _).symm.trans H; rw [hy33022]; with_reducible exact H2_) | (have H2_ := (Option.bind_some _ _).symm.trans H; with_reducible exact H2_) | with_reducible exact H | (rw [hy33022]; exact H) | exact H
                      have Ny33022 := Aside0.mk hy33022
                      clear hy33022
                      have H' := Aside0.mk H
                      clear H
                      obtain ⟨Ao27, co27, eo27⟩ := Kd.R_slice HO_8.out
                      subst eo27
                      go_wp2_with (first | ((with_reducible refine gate_callee (f := 75) rfl ?_); refine goesL_ (some 47) rfl rfl Try.func75 (by kernel_rfl) rfl #[.slice Ao27 t33008.length co27] rfl (by (try simp only [List.map_toArray, List.map_cons, List.map_nil]); first | done | rfl | (simp only [List.length_drop, List.length_take]; rfl)) ?_; (with_reducible refine (spec_l8Turned.calls kj14 _ _ t33008 t33013 _ ?side1 ?side2 A24.out).mono ?_); (case side1 => repeat (first | exact (Kd.R_reads' HO_8.out).2.2 | (with_reducible refine Kd.C_alloc ?_ _) | (with_reducible refine Kd.C_drewN ?_ _) | (with_reducible refine Kd.C_drew ?_))); (case side2 => exact (Kd.R_reads' HO_8.out).2.1); rintro e w28 ⟨v33014, rfl, ho0, hb⟩; refine ⟨_, rfl, ?_⟩; have n0_ := Aside0.mk (Kd.N_elder' (by (with_reducible repeat (first | apply Kd.N_alloc | apply Kd.N_drewN | apply Kd.N_drew)); exact HO_6.out) (Kd.R_base ho0) hb); have n1_ := Aside0.mk (Kd.R_elder' (by (with_reducible repeat (first | apply Kd.R_alloc | apply Kd.R_drewN | apply Kd.R_drew)); exact HO_8.out) (Kd.R_base ho0) hb); have n2_ := Aside0.mk (Kd.R_lower (Kd.R_new' (Kd.R_newM (M := fun k_ => (w.heap.size ≤ k_)) ho0 (below_size (by repeat (first | (with_reducible first | exact HB.out | apply below_alloc | apply pw_below_drewN | apply below_drew1) | exact HB.out))) (fun k_ h_ => h_)) (Kd.R_lt (by (with_reducible repeat (first | apply Kd.R_alloc | apply Kd.R_drewN | apply Kd.R_drew)); exact HO_8.out))) (below_size (by repeat (first | (with_reducible first | exact HB.out | apply below_alloc | apply pw_below_drewN | apply below_drew1) | exact HB.out)))); have n3_ := Aside0.mk (below_step (by repeat (first | (with_reducible first | exact HB.out | apply below_alloc | apply pw_below_drewN | apply below_drew1) | exact HB.out)) hb); clear HO_6; clear HO_8; clear HB; have HO_6 := n0_; have HO_8 := n1_; have HO33015 := n2_; have HB := n3_; clear n0_ n1_ n2_ n3_; (try clear hb); (try clear hb2); (try clear hk); (try clear hi); (try clear ho0); obtain ⟨Ao29, co29, eo29⟩ := Kd.R_slice HO33015.out; subst eo29) | ((with_reducible refine gate_callee (f := 75) rfl ?_); refine goesL_ (some 52) rfl rfl Try.func75 (by kernel_rfl) rfl #[.slice Ao29 t33013.length co29] rfl (by (try simp only [List.map_toArray, List.map_cons, List.map_nil]); first | done | rfl | (simp only [List.length_drop, List.length_take]; rfl)) ?_; (with_reducible refine (spec_l8Turned.calls kj14 _ _ t33013 t33016 _ ?side1 ?side2 A25.out).mono ?_); (case side1 => repeat (first | exact (Kd.R_reads' HO33015.out).2.2 | (with_reducible refine Kd.C_alloc ?_ _) | (with_reducible refine Kd.C_drewN ?_ _) | (with_reducible refine Kd.C_drew ?_))); (case side2 => exact (Kd.R_reads' HO33015.out).2.1); rintro e w30 ⟨v33017, rfl, ho0, hb⟩; refine ⟨_, rfl, ?_⟩; have n0_ := Aside0.mk (Kd.N_elder' (by (with_reducible repeat (first | apply Kd.N_alloc | apply Kd.N_drewN | apply Kd.N_drew)); exact HO_6.out) (Kd.R_base ho0) hb); have n1_ := Aside0.mk (Kd.R_elder' (by (with_reducible repeat (first | apply Kd.R_alloc | apply Kd.R_drewN | apply Kd.R_drew)); exact HO_8.out) (Kd.R_base ho0) hb); have n2_ := Aside0.mk (Kd.R_elder' (by (with_reducible repeat (first | apply Kd.R_alloc | apply Kd.R_drewN | apply Kd.R_drew)); exact HO33015.out) (Kd.R_base ho0) hb); have n3_ := Aside0.mk (Kd.R_lower (Kd.R_new' (Kd.R_new' (Kd.R_newM (M := fun k_ => (w.heap.size ≤ k_)) ho0 (below_size (by repeat (first | (with_reducible first | exact HB.out | apply below_alloc | apply pw_below_drewN | apply below_drew1) | exact HB.out))) (fun k_ h_ => h_)) (Kd.R_lt (by (with_reducible repeat (first | apply Kd.R_alloc | apply Kd.R_drewN | apply Kd.R_drew)); exact HO_8.out))) (Kd.R_lt (by (with_reducible repeat (first | apply Kd.R_alloc | apply Kd.R_drewN | apply Kd.R_drew)); exact HO33015.out))) (below_size (by repeat (first | (with_reducible first | exact HB.out | apply below_alloc | apply pw_below_drewN | apply below_drew1) | exact HB.out)))); have n4_ := Aside0.mk (below_step (by repeat (first | (with_reducible first | exact HB.out | apply below_alloc | apply pw_below_drewN | apply below_drew1) | exact HB.out)) hb); clear HO_6; clear HO_8; clear HO33015; clear HB; have HO_6 := n0_; have HO_8 := n1_; have HO33015 := n2_; have HO33018 := n3_; have HB := n4_; clear n0_ n1_ n2_ n3_ n4_; (try clear hb); (try clear hb2); (try clear hk); (try clear hi); (try clear ho0); obtain ⟨Ao31, co31, eo31⟩ := Kd.R_slice HO33018.out; subst eo31) | ((with_reducible refine gate_dst (N := 53) rfl ?_); refine Kd.N_lit (Kd.slice 3 (Kd.int .i64)) _ 47 ?hg (N' := 53) ?hd (xs := ([t33008, t33013, t33016] : List (List Int))) (inner := [.slice Ao27 t33008.length co27, .slice Ao29 t33013.length co29, .slice Ao31 t33016.length co31]) (ok := (fun k_ => (w.heap.size ≤ k_) ∧ some k_ ≠ (.slice Ao16 x6_2.length co16 : Value).ownBlock)) (okp := (fun k_ => (w.heap.size ≤ k_) ∧ some k_ ≠ (.slice Ao16 x6_2.length co16 : Value).ownBlock)) ?hr ?hp (fun _ hk => hk) ((show ∀ k_, w30.heap.size ≤ k_ → (fun k_ => (w.heap.size ≤ k_) ∧ some k_ ≠ (.slice Ao16 x6_2.length co16 : Value).ownBlock) k_ from fun k_ hk => ⟨(Nat.le_trans (below_size (by repeat (first | (with_reducible first | exact HB.out | apply below_alloc | apply pw_below_drewN | apply below_drew1) | exact HB.out))) hk), Kd.fresh' (Kd.N_lt (by (with_reducible repeat (first | apply Kd.N_alloc | apply Kd.N_drewN | apply Kd.N_drew)); exact HO_6.out)) k_ hk⟩) _ (Nat.le_refl _)) (Below.refl _ _) (Nat.le_refl _) (by simp) ?_; (case hd => rfl); (case hg => rfl); (case hr => first | (go_simp; done) | (go_simp; rfl)); (case hp => exact (Reps.one (show Kd.FK (Kd.slice 3 (Kd.int .i64)) _ _ t33008 [.slice Ao27 t33008.length co27] from (Kd.FK_slice_mk (Kd.R_reads' (Kd.R_mono (ok' := (fun k_ => (w.heap.size ≤ k_) ∧ some k_ ≠ (.slice Ao16 x6_2.length co16 : Value).ownBlock)) (Kd.R_apart' (HO_8.out) (Kd.N_typed HO_6.out) (by decide)) (fun k_ hk => ⟨hk.1.1.1, hk.2⟩))).2.1 (Kd.R_F (Kd.R_mono (ok' := (fun k_ => (w.heap.size ≤ k_) ∧ some k_ ≠ (.slice Ao16 x6_2.length co16 : Value).ownBlock)) (Kd.R_apart' (HO_8.out) (Kd.N_typed HO_6.out) (by decide)) (fun k_ hk => ⟨hk.1.1.1, hk.2⟩))))) (Reps.one (show Kd.FK (Kd.slice 3 (Kd.int .i64)) _ _ t33013 [.slice Ao29 t33013.length co29] from (Kd.FK_slice_mk (Kd.R_reads' (Kd.R_mono (ok' := (fun k_ => (w.heap.size ≤ k_) ∧ some k_ ≠ (.slice Ao16 x6_2.length co16 : Value).ownBlock)) (Kd.R_apart' (HO33015.out) (Kd.N_typed HO_6.out) (by decide)) (fun k_ hk => ⟨hk.1.1.1.1, hk.2⟩))).2.1 (Kd.R_F (Kd.R_mono (ok' := (fun k_ => (w.heap.size ≤ k_) ∧ some k_ ≠ (.slice Ao16 x6_2.length co16 : Value).ownBlock)) (Kd.R_apart' (HO33015.out) (Kd.N_typed HO_6.out) (by decide)) (fun k_ hk => ⟨hk.1.1.1.1, hk.2⟩))))) (Reps.one (show Kd.FK (Kd.slice 3 (Kd.int .i64)) _ _ t33016 [.slice Ao31 t33016.length co31] from (Kd.FK_slice_mk (Kd.R_reads' (Kd.R_mono (ok' := (fun k_ => (w.heap.size ≤ k_) ∧ some k_ ≠ (.slice Ao16 x6_2.length co16 : Value).ownBlock)) (Kd.R_apart' (HO33018.out) (Kd.N_typed HO_6.out) (by decide)) (fun k_ hk => ⟨hk.1.1.1.1, hk.2⟩))).2.1 (Kd.R_F (Kd.R_mono (ok' := (fun k_ => (w.heap.size ≤ k_) ∧ some k_ ≠ (.slice Ao16 x6_2.length co16 : Value).ownBlock)) (Kd.R_apart' (HO33018.out) (Kd.N_typed HO_6.out) (by decide)) (fun k_ hk => ⟨hk.1.1.1.1, hk.2⟩))))) (Reps.none _ _))))); intro v33020 w32 ho33 hb hg_ hnew_; clear hg_ hnew_; (first | rw [← Ny33019.out] at ho33 | (simp only [Int.reduceToNat] at ho33; rw [← Ny33019.out] at ho33)); have n0_ := Aside0.mk (Kd.N_elder' (by (with_reducible repeat (first | apply Kd.N_alloc | apply Kd.N_drewN | apply Kd.N_drew)); exact HO_6.out) (Kd.N_base ho33) hb); have n1_ := Aside0.mk (Kd.N_lower ho33 (below_size (by repeat (first | (with_reducible first | exact HB.out | apply below_alloc | apply pw_below_drewN | apply below_drew1) | exact HB.out)))); have n2_ := Aside0.mk (below_step (by repeat (first | (with_reducible first | exact HB.out | apply below_alloc | apply pw_below_drewN | apply below_drew1) | exact HB.out)) hb); clear HO_6; clear HB; clear HO33015; clear HO33018; clear HO_8; have HO_6 := n0_; have HO33021 := n1_; have HB := n2_; clear n0_ n1_ n2_; clear hb ho33; obtain ⟨Ao35, co35, eo35⟩ := Kd.N_slice HO33021.out; subst eo35) | ((with_reducible refine gate_builtin (b := .append) (xs := #[.tmp 48, .tmp 53]) rfl ?_); at_builtin; refine Kd.N_append_rows (Kd.slice 3 (Kd.int .i64)) (w0 := w) w.heap.size rfl (.tmp 48) (.tmp 53) 22 47 (.slice none 0 0) 24 rfl Try.underlying22 info47 rfl (by decide) (by omega) (.slice Ao16 x6_2.length co16) x6_2 y33019 _ _ _ (fun k_ => (w.heap.size ≤ k_)) (fun k_ => ((fun k_ => (w.heap.size ≤ k_))) k_ ∧ some k_ ≠ (.slice Ao16 x6_2.length co16 : Value).ownBlock) rfl rfl ?aO ?aR (fun _ hk => hk) ?aF ?aB ?aS ?aL ?_; (case aR => exact (by skip; exact Kd.N_F (Kd.N_mono (ok' := (fun k_ => ((fun k_ => (w.heap.size ≤ k_))) k_ ∧ some k_ ≠ (.slice Ao16 x6_2.length co16 : Value).ownBlock)) (HO33021.out) (fun k_ hk => ⟨hk.1, hk.2⟩)))); (case aB => exact (by repeat (first | (with_reducible first | exact HB.out | apply below_alloc | apply pw_below_drewN | apply below_drew1) | exact HB.out))); (case aF => exact (fun k_ hk => (Nat.le_trans (below_size (by repeat (first | (with_reducible first | exact HB.out | apply below_alloc | apply pw_below_drewN | apply below_drew1) | exact HB.out))) hk))); (case aO => exact (by (with_reducible repeat (first | apply Kd.N_alloc | apply Kd.N_drewN | apply Kd.N_drew)); exact Kd.N_mono HO_6.out (fun _ hk => hk.1.1.1.1))); (case aS => exact (below_size (by repeat (first | (with_reducible first | exact HB.out | apply below_alloc | apply pw_below_drewN | apply below_drew1) | exact HB.out)))); (case aL => have := LMc26.out; omega); intro v33023 w34 ho hb hg hat; rw [← Ny33022.out] at ho; have n0_ := Aside0.mk (Kd.N_afterv (ok := (fun k_ => (w.heap.size ≤ k_))) (by (with_reducible repeat (first | apply Kd.N_alloc | apply Kd.N_drewN | apply Kd.N_drew)); exact HO33021.out) hg hat); have n1_ := Aside0.mk (hb); have n2_ := Aside0.mk (ho); clear HO33021; clear HB; clear HO_6; have HO33021 := n0_; have HB := n1_; have HO33024 := n2_; clear n0_ n1_ n2_; clear ho hb hg hat))
                      go_roundg kj14
                      case measure => have := HJ2.out; have := HK2.out; have := HJ14.out; omega
                      case rel => exact ⟨(y33022), (wrap64 (x7_2 + 1)), (by first | rfl | (simp; done) | (simp [*]; done)), H', ⟨by have := HJ2.out; have := HK2.out; have := HJ14.out; omega⟩, ⟨by (with_reducible repeat (first | apply Kd.N_alloc | apply Kd.N_drewN | apply Kd.N_drew)); exact HO33024.out⟩, ⟨by repeat (first | (with_reducible first | exact HB.out | apply below_alloc | apply pw_below_drewN | apply below_drew1) | exact HB.out)⟩⟩
                    · rw [if_neg c26] at H
                      exact absurd H (by simp)
            · rw [if_neg c13] at H
              have c13b0 : decide ((x6_2.length : Int) < a0) = false := decide_eq_false c13
              clear c13
              simp only [Option.some.injEq, Prod.mk.injEq] at H
              obtain ⟨rfl, rfl⟩ := H
              obtain ⟨Ao36, co36, eo36⟩ := Kd.N_slice HO_6.out
              subst eo36
              go_wp2
              go_ret2
              exact ⟨_, by first | rfl | (simp [errW_none, errW_some] <;> rfl) | (simp [*, errW_none, errW_some] <;> rfl), by (with_reducible repeat (first | apply Kd.N_alloc | apply Kd.N_drewN | apply Kd.N_drew)); exact HO_6.out, by repeat (first | (with_reducible first | exact HB.out | apply below_alloc | apply pw_below_drewN | apply below_drew1) | exact HB.out)⟩

end Go.Proofs.Ytgiehdhnhkmjfaa.X
-- Laid by xprint.py (wip/tools): printed contracts, and hand-written ones between them.
namespace Go.Proofs.Ytgiehdhnhkmjfaa.X
open Go.RowKit Go.Proofs.YtgiehdhnhkmjfaaW.PrintWords Go.Proofs.YtgiehdhnhkmjfaaW.PrintLast Go.Proofs.YtgiehdhnhkmjfaaW.PrintMore
attribute [local go_sem] max2_int min2_int max_two min_two max_three min_three max_four min_four   -- for this text's walks alone
set_option linter.unusedVariables false
set_option linter.unusedSimpArgs false

/-! ### words of these hand-written contracts (plain) -/
/-- The first place below n at which p holds; -1 if there is none. -/
def idxN (p : Nat → Bool) (n : Nat) : Int := match (List.range n).find? p with
  | some j => (j : Int)
  | none => -1
theorem idxN_miss {p : Nat → Bool} {n : Nat} (h : ∀ j, j < n → p j = false) : idxN p n = -1 := by
  have : (List.range n).find? p = none := by
    rw [List.find?_eq_none]
    intro x hx
    rw [h x (List.mem_range.1 hx)]
    exact Bool.false_ne_true
  unfold idxN
  rw [this]
theorem idxN_hit {p : Nat → Bool} {n k : Nat} (hk : k < n) (h : p k = true) (h0 : ∀ j, j < k → p j = false) : idxN p n = (k : Int) := by
  have : (List.range n).find? p = some k := by
    rw [List.find?_range_eq_some]
    exact ⟨h, List.mem_range.2 hk, fun j hj => by rw [h0 j hj]; rfl⟩
  unfold idxN
  rw [this]
theorem idxN_any (p : Nat → Bool) (n : Nat) : decide (0 ≤ idxN p n) = (List.range n).any p := by
  unfold idxN
  cases h : (List.range n).find? p with
  | none =>
    rw [List.find?_eq_none] at h
    have : (List.range n).any p = false := by
      rw [List.any_eq_false]
      exact h
    rw [this]
    rfl
  | some j =>
    have h1 := List.find?_some h
    have h2 := List.mem_of_find?_eq_some h
    have : (List.range n).any p = true := List.any_eq_true.2 ⟨j, h2, h1⟩
    rw [this]
    simp
theorem any_range_lt {p q : Nat → Bool} {n : Nat} (h : ∀ j, j < n → p j = q j) : (List.range n).any p = (List.range n).any q := by
  rw [Bool.eq_iff_iff, List.any_eq_true, List.any_eq_true]
  constructor
  · rintro ⟨j, hj, hp⟩
    exact ⟨j, hj, by rw [← h j (List.mem_range.1 hj)]; exact hp⟩
  · rintro ⟨j, hj, hp⟩
    exact ⟨j, hj, by rw [h j (List.mem_range.1 hj)]; exact hp⟩
/-- A list gone through by its places. -/
theorem any_range_list {α : Type} (xs : List α) (d : α) (p : α → Bool) : (List.range xs.length).any (fun j => p (xs.getD j d)) = xs.any p := by
  rw [Bool.eq_iff_iff, List.any_eq_true, List.any_eq_true]
  constructor
  · rintro ⟨j, hj, hp⟩
    have hj' := List.mem_range.1 hj
    refine ⟨xs[j], List.getElem_mem hj', ?_⟩
    rw [List.getD_eq_getElem?_getD, List.getElem?_eq_getElem hj'] at hp
    exact hp
  · rintro ⟨x, hx, hp⟩
    obtain ⟨j, hj, rfl⟩ := List.getElem_of_mem hx
    refine ⟨j, List.mem_range.2 hj, ?_⟩
    rw [List.getD_eq_getElem?_getD, List.getElem?_eq_getElem hj]
    exact hp
/-- The cells of a row of rows, by their places. -/
theorem rows_vals {e : Nat} {w : World} {A : Option Addr} {n : Nat} {xs : List (List Int)} (h : Kd.C (Kd.slice e (Kd.int .i64)) w A n xs) :
    ∃ vals : Nat → Value, (∀ j, j < n → ∃ ad, A = some ad ∧ w.cell? (ad.add j) = some (vals j)) ∧
      ∀ j, j < n → ∃ A1 c1, vals j = .slice A1 (xs.getD j []).length c1 ∧ (xs.getD j []).length ≤ c1 ∧ Kd.C (Kd.int .i64) w A1 (xs.getD j []).length (xs.getD j []) := by
  have key : ∀ j, ∃ v : Value, j < n → (∃ ad, A = some ad ∧ w.cell? (ad.add j) = some v) ∧ ∃ A1 c1, v = .slice A1 (xs.getD j []).length c1 ∧ (xs.getD j []).length ≤ c1 ∧ Kd.C (Kd.int .i64) w A1 (xs.getD j []).length (xs.getD j []) := by
    intro j
    by_cases hj : j < n
    · obtain ⟨ad, c, e1, _, hK, hcell⟩ := Kd.C_get h ([] : List Int) (j : Int) (by omega) (by omega)
      obtain ⟨A2, c2, rfl, hl2, hr2⟩ := hK
      have hx : w.cell? (ad.add (j * 1 + 0)) = some (.slice A2 (xs.getD j []).length c2) := hcell 0 _ rfl
      rw [Nat.mul_one, Nat.add_zero] at hx
      exact ⟨.slice A2 (xs.getD j []).length c2, fun _ => ⟨⟨ad, e1, hx⟩, A2, c2, rfl, hl2, hr2⟩⟩
    · exact ⟨.bool false, fun h => absurd h hj⟩
  obtain ⟨vals, hv⟩ := Classical.axiomOfChoice key
  exact ⟨vals, fun j hj => (hv j hj).1, fun j hj => (hv j hj).2⟩
theorem drawn_below {w w' : World} (h : ∃ q, w' = w.drewN q) : Below w.heap.size w w' := by
  obtain ⟨q, rfl⟩ := h
  exact pw_below_drewN (Below.refl _ _) q
theorem bne_nat (a b : Nat) : ((a : Int) != (b : Int)) = !decide (a = b) := by
  by_cases h : a = b
  · subst h; simp
  · have : ¬ (a : Int) = b := by omega
    simp [h, this, bne]
theorem beq_nat (a b : Nat) : ((a : Int) == (b : Int)) = decide (a = b) := by
  by_cases h : a = b
  · subst h; simp
  · have : ¬ (a : Int) = b := by omega
    simp [h, this]
/-- SignOf. -/
def signI (n : Int) : Int := if n < 0 then -1 else if n > 0 then 1 else 0
theorem ints_at {w : World} {A : Option Addr} {n : Nat} {xs : List Int} (h : Kd.C (Kd.int .i64) w A n xs) (i : Nat) (hi : i < n) : ∃ ad, A = some ad ∧ w.cell? (ad.add i) = some (.int .i64 (xs.getD i 0)) := by
  obtain ⟨ad, c, e1, _, hK, hcell⟩ := Kd.C_get h (0 : Int) (i : Int) (by omega) (by omega)
  obtain rfl : c = [.int .i64 (xs.getD i 0)] := hK
  have hx : w.cell? (ad.add (i * 1 + 0)) = some (.int .i64 (xs.getD i 0)) := hcell 0 _ rfl
  rw [Nat.mul_one, Nat.add_zero] at hx
  exact ⟨ad, e1, hx⟩
theorem drop_at {xs : List Int} {k : Nat} (h : k < xs.length) : xs.drop k = xs.getD k 0 :: xs.drop (k + 1) := by
  rw [List.drop_eq_getElem_cons h, List.getD_eq_getElem?_getD, List.getElem?_eq_getElem h]
  rfl
/-- A literal of two rows of numbers. -/
theorem two_rows {e t : Nat} {W : World} {A0 A1 : Option Addr} {c0 c1 : Nat} {l0 l1 : List Int} {B : Nat} (h0 : Kd.C (Kd.int .i64) W A0 l0.length l0) (hc0 : l0.length ≤ c0) (h1 : Kd.C (Kd.int .i64) W A1 l1.length l1) (hc1 : l1.length ≤ c1)
    (hb : W.heap[B]? = some (.cells #[.slice A0 l0.length c0, .slice A1 l1.length c1] t (0, 0))) : Kd.C (Kd.slice e (Kd.int .i64)) W (some ⟨B, 0, none⟩) [l0, l1].length [l0, l1] := by
  refine ⟨rfl, by simp, fun _ => ⟨⟨B, 0, none⟩, rfl, fun j p hj => ?_⟩⟩
  match j, hj with
  | 0, hj =>
    obtain rfl : l0 = p := by simpa using hj
    refine ⟨[.slice A0 l0.length c0], rfl, ⟨A0, c0, rfl, hc0, h0⟩, fun i u hu => ?_⟩
    match i, hu with
    | 0, hu =>
      obtain rfl : Value.slice A0 l0.length c0 = u := by simpa using hu
      exact (blk_cell hb 0).trans rfl
    | i + 1, hu => simp at hu
  | 1, hj =>
    obtain rfl : l1 = p := by simpa using hj
    refine ⟨[.slice A1 l1.length c1], rfl, ⟨A1, c1, rfl, hc1, h1⟩, fun i u hu => ?_⟩
    match i, hu with
    | 0, hu =>
      obtain rfl : Value.slice A1 l1.length c1 = u := by simpa using hu
      exact (blk_cell hb 1).trans rfl
    | i + 1, hu => simp at hu
  | j + 2, hj => simp at hj
theorem bools_set (s : List Bool) (i : Nat) (b : Bool) : (s.map Value.bool).toArray.setIfInBounds i (.bool b) = ((s.set i b).map Value.bool).toArray := by simp [List.map_set]
/-- What IsWord asks. -/
def tritB (x : Int) : Bool := decide (-1 ≤ x) && decide (x ≤ 1)
def wordB (w : List Int) : Bool := decide (1 ≤ w.length) && decide (w.length ≤ 30) && w.all tritB
theorem beq_dec (x y : Int) : (x == y) = decide (x = y) := rfl

end Go.Proofs.Ytgiehdhnhkmjfaa.X
-- Laid by xprint.py (wip/tools): printed contracts, and hand-written ones between them.
namespace Go.Proofs.Ytgiehdhnhkmjfaa.X
open Go.RowKit Go.Proofs.YtgiehdhnhkmjfaaW.PrintWords Go.Proofs.YtgiehdhnhkmjfaaW.PrintLast Go.Proofs.YtgiehdhnhkmjfaaW.PrintMore
attribute [local go_sem] max2_int min2_int max_two min_two max_three min_three max_four min_four   -- for this text's walks alone
set_option linter.unusedVariables false
set_option linter.unusedSimpArgs false

/-! ### rows of rows that lie apart: three at once -/
section
variable {P : Program} {ops : Array Oper} {o : Oper} {a : Act} {Q : Exit → Act → World → Prop} {Kc : Act → World → Prop} {α : Type}
open Classical in
/-- append(v, y1, y2, y3): each new element's blocks are its own. -/
theorem S_append3_step (d : Kd α) (hd : d.sz = 1) {w0 W : World} (base : Nat) (hw : Region.wanted o (yielded ops a.tmps) = true) (s x : Operand) (t e : TypeId) (z : Value) (bytes : Nat)
    (ho : o.op = .call { callee := .builtin .append, args := #[s, x], argTypes := #[t, t] })
    (ht : P.underlying t = some (.slice e)) (hinfo : (P.info? e).map (fun i => (i.zero, i.size, i.bytes)) = some (some z, d.sz, bytes)) (hz : z.cells.size = d.sz) (hb0 : 0 < bytes)
    (v : Value) (xs : List α) (y1 y2 y3 : α) (g : Nat) (t' : TypeId) (u1 u2 u3 : Value) (ok ok1 ok2 ok3 : Nat → Prop) (hs : a.eval s = v) (hx : a.eval x = .slice (some ⟨g, 0, none⟩) 3 3) (hg : W.heap[g]? = some (.cells #[u1, u2, u3] t' (0, 0)))
    (h1 : d.M W base ok1 y1 [u1]) (h2 : d.M W base ok2 y2 [u2]) (h3 : d.M W base ok3 y3 [u3])
    (k1 : ∀ k, ok1 k → ok k ∧ some k ≠ v.ownBlock) (k2 : ∀ k, ok2 k → ok k ∧ some k ≠ v.ownBlock) (k3 : ∀ k, ok3 k → ok k ∧ some k ≠ v.ownBlock)
    (d12 : ∀ k, ok1 k → ¬ ok2 k) (d13 : ∀ k, ok1 k → ¬ ok3 k) (d23 : ∀ k, ok2 k → ¬ ok3 k) (hfresh : ∀ k, W.heap.size ≤ k → ok k)
    (HO : Kd.S d e W base (fun k => ok k ∧ ¬ ok1 k ∧ ¬ ok2 k ∧ ¬ ok3 k) v xs) (HB : Below base w0 W) (hbase : base ≤ W.heap.size) (hl : (xs.length + 3) * bytes ≤ 140737488355328)
    (h : ∀ v1 w1, Kd.S d e w1 base ok v1 (xs ++ [y1, y2, y3]) → Below base w0 w1 → W.grownBy w1 v.ownBlock → Kc (a.put o.dst v1) w1) :
    if Region.wanted o (yielded ops a.tmps) = true then Oper.wp P o a W Kc Q else Kc (a.put o.dst undef) W := by
  obtain ⟨f, hf⟩ := HO
  obtain ⟨F, hF⟩ : ∃ F : Nat → Nat, F = fun k => if ok1 k then xs.length else if ok2 k then xs.length + 1 else if ok3 k then xs.length + 2 else f k := ⟨_, rfl⟩
  have f1 : ∀ k, ok1 k → F k = xs.length := fun k hk => by rw [hF]; exact if_pos hk
  have f2 : ∀ k, ok2 k → F k = xs.length + 1 := fun k hk => by rw [hF]; exact (if_neg (fun hk1 => d12 k hk1 hk)).trans (if_pos hk)
  have f3 : ∀ k, ok3 k → F k = xs.length + 2 := fun k hk => by rw [hF]; exact (if_neg (fun hk1 => d13 k hk1 hk)).trans ((if_neg (fun hk2 => d23 k hk2 hk)).trans (if_pos hk))
  have f0 : ∀ k, (ok k ∧ ¬ ok1 k ∧ ¬ ok2 k ∧ ¬ ok3 k) → k < W.heap.size → F k = f k := fun k hk _ => by rw [hF]; exact (if_neg hk.2.1).trans ((if_neg hk.2.2.1).trans (if_neg hk.2.2.2))
  have hR : (Kd.tag F d).R e W base ok v xs.zipIdx := Kd.R_mono (Kd.R_tag hf f0) (fun _ hk => hk.1)
  have hread : ReadsRow ((Kd.tag F d).M W base (fun k => ok1 k ∨ ok2 k ∨ ok3 k)) (Kd.tag F d).sz W (some ⟨g, 0, none⟩) 3 [(y1, xs.length), (y2, xs.length + 1), (y3, xs.length + 2)] := by
    have hsz : (Kd.tag F d).sz = 1 := hd
    rw [hsz]
    have cell : ∀ (j : Nat) (u : Value), (#[u1, u2, u3] : Array Value)[j]? = some u → ∀ i u', ([u] : List Value)[i]? = some u' → W.cell? ((⟨g, 0, none⟩ : Addr).add (j * 1 + i)) = some u' := by
      intro j u hu i u' hi
      match i, hi with
      | 0, hi =>
        obtain rfl : u = u' := by simpa using hi
        rw [Nat.mul_one, Nat.add_zero, add_plain]
        exact (blk_cell hg j).trans hu
      | i + 1, hi => simp at hi
    refine ⟨rfl, by omega, fun _ => ⟨_, rfl, fun j p hj => ?_⟩⟩
    match j, hj with
    | 0, hj =>
      obtain rfl : (y1, xs.length) = p := by simpa using hj
      exact ⟨[u1], rfl, d.M_mono (fun k hk => ⟨.inl hk, f1 k hk⟩) h1, cell 0 u1 rfl⟩
    | 1, hj =>
      obtain rfl : (y2, xs.length + 1) = p := by simpa using hj
      exact ⟨[u2], rfl, d.M_mono (fun k hk => ⟨.inr (.inl hk), f2 k hk⟩) h2, cell 1 u2 rfl⟩
    | 2, hj =>
      obtain rfl : (y3, xs.length + 2) = p := by simpa using hj
      exact ⟨[u3], rfl, d.M_mono (fun k hk => ⟨.inr (.inr hk), f3 k hk⟩) h3, cell 2 u3 rfl⟩
    | j + 3, hj => simp at hj
  refine Kd.R_append_rows_step (Kd.tag F d) (Rr := (Kd.tag F d).M W base (fun k => ok1 k ∨ ok2 k ∨ ok3 k)) base hw s x t e z bytes ho ht hinfo hz (by show 0 < d.sz; omega) hb0 v xs.zipIdx _ (some ⟨g, 0, none⟩) 3 3 ok (fun k => ok1 k ∨ ok2 k ∨ ok3 k) hs hx hR hread (fun _ _ hp => hp) (fun k hk => ?_) hfresh HB hbase (by rw [List.length_zipIdx]; exact hl) ?_
  · rcases hk with hk | hk | hk
    · exact k1 k hk
    · exact k2 k hk
    · exact k3 k hk
  · intro v1 w1 hr hb hgr _
    refine h v1 w1 ⟨F, ?_⟩ hb hgr
    rw [List.zipIdx_append]
    simpa using hr
end
/-- An empty row that was made: nothing is in it. -/
theorem S_empty {α : Type} (d : Kd α) {e : TypeId} {W : World} {base g : Nat} (hg : W.heap[g]? = some (.cells #[] e (0, 0))) (hb : base ≤ g) : Kd.S d e W base (fun _ => True) (.slice (some ⟨g, 0, none⟩) 0 0) [] :=
  ⟨fun _ => 0, fun _ _ => trivial, [], ⟨by simp, .inr ⟨g, 0, #[], rfl, hb, hg, Nat.le_refl _, by unfold maxLen; omega, by simp, by simp⟩⟩, Reps.none _ _⟩

end Go.Proofs.Ytgiehdhnhkmjfaa.X
-- Laid by xprint.py (wip/tools): printed contracts, and hand-written ones between them.
namespace Go.Proofs.Ytgiehdhnhkmjfaa.X
open Go.RowKit Go.Proofs.YtgiehdhnhkmjfaaW.PrintWords Go.Proofs.YtgiehdhnhkmjfaaW.PrintLast Go.Proofs.YtgiehdhnhkmjfaaW.PrintMore
attribute [local go_sem] max2_int min2_int max_two min_two max_three min_three max_four min_four   -- for this text's walks alone
set_option linter.unusedVariables false
set_option linter.unusedSimpArgs false

/-! ### impl_power: function 67 -/
def impl_power.l0 : Nat → Int → Int → Int → Option (Int)
  | 0, _, _, _ => none
  | k + 1, x3, x4, x5 => if x5 < x4 then (impl_power.l0 k (wrap64 (x3 * 3)) x4 (wrap64 (x5 + 1))) else (some x3)
def impl_power.f (k : Nat) (a0 : Int) : Option (Int) := impl_power.l0 k 1 a0 0
theorem impl_power.mono_l : ∀ k, (∀ y0 y1 y2, LeO (impl_power.l0 k y0 y1 y2) (impl_power.l0 (k + 1) y0 y1 y2))
  | 0 => fun _ _ _ r h => by simp [impl_power.l0] at h
  | k + 1 => by
    have ih0 := impl_power.mono_l k
    · intro y0 y1 y2
      unfold impl_power.l0
      repeat' first
      | (with_reducible exact ih0 _ _ _)
      | (with_reducible exact LeO.refl _)
      | (with_reducible exact LeO.none _)
      | (with_reducible refine LeO.ite ?_ ?_)
      | (with_reducible refine LeO.bind ?_ (fun _ => ?_))
      | exact ih0 _ _ _
      | exact LeO.none _
      | refine LeO.ite ?_ ?_
      | refine LeO.bind ?_ (fun _ => ?_)
theorem impl_power.mono : ∀ a0 k, LeO (impl_power.f k a0) (impl_power.f (k + 1) a0) := by
  intro a0 k
  have ih0 := impl_power.mono_l k
  unfold impl_power.f
  repeat' first
      | (with_reducible exact ih0 _ _ _)
      | (with_reducible exact LeO.refl _)
      | (with_reducible exact LeO.none _)
      | (with_reducible refine LeO.ite ?_ ?_)
      | (with_reducible refine LeO.bind ?_ (fun _ => ?_))
      | exact ih0 _ _ _
      | exact LeO.none _
      | refine LeO.ite ?_ ?_
      | refine LeO.bind ?_ (fun _ => ?_)
set_option maxHeartbeats 8000000 in
set_option maxRecDepth 100000 in
theorem impl_power.calls (k : Nat) (a0 : Int) (r : Int) (w : World) (h : impl_power.f k a0 = some r) :
    Calls Try.prog 67 #[.int .i64 a0] w fun e w' => e = .returned (.int .i64 r) ∧ Drawn0 w w' := by
  have H : (impl_power.l0 k 1 a0 0) = some r := h
  clear h
  have H' := Aside0.mk H
  clear H
  go_enter Try.func67, Try.ntmps67
  go_wp2
  go_loopg [3, 5] k (fun kq v3 v5 w' => ∃ (x3_1 : Int) (x5_1 : Int), v3 = .int .i64 x3_1 ∧ v5 = .int .i64 x5_1 ∧ Aside0 (impl_power.l0 kq x3_1 a0 x5_1 = some r) ∧ Aside0 (kq ≤ k) ∧ Drawn0 w w')
  case atStart => exact ⟨(1), (0), (by first | rfl | (simp; done) | (simp [*]; done)), (by first | rfl | (simp; done) | (simp [*]; done)), H', ⟨Nat.le_refl _⟩, by repeat (first | exact Drawn0.refl _ | apply Drawn0.step)⟩
  case round =>
    clear H'
    obtain ⟨x3_1, x5_1, rfl, rfl, HA, HK1, ⟨m1, rfl⟩⟩ := hrel
    cases gk with
    | zero => exact absurd HA.out (by simp [impl_power.l0])
    | succ k1 =>
      have H := HA.out
      clear HA
      simp only [impl_power.l0] at H
      by_cases c2 : x5_1 < a0
      · rw [if_pos c2] at H
        have c2b0 : decide (x5_1 < a0) = true := decide_eq_true c2
        clear c2
        have H' := Aside0.mk H
        clear H
        go_wp2
        go_roundg k1
        case measure => have := HK1.out; omega
        case rel => exact ⟨(wrap64 (x3_1 * 3)), (wrap64 (x5_1 + 1)), (by first | rfl | (simp; done) | (simp [*]; done)), (by first | rfl | (simp; done) | (simp [*]; done)), H', ⟨by have := HK1.out; omega⟩, by repeat (first | exact Drawn0.refl _ | apply Drawn0.step)⟩
      · rw [if_neg c2] at H
        have c2b0 : decide (x5_1 < a0) = false := decide_eq_false c2
        clear c2
        obtain rfl := Option.some.inj H
        go_wp2
        go_ret
        exact ⟨by first | rfl | (simp; done) | (simp [*]; done), by repeat (first | exact Drawn0.refl _ | apply Drawn0.step)⟩

end Go.Proofs.Ytgiehdhnhkmjfaa.X
-- Laid by xprint.py (wip/tools): printed contracts, and hand-written ones between them.
namespace Go.Proofs.Ytgiehdhnhkmjfaa.X
open Go.RowKit Go.Proofs.YtgiehdhnhkmjfaaW.PrintWords Go.Proofs.YtgiehdhnhkmjfaaW.PrintLast Go.Proofs.YtgiehdhnhkmjfaaW.PrintMore
attribute [local go_sem] max2_int min2_int max_two min_two max_three min_three max_four min_four   -- for this text's walks alone
set_option linter.unusedVariables false
set_option linter.unusedSimpArgs false

/-! ### impl_LimitOf: function 77 -/
def impl_LimitOf.f (k : Nat) (a0 : Int) : Option (Int) := if a0 < 1 then (some 0) else (if a0 > 30 then (some 0) else ((impl_power.f k a0).bind fun t78001 => (some (wrap64 (Int.tdiv (wrap64 (t78001 - 1)) 2)))))
theorem impl_LimitOf.mono : ∀ a0 k, LeO (impl_LimitOf.f k a0) (impl_LimitOf.f (k + 1) a0) := by
  intro a0 k
  unfold impl_LimitOf.f
  repeat' first
      | (with_reducible exact impl_power.mono _ _)
      | (with_reducible exact LeO.refl _)
      | (with_reducible exact LeO.none _)
      | (with_reducible refine LeO.ite ?_ ?_)
      | (with_reducible refine LeO.bind ?_ (fun _ => ?_))
      | exact impl_power.mono _ _
      | exact LeO.none _
      | refine LeO.ite ?_ ?_
      | refine LeO.bind ?_ (fun _ => ?_)
set_option maxHeartbeats 8000000 in
set_option maxRecDepth 100000 in
theorem impl_LimitOf.calls (k : Nat) (a0 : Int) (r : Int) (w : World) (h : impl_LimitOf.f k a0 = some r) :
    Calls Try.prog 77 #[.int .i64 a0] w fun e w' => e = .returned (.int .i64 r) ∧ Drawn0 w w' := by
  have H : (if a0 < 1 then (some 0) else (if a0 > 30 then (some 0) else ((impl_power.f k a0).bind fun t78001 => (some (wrap64 (Int.tdiv (wrap64 (t78001 - 1)) 2)))))) = some r := h
  clear h
  by_cases c2 : a0 < 1
  · rw [if_pos c2] at H
    have c2b0 : decide (a0 < 1) = true := decide_eq_true c2
    clear c2
    obtain rfl := Option.some.inj H
    go_enter Try.func77, Try.ntmps77
    go_wp2
    go_ret
    exact ⟨by first | rfl | (simp; done) | (simp [*]; done), by repeat (first | exact Drawn0.refl _ | apply Drawn0.step)⟩
  · rw [if_neg c2] at H
    have c2b0 : decide (a0 < 1) = false := decide_eq_false c2
    clear c2
    by_cases c3 : a0 > 30
    · rw [if_pos c3] at H
      have c3b0 : decide (30 < a0) = true := decide_eq_true c3
      clear c3
      obtain rfl := Option.some.inj H
      go_enter Try.func77, Try.ntmps77
      go_wp2
      go_ret
      exact ⟨by first | rfl | (simp; done) | (simp [*]; done), by repeat (first | exact Drawn0.refl _ | apply Drawn0.step)⟩
    · rw [if_neg c3] at H
      have c3b0 : decide (30 < a0) = false := decide_eq_false c3
      clear c3
      replace H := Option.bind_eq_some_iff.mp H
      obtain ⟨t78001, A40, H⟩ := H
      replace H : (some (wrap64 (Int.tdiv (wrap64 (t78001 - 1)) 2))) = some r := H
      have A4 := Aside0.mk A40
      clear A40
      obtain rfl := Option.some.inj H
      go_enter Try.func77, Try.ntmps77
      go_wp2_with (first | ((with_reducible refine gate_callee (f := 67) rfl ?_); refine goesL_ (some 10) rfl rfl Try.func67 (by kernel_rfl) rfl #[.int .i64 a0] rfl (by (try simp only [List.map_toArray, List.map_cons, List.map_nil]); first | done | rfl | (simp only [List.length_drop, List.length_take]; rfl)) ?_; (with_reducible refine (impl_power.calls k a0 t78001 _ A4.out).mono ?_); rintro e w' ⟨rfl, ⟨nd, rfl⟩⟩; refine ⟨_, rfl, ?_⟩))
      go_ret
      exact ⟨by first | rfl | (simp; done) | (simp [*]; done), by repeat (first | exact Drawn0.refl _ | apply Drawn0.step)⟩

end Go.Proofs.Ytgiehdhnhkmjfaa.X
-- Laid by xprint.py (wip/tools): printed contracts, and hand-written ones between them.
namespace Go.Proofs.Ytgiehdhnhkmjfaa.X
open Go.RowKit Go.Proofs.YtgiehdhnhkmjfaaW.PrintWords Go.Proofs.YtgiehdhnhkmjfaaW.PrintLast Go.Proofs.YtgiehdhnhkmjfaaW.PrintMore
attribute [local go_sem] max2_int min2_int max_two min_two max_three min_three max_four min_four   -- for this text's walks alone
set_option linter.unusedVariables false
set_option linter.unusedSimpArgs false

/-! ### impl_fits: function 97 -/
def impl_fits.f (k : Nat) (a0 : Int) (a1 : Int) : Option (Bool) := (impl_LimitOf.f k a1).bind fun t98001 => (if a0 ≥ (wrap64 (-t98001)) then ((impl_LimitOf.f k a1).bind fun t98002 => (some (decide (a0 ≤ t98002)))) else (some false))
theorem impl_fits.mono : ∀ a0 a1 k, LeO (impl_fits.f k a0 a1) (impl_fits.f (k + 1) a0 a1) := by
  intro a0 a1 k
  unfold impl_fits.f
  repeat' first
      | (with_reducible exact impl_LimitOf.mono _ _)
      | (with_reducible exact LeO.refl _)
      | (with_reducible exact LeO.none _)
      | (with_reducible refine LeO.ite ?_ ?_)
      | (with_reducible refine LeO.bind ?_ (fun _ => ?_))
      | exact impl_LimitOf.mono _ _
      | exact LeO.none _
      | refine LeO.ite ?_ ?_
      | refine LeO.bind ?_ (fun _ => ?_)
set_option maxHeartbeats 8000000 in
set_option maxRecDepth 100000 in
theorem impl_fits.calls (k : Nat) (a0 : Int) (a1 : Int) (r : Bool) (w : World) (h : impl_fits.f k a0 a1 = some r) :
    Calls Try.prog 97 #[.int .i64 a0, .int .i64 a1] w fun e w' => e = .returned (.bool r) ∧ Drawn0 w w' := by
  have H : ((impl_LimitOf.f k a1).bind fun t98001 => (if a0 ≥ (wrap64 (-t98001)) then ((impl_LimitOf.f k a1).bind fun t98002 => (some (decide (a0 ≤ t98002)))) else (some false))) = some r := h
  clear h
  replace H := Option.bind_eq_some_iff.mp H
  obtain ⟨t98001, A30, H⟩ := H
  replace H : (if a0 ≥ (wrap64 (-t98001)) then ((impl_LimitOf.f k a1).bind fun t98002 => (some (decide (a0 ≤ t98002)))) else (some false)) = some r := H
  have A3 := Aside0.mk A30
  clear A30
  by_cases c4 : a0 ≥ (wrap64 (-t98001))
  · rw [if_pos c4] at H
    have c4b0 : decide ((wrap64 (-t98001)) ≤ a0) = true := decide_eq_true c4
    clear c4
    replace H := Option.bind_eq_some_iff.mp H
    obtain ⟨t98002, A50, H⟩ := H
    replace H : (some (decide (a0 ≤ t98002))) = some r := H
    have A5 := Aside0.mk A50
    clear A50
    obtain rfl := Option.some.inj H
    go_enter Try.func97, Try.ntmps97
    go_wp2_with (first | ((with_reducible refine gate_callee (f := 77) rfl ?_); refine goesL_ (some 7) rfl rfl Try.func77 (by kernel_rfl) rfl #[.int .i64 a1] rfl (by (try simp only [List.map_toArray, List.map_cons, List.map_nil]); first | done | rfl | (simp only [List.length_drop, List.length_take]; rfl)) ?_; (with_reducible refine (impl_LimitOf.calls k a1 t98001 _ A3.out).mono ?_); rintro e w' ⟨rfl, ⟨nd, rfl⟩⟩; refine ⟨_, rfl, ?_⟩) | (go_at_call 77; (with_reducible refine (impl_LimitOf.calls k a1 t98002 _ A5.out).mono ?_); rintro e w' ⟨rfl, ⟨nd, rfl⟩⟩))
    go_ret
    exact ⟨by first | rfl | (simp; done) | (simp [*]; done), by repeat (first | exact Drawn0.refl _ | apply Drawn0.step)⟩
  · rw [if_neg c4] at H
    have c4b0 : decide ((wrap64 (-t98001)) ≤ a0) = false := decide_eq_false c4
    clear c4
    obtain rfl := Option.some.inj H
    go_enter Try.func97, Try.ntmps97
    go_wp2_with (first | ((with_reducible refine gate_callee (f := 77) rfl ?_); refine goesL_ (some 7) rfl rfl Try.func77 (by kernel_rfl) rfl #[.int .i64 a1] rfl (by (try simp only [List.map_toArray, List.map_cons, List.map_nil]); first | done | rfl | (simp only [List.length_drop, List.length_take]; rfl)) ?_; (with_reducible refine (impl_LimitOf.calls k a1 t98001 _ A3.out).mono ?_); rintro e w' ⟨rfl, ⟨nd, rfl⟩⟩; refine ⟨_, rfl, ?_⟩))
    go_ret
    exact ⟨by first | rfl | (simp; done) | (simp [*]; done), by repeat (first | exact Drawn0.refl _ | apply Drawn0.step)⟩

end Go.Proofs.Ytgiehdhnhkmjfaa.X
-- Laid by xprint.py (wip/tools): printed contracts, and hand-written ones between them.
namespace Go.Proofs.Ytgiehdhnhkmjfaa.X
open Go.RowKit Go.Proofs.YtgiehdhnhkmjfaaW.PrintWords Go.Proofs.YtgiehdhnhkmjfaaW.PrintLast Go.Proofs.YtgiehdhnhkmjfaaW.PrintMore
attribute [local go_sem] max2_int min2_int max_two min_two max_three min_three max_four min_four   -- for this text's walks alone
set_option linter.unusedVariables false
set_option linter.unusedSimpArgs false

/-! ### impl_carried: function 98 -/
def impl_carried.f (a0 : Int) : Option (Int × Int) := if a0 > 1 then (some (wrap64 (a0 - 3), 1)) else (if a0 < (-1) then (some (wrap64 (a0 + 3), (-1))) else (some (a0, 0)))
set_option maxHeartbeats 8000000 in
set_option maxRecDepth 100000 in
theorem impl_carried.calls (a0 : Int) (r1 : Int) (r2 : Int) (w : World) (h : impl_carried.f a0 = some (r1, r2)) :
    Calls Try.prog 98 #[.int .i64 a0] w fun e w' => e = .returned (.tuple #[.int .i64 r1, .int .i64 r2]) ∧ Drawn0 w w' := by
  have H : (if a0 > 1 then (some (wrap64 (a0 - 3), 1)) else (if a0 < (-1) then (some (wrap64 (a0 + 3), (-1))) else (some (a0, 0)))) = some (r1, r2) := h
  clear h
  by_cases c2 : a0 > 1
  · rw [if_pos c2] at H
    have c2b0 : decide (1 < a0) = true := decide_eq_true c2
    clear c2
    simp only [Option.some.injEq, Prod.mk.injEq] at H
    obtain ⟨rfl, rfl⟩ := H
    go_enter Try.func98, Try.ntmps98
    go_wp2
    go_ret2
    exact ⟨by first | rfl | (simp; done) | (simp [*]; done), by repeat (first | exact Drawn0.refl _ | apply Drawn0.step)⟩
  · rw [if_neg c2] at H
    have c2b0 : decide (1 < a0) = false := decide_eq_false c2
    clear c2
    by_cases c3 : a0 < (-1)
    · rw [if_pos c3] at H
      have c3b0 : decide (a0 < (-1)) = true := decide_eq_true c3
      clear c3
      simp only [Option.some.injEq, Prod.mk.injEq] at H
      obtain ⟨rfl, rfl⟩ := H
      go_enter Try.func98, Try.ntmps98
      go_wp2
      go_ret2
      exact ⟨by first | rfl | (simp; done) | (simp [*]; done), by repeat (first | exact Drawn0.refl _ | apply Drawn0.step)⟩
    · rw [if_neg c3] at H
      have c3b0 : decide (a0 < (-1)) = false := decide_eq_false c3
      clear c3
      simp only [Option.some.injEq, Prod.mk.injEq] at H
      obtain ⟨rfl, rfl⟩ := H
      go_enter Try.func98, Try.ntmps98
      go_wp2
      go_ret2
      exact ⟨by first | rfl | (simp; done) | (simp [*]; done), by repeat (first | exact Drawn0.refl _ | apply Drawn0.step)⟩

end Go.Proofs.Ytgiehdhnhkmjfaa.X
-- Laid by xprint.py (wip/tools): printed contracts, and hand-written ones between them.
namespace Go.Proofs.Ytgiehdhnhkmjfaa.X
open Go.RowKit Go.Proofs.YtgiehdhnhkmjfaaW.PrintWords Go.Proofs.YtgiehdhnhkmjfaaW.PrintLast Go.Proofs.YtgiehdhnhkmjfaaW.PrintMore
attribute [local go_sem] max2_int min2_int max_two min_two max_three min_three max_four min_four   -- for this text's walks alone
set_option linter.unusedVariables false
set_option linter.unusedSimpArgs false

/-! ### impl_WordOf: function 64 -/
mutual
def impl_WordOf.j0 : Nat → Int → Int → Bool → Option (List Int × Bool)
  | 0, _, _, _ => none
  | k + 1, x0, x1, x20 => if x20 = true then (some (([] : List Int), false)) else (impl_WordOf.l0 k x0 (([] : List Int)) x1 0)
def impl_WordOf.l0 : Nat → Int → List Int → Int → Int → Option (List Int × Bool)
  | 0, _, _, _, _ => none
  | k + 1, x0, x6, x22, x23 => if x23 < x22 then ((impl_carried.f (Int.tmod x0 3)).bind fun bt65005 => (if x6.length < 17592186044416 then (impl_WordOf.l0 k (wrap64 (Int.tdiv (wrap64 (x0 - bt65005.1)) 3)) (x6 ++ [bt65005.1]) x22 (wrap64 (x23 + 1))) else (none))) else (some (x6, true))
end
def impl_WordOf.f (k : Nat) (a0 : Int) (a1 : Int) : Option (List Int × Bool) := if a1 < 1 then (impl_WordOf.j0 k a0 a1 true) else (if a1 > 30 then (impl_WordOf.j0 k a0 a1 true) else ((impl_fits.f k a0 a1).bind fun t65001 => (impl_WordOf.j0 k a0 a1 (!t65001))))
theorem impl_WordOf.mono_l : ∀ k, (∀ y0 y1 y2, LeO (impl_WordOf.j0 k y0 y1 y2) (impl_WordOf.j0 (k + 1) y0 y1 y2)) ∧ (∀ y0 y1 y2 y3, LeO (impl_WordOf.l0 k y0 y1 y2 y3) (impl_WordOf.l0 (k + 1) y0 y1 y2 y3))
  | 0 => ⟨fun _ _ _ r h => by simp [impl_WordOf.j0] at h, fun _ _ _ _ r h => by simp [impl_WordOf.l0] at h⟩
  | k + 1 => by
    obtain ⟨ih0, ih1⟩ := impl_WordOf.mono_l k
    refine ⟨?_, ?_⟩
    · intro y0 y1 y2
      unfold impl_WordOf.j0
      repeat' first
      | (with_reducible exact ih0 _ _ _)
      | (with_reducible exact ih1 _ _ _ _)
      | (with_reducible exact impl_fits.mono _ _ _)
      | (with_reducible exact LeO.refl _)
      | (with_reducible exact LeO.none _)
      | (with_reducible refine LeO.ite ?_ ?_)
      | (with_reducible refine LeO.bind ?_ (fun _ => ?_))
      | exact ih0 _ _ _
      | exact ih1 _ _ _ _
      | exact impl_fits.mono _ _ _
      | exact LeO.none _
      | refine LeO.ite ?_ ?_
      | refine LeO.bind ?_ (fun _ => ?_)
    · intro y0 y1 y2 y3
      unfold impl_WordOf.l0
      repeat' first
      | (with_reducible exact ih0 _ _ _)
      | (with_reducible exact ih1 _ _ _ _)
      | (with_reducible exact impl_fits.mono _ _ _)
      | (with_reducible exact LeO.refl _)
      | (with_reducible exact LeO.none _)
      | (with_reducible refine LeO.ite ?_ ?_)
      | (with_reducible refine LeO.bind ?_ (fun _ => ?_))
      | exact ih0 _ _ _
      | exact ih1 _ _ _ _
      | exact impl_fits.mono _ _ _
      | exact LeO.none _
      | refine LeO.ite ?_ ?_
      | refine LeO.bind ?_ (fun _ => ?_)
theorem impl_WordOf.mono : ∀ a0 a1 k, LeO (impl_WordOf.f k a0 a1) (impl_WordOf.f (k + 1) a0 a1) := by
  intro a0 a1 k
  obtain ⟨ih0, ih1⟩ := impl_WordOf.mono_l k
  unfold impl_WordOf.f
  repeat' first
      | (with_reducible exact ih0 _ _ _)
      | (with_reducible exact ih1 _ _ _ _)
      | (with_reducible exact impl_fits.mono _ _ _)
      | (with_reducible exact LeO.refl _)
      | (with_reducible exact LeO.none _)
      | (with_reducible refine LeO.ite ?_ ?_)
      | (with_reducible refine LeO.bind ?_ (fun _ => ?_))
      | exact ih0 _ _ _
      | exact ih1 _ _ _ _
      | exact impl_fits.mono _ _ _
      | exact LeO.none _
      | refine LeO.ite ?_ ?_
      | refine LeO.bind ?_ (fun _ => ?_)
set_option maxHeartbeats 8000000 in
set_option maxRecDepth 100000 in
theorem impl_WordOf.calls (k : Nat) (a0 : Int) (a1 : Int) (r1 : List Int) (r2 : Bool) (w : World) (h : impl_WordOf.f k a0 a1 = some (r1, r2)) :
    Calls Try.prog 64 #[.int .i64 a0, .int .i64 a1] w fun e w' => ∃ v0_ : Value, e = .returned (.tuple #[v0_, .bool r2]) ∧ Kd.R (Kd.int .i64) 3 w' w.heap.size (fun _ => True) v0_ r1 ∧ Below w.heap.size w w' := by
  have HB := Aside0.mk (Below.refl w.heap.size w)
  have H : (if a1 < 1 then (impl_WordOf.j0 k a0 a1 true) else (if a1 > 30 then (impl_WordOf.j0 k a0 a1 true) else ((impl_fits.f k a0 a1).bind fun t65001 => (impl_WordOf.j0 k a0 a1 (!t65001))))) = some (r1, r2) := h
  clear h
  have HC3 := Aside0.mk H
  clear H
  go_enter Try.func64, Try.ntmps64
  go_upto_region 1 with (fail)
  go_cut [20] (fun v20 wc => ∃ (kq : Nat) (x20_2 : Bool), v20 = .bool x20_2 ∧ Aside0 (impl_WordOf.j0 kq a0 a1 x20_2 = some (r1, r2)) ∧ Aside0 (kq ≤ k) ∧ Aside0 (Below w.heap.size w wc))
  case first =>
    have H := HC3.out
    clear HC3
    by_cases c4 : a1 < 1
    · rw [if_pos c4] at H
      have c4b0 : decide (a1 < 1) = true := decide_eq_true c4
      clear c4
      (first | rw [c4b0] | (simp only [i64_w, i32_w]; rw [c4b0]) | skip)
      have H' := Aside0.mk H
      clear H
      go_wp2
      go_meet
      case rel => exact ⟨_, (true), (by first | rfl | (simp; done) | (simp [*]; done)), H', ⟨by first | omega | exact Nat.le_refl _⟩, ⟨by repeat (first | (with_reducible first | exact HB.out | apply below_alloc | apply pw_below_drewN | apply below_drew1) | exact HB.out)⟩⟩
    · rw [if_neg c4] at H
      have c4b0 : decide (a1 < 1) = false := decide_eq_false c4
      clear c4
      (first | rw [c4b0] | (simp only [i64_w, i32_w]; rw [c4b0]) | skip)
      by_cases c5 : a1 > 30
      · rw [if_pos c5] at H
        have c5b0 : decide (30 < a1) = true := decide_eq_true c5
        clear c5
        have H' := Aside0.mk H
        clear H
        go_wp2
        go_meet
        case rel => exact ⟨_, (true), (by first | rfl | (simp; done) | (simp [*]; done)), H', ⟨by first | omega | exact Nat.le_refl _⟩, ⟨by repeat (first | (with_reducible first | exact HB.out | apply below_alloc | apply pw_below_drewN | apply below_drew1) | exact HB.out)⟩⟩
      · rw [if_neg c5] at H
        have c5b0 : decide (30 < a1) = false := decide_eq_false c5
        clear c5
        replace H := Option.bind_eq_some_iff.mp H
        obtain ⟨t65001, A60, H⟩ := H
        replace H : (impl_WordOf.j0 k a0 a1 (!t65001)) = some (r1, r2) := H
        have A6 := Aside0.mk A60
        clear A60
        have H' := Aside0.mk H
        clear H
        go_wp2_with (first | (go_at_call 97; (with_reducible refine (impl_fits.calls k a0 a1 t65001 _ A6.out).mono ?_); rintro e w' ⟨rfl, ⟨nd, rfl⟩⟩))
        go_meet
        case rel => exact ⟨_, (!t65001), (by first | rfl | (simp; done) | (simp [*]; done)), H', ⟨by first | omega | exact Nat.le_refl _⟩, ⟨by repeat (first | (with_reducible first | exact HB.out | apply below_alloc | apply pw_below_drewN | apply below_drew1) | exact HB.out)⟩⟩
  case rest =>
    clear HC3
    try clear p2
    try clear c4
    try clear c4b0
    try clear c5
    try clear c5b0
    try clear c6
    obtain ⟨kq, x20_2, rfl, HA, HJ2, HB⟩ := hcut
    cases kq with
    | zero => exact absurd HA.out (by simp [impl_WordOf.j0])
    | succ kj2 =>
      have H := HA.out
      clear HA
      simp only [impl_WordOf.j0] at H
      by_cases c7 : x20_2 = true
      · subst c7
        have H1 : (some (([] : List Int), false)) = some (r1, r2) := by rw [if_pos rfl] at H; exact H
        clear H
        have H := H1
        clear H1
        simp only [Option.some.injEq, Prod.mk.injEq] at H
        obtain ⟨rfl, rfl⟩ := H
        go_wp2
        go_ret2
        exact ⟨_, by first | rfl | (simp [errW_none, errW_some] <;> rfl) | (simp [*, errW_none, errW_some] <;> rfl), by first | exact Kd.R_nil _ _ _ _ _ | exact Kd.N_nil _ _ _ _ _ | exact Kd.V_nil _ _ _ _ _ | exact Kd.Q_nil _ _ _ _ _ | exact Kd.S_nil _ _ _ _ _, by repeat (first | (with_reducible first | exact HB.out | apply below_alloc | apply pw_below_drewN | apply below_drew1) | exact HB.out)⟩
      · replace c7 := Bool.eq_false_iff.mpr c7
        subst c7
        have H1 : (impl_WordOf.l0 kj2 a0 (([] : List Int)) a1 0) = some (r1, r2) := by rw [if_neg (show ¬ (false = true) by decide)] at H; exact H
        clear H
        have H := H1
        clear H1
        obtain ⟨y65002, hy65002⟩ : ∃ y_ : List Int, y_ = (([] : List Int)) := ⟨_, rfl⟩
        replace H : (impl_WordOf.l0 kj2 a0 y65002 a1 0) = some (r1, r2) := by first | (rw [hy65002]; with_reducible exact H) | (have H2_ := (Option.bind_some _ _).symm.trans H; rw [hy65002]; with_reducible exact H2_) | (have H2_ := (Option.bind_some _ _).symm.trans H; with_reducible exact H2_) | with_reducible exact H | (rw [hy65002]; exact H) | exact H
        have Ny65002 := Aside0.mk hy65002
        clear hy65002
        have H' := Aside0.mk H
        clear H
        go_wp2_with (first | ((with_reducible refine gate_dst (N := 21) rfl ?_); refine Kd.R_lit (Kd.int .i64) _ 3 ?hg (N := 21) ?hd (xs := ([] : List Int)) (inner := []) (ok := fun _ => True) (okp := fun _ => True) ?hr ?hp (fun _ hk => hk) trivial (Below.refl _ _) (Nat.le_refl _) (by simp) ?_; (case hd => rfl); (case hg => rfl); (case hr => first | (go_simp; done) | (go_simp; rfl)); (case hp => exact (Reps.none _ _)); intro v65003 w8 ho9 hb hg_ hnew_; clear hg_ hnew_; (first | rw [← Ny65002.out] at ho9 | (simp only [Int.reduceToNat] at ho9; rw [← Ny65002.out] at ho9)); have n0_ := Aside0.mk (Kd.R_lower ho9 (below_size (by repeat (first | (with_reducible first | exact HB.out | apply below_alloc | apply pw_below_drewN | apply below_drew1) | exact HB.out)))); have n1_ := Aside0.mk (below_step (by repeat (first | (with_reducible first | exact HB.out | apply below_alloc | apply pw_below_drewN | apply below_drew1) | exact HB.out)) hb); clear HB; have HO65004 := n0_; have HB := n1_; clear n0_ n1_; clear hb ho9))
        go_loopg [0, 6, 23] kj2 (fun kq v0 v6 v23 w' => ∃ (x0_2 : Int) (x6_2 : List Int) (x23_2 : Int), v0 = .int .i64 x0_2 ∧ v23 = .int .i64 x23_2 ∧ Aside0 (impl_WordOf.l0 kq x0_2 x6_2 a1 x23_2 = some (r1, r2)) ∧ Aside0 (kq ≤ kj2) ∧ Aside0 (Kd.R (Kd.int .i64) 3 w' w.heap.size (fun _ => True) v6 x6_2) ∧ Aside0 (Below w.heap.size w w'))
        case atStart => exact ⟨(a0), (y65002), (0), (by first | rfl | (simp; done) | (simp [*]; done)), (by first | rfl | (simp; done) | (simp [*]; done)), H', ⟨Nat.le_refl _⟩, ⟨by (with_reducible repeat (first | apply Kd.R_alloc | apply Kd.R_drewN | apply Kd.R_drew)); exact HO65004.out⟩, ⟨by repeat (first | (with_reducible first | exact HB.out | apply below_alloc | apply pw_below_drewN | apply below_drew1) | exact HB.out)⟩⟩
        case round =>
          clear H'
          try clear p2
          try clear c4
          try clear c4b0
          try clear c5
          try clear c5b0
          try clear c6
          try clear c7
          try clear p2
          obtain ⟨x0_2, x6_2, x23_2, rfl, rfl, HA, HK2, HO_6, HB⟩ := hrel
          cases gk with
          | zero => exact absurd HA.out (by simp [impl_WordOf.l0])
          | succ k2 =>
            have H := HA.out
            clear HA
            simp only [impl_WordOf.l0] at H
            by_cases c10 : x23_2 < a1
            · rw [if_pos c10] at H
              have c10b0 : decide (x23_2 < a1) = true := decide_eq_true c10
              clear c10
              replace H := Option.bind_eq_some_iff.mp H
              obtain ⟨⟨t65005, t65006⟩, A110, H⟩ := H
              replace H : (if x6_2.length < 17592186044416 then (impl_WordOf.l0 k2 (wrap64 (Int.tdiv (wrap64 (x0_2 - t65005)) 3)) (x6_2 ++ [t65005]) a1 (wrap64 (x23_2 + 1))) else (none)) = some (r1, r2) := H
              have A11 := Aside0.mk A110
              clear A110
              by_cases c12 : x6_2.length < 17592186044416
              · rw [if_pos c12] at H
                have LMc12 := Aside0.mk c12
                clear c12
                obtain ⟨y65007, hy65007⟩ : ∃ y_ : List Int, y_ = (x6_2 ++ [t65005]) := ⟨_, rfl⟩
                replace H : (impl_WordOf.l0 k2 (wrap64 (Int.tdiv (wrap64 (x0_2 - t65005)) 3)) y65007 a1 (wrap64 (x23_2 + 1))) = some (r1, r2) := by first | (rw [hy65007]; with_reducible exact H) | (have H2_ := (Option.bind_some _ _).symm.trans H; rw [hy65007]; with_reducible exact H2_) | (have H2_ := (Option.bind_some _ _).symm.trans H; with_reducible exact H2_) | with_reducible exact H | (rw [hy65007]; exact H) | exact H
                have Ny65007 := Aside0.mk hy65007
                clear hy65007
                have H' := Aside0.mk H
                clear H
                go_wp2_with (first | ((with_reducible refine gate_callee (f := 98) rfl ?_); refine goesL_ (some 28) rfl rfl Try.func98 (by kernel_rfl) rfl #[.int .i64 (Int.tmod x0_2 3)] rfl (by (try simp only [List.map_toArray, List.map_cons, List.map_nil]); first | done | rfl | (simp only [List.length_drop, List.length_take]; rfl)) ?_; (with_reducible refine (impl_carried.calls (Int.tmod x0_2 3) t65005 t65006 _ A11.out).mono ?_); rintro e w' ⟨rfl, ⟨nd, rfl⟩⟩; refine ⟨_, rfl, ?_⟩) | ((with_reducible refine gate_builtin (b := .append) (xs := #[.tmp 31, .tmp 33]) rfl ?_); at_builtin; refine Kd.R_append (Kd.int .i64) (w0 := w) w.heap.size rfl (.tmp 31) (.tmp 33) 47 3 (.int .i64 0) 8 rfl Try.underlying47 info3 rfl (by decide) (by omega) u6 x6_2 t65005 [.int .i64 t65005] (fun _ => True) (fun _ => False) rfl rfl ?aP (fun _ hk => hk.elim) ?aF ?aO ?aB ?aS ?aL ?_; (case aP => exact rfl); (case aB => exact (by repeat (first | (with_reducible first | exact HB.out | apply below_alloc | apply pw_below_drewN | apply below_drew1) | exact HB.out))); (case aF => exact (fun _ _ => trivial)); (case aO => exact (by (with_reducible repeat (first | apply Kd.R_alloc | apply Kd.R_drewN | apply Kd.R_drew)); exact HO_6.out)); (case aS => exact (below_size (by repeat (first | (with_reducible first | exact HB.out | apply below_alloc | apply pw_below_drewN | apply below_drew1) | exact HB.out)))); (case aL => have := LMc12.out; omega); intro v65008 w13 ho hb hg hat; rw [← Ny65007.out] at ho; have n0_ := Aside0.mk (hb); have n1_ := Aside0.mk (ho); clear HB; clear HO_6; have HB := n0_; have HO65009 := n1_; clear n0_ n1_; clear ho hb hg hat))
                go_roundg k2
                case measure => have := HJ2.out; have := HK2.out; omega
                case rel => exact ⟨(wrap64 (Int.tdiv (wrap64 (x0_2 - t65005)) 3)), (y65007), (wrap64 (x23_2 + 1)), (by first | rfl | (simp; done) | (simp [*]; done)), (by first | rfl | (simp; done) | (simp [*]; done)), H', ⟨by have := HJ2.out; have := HK2.out; omega⟩, ⟨by (with_reducible repeat (first | apply Kd.R_alloc | apply Kd.R_drewN | apply Kd.R_drew)); exact HO65009.out⟩, ⟨by repeat (first | (with_reducible first | exact HB.out | apply below_alloc | apply pw_below_drewN | apply below_drew1) | exact HB.out)⟩⟩
              · rw [if_neg c12] at H
                exact absurd H (by simp)
            · rw [if_neg c10] at H
              have c10b0 : decide (x23_2 < a1) = false := decide_eq_false c10
              clear c10
              simp only [Option.some.injEq, Prod.mk.injEq] at H
              obtain ⟨rfl, rfl⟩ := H
              go_wp2
              go_ret2
              exact ⟨_, by first | rfl | (simp [errW_none, errW_some] <;> rfl) | (simp [*, errW_none, errW_some] <;> rfl), by (with_reducible repeat (first | apply Kd.R_alloc | apply Kd.R_drewN | apply Kd.R_drew)); exact HO_6.out, by repeat (first | (with_reducible first | exact HB.out | apply below_alloc | apply pw_below_drewN | apply below_drew1) | exact HB.out)⟩

end Go.Proofs.Ytgiehdhnhkmjfaa.X
-- Laid by xprint.py (wip/tools): printed contracts, and hand-written ones between them.
namespace Go.Proofs.Ytgiehdhnhkmjfaa.X
open Go.RowKit Go.Proofs.YtgiehdhnhkmjfaaW.PrintWords Go.Proofs.YtgiehdhnhkmjfaaW.PrintLast Go.Proofs.YtgiehdhnhkmjfaaW.PrintMore
attribute [local go_sem] max2_int min2_int max_two min_two max_three min_three max_four min_four   -- for this text's walks alone
set_option linter.unusedVariables false
set_option linter.unusedSimpArgs false

/-! ### impl_CoinsFor: function 76 -/
def impl_CoinsFor.f (k : Nat) (a0 : Int) : Option (Int) := if a0 < 2 then (some 0) else (if a0 > 5 then (some 0) else ((impl_power.f k a0).bind fun t77001 => (some (wrap64 (Int.tdiv (wrap64 (t77001 - 3)) 2)))))
theorem impl_CoinsFor.mono : ∀ a0 k, LeO (impl_CoinsFor.f k a0) (impl_CoinsFor.f (k + 1) a0) := by
  intro a0 k
  unfold impl_CoinsFor.f
  repeat' first
      | (with_reducible exact impl_power.mono _ _)
      | (with_reducible exact LeO.refl _)
      | (with_reducible exact LeO.none _)
      | (with_reducible refine LeO.ite ?_ ?_)
      | (with_reducible refine LeO.bind ?_ (fun _ => ?_))
      | exact impl_power.mono _ _
      | exact LeO.none _
      | refine LeO.ite ?_ ?_
      | refine LeO.bind ?_ (fun _ => ?_)
set_option maxHeartbeats 8000000 in
set_option maxRecDepth 100000 in
theorem impl_CoinsFor.calls (k : Nat) (a0 : Int) (r : Int) (w : World) (h : impl_CoinsFor.f k a0 = some r) :
    Calls Try.prog 76 #[.int .i64 a0] w fun e w' => e = .returned (.int .i64 r) ∧ Drawn0 w w' := by
  have H : (if a0 < 2 then (some 0) else (if a0 > 5 then (some 0) else ((impl_power.f k a0).bind fun t77001 => (some (wrap64 (Int.tdiv (wrap64 (t77001 - 3)) 2)))))) = some r := h
  clear h
  by_cases c2 : a0 < 2
  · rw [if_pos c2] at H
    have c2b0 : decide (a0 < 2) = true := decide_eq_true c2
    clear c2
    obtain rfl := Option.some.inj H
    go_enter Try.func76, Try.ntmps76
    go_wp2
    go_ret
    exact ⟨by first | rfl | (simp; done) | (simp [*]; done), by repeat (first | exact Drawn0.refl _ | apply Drawn0.step)⟩
  · rw [if_neg c2] at H
    have c2b0 : decide (a0 < 2) = false := decide_eq_false c2
    clear c2
    by_cases c3 : a0 > 5
    · rw [if_pos c3] at H
      have c3b0 : decide (5 < a0) = true := decide_eq_true c3
      clear c3
      obtain rfl := Option.some.inj H
      go_enter Try.func76, Try.ntmps76
      go_wp2
      go_ret
      exact ⟨by first | rfl | (simp; done) | (simp [*]; done), by repeat (first | exact Drawn0.refl _ | apply Drawn0.step)⟩
    · rw [if_neg c3] at H
      have c3b0 : decide (5 < a0) = false := decide_eq_false c3
      clear c3
      replace H := Option.bind_eq_some_iff.mp H
      obtain ⟨t77001, A40, H⟩ := H
      replace H : (some (wrap64 (Int.tdiv (wrap64 (t77001 - 3)) 2))) = some r := H
      have A4 := Aside0.mk A40
      clear A40
      obtain rfl := Option.some.inj H
      go_enter Try.func76, Try.ntmps76
      go_wp2_with (first | ((with_reducible refine gate_callee (f := 67) rfl ?_); refine goesL_ (some 10) rfl rfl Try.func67 (by kernel_rfl) rfl #[.int .i64 a0] rfl (by (try simp only [List.map_toArray, List.map_cons, List.map_nil]); first | done | rfl | (simp only [List.length_drop, List.length_take]; rfl)) ?_; (with_reducible refine (impl_power.calls k a0 t77001 _ A4.out).mono ?_); rintro e w' ⟨rfl, ⟨nd, rfl⟩⟩; refine ⟨_, rfl, ?_⟩))
      go_ret
      exact ⟨by first | rfl | (simp; done) | (simp [*]; done), by repeat (first | exact Drawn0.refl _ | apply Drawn0.step)⟩

end Go.Proofs.Ytgiehdhnhkmjfaa.X
-- Laid by xprint.py (wip/tools): printed contracts, and hand-written ones between them.
namespace Go.Proofs.Ytgiehdhnhkmjfaa.X
open Go.RowKit Go.Proofs.YtgiehdhnhkmjfaaW.PrintWords Go.Proofs.YtgiehdhnhkmjfaaW.PrintLast Go.Proofs.YtgiehdhnhkmjfaaW.PrintMore
attribute [local go_sem] max2_int min2_int max_two min_two max_three min_three max_four min_four   -- for this text's walks alone
set_option linter.unusedVariables false
set_option linter.unusedSimpArgs false

/-! ### impl_IsTrit: function 86 -/
def impl_IsTrit.f (a0 : Int) : Option (Bool) := if a0 ≥ (-1) then (some (decide (a0 ≤ 1))) else (some false)
set_option maxHeartbeats 8000000 in
set_option maxRecDepth 100000 in
theorem impl_IsTrit.calls (a0 : Int) (r : Bool) (w : World) (h : impl_IsTrit.f a0 = some r) :
    Calls Try.prog 86 #[.int .i64 a0] w fun e w' => e = .returned (.bool r) ∧ Drawn0 w w' := by
  have H : (if a0 ≥ (-1) then (some (decide (a0 ≤ 1))) else (some false)) = some r := h
  clear h
  by_cases c2 : a0 ≥ (-1)
  · rw [if_pos c2] at H
    have c2b0 : decide ((-1) ≤ a0) = true := decide_eq_true c2
    clear c2
    obtain rfl := Option.some.inj H
    go_enter Try.func86, Try.ntmps86
    go_wp2
    go_ret
    exact ⟨by first | rfl | (simp; done) | (simp [*]; done), by repeat (first | exact Drawn0.refl _ | apply Drawn0.step)⟩
  · rw [if_neg c2] at H
    have c2b0 : decide ((-1) ≤ a0) = false := decide_eq_false c2
    clear c2
    obtain rfl := Option.some.inj H
    go_enter Try.func86, Try.ntmps86
    go_wp2
    go_ret
    exact ⟨by first | rfl | (simp; done) | (simp [*]; done), by repeat (first | exact Drawn0.refl _ | apply Drawn0.step)⟩

end Go.Proofs.Ytgiehdhnhkmjfaa.X
-- Laid by xprint.py (wip/tools): printed contracts, and hand-written ones between them.
namespace Go.Proofs.Ytgiehdhnhkmjfaa.X
open Go.RowKit Go.Proofs.YtgiehdhnhkmjfaaW.PrintWords Go.Proofs.YtgiehdhnhkmjfaaW.PrintLast Go.Proofs.YtgiehdhnhkmjfaaW.PrintMore
attribute [local go_sem] max2_int min2_int max_two min_two max_three min_three max_four min_four   -- for this text's walks alone
set_option linter.unusedVariables false
set_option linter.unusedSimpArgs false

/-! ### impl_trits: function 104 -/
def impl_trits.l0 : Nat → List Int → Int → Int → Option (Bool)
  | 0, _, _, _ => none
  | k + 1, x5, x6, x7 => if x7 < x6 then (if 0 ≤ x7 then (if x7 < (x5.length : Int) then ((impl_IsTrit.f (rd x5 x7)).bind fun t105002 => (if t105002 = true then (impl_trits.l0 k x5 x6 (wrap64 (x7 + 1))) else (some false))) else (none)) else (none)) else (some true)
def impl_trits.f (k : Nat) (l0 : List Int) : Option (Bool) := impl_trits.l0 k l0 (l0.length : Int) 0
theorem impl_trits.mono_l : ∀ k, (∀ y0 y1 y2, LeO (impl_trits.l0 k y0 y1 y2) (impl_trits.l0 (k + 1) y0 y1 y2))
  | 0 => fun _ _ _ r h => by simp [impl_trits.l0] at h
  | k + 1 => by
    have ih0 := impl_trits.mono_l k
    · intro y0 y1 y2
      unfold impl_trits.l0
      repeat' first
      | (with_reducible exact ih0 _ _ _)
      | (with_reducible exact LeO.refl _)
      | (with_reducible exact LeO.none _)
      | (with_reducible refine LeO.ite ?_ ?_)
      | (with_reducible refine LeO.bind ?_ (fun _ => ?_))
      | exact ih0 _ _ _
      | exact LeO.none _
      | refine LeO.ite ?_ ?_
      | refine LeO.bind ?_ (fun _ => ?_)
theorem impl_trits.mono : ∀ a0 k, LeO (impl_trits.f k a0) (impl_trits.f (k + 1) a0) := by
  intro a0 k
  have ih0 := impl_trits.mono_l k
  unfold impl_trits.f
  repeat' first
      | (with_reducible exact ih0 _ _ _)
      | (with_reducible exact LeO.refl _)
      | (with_reducible exact LeO.none _)
      | (with_reducible refine LeO.ite ?_ ?_)
      | (with_reducible refine LeO.bind ?_ (fun _ => ?_))
      | exact ih0 _ _ _
      | exact LeO.none _
      | refine LeO.ite ?_ ?_
      | refine LeO.bind ?_ (fun _ => ?_)
set_option maxHeartbeats 8000000 in
set_option maxRecDepth 100000 in
theorem impl_trits.calls (k : Nat) (A0 : Option Addr) (c0 : Nat) (l0 : List Int) (r : Bool) (w : World) (hr0 : Kd.C (Kd.int .i64) w A0 l0.length l0) (hc0 : l0.length ≤ c0) (h : impl_trits.f k l0 = some r) :
    Calls Try.prog 104 #[.slice A0 l0.length c0] w fun e w' => e = .returned (.bool r) ∧ Drawn0 w w' := by
  have HR0 := Aside0.mk hr0
  have HC0 := Aside0.mk hc0
  clear hr0 hc0
  have H : (impl_trits.l0 k l0 (l0.length : Int) 0) = some r := h
  clear h
  have H' := Aside0.mk H
  clear H
  go_enter Try.func104, Try.ntmps104
  go_wp2
  go_loopg [7] k (fun kq v7 w' => ∃ (x7_1 : Int), v7 = .int .i64 x7_1 ∧ Aside0 (impl_trits.l0 kq l0 (l0.length : Int) x7_1 = some r) ∧ Aside0 (kq ≤ k) ∧ Drawn0 w w')
  case atStart => exact ⟨(0), (by first | rfl | (simp; done) | (simp [*]; done)), H', ⟨Nat.le_refl _⟩, by repeat (first | exact Drawn0.refl _ | apply Drawn0.step)⟩
  case round =>
    clear H'
    try clear c1
    obtain ⟨x7_1, rfl, HA, HK1, ⟨m1, rfl⟩⟩ := hrel
    cases gk with
    | zero => exact absurd HA.out (by simp [impl_trits.l0])
    | succ k1 =>
      have H := HA.out
      clear HA
      simp only [impl_trits.l0] at H
      by_cases c2 : x7_1 < (l0.length : Int)
      · rw [if_pos c2] at H
        have c2b0 : decide (x7_1 < (l0.length : Int)) = true := decide_eq_true c2
        clear c2
        by_cases c3 : 0 ≤ x7_1
        · rw [if_pos c3] at H
          have c3b0 : decide (0 ≤ x7_1) = true := decide_eq_true c3
          clear c3
          by_cases c4 : x7_1 < (l0.length : Int)
          · rw [if_pos c4] at H
            have c4b0 : decide (x7_1 < (l0.length : Int)) = true := decide_eq_true c4
            clear c4
            replace H := Option.bind_eq_some_iff.mp H
            obtain ⟨t105002, A50, H⟩ := H
            replace H : (if t105002 = true then (impl_trits.l0 k1 l0 (l0.length : Int) (wrap64 (x7_1 + 1))) else (some false)) = some r := H
            have A5 := Aside0.mk A50
            clear A50
            by_cases c6 : t105002 = true
            · subst c6
              have H1 : (impl_trits.l0 k1 l0 (l0.length : Int) (wrap64 (x7_1 + 1))) = some r := by rw [if_pos rfl] at H; exact H
              clear H
              have H := H1
              clear H1
              have H' := Aside0.mk H
              clear H
              have p105001 : 0 ≤ (x7_1 : Int) := of_decide_eq_true (by first | (with_reducible assumption) | assumption)
              have q105001 : x7_1 < (l0.length : Int) := of_decide_eq_true (by first | (with_reducible assumption) | assumption)
              obtain ⟨ad105001, e105001, hx105001_0⟩ := Kd.at_int HR0.out x7_1 p105001 q105001
              cases e105001
              replace p105001 := eq_true p105001
              replace q105001 := eq_true q105001
              go_wp2_with (first | ((with_reducible refine gate_callee (f := 86) rfl ?_); refine goesL_ (some 12) rfl rfl Try.func86 (by kernel_rfl) rfl #[.int .i64 (rd l0 x7_1)] rfl (by (try simp only [List.map_toArray, List.map_cons, List.map_nil]); first | done | rfl | (simp only [List.length_drop, List.length_take]; rfl)) ?_; (with_reducible refine (impl_IsTrit.calls (rd l0 x7_1) true _ A5.out).mono ?_); rintro e w' ⟨rfl, ⟨nd, rfl⟩⟩; refine ⟨_, rfl, ?_⟩))
              go_roundg k1
              case measure => have := HK1.out; omega
              case rel => exact ⟨(wrap64 (x7_1 + 1)), (by first | rfl | (simp; done) | (simp [*]; done)), H', ⟨by have := HK1.out; omega⟩, by repeat (first | exact Drawn0.refl _ | apply Drawn0.step)⟩
            · replace c6 := Bool.eq_false_iff.mpr c6
              subst c6
              have H1 : (some false) = some r := by rw [if_neg (show ¬ (false = true) by decide)] at H; exact H
              clear H
              have H := H1
              clear H1
              obtain rfl := Option.some.inj H
              have p105001 : 0 ≤ (x7_1 : Int) := of_decide_eq_true (by first | (with_reducible assumption) | assumption)
              have q105001 : x7_1 < (l0.length : Int) := of_decide_eq_true (by first | (with_reducible assumption) | assumption)
              obtain ⟨ad105001, e105001, hx105001_0⟩ := Kd.at_int HR0.out x7_1 p105001 q105001
              cases e105001
              replace p105001 := eq_true p105001
              replace q105001 := eq_true q105001
              go_wp2_with (first | ((with_reducible refine gate_callee (f := 86) rfl ?_); refine goesL_ (some 12) rfl rfl Try.func86 (by kernel_rfl) rfl #[.int .i64 (rd l0 x7_1)] rfl (by (try simp only [List.map_toArray, List.map_cons, List.map_nil]); first | done | rfl | (simp only [List.length_drop, List.length_take]; rfl)) ?_; (with_reducible refine (impl_IsTrit.calls (rd l0 x7_1) false _ A5.out).mono ?_); rintro e w' ⟨rfl, ⟨nd, rfl⟩⟩; refine ⟨_, rfl, ?_⟩))
              go_ret
              exact ⟨by first | rfl | (simp; done) | (simp [*]; done), by repeat (first | exact Drawn0.refl _ | apply Drawn0.step)⟩
          · rw [if_neg c4] at H
            exact absurd H (by simp)
        · rw [if_neg c3] at H
          exact absurd H (by simp)
      · rw [if_neg c2] at H
        have c2b0 : decide (x7_1 < (l0.length : Int)) = false := decide_eq_false c2
        clear c2
        obtain rfl := Option.some.inj H
        go_wp2
        go_ret
        exact ⟨by first | rfl | (simp; done) | (simp [*]; done), by repeat (first | exact Drawn0.refl _ | apply Drawn0.step)⟩

end Go.Proofs.Ytgiehdhnhkmjfaa.X
-- Laid by xprint.py (wip/tools): printed contracts, and hand-written ones between them.
namespace Go.Proofs.Ytgiehdhnhkmjfaa.X
open Go.RowKit Go.Proofs.YtgiehdhnhkmjfaaW.PrintWords Go.Proofs.YtgiehdhnhkmjfaaW.PrintLast Go.Proofs.YtgiehdhnhkmjfaaW.PrintMore
attribute [local go_sem] max2_int min2_int max_two min_two max_three min_three max_four min_four   -- for this text's walks alone
set_option linter.unusedVariables false
set_option linter.unusedSimpArgs false

/-! ### impl_IsWord: function 90 -/
def impl_IsWord.f (k : Nat) (l0 : List Int) : Option (Bool) := if (l0.length : Int) ≥ 1 then (if (l0.length : Int) ≤ 30 then ((impl_trits.f k l0).bind fun t91001 => (some t91001)) else (some false)) else (some false)
theorem impl_IsWord.mono : ∀ a0 k, LeO (impl_IsWord.f k a0) (impl_IsWord.f (k + 1) a0) := by
  intro a0 k
  unfold impl_IsWord.f
  repeat' first
      | (with_reducible exact impl_trits.mono _ _)
      | (with_reducible exact LeO.refl _)
      | (with_reducible exact LeO.none _)
      | (with_reducible refine LeO.ite ?_ ?_)
      | (with_reducible refine LeO.bind ?_ (fun _ => ?_))
      | exact impl_trits.mono _ _
      | exact LeO.none _
      | refine LeO.ite ?_ ?_
      | refine LeO.bind ?_ (fun _ => ?_)
set_option maxHeartbeats 8000000 in
set_option maxRecDepth 100000 in
theorem impl_IsWord.calls (k : Nat) (A0 : Option Addr) (c0 : Nat) (l0 : List Int) (r : Bool) (w : World) (hr0 : Kd.C (Kd.int .i64) w A0 l0.length l0) (hc0 : l0.length ≤ c0) (h : impl_IsWord.f k l0 = some r) :
    Calls Try.prog 90 #[.slice A0 l0.length c0] w fun e w' => e = .returned (.bool r) ∧ Drawn0 w w' := by
  have HR0 := Aside0.mk hr0
  have HC0 := Aside0.mk hc0
  clear hr0 hc0
  have H : (if (l0.length : Int) ≥ 1 then (if (l0.length : Int) ≤ 30 then ((impl_trits.f k l0).bind fun t91001 => (some t91001)) else (some false)) else (some false)) = some r := h
  clear h
  by_cases c2 : (l0.length : Int) ≥ 1
  · rw [if_pos c2] at H
    have c2b0 : decide (1 ≤ (l0.length : Int)) = true := decide_eq_true c2
    have c2b1 : decide (1 ≤ l0.length) = true := decide_eq_true (by omega)
    clear c2
    by_cases c3 : (l0.length : Int) ≤ 30
    · rw [if_pos c3] at H
      have c3b0 : decide ((l0.length : Int) ≤ 30) = true := decide_eq_true c3
      have c3b1 : decide (l0.length ≤ 30) = true := decide_eq_true (by omega)
      clear c3
      replace H := Option.bind_eq_some_iff.mp H
      obtain ⟨t91001, A40, H⟩ := H
      replace H : (some t91001) = some r := H
      have A4 := Aside0.mk A40
      clear A40
      obtain rfl := Option.some.inj H
      go_enter Try.func90, Try.ntmps90
      go_wp2_with (first | (go_at_call 104; (with_reducible refine (impl_trits.calls k _ _ l0 t91001 _ ?side1 ?side2 A4.out).mono ?_); (case side1 => repeat (first | exact HR0.out | (with_reducible refine Kd.C_alloc ?_ _) | (with_reducible refine Kd.C_drewN ?_ _) | (with_reducible refine Kd.C_drew ?_))); (case side2 => exact HC0.out); rintro e w' ⟨rfl, ⟨nd, rfl⟩⟩))
      go_ret
      exact ⟨by first | rfl | (simp; done) | (simp [*]; done), by repeat (first | exact Drawn0.refl _ | apply Drawn0.step)⟩
    · rw [if_neg c3] at H
      have c3b0 : decide ((l0.length : Int) ≤ 30) = false := decide_eq_false c3
      have c3b1 : decide (l0.length ≤ 30) = false := decide_eq_false (by omega)
      clear c3
      obtain rfl := Option.some.inj H
      go_enter Try.func90, Try.ntmps90
      go_wp2
      go_ret
      exact ⟨by first | rfl | (simp; done) | (simp [*]; done), by repeat (first | exact Drawn0.refl _ | apply Drawn0.step)⟩
  · rw [if_neg c2] at H
    have c2b0 : decide (1 ≤ (l0.length : Int)) = false := decide_eq_false c2
    have c2b1 : decide (1 ≤ l0.length) = false := decide_eq_false (by omega)
    clear c2
    obtain rfl := Option.some.inj H
    go_enter Try.func90, Try.ntmps90
    go_wp2
    go_ret
    exact ⟨by first | rfl | (simp; done) | (simp [*]; done), by repeat (first | exact Drawn0.refl _ | apply Drawn0.step)⟩

end Go.Proofs.Ytgiehdhnhkmjfaa.X
-- Laid by xprint.py (wip/tools): printed contracts, and hand-written ones between them.
namespace Go.Proofs.Ytgiehdhnhkmjfaa.X
open Go.RowKit Go.Proofs.YtgiehdhnhkmjfaaW.PrintWords Go.Proofs.YtgiehdhnhkmjfaaW.PrintLast Go.Proofs.YtgiehdhnhkmjfaaW.PrintMore
attribute [local go_sem] max2_int min2_int max_two min_two max_three min_three max_four min_four   -- for this text's walks alone
set_option linter.unusedVariables false
set_option linter.unusedSimpArgs false

/-! ### impl_TurnTrit: function 101 -/
def impl_TurnTrit.f (a0 : Int) : Option (Int) := (impl_IsTrit.f a0).bind fun t102001 => (if t102001 = true then ((impl_carried.f (wrap64 (a0 + 1))).bind fun bt102002 => (some bt102002.1)) else (some 0))
set_option maxHeartbeats 8000000 in
set_option maxRecDepth 100000 in
theorem impl_TurnTrit.calls (a0 : Int) (r : Int) (w : World) (h : impl_TurnTrit.f a0 = some r) :
    Calls Try.prog 101 #[.int .i64 a0] w fun e w' => e = .returned (.int .i64 r) ∧ Drawn0 w w' := by
  have H : ((impl_IsTrit.f a0).bind fun t102001 => (if t102001 = true then ((impl_carried.f (wrap64 (a0 + 1))).bind fun bt102002 => (some bt102002.1)) else (some 0))) = some r := h
  clear h
  replace H := Option.bind_eq_some_iff.mp H
  obtain ⟨t102001, A20, H⟩ := H
  replace H : (if t102001 = true then ((impl_carried.f (wrap64 (a0 + 1))).bind fun bt102002 => (some bt102002.1)) else (some 0)) = some r := H
  have A2 := Aside0.mk A20
  clear A20
  by_cases c3 : t102001 = true
  · subst c3
    have H1 : ((impl_carried.f (wrap64 (a0 + 1))).bind fun bt102002 => (some bt102002.1)) = some r := by rw [if_pos rfl] at H; exact H
    clear H
    have H := H1
    clear H1
    replace H := Option.bind_eq_some_iff.mp H
    obtain ⟨⟨t102002, t102003⟩, A40, H⟩ := H
    replace H : (some t102002) = some r := H
    have A4 := Aside0.mk A40
    clear A40
    obtain rfl := Option.some.inj H
    go_enter Try.func101, Try.ntmps101
    go_wp2_with (first | ((with_reducible refine gate_callee (f := 86) rfl ?_); refine goesL_ (some 6) rfl rfl Try.func86 (by kernel_rfl) rfl #[.int .i64 a0] rfl (by (try simp only [List.map_toArray, List.map_cons, List.map_nil]); first | done | rfl | (simp only [List.length_drop, List.length_take]; rfl)) ?_; (with_reducible refine (impl_IsTrit.calls a0 true _ A2.out).mono ?_); rintro e w' ⟨rfl, ⟨nd, rfl⟩⟩; refine ⟨_, rfl, ?_⟩) | ((with_reducible refine gate_callee (f := 98) rfl ?_); refine goesL_ (some 11) rfl rfl Try.func98 (by kernel_rfl) rfl #[.int .i64 (wrap64 (a0 + 1))] rfl (by (try simp only [List.map_toArray, List.map_cons, List.map_nil]); first | done | rfl | (simp only [List.length_drop, List.length_take]; rfl)) ?_; (with_reducible refine (impl_carried.calls (wrap64 (a0 + 1)) t102002 t102003 _ A4.out).mono ?_); rintro e w' ⟨rfl, ⟨nd, rfl⟩⟩; refine ⟨_, rfl, ?_⟩))
    go_ret
    exact ⟨by first | rfl | (simp; done) | (simp [*]; done), by repeat (first | exact Drawn0.refl _ | apply Drawn0.step)⟩
  · replace c3 := Bool.eq_false_iff.mpr c3
    subst c3
    have H1 : (some 0) = some r := by rw [if_neg (show ¬ (false = true) by decide)] at H; exact H
    clear H
    have H := H1
    clear H1
    obtain rfl := Option.some.inj H
    go_enter Try.func101, Try.ntmps101
    go_wp2_with (first | ((with_reducible refine gate_callee (f := 86) rfl ?_); refine goesL_ (some 6) rfl rfl Try.func86 (by kernel_rfl) rfl #[.int .i64 a0] rfl (by (try simp only [List.map_toArray, List.map_cons, List.map_nil]); first | done | rfl | (simp only [List.length_drop, List.length_take]; rfl)) ?_; (with_reducible refine (impl_IsTrit.calls a0 false _ A2.out).mono ?_); rintro e w' ⟨rfl, ⟨nd, rfl⟩⟩; refine ⟨_, rfl, ?_⟩))
    go_ret
    exact ⟨by first | rfl | (simp; done) | (simp [*]; done), by repeat (first | exact Drawn0.refl _ | apply Drawn0.step)⟩

end Go.Proofs.Ytgiehdhnhkmjfaa.X
-- Laid by xprint.py (wip/tools): printed contracts, and hand-written ones between them.
namespace Go.Proofs.Ytgiehdhnhkmjfaa.X
open Go.RowKit Go.Proofs.YtgiehdhnhkmjfaaW.PrintWords Go.Proofs.YtgiehdhnhkmjfaaW.PrintLast Go.Proofs.YtgiehdhnhkmjfaaW.PrintMore
attribute [local go_sem] max2_int min2_int max_two min_two max_three min_three max_four min_four   -- for this text's walks alone
set_option linter.unusedVariables false
set_option linter.unusedSimpArgs false

/-! ### impl_TurnsForward: function 78 -/
def impl_TurnsForward.l0 : Nat → List Int → Int → Option (Bool)
  | 0, _, _ => none
  | k + 1, x0, x3 => if x3 < (x0.length : Int) then (if 0 ≤ x3 then (if 0 ≤ (wrap64 (x3 - 1)) then (if (wrap64 (x3 - 1)) < (x0.length : Int) then (if (rd x0 x3) = (rd x0 (wrap64 (x3 - 1))) then (impl_TurnsForward.l0 k x0 (wrap64 (x3 + 1))) else ((impl_TurnTrit.f (rd x0 (wrap64 (x3 - 1)))).bind fun t79006 => (some ((rd x0 x3) == t79006)))) else (none)) else (none)) else (none)) else (some false)
def impl_TurnsForward.f (k : Nat) (l0 : List Int) : Option (Bool) := (impl_IsWord.f k l0).bind fun t79001 => (if t79001 = true then (impl_TurnsForward.l0 k l0 1) else (some false))
theorem impl_TurnsForward.mono_l : ∀ k, (∀ y0 y1, LeO (impl_TurnsForward.l0 k y0 y1) (impl_TurnsForward.l0 (k + 1) y0 y1))
  | 0 => fun _ _ r h => by simp [impl_TurnsForward.l0] at h
  | k + 1 => by
    have ih0 := impl_TurnsForward.mono_l k
    · intro y0 y1
      unfold impl_TurnsForward.l0
      repeat' first
      | (with_reducible exact ih0 _ _)
      | (with_reducible exact impl_IsWord.mono _ _)
      | (with_reducible exact LeO.refl _)
      | (with_reducible exact LeO.none _)
      | (with_reducible refine LeO.ite ?_ ?_)
      | (with_reducible refine LeO.bind ?_ (fun _ => ?_))
      | exact ih0 _ _
      | exact impl_IsWord.mono _ _
      | exact LeO.none _
      | refine LeO.ite ?_ ?_
      | refine LeO.bind ?_ (fun _ => ?_)
theorem impl_TurnsForward.mono : ∀ a0 k, LeO (impl_TurnsForward.f k a0) (impl_TurnsForward.f (k + 1) a0) := by
  intro a0 k
  have ih0 := impl_TurnsForward.mono_l k
  unfold impl_TurnsForward.f
  repeat' first
      | (with_reducible exact ih0 _ _)
      | (with_reducible exact impl_IsWord.mono _ _)
      | (with_reducible exact LeO.refl _)
      | (with_reducible exact LeO.none _)
      | (with_reducible refine LeO.ite ?_ ?_)
      | (with_reducible refine LeO.bind ?_ (fun _ => ?_))
      | exact ih0 _ _
      | exact impl_IsWord.mono _ _
      | exact LeO.none _
      | refine LeO.ite ?_ ?_
      | refine LeO.bind ?_ (fun _ => ?_)
set_option maxHeartbeats 8000000 in
set_option maxRecDepth 100000 in
theorem impl_TurnsForward.calls (k : Nat) (A0 : Option Addr) (c0 : Nat) (l0 : List Int) (r : Bool) (w : World) (hr0 : Kd.C (Kd.int .i64) w A0 l0.length l0) (hc0 : l0.length ≤ c0) (h : impl_TurnsForward.f k l0 = some r) :
    Calls Try.prog 78 #[.slice A0 l0.length c0] w fun e w' => e = .returned (.bool r) ∧ Drawn0 w w' := by
  have HR0 := Aside0.mk hr0
  have HC0 := Aside0.mk hc0
  clear hr0 hc0
  have H : ((impl_IsWord.f k l0).bind fun t79001 => (if t79001 = true then (impl_TurnsForward.l0 k l0 1) else (some false))) = some r := h
  clear h
  replace H := Option.bind_eq_some_iff.mp H
  obtain ⟨t79001, A20, H⟩ := H
  replace H : (if t79001 = true then (impl_TurnsForward.l0 k l0 1) else (some false)) = some r := H
  have A2 := Aside0.mk A20
  clear A20
  by_cases c3 : t79001 = true
  · subst c3
    have H1 : (impl_TurnsForward.l0 k l0 1) = some r := by rw [if_pos rfl] at H; exact H
    clear H
    have H := H1
    clear H1
    have H' := Aside0.mk H
    clear H
    go_enter Try.func78, Try.ntmps78
    go_wp2_with (first | (go_at_call 90; (with_reducible refine (impl_IsWord.calls k _ _ l0 true _ ?side1 ?side2 A2.out).mono ?_); (case side1 => repeat (first | exact HR0.out | (with_reducible refine Kd.C_alloc ?_ _) | (with_reducible refine Kd.C_drewN ?_ _) | (with_reducible refine Kd.C_drew ?_))); (case side2 => exact HC0.out); rintro e w' ⟨rfl, ⟨nd, rfl⟩⟩; (try first | exact ⟨rfl, _, World.drewN_drewN _ _ _⟩ | exact ⟨rfl, _, Eq.trans (World.drewN_drewN _ _ _) (congrArg (World.drewN _) (Nat.add_assoc _ _ _))⟩)))
    repeat (go_quiet (first | (go_at_call 90; (with_reducible refine (impl_IsWord.calls k _ _ l0 true _ ?side1 ?side2 A2.out).mono ?_); (case side1 => repeat (first | exact HR0.out | (with_reducible refine Kd.C_alloc ?_ _) | (with_reducible refine Kd.C_drewN ?_ _) | (with_reducible refine Kd.C_drew ?_))); (case side2 => exact HC0.out); rintro e w' ⟨rfl, ⟨nd, rfl⟩⟩; (try first | exact ⟨rfl, _, World.drewN_drewN _ _ _⟩ | exact ⟨rfl, _, Eq.trans (World.drewN_drewN _ _ _) (congrArg (World.drewN _) (Nat.add_assoc _ _ _))⟩))); try go_wp2_with (first | (go_at_call 90; (with_reducible refine (impl_IsWord.calls k _ _ l0 true _ ?side1 ?side2 A2.out).mono ?_); (case side1 => repeat (first | exact HR0.out | (with_reducible refine Kd.C_alloc ?_ _) | (with_reducible refine Kd.C_drewN ?_ _) | (with_reducible refine Kd.C_drew ?_))); (case side2 => exact HC0.out); rintro e w' ⟨rfl, ⟨nd, rfl⟩⟩; (try first | exact ⟨rfl, _, World.drewN_drewN _ _ _⟩ | exact ⟨rfl, _, Eq.trans (World.drewN_drewN _ _ _) (congrArg (World.drewN _) (Nat.add_assoc _ _ _))⟩))))
    go_loopg [3] k (fun kq v3 w' => ∃ (x3_1 : Int), v3 = .int .i64 x3_1 ∧ Aside0 (impl_TurnsForward.l0 kq l0 x3_1 = some r) ∧ Aside0 (kq ≤ k) ∧ Drawn0 w w')
    case atStart => exact ⟨(1), (by first | rfl | (simp; done) | (simp [*]; done)), H', ⟨Nat.le_refl _⟩, by repeat (first | exact Drawn0.refl _ | apply Drawn0.step)⟩
    case round =>
      clear H'
      try clear p2
      try clear c3
      obtain ⟨x3_1, rfl, HA, HK1, ⟨m1, rfl⟩⟩ := hrel
      cases gk with
      | zero => exact absurd HA.out (by simp [impl_TurnsForward.l0])
      | succ k1 =>
        have H := HA.out
        clear HA
        simp only [impl_TurnsForward.l0] at H
        by_cases c4 : x3_1 < (l0.length : Int)
        · rw [if_pos c4] at H
          have c4b0 : decide (x3_1 < (l0.length : Int)) = true := decide_eq_true c4
          clear c4
          by_cases c5 : 0 ≤ x3_1
          · rw [if_pos c5] at H
            have c5b0 : decide (0 ≤ x3_1) = true := decide_eq_true c5
            clear c5
            obtain ⟨ji6, hji6⟩ : ∃ j_ : Int, (wrap64 (x3_1 - 1)) = j_ := ⟨_, rfl⟩
            replace H : (if 0 ≤ (ji6) then (if (ji6) < (l0.length : Int) then (if (rd l0 x3_1) = (rd l0 (ji6)) then (impl_TurnsForward.l0 k1 l0 (wrap64 (x3_1 + 1))) else ((impl_TurnTrit.f (rd l0 (ji6))).bind fun t79006 => (some ((rd l0 x3_1) == t79006)))) else (none)) else (none)) = some r := by first | (rw [hji6] at H; exact H) | (simp only [hji6] at H ⊢; exact H)
            have hji6w : (IntKind.i64.wrap (x3_1 - 1)) = ji6 := (i64_w _).trans hji6
            by_cases c7 : 0 ≤ (ji6)
            · rw [if_pos c7] at H
              have c7b0 : decide (0 ≤ (ji6)) = true := decide_eq_true c7
              clear c7
              by_cases c8 : (ji6) < (l0.length : Int)
              · rw [if_pos c8] at H
                have c8b0 : decide ((ji6) < (l0.length : Int)) = true := decide_eq_true c8
                clear c8
                by_cases c9 : (rd l0 x3_1) = (rd l0 (ji6))
                · rw [if_pos c9] at H
                  have c9b0 : ((rd l0 x3_1) == (rd l0 (ji6))) = true := beq_iff_eq.mpr c9
                  have c9b1 : ((rd l0 x3_1) != (rd l0 (ji6))) = false := bne_eq_false_iff_eq.mpr c9
                  clear c9
                  have H' := Aside0.mk H
                  clear H
                  have p79002 : 0 ≤ (x3_1 : Int) := of_decide_eq_true (by first | (with_reducible assumption) | assumption)
                  have q79002 : x3_1 < (l0.length : Int) := of_decide_eq_true (by first | (with_reducible assumption) | assumption)
                  obtain ⟨ad79002, e79002, hx79002_0⟩ := Kd.at_int HR0.out x3_1 p79002 q79002
                  cases e79002
                  replace p79002 := eq_true p79002
                  replace q79002 := eq_true q79002
                  have p79003 : 0 ≤ ((ji6) : Int) := of_decide_eq_true (by first | (with_reducible assumption) | assumption)
                  have q79003 : (ji6) < (l0.length : Int) := of_decide_eq_true (by first | (with_reducible assumption) | assumption)
                  obtain ⟨ad79003, e79003, hx79003_0⟩ := Kd.at_int HR0.out (ji6) p79003 q79003
                  obtain rfl : ad79002 = ad79003 := (by injection e79003)
                  replace p79003 := eq_true p79003
                  replace q79003 := eq_true q79003
                  go_wp2
                  repeat (go_quiet (fail); try go_wp2)
                  go_roundg k1
                  case measure => have := HK1.out; omega
                  case rel => exact ⟨(wrap64 (x3_1 + 1)), (by first | rfl | (simp; done) | (simp [*]; done)), H', ⟨by have := HK1.out; omega⟩, by repeat (first | exact Drawn0.refl _ | apply Drawn0.step)⟩
                · rw [if_neg c9] at H
                  have c9b0 : ((rd l0 x3_1) == (rd l0 (ji6))) = false := beq_eq_false_iff_ne.mpr c9
                  have c9b1 : ((rd l0 x3_1) != (rd l0 (ji6))) = true := bne_iff_ne.mpr c9
                  replace H := Option.bind_eq_some_iff.mp H
                  obtain ⟨t79006, A100, H⟩ := H
                  replace H : (some ((rd l0 x3_1) == t79006)) = some r := H
                  have A10 := Aside0.mk A100
                  clear A100
                  obtain rfl := Option.some.inj H
                  have p79002 : 0 ≤ (x3_1 : Int) := of_decide_eq_true (by first | (with_reducible assumption) | assumption)
                  have q79002 : x3_1 < (l0.length : Int) := of_decide_eq_true (by first | (with_reducible assumption) | assumption)
                  obtain ⟨ad79002, e79002, hx79002_0⟩ := Kd.at_int HR0.out x3_1 p79002 q79002
                  cases e79002
                  replace p79002 := eq_true p79002
                  replace q79002 := eq_true q79002
                  have p79003 : 0 ≤ ((ji6) : Int) := of_decide_eq_true (by first | (with_reducible assumption) | assumption)
                  have q79003 : (ji6) < (l0.length : Int) := of_decide_eq_true (by first | (with_reducible assumption) | assumption)
                  obtain ⟨ad79003, e79003, hx79003_0⟩ := Kd.at_int HR0.out (ji6) p79003 q79003
                  obtain rfl : ad79002 = ad79003 := (by injection e79003)
                  replace p79003 := eq_true p79003
                  replace q79003 := eq_true q79003
                  have p79004 : 0 ≤ (x3_1 : Int) := of_decide_eq_true (by first | (with_reducible assumption) | assumption)
                  have q79004 : x3_1 < (l0.length : Int) := of_decide_eq_true (by first | (with_reducible assumption) | assumption)
                  obtain ⟨ad79004, e79004, hx79004_0⟩ := Kd.at_int HR0.out x3_1 p79004 q79004
                  obtain rfl : ad79002 = ad79004 := (by injection e79004)
                  replace p79004 := eq_true p79004
                  replace q79004 := eq_true q79004
                  have p79005 : 0 ≤ ((ji6) : Int) := of_decide_eq_true (by first | (with_reducible assumption) | assumption)
                  have q79005 : (ji6) < (l0.length : Int) := of_decide_eq_true (by first | (with_reducible assumption) | assumption)
                  obtain ⟨ad79005, e79005, hx79005_0⟩ := Kd.at_int HR0.out (ji6) p79005 q79005
                  obtain rfl : ad79002 = ad79005 := (by injection e79005)
                  replace p79005 := eq_true p79005
                  replace q79005 := eq_true q79005
                  go_wp2_with (first | (go_at_call 101; (with_reducible refine (impl_TurnTrit.calls (rd l0 (ji6)) t79006 _ A10.out).mono ?_); rintro e w' ⟨rfl, ⟨nd, rfl⟩⟩; (try first | exact ⟨rfl, _, World.drewN_drewN _ _ _⟩ | exact ⟨rfl, _, Eq.trans (World.drewN_drewN _ _ _) (congrArg (World.drewN _) (Nat.add_assoc _ _ _))⟩)))
                  repeat (go_quiet (first | (go_at_call 101; (with_reducible refine (impl_TurnTrit.calls (rd l0 (ji6)) t79006 _ A10.out).mono ?_); rintro e w' ⟨rfl, ⟨nd, rfl⟩⟩; (try first | exact ⟨rfl, _, World.drewN_drewN _ _ _⟩ | exact ⟨rfl, _, Eq.trans (World.drewN_drewN _ _ _) (congrArg (World.drewN _) (Nat.add_assoc _ _ _))⟩))); try go_wp2_with (first | (go_at_call 101; (with_reducible refine (impl_TurnTrit.calls (rd l0 (ji6)) t79006 _ A10.out).mono ?_); rintro e w' ⟨rfl, ⟨nd, rfl⟩⟩; (try first | exact ⟨rfl, _, World.drewN_drewN _ _ _⟩ | exact ⟨rfl, _, Eq.trans (World.drewN_drewN _ _ _) (congrArg (World.drewN _) (Nat.add_assoc _ _ _))⟩))))
                  go_ret
                  exact ⟨by first | rfl | (simp; done) | (simp only [← hji6] <;> (first | rfl | simp)) | (simp [*]; done), by repeat (first | exact Drawn0.refl _ | apply Drawn0.step)⟩
              · rw [if_neg c8] at H
                exact absurd H (by simp)
            · rw [if_neg c7] at H
              exact absurd H (by simp)
          · rw [if_neg c5] at H
            exact absurd H (by simp)
        · rw [if_neg c4] at H
          have c4b0 : decide (x3_1 < (l0.length : Int)) = false := decide_eq_false c4
          clear c4
          obtain rfl := Option.some.inj H
          go_wp2
          repeat (go_quiet (fail); try go_wp2)
          go_ret
          exact ⟨by first | rfl | (simp; done) | (simp [*]; done), by repeat (first | exact Drawn0.refl _ | apply Drawn0.step)⟩
  · replace c3 := Bool.eq_false_iff.mpr c3
    subst c3
    have H1 : (some false) = some r := by rw [if_neg (show ¬ (false = true) by decide)] at H; exact H
    clear H
    have H := H1
    clear H1
    obtain rfl := Option.some.inj H
    go_enter Try.func78, Try.ntmps78
    go_wp2_with (first | (go_at_call 90; (with_reducible refine (impl_IsWord.calls k _ _ l0 false _ ?side1 ?side2 A2.out).mono ?_); (case side1 => repeat (first | exact HR0.out | (with_reducible refine Kd.C_alloc ?_ _) | (with_reducible refine Kd.C_drewN ?_ _) | (with_reducible refine Kd.C_drew ?_))); (case side2 => exact HC0.out); rintro e w' ⟨rfl, ⟨nd, rfl⟩⟩; (try first | exact ⟨rfl, _, World.drewN_drewN _ _ _⟩ | exact ⟨rfl, _, Eq.trans (World.drewN_drewN _ _ _) (congrArg (World.drewN _) (Nat.add_assoc _ _ _))⟩)))
    repeat (go_quiet (first | (go_at_call 90; (with_reducible refine (impl_IsWord.calls k _ _ l0 false _ ?side1 ?side2 A2.out).mono ?_); (case side1 => repeat (first | exact HR0.out | (with_reducible refine Kd.C_alloc ?_ _) | (with_reducible refine Kd.C_drewN ?_ _) | (with_reducible refine Kd.C_drew ?_))); (case side2 => exact HC0.out); rintro e w' ⟨rfl, ⟨nd, rfl⟩⟩; (try first | exact ⟨rfl, _, World.drewN_drewN _ _ _⟩ | exact ⟨rfl, _, Eq.trans (World.drewN_drewN _ _ _) (congrArg (World.drewN _) (Nat.add_assoc _ _ _))⟩))); try go_wp2_with (first | (go_at_call 90; (with_reducible refine (impl_IsWord.calls k _ _ l0 false _ ?side1 ?side2 A2.out).mono ?_); (case side1 => repeat (first | exact HR0.out | (with_reducible refine Kd.C_alloc ?_ _) | (with_reducible refine Kd.C_drewN ?_ _) | (with_reducible refine Kd.C_drew ?_))); (case side2 => exact HC0.out); rintro e w' ⟨rfl, ⟨nd, rfl⟩⟩; (try first | exact ⟨rfl, _, World.drewN_drewN _ _ _⟩ | exact ⟨rfl, _, Eq.trans (World.drewN_drewN _ _ _) (congrArg (World.drewN _) (Nat.add_assoc _ _ _))⟩))))
    go_ret
    exact ⟨by first | rfl | (simp; done) | (simp [*]; done), by repeat (first | exact Drawn0.refl _ | apply Drawn0.step)⟩

end Go.Proofs.Ytgiehdhnhkmjfaa.X
-- Laid by xprint.py (wip/tools): printed contracts, and hand-written ones between them.
namespace Go.Proofs.Ytgiehdhnhkmjfaa.X
open Go.RowKit Go.Proofs.YtgiehdhnhkmjfaaW.PrintWords Go.Proofs.YtgiehdhnhkmjfaaW.PrintLast Go.Proofs.YtgiehdhnhkmjfaaW.PrintMore
attribute [local go_sem] max2_int min2_int max_two min_two max_three min_three max_four min_four   -- for this text's walks alone
set_option linter.unusedVariables false
set_option linter.unusedSimpArgs false

/-! ### slices_IndexFunc_int_int_102: function 102 -/
set_option maxHeartbeats 2000000 in
theorem slices_IndexFunc_int_int_102.calls (g : Nat) (lb : Array Value) (vals : Nat → Value) (p : Nat → Bool) (n c : Nat) (A : Option Addr) (w : World) (hbig : n ≤ 9223372036854775807)
    (hc : ∀ j, j < n → ∃ ad, A = some ad ∧ w.cell? (ad.add j) = some (vals j))
    (eg : ∀ args w, (callFunc g args).run Try.prog w = .ok (.enter g args) w)
    (hp : ∀ j q, j < n → Calls Try.prog g (#[vals j] ++ lb) (w.drewN q) fun e w' => e = .returned (.bool (p j)) ∧ ∃ q', w' = (w.drewN q).drewN q') :
    Calls Try.prog 102 #[.slice A n c, .func (.func g) #[] lb] w fun e w' => e = .returned (.int .i64 (idxN p n)) ∧ ∃ q, w' = w.drewN q := by
  have HC := Aside0.mk hc
  have HP := Aside0.mk hp
  clear hc hp
  go_enter Try.func102, Try.ntmps102
  go_wp2
  go_loopg [5, 8] n (fun gg _ s8 wr => ∃ kk q : Nat, kk ≤ n ∧ n - kk ≤ gg ∧ s8 = .int .i64 kk ∧ wr = w.drewN q ∧ Aside0 (∀ j, j < kk → p j = false))
  case atStart => exact ⟨0, 0, Nat.zero_le _, by omega, rfl, rfl, Aside0.mk (fun j hj => absurd hj (Nat.not_lt_zero _))⟩
  case round =>
    obtain ⟨kk, q, hkk, hg, rfl, rfl, HA⟩ := hrel
    by_cases hlt : kk < n
    · have hltz : (kk : Int) < (n : Int) := by omega
      obtain ⟨ad, rfl, hcell⟩ := HC.out kk hlt
      have hcall := fun q => HP.out kk q hlt
      generalize hy : vals kk = y at hcell hcall
      clear hy
      cases hq : p kk with
      | true =>
        rw [hq] at hcall
        have HQ := Aside0.mk hq
        clear hq
        go_wp2_with (go_at_fn g; refine (hcall _).mono ?_; rintro e w' ⟨rfl, q', rfl⟩)
        go_ret
        exact ⟨by rw [idxN_hit hlt HQ.out HA.out]; rfl, _, rfl⟩
      | false =>
        rw [hq] at hcall
        have HQ := Aside0.mk hq
        clear hq
        go_wp2_with (go_at_fn g; refine (hcall _).mono ?_; rintro e w' ⟨rfl, q', rfl⟩)
        go_roundg (n - (kk + 1))
        case measure => omega
        case rel =>
          refine ⟨kk + 1, _, by omega, by omega, by go_num, rfl, Aside0.mk fun j hj => ?_⟩
          by_cases e : j = kk
          · subst e
            exact HQ.out
          · exact HA.out j (by omega)
    · have hltz : ¬ (kk : Int) < (n : Int) := by omega
      have : kk = n := by omega
      subst this
      go_wp2
      go_ret
      exact ⟨by rw [idxN_miss HA.out]; rfl, q, rfl⟩

end Go.Proofs.Ytgiehdhnhkmjfaa.X
-- Laid by xprint.py (wip/tools): printed contracts, and hand-written ones between them.
namespace Go.Proofs.Ytgiehdhnhkmjfaa.X
open Go.RowKit Go.Proofs.YtgiehdhnhkmjfaaW.PrintWords Go.Proofs.YtgiehdhnhkmjfaaW.PrintLast Go.Proofs.YtgiehdhnhkmjfaaW.PrintMore
attribute [local go_sem] max2_int min2_int max_two min_two max_three min_three max_four min_four   -- for this text's walks alone
set_option linter.unusedVariables false
set_option linter.unusedSimpArgs false

/-! ### slices_ContainsFunc_int_int_79: function 79 -/
set_option maxHeartbeats 2000000 in
theorem slices_ContainsFunc_int_int_79.gives (g : Nat) (lb : Array Value) (vals : Nat → Value) (p : Nat → Bool) (n c : Nat) (A : Option Addr) (w : World) (hbig : n ≤ 9223372036854775807)
    (hc : ∀ j, j < n → ∃ ad, A = some ad ∧ w.cell? (ad.add j) = some (vals j))
    (eg : ∀ args w, (callFunc g args).run Try.prog w = .ok (.enter g args) w)
    (hp : ∀ j q, j < n → Calls Try.prog g (#[vals j] ++ lb) (w.drewN q) fun e w' => e = .returned (.bool (p j)) ∧ ∃ q', w' = (w.drewN q).drewN q') :
    Calls Try.prog 79 #[.slice A n c, .func (.func g) #[] lb] w fun e w' => e = .returned (.bool ((List.range n).any p)) ∧ ∃ q, w' = w.drewN q := by
  have hcall := slices_IndexFunc_int_int_102.calls g lb vals p n c A w hbig hc eg hp
  clear hc hp
  rw [← idxN_any]
  go_enter Try.func79, Try.ntmps79
  go_wp2_with (go_at_call 102; refine hcall.mono ?_; rintro e w' ⟨rfl, q, rfl⟩)
  go_ret
  exact ⟨rfl, q, rfl⟩

end Go.Proofs.Ytgiehdhnhkmjfaa.X
-- Laid by xprint.py (wip/tools): printed contracts, and hand-written ones between them.
namespace Go.Proofs.Ytgiehdhnhkmjfaa.X
open Go.RowKit Go.Proofs.YtgiehdhnhkmjfaaW.PrintWords Go.Proofs.YtgiehdhnhkmjfaaW.PrintLast Go.Proofs.YtgiehdhnhkmjfaaW.PrintMore
attribute [local go_sem] max2_int min2_int max_two min_two max_three min_three max_four min_four   -- for this text's walks alone
set_option linter.unusedVariables false
set_option linter.unusedSimpArgs false

/-! ### slices_Equal_int_int: function 81 -/
def slices_Equal_int_int.l0 : Nat → List Int → List Int → Int → Int → Option (Bool)
  | 0, _, _, _, _ => none
  | k + 1, x0, x1, x12, x13 => if x13 < x12 then (if 0 ≤ x13 then (if x13 < (x0.length : Int) then (if x13 < (x1.length : Int) then (if (rd x0 x13) = (rd x1 x13) then (slices_Equal_int_int.l0 k x0 x1 x12 (wrap64 (x13 + 1))) else (some false)) else (none)) else (none)) else (none)) else (some true)
def slices_Equal_int_int.f (k : Nat) (l0 : List Int) (l1 : List Int) : Option (Bool) := if (l0.length : Int) = (l1.length : Int) then (slices_Equal_int_int.l0 k l0 l1 (l0.length : Int) 0) else (some false)
theorem slices_Equal_int_int.mono_l : ∀ k, (∀ y0 y1 y2 y3, LeO (slices_Equal_int_int.l0 k y0 y1 y2 y3) (slices_Equal_int_int.l0 (k + 1) y0 y1 y2 y3))
  | 0 => fun _ _ _ _ r h => by simp [slices_Equal_int_int.l0] at h
  | k + 1 => by
    have ih0 := slices_Equal_int_int.mono_l k
    · intro y0 y1 y2 y3
      unfold slices_Equal_int_int.l0
      repeat' first
      | (with_reducible exact ih0 _ _ _ _)
      | (with_reducible exact LeO.refl _)
      | (with_reducible exact LeO.none _)
      | (with_reducible refine LeO.ite ?_ ?_)
      | (with_reducible refine LeO.bind ?_ (fun _ => ?_))
      | exact ih0 _ _ _ _
      | exact LeO.none _
      | refine LeO.ite ?_ ?_
      | refine LeO.bind ?_ (fun _ => ?_)
theorem slices_Equal_int_int.mono : ∀ a0 a1 k, LeO (slices_Equal_int_int.f k a0 a1) (slices_Equal_int_int.f (k + 1) a0 a1) := by
  intro a0 a1 k
  have ih0 := slices_Equal_int_int.mono_l k
  unfold slices_Equal_int_int.f
  repeat' first
      | (with_reducible exact ih0 _ _ _ _)
      | (with_reducible exact LeO.refl _)
      | (with_reducible exact LeO.none _)
      | (with_reducible refine LeO.ite ?_ ?_)
      | (with_reducible refine LeO.bind ?_ (fun _ => ?_))
      | exact ih0 _ _ _ _
      | exact LeO.none _
      | refine LeO.ite ?_ ?_
      | refine LeO.bind ?_ (fun _ => ?_)
set_option maxHeartbeats 8000000 in
set_option maxRecDepth 100000 in
theorem slices_Equal_int_int.calls (k : Nat) (A0 : Option Addr) (c0 : Nat) (l0 : List Int) (A1 : Option Addr) (c1 : Nat) (l1 : List Int) (r : Bool) (w : World) (hr0 : Kd.C (Kd.int .i64) w A0 l0.length l0) (hc0 : l0.length ≤ c0) (hr1 : Kd.C (Kd.int .i64) w A1 l1.length l1) (hc1 : l1.length ≤ c1) (h : slices_Equal_int_int.f k l0 l1 = some r) :
    Calls Try.prog 81 #[.slice A0 l0.length c0, .slice A1 l1.length c1] w fun e w' => e = .returned (.bool r) ∧ Drawn0 w w' := by
  have HR0 := Aside0.mk hr0
  have HC0 := Aside0.mk hc0
  clear hr0 hc0
  have HR1 := Aside0.mk hr1
  have HC1 := Aside0.mk hc1
  clear hr1 hc1
  have H : (if (l0.length : Int) = (l1.length : Int) then (slices_Equal_int_int.l0 k l0 l1 (l0.length : Int) 0) else (some false)) = some r := h
  clear h
  by_cases c3 : (l0.length : Int) = (l1.length : Int)
  · rw [if_pos c3] at H
    have c3b0 : ((l0.length : Int) == (l1.length : Int)) = true := beq_iff_eq.mpr c3
    have c3b1 : ((l0.length : Int) != (l1.length : Int)) = false := bne_eq_false_iff_eq.mpr c3
    have c3b2 : (l0.length == l1.length) = true := by first | simpa using c3 | (simp at c3 ⊢; omega)
    clear c3
    have H' := Aside0.mk H
    clear H
    go_enter Try.func81, Try.ntmps81
    go_wp2
    repeat (go_quiet (fail); try go_wp2)
    go_loopg [13] k (fun kq v13 w' => ∃ (x13_1 : Int), v13 = .int .i64 x13_1 ∧ Aside0 (slices_Equal_int_int.l0 kq l0 l1 (l0.length : Int) x13_1 = some r) ∧ Aside0 (kq ≤ k) ∧ Drawn0 w w')
    case atStart => exact ⟨(0), (by first | rfl | (simp; done) | (simp [*]; done)), H', ⟨Nat.le_refl _⟩, by repeat (first | exact Drawn0.refl _ | apply Drawn0.step)⟩
    case round =>
      clear H'
      try clear c1
      try clear p2
      try clear c3
      try clear c3b0
      try clear c3b1
      try clear c3b2
      obtain ⟨x13_1, rfl, HA, HK1, ⟨m1, rfl⟩⟩ := hrel
      cases gk with
      | zero => exact absurd HA.out (by simp [slices_Equal_int_int.l0])
      | succ k1 =>
        have H := HA.out
        clear HA
        simp only [slices_Equal_int_int.l0] at H
        by_cases c4 : x13_1 < (l0.length : Int)
        · rw [if_pos c4] at H
          have c4b0 : decide (x13_1 < (l0.length : Int)) = true := decide_eq_true c4
          clear c4
          by_cases c5 : 0 ≤ x13_1
          · rw [if_pos c5] at H
            have c5b0 : decide (0 ≤ x13_1) = true := decide_eq_true c5
            clear c5
            by_cases c6 : x13_1 < (l0.length : Int)
            · rw [if_pos c6] at H
              have c6b0 : decide (x13_1 < (l0.length : Int)) = true := decide_eq_true c6
              clear c6
              by_cases c7 : x13_1 < (l1.length : Int)
              · rw [if_pos c7] at H
                have c7b0 : decide (x13_1 < (l1.length : Int)) = true := decide_eq_true c7
                clear c7
                by_cases c8 : (rd l0 x13_1) = (rd l1 x13_1)
                · rw [if_pos c8] at H
                  have c8b0 : ((rd l0 x13_1) == (rd l1 x13_1)) = true := beq_iff_eq.mpr c8
                  have c8b1 : ((rd l0 x13_1) != (rd l1 x13_1)) = false := bne_eq_false_iff_eq.mpr c8
                  clear c8
                  have H' := Aside0.mk H
                  clear H
                  have p82001 : 0 ≤ (x13_1 : Int) := of_decide_eq_true (by first | (with_reducible assumption) | assumption)
                  have q82001 : x13_1 < (l0.length : Int) := of_decide_eq_true (by first | (with_reducible assumption) | assumption)
                  obtain ⟨ad82001, e82001, hx82001_0⟩ := Kd.at_int HR0.out x13_1 p82001 q82001
                  cases e82001
                  replace p82001 := eq_true p82001
                  replace q82001 := eq_true q82001
                  have p82002 : 0 ≤ (x13_1 : Int) := of_decide_eq_true (by first | (with_reducible assumption) | assumption)
                  have q82002 : x13_1 < (l1.length : Int) := of_decide_eq_true (by first | (with_reducible assumption) | assumption)
                  obtain ⟨ad82002, e82002, hx82002_0⟩ := Kd.at_int HR1.out x13_1 p82002 q82002
                  cases e82002
                  replace p82002 := eq_true p82002
                  replace q82002 := eq_true q82002
                  go_wp2
                  repeat (go_quiet (fail); try go_wp2)
                  go_roundg k1
                  case measure => have := HK1.out; omega
                  case rel => exact ⟨(wrap64 (x13_1 + 1)), (by first | rfl | (simp; done) | (simp [*]; done)), H', ⟨by have := HK1.out; omega⟩, by repeat (first | exact Drawn0.refl _ | apply Drawn0.step)⟩
                · rw [if_neg c8] at H
                  have c8b0 : ((rd l0 x13_1) == (rd l1 x13_1)) = false := beq_eq_false_iff_ne.mpr c8
                  have c8b1 : ((rd l0 x13_1) != (rd l1 x13_1)) = true := bne_iff_ne.mpr c8
                  obtain rfl := Option.some.inj H
                  have p82001 : 0 ≤ (x13_1 : Int) := of_decide_eq_true (by first | (with_reducible assumption) | assumption)
                  have q82001 : x13_1 < (l0.length : Int) := of_decide_eq_true (by first | (with_reducible assumption) | assumption)
                  obtain ⟨ad82001, e82001, hx82001_0⟩ := Kd.at_int HR0.out x13_1 p82001 q82001
                  cases e82001
                  replace p82001 := eq_true p82001
                  replace q82001 := eq_true q82001
                  have p82002 : 0 ≤ (x13_1 : Int) := of_decide_eq_true (by first | (with_reducible assumption) | assumption)
                  have q82002 : x13_1 < (l1.length : Int) := of_decide_eq_true (by first | (with_reducible assumption) | assumption)
                  obtain ⟨ad82002, e82002, hx82002_0⟩ := Kd.at_int HR1.out x13_1 p82002 q82002
                  cases e82002
                  replace p82002 := eq_true p82002
                  replace q82002 := eq_true q82002
                  go_wp2
                  repeat (go_quiet (fail); try go_wp2)
                  go_ret
                  exact ⟨by first | rfl | (simp; done) | (simp [*]; done), by repeat (first | exact Drawn0.refl _ | apply Drawn0.step)⟩
              · rw [if_neg c7] at H
                exact absurd H (by simp)
            · rw [if_neg c6] at H
              exact absurd H (by simp)
          · rw [if_neg c5] at H
            exact absurd H (by simp)
        · rw [if_neg c4] at H
          have c4b0 : decide (x13_1 < (l0.length : Int)) = false := decide_eq_false c4
          clear c4
          obtain rfl := Option.some.inj H
          go_wp2
          repeat (go_quiet (fail); try go_wp2)
          go_ret
          exact ⟨by first | rfl | (simp; done) | (simp [*]; done), by repeat (first | exact Drawn0.refl _ | apply Drawn0.step)⟩
  · rw [if_neg c3] at H
    have c3b0 : ((l0.length : Int) == (l1.length : Int)) = false := beq_eq_false_iff_ne.mpr c3
    have c3b1 : ((l0.length : Int) != (l1.length : Int)) = true := bne_iff_ne.mpr c3
    have c3b2 : (l0.length == l1.length) = false := by first | simpa using c3 | (simp at c3 ⊢; omega)
    obtain rfl := Option.some.inj H
    go_enter Try.func81, Try.ntmps81
    go_wp2
    repeat (go_quiet (fail); try go_wp2)
    go_ret
    exact ⟨by first | rfl | (simp; done) | (simp [*]; done), by repeat (first | exact Drawn0.refl _ | apply Drawn0.step)⟩

end Go.Proofs.Ytgiehdhnhkmjfaa.X
-- Laid by xprint.py (wip/tools): printed contracts, and hand-written ones between them.
namespace Go.Proofs.Ytgiehdhnhkmjfaa.X
open Go.RowKit Go.Proofs.YtgiehdhnhkmjfaaW.PrintWords Go.Proofs.YtgiehdhnhkmjfaaW.PrintLast Go.Proofs.YtgiehdhnhkmjfaaW.PrintMore
attribute [local go_sem] max2_int min2_int max_two min_two max_three min_three max_four min_four   -- for this text's walks alone
set_option linter.unusedVariables false
set_option linter.unusedSimpArgs false

/-! ### impl_turned: function 82 -/
def impl_turned.l0 : Nat → List Int → List Int → Int → Int → Option (List Int)
  | 0, _, _, _, _ => none
  | k + 1, x3, x7, x8, x9 => if x9 < x8 then (if 0 ≤ x9 then (if x9 < (x7.length : Int) then ((impl_TurnTrit.f (rd x7 x9)).bind fun t83005 => (if x3.length < 17592186044416 then (impl_turned.l0 k (x3 ++ [t83005]) x7 x8 (wrap64 (x9 + 1))) else (none))) else (none)) else (none)) else (some x3)
def impl_turned.f (k : Nat) (l0 : List Int) : Option (List Int) := impl_turned.l0 k (([] : List Int)) l0 (l0.length : Int) 0
theorem impl_turned.mono_l : ∀ k, (∀ y0 y1 y2 y3, LeO (impl_turned.l0 k y0 y1 y2 y3) (impl_turned.l0 (k + 1) y0 y1 y2 y3))
  | 0 => fun _ _ _ _ r h => by simp [impl_turned.l0] at h
  | k + 1 => by
    have ih0 := impl_turned.mono_l k
    · intro y0 y1 y2 y3
      unfold impl_turned.l0
      repeat' first
      | (with_reducible exact ih0 _ _ _ _)
      | (with_reducible exact LeO.refl _)
      | (with_reducible exact LeO.none _)
      | (with_reducible refine LeO.ite ?_ ?_)
      | (with_reducible refine LeO.bind ?_ (fun _ => ?_))
      | exact ih0 _ _ _ _
      | exact LeO.none _
      | refine LeO.ite ?_ ?_
      | refine LeO.bind ?_ (fun _ => ?_)
theorem impl_turned.mono : ∀ a0 k, LeO (impl_turned.f k a0) (impl_turned.f (k + 1) a0) := by
  intro a0 k
  have ih0 := impl_turned.mono_l k
  unfold impl_turned.f
  repeat' first
      | (with_reducible exact ih0 _ _ _ _)
      | (with_reducible exact LeO.refl _)
      | (with_reducible exact LeO.none _)
      | (with_reducible refine LeO.ite ?_ ?_)
      | (with_reducible refine LeO.bind ?_ (fun _ => ?_))
      | exact ih0 _ _ _ _
      | exact LeO.none _
      | refine LeO.ite ?_ ?_
      | refine LeO.bind ?_ (fun _ => ?_)
set_option maxHeartbeats 8000000 in
set_option maxRecDepth 100000 in
theorem impl_turned.calls (k : Nat) (A0 : Option Addr) (c0 : Nat) (l0 : List Int) (r : List Int) (w : World) (hr0 : Kd.C (Kd.int .i64) w A0 l0.length l0) (hc0 : l0.length ≤ c0) (h : impl_turned.f k l0 = some r) :
    Calls Try.prog 82 #[.slice A0 l0.length c0] w fun e w' => ∃ v0_ : Value, e = .returned (v0_) ∧ Kd.R (Kd.int .i64) 3 w' w.heap.size (fun _ => True) v0_ r ∧ Below w.heap.size w w' := by
  have HR0 := Aside0.mk hr0
  have HC0 := Aside0.mk hc0
  clear hr0 hc0
  have HB := Aside0.mk (Below.refl w.heap.size w)
  have H : (impl_turned.l0 k (([] : List Int)) l0 (l0.length : Int) 0) = some r := h
  clear h
  obtain ⟨y83001, hy83001⟩ : ∃ y_ : List Int, y_ = (([] : List Int)) := ⟨_, rfl⟩
  replace H : (impl_turned.l0 k y83001 l0 (l0.length : Int) 0) = some r := by first | (rw [hy83001]; with_reducible exact H) | (have H2_ := (Option.bind_some _ _).symm.trans H; rw [hy83001]; with_reducible exact H2_) | (have H2_ := (Option.bind_some _ _).symm.trans H; with_reducible exact H2_) | with_reducible exact H | (rw [hy83001]; exact H) | exact H
  have Ny83001 := Aside0.mk hy83001
  clear hy83001
  have H' := Aside0.mk H
  clear H
  go_enter Try.func82, Try.ntmps82
  go_wp2_with (first | ((with_reducible refine gate_dst (N := 6) rfl ?_); refine Kd.R_lit (Kd.int .i64) _ 3 ?hg (N := 6) ?hd (xs := ([] : List Int)) (inner := []) (ok := fun _ => True) (okp := fun _ => True) ?hr ?hp (fun _ hk => hk) trivial (Below.refl _ _) (Nat.le_refl _) (by simp) ?_; (case hd => rfl); (case hg => rfl); (case hr => first | (go_simp; done) | (go_simp; rfl)); (case hp => exact (Reps.none _ _)); intro v83002 w2 ho3 hb hg_ hnew_; clear hg_ hnew_; (first | rw [← Ny83001.out] at ho3 | (simp only [Int.reduceToNat] at ho3; rw [← Ny83001.out] at ho3)); have n0_ := Aside0.mk (Kd.R_lower ho3 (below_size (by repeat (first | (with_reducible first | exact HB.out | apply below_alloc | apply pw_below_drewN | apply below_drew1) | exact HB.out)))); have n1_ := Aside0.mk (below_step (by repeat (first | (with_reducible first | exact HB.out | apply below_alloc | apply pw_below_drewN | apply below_drew1) | exact HB.out)) hb); clear HB; have HO83003 := n0_; have HB := n1_; clear n0_ n1_; clear hb ho3))
  go_loopg [3, 9] k (fun kq v3 v9 w' => ∃ (x3_1 : List Int) (x9_1 : Int), v9 = .int .i64 x9_1 ∧ Aside0 (impl_turned.l0 kq x3_1 l0 (l0.length : Int) x9_1 = some r) ∧ Aside0 (kq ≤ k) ∧ Aside0 (Kd.R (Kd.int .i64) 3 w' w.heap.size (fun _ => True) v3 x3_1) ∧ Aside0 (Below w.heap.size w w'))
  case atStart => exact ⟨(y83001), (0), (by first | rfl | (simp; done) | (simp [*]; done)), H', ⟨Nat.le_refl _⟩, ⟨by (with_reducible repeat (first | apply Kd.R_alloc | apply Kd.R_drewN | apply Kd.R_drew)); exact HO83003.out⟩, ⟨by repeat (first | (with_reducible first | exact HB.out | apply below_alloc | apply pw_below_drewN | apply below_drew1) | exact HB.out)⟩⟩
  case round =>
    clear H'
    try clear p2
    obtain ⟨x3_1, x9_1, rfl, HA, HK1, HO_3, HB⟩ := hrel
    cases gk with
    | zero => exact absurd HA.out (by simp [impl_turned.l0])
    | succ k1 =>
      have H := HA.out
      clear HA
      simp only [impl_turned.l0] at H
      by_cases c4 : x9_1 < (l0.length : Int)
      · rw [if_pos c4] at H
        have c4b0 : decide (x9_1 < (l0.length : Int)) = true := decide_eq_true c4
        clear c4
        by_cases c5 : 0 ≤ x9_1
        · rw [if_pos c5] at H
          have c5b0 : decide (0 ≤ x9_1) = true := decide_eq_true c5
          clear c5
          by_cases c6 : x9_1 < (l0.length : Int)
          · rw [if_pos c6] at H
            have c6b0 : decide (x9_1 < (l0.length : Int)) = true := decide_eq_true c6
            clear c6
            replace H := Option.bind_eq_some_iff.mp H
            obtain ⟨t83005, A70, H⟩ := H
            replace H : (if x3_1.length < 17592186044416 then (impl_turned.l0 k1 (x3_1 ++ [t83005]) l0 (l0.length : Int) (wrap64 (x9_1 + 1))) else (none)) = some r := H
            have A7 := Aside0.mk A70
            clear A70
            by_cases c8 : x3_1.length < 17592186044416
            · rw [if_pos c8] at H
              have LMc8 := Aside0.mk c8
              clear c8
              obtain ⟨y83006, hy83006⟩ : ∃ y_ : List Int, y_ = (x3_1 ++ [t83005]) := ⟨_, rfl⟩
              replace H : (impl_turned.l0 k1 y83006 l0 (l0.length : Int) (wrap64 (x9_1 + 1))) = some r := by first | (rw [hy83006]; with_reducible exact H) | (have H2_ := (Option.bind_some _ _).symm.trans H; rw [hy83006]; with_reducible exact H2_) | (have H2_ := (Option.bind_some _ _).symm.trans H; with_reducible exact H2_) | with_reducible exact H | (rw [hy83006]; exact H) | exact H
              have Ny83006 := Aside0.mk hy83006
              clear hy83006
              have H' := Aside0.mk H
              clear H
              have p83004 : 0 ≤ (x9_1 : Int) := of_decide_eq_true (by first | (with_reducible assumption) | assumption)
              have q83004 : x9_1 < (l0.length : Int) := of_decide_eq_true (by first | (with_reducible assumption) | assumption)
              obtain ⟨ad83004, e83004, hx83004_0⟩ := Kd.at_int HR0.out x9_1 p83004 q83004
              cases e83004
              replace hx83004_0 := (HB.out.cell (World.block_lt_of_cell? w _ hx83004_0)).trans hx83004_0
              replace p83004 := eq_true p83004
              replace q83004 := eq_true q83004
              go_wp2_with (first | ((with_reducible refine gate_callee (f := 101) rfl ?_); refine goesL_ (some 15) rfl rfl Try.func101 (by kernel_rfl) rfl #[.int .i64 (rd l0 x9_1)] rfl (by (try simp only [List.map_toArray, List.map_cons, List.map_nil]); first | done | rfl | (simp only [List.length_drop, List.length_take]; rfl)) ?_; (with_reducible refine (impl_TurnTrit.calls (rd l0 x9_1) t83005 _ A7.out).mono ?_); rintro e w' ⟨rfl, ⟨nd, rfl⟩⟩; refine ⟨_, rfl, ?_⟩) | ((with_reducible refine gate_builtin (b := .append) (xs := #[.tmp 13, .tmp 16]) rfl ?_); at_builtin; refine Kd.R_append (Kd.int .i64) (w0 := w) w.heap.size rfl (.tmp 13) (.tmp 16) 47 3 (.int .i64 0) 8 rfl Try.underlying47 info3 rfl (by decide) (by omega) u3 x3_1 t83005 [.int .i64 t83005] (fun _ => True) (fun _ => False) rfl rfl ?aP (fun _ hk => hk.elim) ?aF ?aO ?aB ?aS ?aL ?_; (case aP => exact rfl); (case aB => exact (by repeat (first | (with_reducible first | exact HB.out | apply below_alloc | apply pw_below_drewN | apply below_drew1) | exact HB.out))); (case aF => exact (fun _ _ => trivial)); (case aO => exact (by (with_reducible repeat (first | apply Kd.R_alloc | apply Kd.R_drewN | apply Kd.R_drew)); exact HO_3.out)); (case aS => exact (below_size (by repeat (first | (with_reducible first | exact HB.out | apply below_alloc | apply pw_below_drewN | apply below_drew1) | exact HB.out)))); (case aL => have := LMc8.out; omega); intro v83007 w9 ho hb hg hat; rw [← Ny83006.out] at ho; have n0_ := Aside0.mk (hb); have n1_ := Aside0.mk (ho); clear HB; clear HO_3; have HB := n0_; have HO83008 := n1_; clear n0_ n1_; clear ho hb hg hat))
              go_roundg k1
              case measure => have := HK1.out; omega
              case rel => exact ⟨(y83006), (wrap64 (x9_1 + 1)), (by first | rfl | (simp; done) | (simp [*]; done)), H', ⟨by have := HK1.out; omega⟩, ⟨by (with_reducible repeat (first | apply Kd.R_alloc | apply Kd.R_drewN | apply Kd.R_drew)); exact HO83008.out⟩, ⟨by repeat (first | (with_reducible first | exact HB.out | apply below_alloc | apply pw_below_drewN | apply below_drew1) | exact HB.out)⟩⟩
            · rw [if_neg c8] at H
              exact absurd H (by simp)
          · rw [if_neg c6] at H
            exact absurd H (by simp)
        · rw [if_neg c5] at H
          exact absurd H (by simp)
      · rw [if_neg c4] at H
        have c4b0 : decide (x9_1 < (l0.length : Int)) = false := decide_eq_false c4
        clear c4
        obtain rfl := Option.some.inj H
        go_wp2
        go_ret
        exact ⟨_, by first | rfl | (simp [errW_none, errW_some] <;> rfl) | (simp [*, errW_none, errW_some] <;> rfl), by (with_reducible repeat (first | apply Kd.R_alloc | apply Kd.R_drewN | apply Kd.R_drew)); exact HO_3.out, by repeat (first | (with_reducible first | exact HB.out | apply below_alloc | apply pw_below_drewN | apply below_drew1) | exact HB.out)⟩

end Go.Proofs.Ytgiehdhnhkmjfaa.X
-- Laid by xprint.py (wip/tools): printed contracts, and hand-written ones between them.
namespace Go.Proofs.Ytgiehdhnhkmjfaa.X
open Go.RowKit Go.Proofs.YtgiehdhnhkmjfaaW.PrintWords Go.Proofs.YtgiehdhnhkmjfaaW.PrintLast Go.Proofs.YtgiehdhnhkmjfaaW.PrintMore
attribute [local go_sem] max2_int min2_int max_two min_two max_three min_three max_four min_four   -- for this text's walks alone
set_option linter.unusedVariables false
set_option linter.unusedSimpArgs false

/-! ### impl_CoinWords: function 33 -/
theorem equal_l (xs ys : List Int) (hl : xs.length = ys.length) (hx : xs.length ≤ 9000000000000000000) (d : Nat) : ∀ (k i : Nat), i ≤ xs.length → xs.length - i = d → d < k → slices_Equal_int_int.l0 k xs ys (xs.length : Int) (i : Int) = some (decide (xs.drop i = ys.drop i)) := by
  induction d with
  | zero =>
    intro k i h1 h2 hk
    obtain ⟨k, rfl⟩ : ∃ m, k = m + 1 := ⟨k - 1, by omega⟩
    simp only [slices_Equal_int_int.l0]
    rw [if_neg (by omega), List.drop_of_length_le (by omega), List.drop_of_length_le (by omega), decide_eq_true rfl]
  | succ d ih =>
    intro k i h1 h2 hk
    obtain ⟨k, rfl⟩ : ∃ m, k = m + 1 := ⟨k - 1, by omega⟩
    have hi : i < xs.length := by omega
    have hi2 : i < ys.length := by omega
    have e1 : rd xs (i : Int) = xs[i] := by simp [rd, List.getElem?_eq_getElem hi]
    have e2 : rd ys (i : Int) = ys[i] := by simp [rd, List.getElem?_eq_getElem hi2]
    simp only [slices_Equal_int_int.l0]
    rw [if_pos (by omega), if_pos (by omega), if_pos (by omega), if_pos (by omega), e1, e2, List.drop_eq_getElem_cons hi, List.drop_eq_getElem_cons hi2]
    by_cases c : xs[i] = ys[i]
    · rw [if_pos c, show wrap64 ((i : Int) + 1) = ((i + 1 : Nat) : Int) by unfold wrap64; omega, ih k (i + 1) (by omega) (by omega) (by omega)]
      exact congrArg some (decide_eq_decide.2 ⟨fun h => by rw [c, h], fun h => (List.cons.inj h).2⟩)
    · rw [if_neg c, decide_eq_false (fun h => c (List.cons.inj h).1)]
theorem equal_tells (xs ys : List Int) (hx : xs.length ≤ 9000000000000000000) (k : Nat) (hk : xs.length < k) : slices_Equal_int_int.f k xs ys = some (decide (xs = ys)) := by
  unfold slices_Equal_int_int.f
  by_cases h : xs.length = ys.length
  · rw [if_pos (by omega)]
    have := equal_l xs ys h hx xs.length k 0 (Nat.zero_le _) rfl hk
    rw [List.drop_zero, List.drop_zero] at this
    exact this
  · rw [if_neg (by omega), decide_eq_false (fun e => h (by rw [e]))]
theorem impl_CoinWords_1.calls (B : Nat) (A0 : Option Addr) (c0 : Nat) (l0 : List Int) (A1 : Option Addr) (c1 : Nat) (y : List Int) (w : World) (hr0 : Kd.C (Kd.int .i64) w A0 l0.length l0) (hc0 : l0.length ≤ c0)
    (hr1 : Kd.C (Kd.int .i64) w A1 y.length y) (hc1 : y.length ≤ c1) (hy : y.length ≤ 1000000) (hB : w.cell? ⟨B, 0, none⟩ = some (.slice A0 l0.length c0)) :
    Calls Try.prog 80 #[.slice A1 y.length c1, .pointer (some ⟨B, 0, none⟩)] w fun e w' => e = .returned (.bool (decide (y = l0))) ∧ ∃ q, w' = w.drewN q := by
  have hcall := slices_Equal_int_int.calls (y.length + 1) A1 c1 y A0 c0 l0 (decide (y = l0)) w hr1 hc1 hr0 hc0 (equal_tells y l0 (by omega) _ (by omega))
  obtain ⟨b, hb⟩ : ∃ b, decide (y = l0) = b := ⟨_, rfl⟩
  rw [hb] at hcall ⊢
  clear hb hr0 hr1
  go_enter Try.func80, Try.ntmps80
  go_wp2_with (go_at_call 81; refine hcall.mono ?_; rintro e w' ⟨rfl, ⟨q, rfl⟩⟩)
  go_ret
  exact ⟨rfl, _, rfl⟩
theorem coin_h1 {e : Nat} {W0 w2 w3 w4 : World} {base : Nat} {ok : Nat → Prop} {x : Value} {l : List Int} {o : Obj} (h : Kd.R (Kd.int .i64) e W0 base ok x l) (h2 : Below W0.heap.size W0 w2) (h3 : Below w2.heap.size w2 w3) (h4 : Below w3.heap.size w3 w4) : (Kd.slice e (Kd.int .i64)).M (w4.alloc o) base ok l [x] :=
  ⟨x, rfl, Kd.R_alloc (Kd.R_below (Kd.R_below (Kd.R_below h h2) h3) h4) o⟩
theorem coin_h2 {e : Nat} {w W0 w2 w3 w4 : World} {x : Value} {l : List Int} {o : Obj} (hb : Below w.heap.size w W0) (h : Kd.R (Kd.int .i64) e w2 W0.heap.size (fun _ => True) x l) (h3 : Below w2.heap.size w2 w3) (h4 : Below w3.heap.size w3 w4) : (Kd.slice e (Kd.int .i64)).M (w4.alloc o) w.heap.size (fun k_ => W0.heap.size ≤ k_ ∧ k_ < w2.heap.size) l [x] :=
  ⟨x, rfl, Kd.R_alloc (Kd.R_below (Kd.R_below (Kd.R_lower (Kd.R_mono (Kd.R_bound h) (fun k_ hk => ⟨hk.2.1, hk.2.2.1⟩)) hb.size) h3) h4) o⟩
theorem coin_h3 {e : Nat} {w w3 w4 : World} {x : Value} {l : List Int} {o : Obj} (hb : Below w.heap.size w w3) (h : Kd.R (Kd.int .i64) e w4 w3.heap.size (fun _ => True) x l) : (Kd.slice e (Kd.int .i64)).M (w4.alloc o) w.heap.size (fun k_ => w3.heap.size ≤ k_ ∧ k_ < w4.heap.size) l [x] :=
  ⟨x, rfl, Kd.R_alloc (Kd.R_lower (Kd.R_mono (Kd.R_bound h) (fun k_ hk => ⟨hk.2.1, hk.2.2.1⟩)) hb.size) o⟩
theorem coin_k {α : Type} {d : Kd α} {e : Nat} {W0 : World} {base N : Nat} {x : Value} {xs : List α} (h : Kd.S d e W0 base (fun k_ => True ∧ k_ < N) x xs) {k : Nat} (hk : N ≤ k) : some k ≠ x.ownBlock := fun e => by
  have := ((Kd.S_R h).1 k e.symm).2
  omega
theorem coin_S {α : Type} {d : Kd α} {e : Nat} {W0 w2 w3 w4 : World} {base N : Nat} {ok1 ok2 ok3 : Nat → Prop} {x : Value} {xs : List α} {o : Obj} (h : Kd.S d e W0 base (fun k_ => True ∧ k_ < N) x xs) (h2 : Below W0.heap.size W0 w2) (h3 : Below w2.heap.size w2 w3) (h4 : Below w3.heap.size w3 w4) (hn : ∀ k, k < N → ¬ ok1 k ∧ ¬ ok2 k ∧ ¬ ok3 k) : Kd.S d e (w4.alloc o) base (fun k => True ∧ ¬ ok1 k ∧ ¬ ok2 k ∧ ¬ ok3 k) x xs :=
  Kd.S_alloc (Kd.S_below (Kd.S_below (Kd.S_below (Kd.S_mono h (fun k hk => ⟨trivial, hn k hk.2⟩)) h2) h3) h4) o
theorem coin_append {ops : Array Oper} {o : Oper} {a : Act} {Q : Exit → Act → World → Prop} {Kc : Act → World → Prop} {w wr W0 w2 w3 w4 : World} {B : Nat} {A Aw Ax Ay : Option Addr} {c cw cx cy : Nat} {out : List (List Int)} {l u v : List Int}
    (HB0 : Below w.heap.size w W0) (HS0 : Kd.S (Kd.slice 3 (Kd.int .i64)) 47 W0 w.heap.size (fun k_ => True ∧ k_ < wr.heap.size) (.slice A out.length c) out)
    (HR0 : Kd.R (Kd.int .i64) 3 W0 w.heap.size (fun k_ => wr.heap.size ≤ k_ ∧ k_ < B) (.slice Aw l.length cw) l) (hR2 : Kd.R (Kd.int .i64) 3 w2 W0.heap.size (fun _ => True) (.slice Ax u.length cx) u) (hR4 : Kd.R (Kd.int .i64) 3 w4 w3.heap.size (fun _ => True) (.slice Ay v.length cy) v)
    (hB2 : Below W0.heap.size W0 w2) (hB3 : Below w2.heap.size w2 w3) (hB4 : Below w3.heap.size w3 w4) (HSZ : wr.heap.size ≤ B ∧ B + 1 = W0.heap.size) (HBIG : out.length < 1000000)
    (hw : Region.wanted o (yielded ops a.tmps) = true) (ho : o.op = .call { callee := .builtin .append, args := #[.tmp 61, .tmp 68], argTypes := #[22, 22] }) (hs : a.eval (.tmp 61) = .slice A out.length c) (hx : a.eval (.tmp 68) = .slice (some ⟨w4.heap.size, 0, none⟩) 3 3)
    (hbx : W0.cell? ⟨B, 0, none⟩ = some (.slice Aw l.length cw)) (h : ∀ v1 w1, Kd.S (Kd.slice 3 (Kd.int .i64)) 47 w1 w.heap.size (fun _ => True) v1 (out ++ [l, u, v]) → Below w.heap.size w w1 → w1.cell? ⟨B, 0, none⟩ = some (.slice Aw l.length cw) → Kc (a.put o.dst v1) w1) :
    if Region.wanted o (yielded ops a.tmps) = true then Oper.wp Try.prog o a (w4.alloc (.cells #[.slice Aw l.length cw, .slice Ax u.length cx, .slice Ay v.length cy] 47)) Kc Q else Kc (a.put o.dst undef) (w4.alloc (.cells #[.slice Aw l.length cw, .slice Ax u.length cx, .slice Ay v.length cy] 47)) := by
  have hsz1 := HSZ.1
  have z2 := hB2.size
  have z3 := hB3.size
  have z4 := hB4.size
  have z0 := HB0.size
  have b3 : Below w.heap.size w w3 := below_then (below_then HB0 z0 hB2) (Nat.le_trans z0 z2) hB3
  have b4 : Below w.heap.size w w4 := below_then b3 (by omega) hB4
  exact S_append3_step (Kd.slice 3 (Kd.int .i64)) rfl (w0 := w) w.heap.size hw (.tmp 61) (.tmp 68) 22 47 (.slice none 0 0) 24 ho Try.underlying22 info47 rfl (by decide) (.slice A out.length c) out l u v w4.heap.size 47 (.slice Aw l.length cw) (.slice Ax u.length cx) (.slice Ay v.length cy) (fun _ => True) (fun k_ => wr.heap.size ≤ k_ ∧ k_ < B) (fun k_ => W0.heap.size ≤ k_ ∧ k_ < w2.heap.size) (fun k_ => w3.heap.size ≤ k_ ∧ k_ < w4.heap.size) hs hx (blk_new w4 _) (coin_h1 HR0 hB2 hB3 hB4) (coin_h2 HB0 hR2 hB3 hB4) (coin_h3 b3 hR4)
    (fun k_ hk => ⟨trivial, coin_k HS0 hk.1⟩) (fun k_ hk => ⟨trivial, coin_k HS0 (by omega)⟩) (fun k_ hk => ⟨trivial, coin_k HS0 (by omega)⟩) (fun k_ h1 h2 => by omega) (fun k_ h1 h2 => by omega) (fun k_ h1 h2 => by omega) (fun _ _ => trivial) (coin_S HS0 hB2 hB3 hB4 (fun k_ hk => ⟨by omega, by omega, by omega⟩)) (below_alloc b4 _) (by simp; omega) (by omega) (fun v1 w1 hs hb hgr => h v1 w1 hs hb (by
      have e : (w4.alloc (.cells #[.slice Aw l.length cw, .slice Ax u.length cx, .slice Ay v.length cy] 47)).cell? ⟨B, 0, none⟩ = some (.slice Aw l.length cw) := pw_cell_below (below_alloc (Below.refl _ _) _) (pw_cell_below hB4 (pw_cell_below hB3 (pw_cell_below hB2 hbx)))
      exact (hgr.cell_far (a := ⟨B, 0, none⟩) (World.block_lt_of_cell? _ _ e) (coin_k HS0 hsz1)).trans e))
def impl_CoinWords.l0 : Nat → Int → Int → List (List Int) → Int → Option (List (List Int) × Bool)
  | 0, _, _, _, _ => none
  | k + 1, a0, a1, out, n => (impl_LimitOf.f k a1).bind fun t => if n ≤ t then (if (out.length : Int) < a0 then ((impl_WordOf.f k n a1).bind fun bt => if bt.1.length ≤ 1000000 then ((impl_TurnsForward.f k bt.1).bind fun f => if f = true then (if out.all (fun y => decide (y.length ≤ 1000000)) = true then (if out.any (fun y => decide (y = bt.1)) = true then impl_CoinWords.l0 k a0 a1 out (wrap64 (n + 1)) else (impl_turned.f k bt.1).bind fun u => (impl_turned.f k u).bind fun v => if out.length < 1000000 then impl_CoinWords.l0 k a0 a1 (out ++ [bt.1, u, v]) (wrap64 (n + 1)) else none) else none) else impl_CoinWords.l0 k a0 a1 out (wrap64 (n + 1))) else none) else some (out, true)) else some (out, true)
def impl_CoinWords.f (k : Nat) (a0 : Int) (a1 : Int) : Option (List (List Int) × Bool) := if a1 < 2 then some ([], false) else if a1 > 5 then some ([], false) else if a0 < 3 then some ([], false) else (impl_CoinsFor.f k a1).bind fun t => if a0 > t then some ([], false) else if Int.tmod a0 3 ≠ 0 then some ([], false) else (impl_LimitOf.f k a1).bind fun t => impl_CoinWords.l0 k a0 a1 [] (wrap64 (-t))
theorem impl_CoinWords.mono_l : ∀ k, (∀ y0 y1 y2 y3, LeO (impl_CoinWords.l0 k y0 y1 y2 y3) (impl_CoinWords.l0 (k + 1) y0 y1 y2 y3))
  | 0 => fun _ _ _ _ r h => by simp [impl_CoinWords.l0] at h
  | k + 1 => by
    have ih0 := impl_CoinWords.mono_l k
    intro y0 y1 y2 y3
    unfold impl_CoinWords.l0
    repeat' first
      | (with_reducible exact ih0 _ _ _ _)
      | (with_reducible exact impl_LimitOf.mono _ _)
      | (with_reducible exact impl_WordOf.mono _ _ _)
      | (with_reducible exact impl_TurnsForward.mono _ _)
      | (with_reducible exact impl_turned.mono _ _)
      | (with_reducible exact LeO.refl _)
      | (with_reducible exact LeO.none _)
      | (with_reducible refine LeO.ite ?_ ?_)
      | (with_reducible refine LeO.bind ?_ (fun _ => ?_))
theorem impl_CoinWords.mono : ∀ a0 a1 k, LeO (impl_CoinWords.f k a0 a1) (impl_CoinWords.f (k + 1) a0 a1) := by
  intro a0 a1 k
  have ih0 := impl_CoinWords.mono_l k
  unfold impl_CoinWords.f
  repeat' first
      | (with_reducible exact ih0 _ _ _ _)
      | (with_reducible exact impl_LimitOf.mono _ _)
      | (with_reducible exact impl_CoinsFor.mono _ _)
      | (with_reducible exact LeO.refl _)
      | (with_reducible exact LeO.none _)
      | (with_reducible refine LeO.ite ?_ ?_)
      | (with_reducible refine LeO.bind ?_ (fun _ => ?_))
set_option maxHeartbeats 8000000 in
set_option maxRecDepth 100000 in
theorem impl_CoinWords.calls (k : Nat) (a0 : Int) (a1 : Int) (r1 : List (List Int)) (r2 : Bool) (w : World) (h : impl_CoinWords.f k a0 a1 = some (r1, r2)) :
    Calls Try.prog 33 #[.int .i64 a0, .int .i64 a1] w fun e w' => ∃ v0_ : Value, e = .returned (.tuple #[v0_, .bool r2]) ∧ Kd.S (Kd.slice 3 (Kd.int .i64)) 47 w' w.heap.size (fun _ => True) v0_ r1 ∧ Below w.heap.size w w' := by
  have HB := Aside0.mk (Below.refl w.heap.size w)
  unfold impl_CoinWords.f at h
  by_cases c1 : a1 < 2
  · rw [if_pos c1] at h
    simp only [Option.some.injEq, Prod.mk.injEq] at h
    obtain ⟨rfl, rfl⟩ := h
    have g1 : decide (a1 < 2) = true := decide_eq_true c1
    clear c1
    go_enter Try.func33, Try.ntmps33
    go_wp2
    go_ret2
    exact ⟨_, rfl, Kd.S_nil _ _ _ _ _, by repeat (first | exact HB.out | apply pw_below_drewN)⟩
  rw [if_neg c1] at h
  have g1 : decide (a1 < 2) = false := decide_eq_false c1
  by_cases c2 : a1 > 5
  · rw [if_pos c2] at h
    simp only [Option.some.injEq, Prod.mk.injEq] at h
    obtain ⟨rfl, rfl⟩ := h
    have g2 : decide (5 < a1) = true := decide_eq_true c2
    clear c1
    clear c2
    go_enter Try.func33, Try.ntmps33
    go_wp2
    go_ret2
    exact ⟨_, rfl, Kd.S_nil _ _ _ _ _, by repeat (first | exact HB.out | apply pw_below_drewN)⟩
  rw [if_neg c2] at h
  have g2 : decide (5 < a1) = false := decide_eq_false c2
  by_cases c3 : a0 < 3
  · rw [if_pos c3] at h
    simp only [Option.some.injEq, Prod.mk.injEq] at h
    obtain ⟨rfl, rfl⟩ := h
    have g3 : decide (a0 < 3) = true := decide_eq_true c3
    clear c1 c2
    clear c3
    go_enter Try.func33, Try.ntmps33
    go_wp2
    go_ret2
    exact ⟨_, rfl, Kd.S_nil _ _ _ _ _, by repeat (first | exact HB.out | apply pw_below_drewN)⟩
  rw [if_neg c3] at h
  have g3 : decide (a0 < 3) = false := decide_eq_false c3
  obtain ⟨tc, htc, h⟩ := Option.bind_eq_some_iff.mp h
  by_cases c4 : a0 > tc
  · rw [if_pos c4] at h
    simp only [Option.some.injEq, Prod.mk.injEq] at h
    obtain ⟨rfl, rfl⟩ := h
    have g4 : decide (tc < a0) = true := decide_eq_true c4
    have HTC := Aside0.mk htc
    clear c1 c2 c3 htc
    clear c4
    go_enter Try.func33, Try.ntmps33
    go_wp2_with (go_at_call 76; refine (impl_CoinsFor.calls k a1 tc _ HTC.out).mono ?_; rintro e w' ⟨rfl, ⟨q, rfl⟩⟩)
    go_ret2
    exact ⟨_, rfl, Kd.S_nil _ _ _ _ _, by repeat (first | exact HB.out | apply pw_below_drewN)⟩
  rw [if_neg c4] at h
  have g4 : decide (tc < a0) = false := decide_eq_false c4
  by_cases c5 : Int.tmod a0 3 ≠ 0
  · rw [if_pos c5] at h
    simp only [Option.some.injEq, Prod.mk.injEq] at h
    obtain ⟨rfl, rfl⟩ := h
    have g5 : (Int.tmod a0 3 != 0) = true := by simpa using c5
    have HTC := Aside0.mk htc
    clear c1 c2 c3 c4 htc
    clear c5
    go_enter Try.func33, Try.ntmps33
    go_wp2_with (go_at_call 76; refine (impl_CoinsFor.calls k a1 tc _ HTC.out).mono ?_; rintro e w' ⟨rfl, ⟨q, rfl⟩⟩)
    go_ret2
    exact ⟨_, rfl, Kd.S_nil _ _ _ _ _, by repeat (first | exact HB.out | apply pw_below_drewN)⟩
  rw [if_neg c5] at h
  have g5 : (Int.tmod a0 3 != 0) = false := by simpa using c5
  obtain ⟨tl, htl, h⟩ := Option.bind_eq_some_iff.mp h
  have HTC := Aside0.mk htc
  have HTL := Aside0.mk htl
  have H := Aside0.mk h
  clear c1 c2 c3 c4 c5 htc htl h
  go_enter Try.func33, Try.ntmps33
  go_wp2_with (first | (go_at_call 76; refine (impl_CoinsFor.calls k a1 tc _ HTC.out).mono ?_; rintro e w' ⟨rfl, ⟨q, rfl⟩⟩) | (go_at_call 77; refine (impl_LimitOf.calls k a1 tl _ HTL.out).mono ?_; rintro e w' ⟨rfl, ⟨q2, rfl⟩⟩))
  go_loopg [6, 7] k (fun kq v6 v7 W => ∃ (out : List (List Int)) (n : Int) (A : Option Addr) (c : Nat), v6 = .slice A out.length c ∧ v7 = .int .i64 n ∧ Aside0 (impl_CoinWords.l0 kq a0 a1 out n = some (r1, r2)) ∧ Aside0 (kq ≤ k) ∧ Aside0 (Kd.S (Kd.slice 3 (Kd.int .i64)) 47 W w.heap.size (fun _ => True) (.slice A out.length c) out) ∧ Aside0 (Below w.heap.size w W))
  case atStart => exact ⟨[], wrap64 (-tl), some ⟨w.heap.size, 0, none⟩, 0, rfl, rfl, H, ⟨Nat.le_refl _⟩, ⟨S_empty _ (by repeat (first | refine blk_drewN ?_ _ | exact blk_new _ _ | (have hh := blk_new (w.drewN q) (.cells #[] 47); simpa using hh))) (Nat.le_refl _)⟩, ⟨by repeat (first | exact HB.out | apply below_alloc | apply pw_below_drewN)⟩⟩
  case round =>
    obtain ⟨out, n, A, c, rfl, rfl, HA, HK1, HS, HB1⟩ := hrel
    cases gk with
    | zero => exact absurd HA.out (by simp [impl_CoinWords.l0])
    | succ k1 =>
      have H := HA.out
      clear HA
      simp only [impl_CoinWords.l0] at H
      obtain ⟨t1, ht1, H⟩ := Option.bind_eq_some_iff.mp H
      have HT1 := Aside0.mk ht1
      clear ht1
      by_cases d1 : n ≤ t1
      · rw [if_pos d1] at H
        have e1 : decide (n ≤ t1) = true := decide_eq_true d1
        by_cases d2 : (out.length : Int) < a0
        · rw [if_pos d2] at H
          have e2 : decide ((out.length : Int) < a0) = true := decide_eq_true d2
          obtain ⟨⟨l, okb⟩, hw1, H⟩ := Option.bind_eq_some_iff.mp H
          simp only at H
          split at H
          · rename_i hlen
            obtain ⟨f, hf, H⟩ := Option.bind_eq_some_iff.mp H
            have HW1 := Aside0.mk hw1
            have HF := Aside0.mk hf
            have HL := Aside0.mk hlen
            clear hw1 hf d1 d2 hlen
            by_cases d3 : f = true
            · subst d3
              rw [if_pos rfl] at H
              split at H
              · rename_i hall
                have HALL := Aside0.mk hall
                clear hall
                obtain ⟨vals, hv1, hv2⟩ := rows_vals (Kd.S_reads' HS.out).2.2
                have hcont : ∀ (W : World) (B : Nat) (Aw : Option Addr) (cw : Nat), Below wr.heap.size wr W → W.cell? ⟨B, 0, none⟩ = some (.slice Aw l.length cw) → Kd.C (Kd.int .i64) W Aw l.length l → l.length ≤ cw →
                    Calls Try.prog 79 #[.slice A out.length c, .func (.func 80) #[] #[.pointer (some ⟨B, 0, none⟩)]] W fun e w' => e = .returned (.bool (out.any (fun y => decide (y = l)))) ∧ ∃ q, w' = W.drewN q := by
                  intro W B Aw cw hb hB hCw hcw
                  have hp := any_range_list out ([] : List Int) (fun y => decide (y = l))
                  rw [← hp]
                  have hn := (Kd.S_reads' HS.out).2.2.2.1
                  refine slices_ContainsFunc_int_int_79.gives 80 #[.pointer (some ⟨B, 0, none⟩)] vals (fun j => decide (out.getD j [] = l)) out.length c A W hn ?_ (enters_of Try.func80 (by kernel_rfl) rfl) ?_
                  · intro j hj
                    obtain ⟨ad, e, hx⟩ := hv1 j hj
                    exact ⟨ad, e, pw_cell_below hb hx⟩
                  · intro j q hj
                    obtain ⟨A1, c1, e, hl, hr⟩ := hv2 j hj
                    rw [e]
                    have hbq := pw_below_drewN hb q
                    have hyl : (out.getD j []).length ≤ 1000000 := by
                      have := List.all_eq_true.1 HALL.out (out.getD j []) (by rw [List.getD_eq_getElem?_getD, List.getElem?_eq_getElem hj]; exact List.getElem_mem hj)
                      simpa using this
                    exact impl_CoinWords_1.calls B Aw cw l A1 c1 (out.getD j []) (W.drewN q) (Kd.C_drewN hCw q) hcw (Kd.C_below hr hbq) hl hyl hB
                have HCONT0 := Aside0.mk hcont
                clear hv1 hv2 hcont
                by_cases d4 : out.any (fun y => decide (y = l)) = true
                · rw [if_pos d4] at H
                  have H2 := Aside0.mk H
                  have HCONT := HCONT0.out
                  rw [d4] at HCONT
                  have HCONT := Aside0.mk HCONT
                  clear H d4 HCONT0
                  go_wp2_with (first | (go_at_call 77; refine (impl_LimitOf.calls k1 a1 t1 _ HT1.out).mono ?_; rintro e w' ⟨rfl, ⟨q, rfl⟩⟩) | (go_at_call 64; refine (impl_WordOf.calls k1 n a1 l okb _ HW1.out).mono ?_; rintro e w1 ⟨vw, rfl, hR, hB⟩; obtain ⟨Aw, cw, rfl, hcw, hCw⟩ := Kd.R_reads hR; have HBw := Aside0.mk hB; have HCw := Aside0.mk hCw; have HCWL := Aside0.mk hcw; clear hR hB hCw hcw) | (go_at_call 78; refine (impl_TurnsForward.calls k1 Aw cw l true _ (Kd.C_alloc HCw.out _) HCWL.out HF.out).mono ?_; rintro e w' ⟨rfl, ⟨q3, rfl⟩⟩) | (go_at_call 79; refine (HCONT.out _ w1.heap.size Aw cw (by exact pw_below_drewN (below_alloc (below_then (pw_below_drewN (Below.refl _ _) _) (by simp) HBw.out) _) _) (by simp) (by exact Kd.C_drewN (Kd.C_alloc HCw.out _) _) HCWL.out).mono ?_; rintro e w' ⟨rfl, ⟨q4, rfl⟩⟩))
                  have hb1 : Below wr.heap.size wr w1 := below_then (pw_below_drewN (Below.refl _ _) _) (by simp) HBw.out
                  have HS1 := Aside0.mk (Kd.S_below HS.out hb1)
                  have HB2 := Aside0.mk (below_then HB1.out HB1.out.size hb1)
                  clear hb1 HBw HCw HS HB1 HCONT
                  go_roundg k1
                  case measure => have := HK1.out; omega
                  case rel => exact ⟨out, wrap64 (n + 1), A, c, by first | rfl | (simp; done), by first | rfl | (simp; done), H2, ⟨by have := HK1.out; omega⟩, ⟨by repeat (first | exact HS1.out | apply Kd.S_drewN | apply Kd.S_alloc | apply Kd.S_drew)⟩, ⟨by repeat (first | exact HB2.out | apply pw_below_drewN | apply below_alloc)⟩⟩
                · rw [if_neg d4] at H
                  obtain ⟨u, hu, H⟩ := Option.bind_eq_some_iff.mp H
                  obtain ⟨v, hv, H⟩ := Option.bind_eq_some_iff.mp H
                  split at H
                  · rename_i hbig
                    have HU := Aside0.mk hu
                    have HV := Aside0.mk hv
                    have HBIG := Aside0.mk hbig
                    have HCONT := HCONT0.out
                    rw [Bool.eq_false_iff.mpr d4] at HCONT
                    have HCONT := Aside0.mk HCONT
                    clear HCONT0
                    have H2 := Aside0.mk H
                    clear hu hv hbig d4 H
                    go_upto_region 9 with (first | (go_at_call 77; refine (impl_LimitOf.calls k1 a1 t1 _ HT1.out).mono ?_; rintro e w' ⟨rfl, ⟨q, rfl⟩⟩) | (go_at_call 64; refine (impl_WordOf.calls k1 n a1 l okb _ HW1.out).mono ?_; rintro e w1 ⟨vw, rfl, hR, hB⟩; obtain ⟨Aw, cw, rfl, hcw, hCw⟩ := Kd.R_reads hR; have HR := Aside0.mk hR; have HBw := Aside0.mk hB; have HCw := Aside0.mk hCw; have HCWL := Aside0.mk hcw; clear hR hB hCw hcw) | (go_at_call 78; refine (impl_TurnsForward.calls k1 Aw cw l true _ (Kd.C_alloc HCw.out _) HCWL.out HF.out).mono ?_; rintro e w' ⟨rfl, ⟨q3, rfl⟩⟩) | (go_at_call 79; refine (HCONT.out _ w1.heap.size Aw cw (by exact pw_below_drewN (below_alloc (below_then (pw_below_drewN (Below.refl _ _) _) (by simp) HBw.out) _) _) (by simp) (by exact Kd.C_drewN (Kd.C_alloc HCw.out _) _) HCWL.out).mono ?_; rintro e w' ⟨rfl, ⟨q4, rfl⟩⟩))
                    have hb1 : Below wr.heap.size wr w1 := below_then (pw_below_drewN (Below.refl _ _) _) (by simp) HBw.out
                    have hb0 : Below w1.heap.size w1 (((w1.alloc (.cells #[.slice Aw l.length cw] 47)).drewN (q3 + q4))) := pw_below_drewN (below_alloc (Below.refl _ _) _) _
                    have hsz1 := hb1.size
                    have hszw := HB1.out.size
                    have HC0 := Aside0.mk (Kd.C_below HCw.out hb0)
                    have HS0 := Aside0.mk (Kd.S_below (Kd.S_old HS.out hb1) hb0)
                    have HR0 := Aside0.mk (Kd.R_below (Kd.R_lower (base' := w.heap.size) (Kd.R_mono (ok' := fun k_ => wr.heap.size ≤ k_ ∧ k_ < w1.heap.size) (Kd.R_bound HR.out) (fun k_ hk => ⟨by have := hk.2.1; simpa using this, hk.2.2.1⟩)) (by simp; omega)) hb0)
                    have HBox := Aside0.mk (blk_drewN (blk_new w1 (.cells #[.slice Aw l.length cw] 47)) (q3 + q4))
                    have HB0 := Aside0.mk (below_then (below_then HB1.out hszw hb1) (by omega) hb0)
                    have HSZ : Aside0 (wr.heap.size ≤ w1.heap.size ∧ w1.heap.size + 1 = (((w1.alloc (.cells #[.slice Aw l.length cw] 47)).drewN (q3 + q4))).heap.size) := ⟨hsz1, by simp⟩
                    clear hb1 hb0 hsz1 hszw HCONT HBw HCw HR HS HB1
                    obtain ⟨W0, hW0⟩ : ∃ W0, W0 = ((w1.alloc (.cells #[.slice Aw l.length cw] 47)).drewN (q3 + q4)) := ⟨_, rfl⟩
                    rw [← hW0] at HC0 HS0 HR0 HBox HB0 HSZ
                    first
                      | rw [← hW0]
                      | (rw [show ((w1.alloc (.cells #[.slice Aw l.length cw] 47)).drewN q3).drewN q4 = W0 from by rw [hW0, World.drewN_drewN]])
                    clear hW0
                    obtain ⟨B, hB⟩ : ∃ B, w1.heap.size = B := ⟨_, rfl⟩
                    rw [hB] at HBox HSZ HR0 ⊢
                    clear hB
                    have hbox : W0.cell? ⟨B, 0, none⟩ = some (.slice Aw l.length cw) := (blk_cell HBox.out 0).trans rfl
                    go_region_held3 (fun w' => w'.cell? ⟨B, 0, none⟩ = some (.slice Aw l.length cw))
                      (first | exact hC5 | exact hbox | exact pw_cell_below hB2 hbox | exact pw_cell_below hB3 (pw_cell_below hB2 hbox) | exact pw_cell_below hB4 (pw_cell_below hB3 (pw_cell_below hB2 hbox)) | exact pw_cell_below (below_alloc (Below.refl _ _) _) (pw_cell_below hB4 (pw_cell_below hB3 (pw_cell_below hB2 hbox))))
                      ((first
                        | (go_at_call 82; with_reducible refine (impl_turned.calls k1 Aw cw l u W0.drew (Kd.C_drew HC0.out) HCWL.out HU.out).mono ?_; rintro e w2 ⟨v2, rfl, hR2, hB2⟩; replace hB2 := below_then (below_drew (Below.refl W0.heap.size W0)) (Nat.le_refl _) hB2; obtain ⟨Ax, cx, rfl⟩ := Kd.R_slice hR2)
                        | (go_at_call 82; with_reducible refine (impl_turned.calls k1 Aw cw l u w2 (Kd.C_below HC0.out hB2) HCWL.out HU.out).mono ?_; rintro e w3 ⟨v3, rfl, hR3, hB3⟩; obtain ⟨Au, cu, rfl, hcu, hCu⟩ := Kd.R_reads hR3)
                        | (go_at_call 82; with_reducible refine (impl_turned.calls k1 Au cu u v w3 hCu hcu HV.out).mono ?_; rintro e w4 ⟨v4, rfl, hR4, hB4⟩; obtain ⟨Ay, cy, rfl⟩ := Kd.R_slice hR4)
                        | (refine coin_append HB0.out HS0.out HR0.out hR2 hR4 hB2 hB3 hB4 HSZ.out HBIG.out rfl rfl rfl rfl hbox ?_; intro v5 w5 hS5 hB5 hC5)))
                    obtain ⟨A5, c5, rfl⟩ := Kd.S_slice hS5
                    have hl5 : ((out ++ [l, u, v]).length : Int) = out.length + 3 := by simp
                    have HS5 := Aside0.mk hS5
                    have HB5 := Aside0.mk hB5
                    clear hS5 hB5 hC5 hR2 hR4 hB2 hB3 hB4 hbox hl5
                    go_wp2
                    go_roundg k1
                    case measure => have := HK1.out; omega
                    case rel => exact ⟨out ++ [l, u, v], wrap64 (n + 1), A5, c5, by first | rfl | (simp; done), by first | rfl | (simp; done), H2, ⟨by have := HK1.out; omega⟩, HS5, HB5⟩
                  · cases H
              · cases H
            · rw [if_neg d3] at H
              obtain rfl : f = false := Bool.eq_false_iff.mpr d3
              have H2 := Aside0.mk H
              clear H d3
              go_wp2_with (first | (go_at_call 77; refine (impl_LimitOf.calls k1 a1 t1 _ HT1.out).mono ?_; rintro e w' ⟨rfl, ⟨q, rfl⟩⟩) | (go_at_call 64; refine (impl_WordOf.calls k1 n a1 l okb _ HW1.out).mono ?_; rintro e w1 ⟨vw, rfl, hR, hB⟩; obtain ⟨Aw, cw, rfl, hcw, hCw⟩ := Kd.R_reads hR; have HBw := Aside0.mk hB; have HCw := Aside0.mk hCw; have HCWL := Aside0.mk hcw; clear hR hB hCw hcw) | (go_at_call 78; refine (impl_TurnsForward.calls k1 Aw cw l false _ (Kd.C_alloc HCw.out _) HCWL.out HF.out).mono ?_; rintro e w' ⟨rfl, ⟨q3, rfl⟩⟩))
              have hb1 : Below wr.heap.size wr w1 := below_then (pw_below_drewN (Below.refl _ _) _) (by simp) HBw.out
              have HS1 := Aside0.mk (Kd.S_below HS.out hb1)
              have HB2 := Aside0.mk (below_then HB1.out HB1.out.size hb1)
              clear hb1 HBw HCw HS HB1
              go_roundg k1
              case measure => have := HK1.out; omega
              case rel => exact ⟨out, wrap64 (n + 1), A, c, by first | rfl | (simp; done), by first | rfl | (simp; done), H2, ⟨by have := HK1.out; omega⟩, ⟨by repeat (first | exact HS1.out | apply Kd.S_drewN | apply Kd.S_alloc | apply Kd.S_drew)⟩, ⟨by repeat (first | exact HB2.out | apply pw_below_drewN | apply below_alloc)⟩⟩
          · cases H
        · rw [if_neg d2] at H
          have e2 : decide ((out.length : Int) < a0) = false := decide_eq_false d2
          simp only [Option.some.injEq, Prod.mk.injEq] at H
          obtain ⟨rfl, rfl⟩ := H
          clear d1 d2
          go_wp2_with (first | (go_at_call 77; refine (impl_LimitOf.calls k1 a1 t1 _ HT1.out).mono ?_; rintro e w' ⟨rfl, ⟨q, rfl⟩⟩))
          go_ret2
          exact ⟨_, rfl, by repeat (first | exact HS.out | apply Kd.S_drewN | apply Kd.S_alloc | apply Kd.S_drew), by repeat (first | exact HB1.out | apply pw_below_drewN | apply below_alloc)⟩
      · rw [if_neg d1] at H
        have e1 : decide (n ≤ t1) = false := decide_eq_false d1
        simp only [Option.some.injEq, Prod.mk.injEq] at H
        obtain ⟨rfl, rfl⟩ := H
        clear d1
        go_wp2_with (first | (go_at_call 77; refine (impl_LimitOf.calls k1 a1 t1 _ HT1.out).mono ?_; rintro e w' ⟨rfl, ⟨q, rfl⟩⟩))
        go_ret2
        exact ⟨_, rfl, by repeat (first | exact HS.out | apply Kd.S_drewN | apply Kd.S_alloc | apply Kd.S_drew), by repeat (first | exact HB1.out | apply pw_below_drewN | apply below_alloc)⟩

end Go.Proofs.Ytgiehdhnhkmjfaa.X
-- Laid by xprint.py (wip/tools): printed contracts, and hand-written ones between them.
namespace Go.Proofs.Ytgiehdhnhkmjfaa.X
open Go.RowKit Go.Proofs.YtgiehdhnhkmjfaaW.PrintWords Go.Proofs.YtgiehdhnhkmjfaaW.PrintLast Go.Proofs.YtgiehdhnhkmjfaaW.PrintMore
attribute [local go_sem] max2_int min2_int max_two min_two max_three min_three max_four min_four   -- for this text's walks alone
set_option linter.unusedVariables false
set_option linter.unusedSimpArgs false

/-! ### laws_heldIntSS: function 34 -/
def laws_heldIntSS.l0 : Nat → List (List Int) → Int → Int → Option (Int)
  | 0, _, _, _ => none
  | k + 1, x0, x1, x5 => if x5 < (x0.length : Int) then (if 0 ≤ x5 then ((laws_heldIntS.f k (rd_L9 x0 x5) x1).bind fun t35002 => (if t35002 < 0 then (some (-1)) else (laws_heldIntSS.l0 k x0 t35002 (wrap64 (x5 + 1))))) else (none)) else (some x1)
def laws_heldIntSS.f (k : Nat) (l0 : List (List Int)) (a1 : Int) : Option (Int) := laws_heldIntSS.l0 k l0 a1 0
theorem laws_heldIntSS.mono_l : ∀ k, (∀ y0 y1 y2, LeO (laws_heldIntSS.l0 k y0 y1 y2) (laws_heldIntSS.l0 (k + 1) y0 y1 y2))
  | 0 => fun _ _ _ r h => by simp [laws_heldIntSS.l0] at h
  | k + 1 => by
    have ih0 := laws_heldIntSS.mono_l k
    · intro y0 y1 y2
      unfold laws_heldIntSS.l0
      repeat' first
      | (with_reducible exact ih0 _ _ _)
      | (with_reducible exact laws_heldIntS.mono _ _ _)
      | (with_reducible exact LeO.refl _)
      | (with_reducible exact LeO.none _)
      | (with_reducible refine LeO.ite ?_ ?_)
      | (with_reducible refine LeO.bind ?_ (fun _ => ?_))
      | exact ih0 _ _ _
      | exact laws_heldIntS.mono _ _ _
      | exact LeO.none _
      | refine LeO.ite ?_ ?_
      | refine LeO.bind ?_ (fun _ => ?_)
theorem laws_heldIntSS.mono : ∀ a0 a1 k, LeO (laws_heldIntSS.f k a0 a1) (laws_heldIntSS.f (k + 1) a0 a1) := by
  intro a0 a1 k
  have ih0 := laws_heldIntSS.mono_l k
  unfold laws_heldIntSS.f
  repeat' first
      | (with_reducible exact ih0 _ _ _)
      | (with_reducible exact laws_heldIntS.mono _ _ _)
      | (with_reducible exact LeO.refl _)
      | (with_reducible exact LeO.none _)
      | (with_reducible refine LeO.ite ?_ ?_)
      | (with_reducible refine LeO.bind ?_ (fun _ => ?_))
      | exact ih0 _ _ _
      | exact laws_heldIntS.mono _ _ _
      | exact LeO.none _
      | refine LeO.ite ?_ ?_
      | refine LeO.bind ?_ (fun _ => ?_)
set_option maxHeartbeats 8000000 in
set_option maxRecDepth 100000 in
theorem laws_heldIntSS.calls (k : Nat) (A0 : Option Addr) (c0 : Nat) (l0 : List (List Int)) (a1 : Int) (r : Int) (w : World) (hr0 : Kd.C (Kd.slice 3 (Kd.int .i64)) w A0 l0.length l0) (hc0 : l0.length ≤ c0) (h : laws_heldIntSS.f k l0 a1 = some r) :
    Calls Try.prog 34 #[.slice A0 l0.length c0, .int .i64 a1] w fun e w' => e = .returned (.int .i64 r) ∧ Drawn0 w w' := by
  have HR0 := Aside0.mk hr0
  have HC0 := Aside0.mk hc0
  clear hr0 hc0
  have H : (laws_heldIntSS.l0 k l0 a1 0) = some r := h
  clear h
  have H' := Aside0.mk H
  clear H
  go_enter Try.func34, Try.ntmps34
  go_wp2
  go_loopg [1, 5] k (fun kq v1 v5 w' => ∃ (x1_1 : Int) (x5_1 : Int), v1 = .int .i64 x1_1 ∧ v5 = .int .i64 x5_1 ∧ Aside0 (laws_heldIntSS.l0 kq l0 x1_1 x5_1 = some r) ∧ Aside0 (kq ≤ k) ∧ Drawn0 w w')
  case atStart => exact ⟨(a1), (0), (by first | rfl | (simp; done) | (simp [*]; done)), (by first | rfl | (simp; done) | (simp [*]; done)), H', ⟨Nat.le_refl _⟩, by repeat (first | exact Drawn0.refl _ | apply Drawn0.step)⟩
  case round =>
    clear H'
    try clear p2
    obtain ⟨x1_1, x5_1, rfl, rfl, HA, HK1, ⟨m1, rfl⟩⟩ := hrel
    cases gk with
    | zero => exact absurd HA.out (by simp [laws_heldIntSS.l0])
    | succ k1 =>
      have H := HA.out
      clear HA
      simp only [laws_heldIntSS.l0] at H
      by_cases c3 : x5_1 < (l0.length : Int)
      · rw [if_pos c3] at H
        have c3b0 : decide (x5_1 < (l0.length : Int)) = true := decide_eq_true c3
        clear c3
        by_cases c4 : 0 ≤ x5_1
        · rw [if_pos c4] at H
          have c4b0 : decide (0 ≤ x5_1) = true := decide_eq_true c4
          clear c4
          replace H := Option.bind_eq_some_iff.mp H
          obtain ⟨t35002, A50, H⟩ := H
          replace H : (if t35002 < 0 then (some (-1)) else (laws_heldIntSS.l0 k1 l0 t35002 (wrap64 (x5_1 + 1)))) = some r := H
          have A5 := Aside0.mk A50
          clear A50
          by_cases c6 : t35002 < 0
          · rw [if_pos c6] at H
            have c6b0 : decide (t35002 < 0) = true := decide_eq_true c6
            clear c6
            obtain rfl := Option.some.inj H
            have p35001 : 0 ≤ (x5_1 : Int) := of_decide_eq_true (by first | (with_reducible assumption) | assumption)
            have q35001 : x5_1 < (l0.length : Int) := of_decide_eq_true (by first | (with_reducible assumption) | assumption)
            obtain ⟨ad35001, A35001_0, c35001_0, e35001, hx35001_0, hl35001_0, hi35001_0⟩ := at_L9 HR0.out x5_1 p35001 q35001
            cases e35001
            have HR35001_0 := Aside0.mk hi35001_0
            have HC35001_0 := Aside0.mk hl35001_0
            clear hi35001_0 hl35001_0
            replace p35001 := eq_true p35001
            replace q35001 := eq_true q35001
            go_wp2_with (first | ((with_reducible refine gate_callee (f := 49) rfl ?_); refine goesL_ (some 17) rfl rfl Try.func49 (by kernel_rfl) rfl #[.slice A35001_0 (rd_L9 l0 x5_1).length c35001_0, .int .i64 x1_1] rfl (by (try simp only [List.map_toArray, List.map_cons, List.map_nil]); first | done | rfl | (simp only [List.length_drop, List.length_take]; rfl)) ?_; (with_reducible refine (laws_heldIntS.calls k1 _ _ (rd_L9 l0 x5_1) x1_1 t35002 _ ?side1 ?side2 A5.out).mono ?_); (case side1 => repeat (first | exact HR35001_0.out | (with_reducible refine Kd.C_alloc ?_ _) | (with_reducible refine Kd.C_drewN ?_ _) | (with_reducible refine Kd.C_drew ?_))); (case side2 => exact HC35001_0.out); rintro e w' ⟨rfl, ⟨nd, rfl⟩⟩; refine ⟨_, rfl, ?_⟩))
            go_ret
            exact ⟨by first | rfl | (simp; done) | (simp [*]; done), by repeat (first | exact Drawn0.refl _ | apply Drawn0.step)⟩
          · rw [if_neg c6] at H
            have c6b0 : decide (t35002 < 0) = false := decide_eq_false c6
            clear c6
            have H' := Aside0.mk H
            clear H
            have p35001 : 0 ≤ (x5_1 : Int) := of_decide_eq_true (by first | (with_reducible assumption) | assumption)
            have q35001 : x5_1 < (l0.length : Int) := of_decide_eq_true (by first | (with_reducible assumption) | assumption)
            obtain ⟨ad35001, A35001_0, c35001_0, e35001, hx35001_0, hl35001_0, hi35001_0⟩ := at_L9 HR0.out x5_1 p35001 q35001
            cases e35001
            have HR35001_0 := Aside0.mk hi35001_0
            have HC35001_0 := Aside0.mk hl35001_0
            clear hi35001_0 hl35001_0
            replace p35001 := eq_true p35001
            replace q35001 := eq_true q35001
            go_wp2_with (first | ((with_reducible refine gate_callee (f := 49) rfl ?_); refine goesL_ (some 17) rfl rfl Try.func49 (by kernel_rfl) rfl #[.slice A35001_0 (rd_L9 l0 x5_1).length c35001_0, .int .i64 x1_1] rfl (by (try simp only [List.map_toArray, List.map_cons, List.map_nil]); first | done | rfl | (simp only [List.length_drop, List.length_take]; rfl)) ?_; (with_reducible refine (laws_heldIntS.calls k1 _ _ (rd_L9 l0 x5_1) x1_1 t35002 _ ?side1 ?side2 A5.out).mono ?_); (case side1 => repeat (first | exact HR35001_0.out | (with_reducible refine Kd.C_alloc ?_ _) | (with_reducible refine Kd.C_drewN ?_ _) | (with_reducible refine Kd.C_drew ?_))); (case side2 => exact HC35001_0.out); rintro e w' ⟨rfl, ⟨nd, rfl⟩⟩; refine ⟨_, rfl, ?_⟩))
            go_roundg k1
            case measure => have := HK1.out; omega
            case rel => exact ⟨(t35002), (wrap64 (x5_1 + 1)), (by first | rfl | (simp; done) | (simp [*]; done)), (by first | rfl | (simp; done) | (simp [*]; done)), H', ⟨by have := HK1.out; omega⟩, by repeat (first | exact Drawn0.refl _ | apply Drawn0.step)⟩
        · rw [if_neg c4] at H
          exact absurd H (by simp)
      · rw [if_neg c3] at H
        have c3b0 : decide (x5_1 < (l0.length : Int)) = false := decide_eq_false c3
        clear c3
        obtain rfl := Option.some.inj H
        go_wp2
        go_ret
        exact ⟨by first | rfl | (simp; done) | (simp [*]; done), by repeat (first | exact Drawn0.refl _ | apply Drawn0.step)⟩

end Go.Proofs.Ytgiehdhnhkmjfaa.X
-- Laid by xprint.py (wip/tools): printed contracts, and hand-written ones between them.
namespace Go.Proofs.Ytgiehdhnhkmjfaa.X
open Go.RowKit Go.Proofs.YtgiehdhnhkmjfaaW.PrintWords Go.Proofs.YtgiehdhnhkmjfaaW.PrintLast Go.Proofs.YtgiehdhnhkmjfaaW.PrintMore
attribute [local go_sem] max2_int min2_int max_two min_two max_three min_three max_four min_four   -- for this text's walks alone
set_option linter.unusedVariables false
set_option linter.unusedSimpArgs false

/-! ### laws_FnExactCoinWords: function 6 -/
theorem heldS_l0 (a : Int) (n : Nat) (ha : 0 ≤ a) (hb : a + n < 4611686018427387904) : ∀ (d i K : Nat), i + d = n → d < K → laws_heldIntS.l0 K (numR a n) (a + (i : Int)) (i : Int) = some (a + (n : Int))
  | 0, i, 0, _, h => absurd h (by omega)
  | d + 1, i, 0, _, h => absurd h (by omega)
  | 0, i, K + 1, hd, h => by
    rw [laws_heldIntS.l0, if_neg (by rw [numR_length]; omega)]
    obtain rfl : i = n := by omega
    rfl
  | d + 1, i, K + 1, hd, h => by
    have hr : rd (numR a n) (i : Int) = a + (i : Int) := by
      unfold rd numR
      rw [Int.toNat_natCast, List.getD_eq_getElem?_getD, List.getElem?_map, List.getElem?_range (by omega)]
      rfl
    rw [laws_heldIntS.l0, if_pos (by rw [numR_length]; omega), if_pos (by omega), if_pos hr]
    have e1 : wrap64 (a + (i : Int) + 1) = a + ((i + 1 : Nat) : Int) := by unfold wrap64; omega
    have e2 : wrap64 ((i : Int) + 1) = ((i + 1 : Nat) : Int) := by unfold wrap64; omega
    rw [e1, e2]
    exact heldS_l0 a n ha hb d (i + 1) K (by omega) (by omega)
theorem heldS_tells (a : Int) (n : Nat) (ha : 0 ≤ a) (hb : a + n < 4611686018427387904) (K : Nat) (hK : n < K) : laws_heldIntS.f K (numR a n) a = some (a + (n : Int)) := by
  have h := heldS_l0 a n ha hb n 0 K (by omega) hK
  unfold laws_heldIntS.f
  simpa using h
theorem eqS_l0 (l : List Int) (hl : l.length < 4611686018427387904) : ∀ (d i K : Nat), i + d = l.length → d < K → laws_eqIntS.l0 K l l (i : Int) = some true
  | 0, i, 0, _, h => absurd h (by omega)
  | d + 1, i, 0, _, h => absurd h (by omega)
  | 0, i, K + 1, hd, h => by rw [laws_eqIntS.l0, if_neg (by omega)]
  | d + 1, i, K + 1, hd, h => by
    rw [laws_eqIntS.l0, if_pos (by omega), if_pos (by omega), if_pos (by omega), if_pos rfl]
    have e2 : wrap64 ((i : Int) + 1) = ((i + 1 : Nat) : Int) := by unfold wrap64; omega
    rw [e2]
    exact eqS_l0 l hl d (i + 1) K (by omega) (by omega)
theorem eqS_tells (l : List Int) (hl : l.length < 4611686018427387904) (K : Nat) (hK : l.length < K) : laws_eqIntS.f K l l = some true := by
  unfold laws_eqIntS.f
  rw [if_pos rfl]
  exact eqS_l0 l hl l.length 0 K (by omega) hK
theorem eqSS_l0 (l : List (List Int)) (B : Nat) (hB : B < 4611686018427387904) (hl : l.length < 4611686018427387904) (hr : ∀ i : Int, (rd_L9 l i).length ≤ B) : ∀ (d i K : Nat), i + d = l.length → d + B + 1 < K → laws_eqIntSS.l0 K l l (i : Int) = some true
  | 0, i, 0, _, h => absurd h (by omega)
  | d + 1, i, 0, _, h => absurd h (by omega)
  | 0, i, K + 1, hd, h => by rw [laws_eqIntSS.l0, if_neg (by omega)]
  | d + 1, i, K + 1, hd, h => by
    have hb := hr (i : Int)
    rw [laws_eqIntSS.l0, if_pos (by omega), if_pos (by omega), if_pos (by omega), eqS_tells _ (by omega) K (by omega)]
    have e2 : wrap64 ((i : Int) + 1) = ((i + 1 : Nat) : Int) := by unfold wrap64; omega
    rw [e2]
    exact eqSS_l0 l B hB hl hr d (i + 1) K (by omega) (by omega)
theorem heldSS_l0 (L : Nat → List Int) (a : Int) (m B : Nat) (ha : 0 ≤ a) (hb : a + offN L m < 4611686018427387904) (hm : m < 4611686018427387904) (hB : ∀ i, (L i).length ≤ B) : ∀ (d i K : Nat), i + d = m → d + B + 1 < K → laws_heldIntSS.l0 K ((List.range m).map (markedN L a m)) (a + (offN L i : Nat)) (i : Int) = some (a + (offN L m : Nat))
  | 0, i, 0, _, h => absurd h (by omega)
  | d + 1, i, 0, _, h => absurd h (by omega)
  | 0, i, K + 1, hd, h => by
    obtain rfl : i = m := by omega
    rw [laws_heldIntSS.l0, if_neg (by rw [List.length_map, List.length_range]; omega)]
  | d + 1, i, K + 1, hd, h => by
    have hlen := hB i
    have ho := offN_le L (show i + 1 ≤ m by omega)
    have ho2 : offN L (i + 1) = offN L i + (L i).length := rfl
    have hr : rd_L9 ((List.range m).map (markedN L a m)) (i : Int) = numR (a + (offN L i : Nat)) (L i).length := by
      unfold rd_L9
      rw [Int.toNat_natCast, List.getD_eq_getElem?_getD, List.getElem?_map, List.getElem?_range (by omega)]
      show markedN L a m i = _
      unfold markedN
      rw [if_pos (by omega)]
    rw [laws_heldIntSS.l0, if_pos (by rw [List.length_map, List.length_range]; omega), if_pos (by omega), hr, heldS_tells _ _ (by omega) (by omega) K (by omega)]
    have e1 : a + (offN L i : Nat) + ((L i).length : Nat) = a + (offN L (i + 1) : Nat) := by omega
    have e2 : wrap64 ((i : Int) + 1) = ((i + 1 : Nat) : Int) := by unfold wrap64; omega
    rw [e1, e2]
    show (if a + (offN L (i + 1) : Nat) < 0 then _ else _) = _
    rw [if_neg (by omega)]
    exact heldSS_l0 L a m B ha hb hm hB d (i + 1) K (by omega) (by omega)
theorem le_sum_of_mem : ∀ {l : List Nat} {n : Nat}, n ∈ l → n ≤ l.sum
  | [], _, h => by cases h
  | a :: l, n, h => by
    rw [List.sum_cons]
    rcases List.mem_cons.1 h with rfl | h
    · omega
    · have := le_sum_of_mem h
      omega
theorem row_le (l : List (List Int)) (i : Int) : (rd_L9 l i).length ≤ l.flatten.length := by
  unfold rd_L9
  rw [List.getD_eq_getElem?_getD]
  rcases Nat.lt_or_ge i.toNat l.length with h | h
  · rw [List.getElem?_eq_getElem h]
    show (l[i.toNat]).length ≤ _
    have : l[i.toNat] ∈ l := List.getElem_mem h
    rw [List.length_flatten]
    exact le_sum_of_mem (List.mem_map_of_mem (f := List.length) this)
  · rw [List.getElem?_eq_none h]
    exact Nat.zero_le _
theorem eqSS_tells (l : List (List Int)) (hl : l.length < 4611686018427387904) (hs : l.flatten.length < 1000000000) : ∃ K, laws_eqIntSS.f K l l = some true := by
  refine ⟨l.length + l.flatten.length + 2, ?_⟩
  unfold laws_eqIntSS.f
  rw [if_pos rfl]
  exact eqSS_l0 l l.flatten.length (by omega) hl (row_le l) l.length 0 _ (by omega) (by omega)
theorem heldSS_tells (l : List (List Int)) (hl : l.length < 4611686018427387904) (hs : l.flatten.length < 1000000000) : ∃ K, laws_heldIntSS.f K (markedL l 1) 1 = some (1 + ((lenL l : Nat) : Int)) := by
  have h := heldSS_l0 (fun j => l.getD j []) 1 l.length l.flatten.length (by decide) (by have := lenL_flatten l; unfold lenL at this; omega) hl (fun i => row_le l (i : Int)) l.length 0 (l.length + l.flatten.length + 2) (by omega) (by omega)
  refine ⟨l.length + l.flatten.length + 2, ?_⟩
  unfold laws_heldIntSS.f markedL lenL
  have e : (1 : Int) + (offN (fun j => l.getD j []) 0 : Nat) = 1 := rfl
  rw [e] at h
  exact h
/-- The plain law: both give the same. -/
def laws_FnExactCoinWords.Pure : Prop := ∀ (a0 : Int) (a1 : Int), (Lit.int .i64 a0).wf = true → (Lit.int .i64 a1).wf = true → ∃ k r, spec_CoinWords.f k a0 a1 = some r ∧ impl_CoinWords.f k a0 a1 = some r ∧ (r.1.flatten.length < 1000000000 ∧ r.1.length < 1000000000)
set_option maxHeartbeats 8000000 in
set_option maxRecDepth 100000 in
theorem laws_FnExactCoinWords.walk (P : laws_FnExactCoinWords.Pure) (a0 : Int) (a1 : Int) (w : World) (w0 : (Lit.int .i64 a0).wf = true) (w1 : (Lit.int .i64 a1).wf = true) :
    Calls Try.prog 6 #[.int .i64 a0, .int .i64 a1] w fun e w' => e = .returned (.bool true) ∧ Below w.heap.size w w' := by
  obtain ⟨k, ⟨ws, ok⟩, hs, hi, hsum, hn⟩ := P a0 a1 w0 w1
  have HS := Aside0.mk hs
  have HI := Aside0.mk hi
  simp only at hsum hn
  obtain ⟨KE, hE⟩ := eqSS_tells ws (by omega) hsum
  obtain ⟨KH, hH⟩ := heldSS_tells ws (by omega) hsum
  have HSUM := Aside0.mk (show (1 : Int) + lenL ws < 4611686018427387904 by have := lenL_flatten ws; omega)
  have HE := Aside0.mk hE
  obtain ⟨tot, htot⟩ : ∃ tot : Int, 1 + (lenL ws : Nat) = tot := ⟨_, rfl⟩
  have hpos : ¬ tot < 0 := by omega
  have hneg : decide (tot < 0) = false := decide_eq_false hpos
  have heq : (tot != tot) = false := by simp
  rw [htot] at hH
  have HH := Aside0.mk hH
  have HTOT := Aside0.mk htot
  have hok : (ok != ok) = false := by cases ok <;> rfl
  clear hs hi hsum hn P w0 w1 hE hH htot hpos
  go_enter Try.func6, Try.ntmps6
  go_upto_region 2 with (go_at_call 32; refine (spec_CoinWords.calls k a0 a1 ws ok _ HS.out).mono ?_; rintro e w1 ⟨v0, rfl, hN, hB1⟩; obtain ⟨A0, c0, rfl, hl0, hC0⟩ := Kd.N_reads hN; have HC0 := Aside0.mk hC0; have HL0 := Aside0.mk hl0; have HB1 := Aside0.mk hB1; clear hN hC0 hl0 hB1)
  go_upto_region 3 with (go_at_call 33; refine (impl_CoinWords.calls k a0 a1 ws ok _ HI.out).mono ?_; rintro e w2 ⟨v1, rfl, hS, hB2⟩; have HC2 := Aside0.mk (Kd.C_below HC0.out hB2); obtain ⟨A2, c2, rfl, hl2, hC2⟩ := Kd.S_reads hS; have HS2 := Aside0.mk hS; have HC3 := Aside0.mk hC2; have HL2 := Aside0.mk hl2; have HB2 := Aside0.mk hB2; clear hS hC2 hl2 hB2)
  go_upto_region 6 with (go_at_call 13; refine (laws_eqIntSS.calls KE A2 c2 ws A0 c0 ws true _ HC3.out HL2.out HC2.out HL0.out HE.out).mono ?_; rintro e w3 ⟨rfl, ⟨q3, rfl⟩⟩)
  go_upto_region 8 with (go_at_call 14; refine (markSS_S (w0 := w1) 1 (pw_below_drewN HB2.out q3) (Kd.S_drewN HS2.out q3) (by decide) HSUM.out).mono ?_; rintro e w4 ⟨rfl, hS4, hB4, hK4⟩; have HS4 := Aside0.mk hS4; have HB4 := Aside0.mk hB4; rw [HTOT.out]; clear hS4 hB4 hK4)
  go_upto_region 13 with (go_at_call 34; have hh := laws_heldIntSS.calls KH A2 c2 (markedL ws 1) 1 tot w4 (Kd.S_reads' HS4.out).2.2 (Nat.le_trans (Nat.le_of_eq (markedL_length ws 1)) HL2.out) HH.out; rw [markedL_length] at hh; refine hh.mono ?_; clear hh; rintro e w5 ⟨rfl, ⟨q5, rfl⟩⟩)
  go_upto_region 14 with (go_at_call 33; refine (impl_CoinWords.calls k a0 a1 ws ok _ HI.out).mono ?_; rintro e w6 ⟨v6, rfl, hS6, hB6⟩; obtain ⟨A6, c6, rfl, hl6, hC6⟩ := Kd.S_reads hS6; have HC6 := Aside0.mk hC6; have HL6 := Aside0.mk hl6; have HB6 := Aside0.mk (below_then (pw_below_drewN HB4.out q5) (Nat.le_trans HB4.out.size (by simp)) hB6); have HS6 := Aside0.mk (Kd.S_below (Kd.S_drewN HS4.out q5) hB6); clear hS6 hC6 hl6 hB6)
  go_upto_region 17 with (go_at_call 13; refine (laws_eqIntSS.calls KE A6 c6 ws A0 c0 ws true _ HC6.out HL6.out (Kd.C_below HC0.out HB6.out) HL0.out HE.out).mono ?_; rintro e w7 ⟨rfl, ⟨q7, rfl⟩⟩)
  go_wp2_with (go_at_call 34; have hh := laws_heldIntSS.calls KH A2 c2 (markedL ws 1) 1 tot (w6.drewN q7) (Kd.S_reads' (Kd.S_drewN HS6.out q7)).2.2 (Nat.le_trans (Nat.le_of_eq (markedL_length ws 1)) HL2.out) HH.out; rw [markedL_length] at hh; refine hh.mono ?_; clear hh; rintro e w8 ⟨rfl, ⟨q8, rfl⟩⟩)
  go_ret
  exact ⟨rfl, below_then HB1.out HB1.out.size (by repeat (first | exact HB6.out | apply pw_below_drewN))⟩

end Go.Proofs.Ytgiehdhnhkmjfaa.X
-- Laid by xprint.py (wip/tools): printed contracts, and hand-written ones between them.
namespace Go.Proofs.Ytgiehdhnhkmjfaa.X
open Go.RowKit Go.Proofs.YtgiehdhnhkmjfaaW.PrintWords Go.Proofs.YtgiehdhnhkmjfaaW.PrintLast Go.Proofs.YtgiehdhnhkmjfaaW.PrintMore
attribute [local go_sem] max2_int min2_int max_two min_two max_three min_three max_four min_four   -- for this text's walks alone
set_option linter.unusedVariables false
set_option linter.unusedSimpArgs false

/-! ### laws_szIntS: function 42 -/
def laws_szIntS.f (l0 : List Int) (a1 : Int) : Option (Int) := if (wrap64 (a1 - (l0.length : Int))) < 0 then (some (-1)) else (some (wrap64 (a1 - (l0.length : Int))))
set_option maxHeartbeats 8000000 in
set_option maxRecDepth 100000 in
theorem laws_szIntS.calls (A0 : Option Addr) (c0 : Nat) (l0 : List Int) (a1 : Int) (r : Int) (w : World) (hr0 : Kd.C (Kd.int .i64) w A0 l0.length l0) (hc0 : l0.length ≤ c0) (h : laws_szIntS.f l0 a1 = some r) :
    Calls Try.prog 42 #[.slice A0 l0.length c0, .int .i64 a1] w fun e w' => e = .returned (.int .i64 r) ∧ Drawn0 w w' := by
  have HR0 := Aside0.mk hr0
  have HC0 := Aside0.mk hc0
  clear hr0 hc0
  have H : (if (wrap64 (a1 - (l0.length : Int))) < 0 then (some (-1)) else (some (wrap64 (a1 - (l0.length : Int))))) = some r := h
  clear h
  by_cases c3 : (wrap64 (a1 - (l0.length : Int))) < 0
  · rw [if_pos c3] at H
    have c3b0 : decide ((wrap64 (a1 - (l0.length : Int))) < 0) = true := decide_eq_true c3
    clear c3
    obtain rfl := Option.some.inj H
    go_enter Try.func42, Try.ntmps42
    go_wp2
    go_ret
    exact ⟨by first | rfl | (simp; done) | (simp [*]; done), by repeat (first | exact Drawn0.refl _ | apply Drawn0.step)⟩
  · rw [if_neg c3] at H
    have c3b0 : decide ((wrap64 (a1 - (l0.length : Int))) < 0) = false := decide_eq_false c3
    clear c3
    obtain rfl := Option.some.inj H
    go_enter Try.func42, Try.ntmps42
    go_wp2
    go_ret
    exact ⟨by first | rfl | (simp; done) | (simp [*]; done), by repeat (first | exact Drawn0.refl _ | apply Drawn0.step)⟩

end Go.Proofs.Ytgiehdhnhkmjfaa.X
-- Laid by xprint.py (wip/tools): printed contracts, and hand-written ones between them.
namespace Go.Proofs.Ytgiehdhnhkmjfaa.X
open Go.RowKit Go.Proofs.YtgiehdhnhkmjfaaW.PrintWords Go.Proofs.YtgiehdhnhkmjfaaW.PrintLast Go.Proofs.YtgiehdhnhkmjfaaW.PrintMore
attribute [local go_sem] max2_int min2_int max_two min_two max_three min_three max_four min_four   -- for this text's walks alone
set_option linter.unusedVariables false
set_option linter.unusedSimpArgs false

/-! ### laws_szIntSS: function 8 -/
def laws_szIntSS.l0 : Nat → List (List Int) → Int → Int → Option (Int)
  | 0, _, _, _ => none
  | k + 1, x0, x1, x5 => if x5 < (x0.length : Int) then (if 0 ≤ x5 then ((laws_szIntS.f (rd_L9 x0 x5) x1).bind fun t9002 => (if t9002 < 0 then (some (-1)) else (laws_szIntSS.l0 k x0 t9002 (wrap64 (x5 + 1))))) else (none)) else (some x1)
def laws_szIntSS.f (k : Nat) (l0 : List (List Int)) (a1 : Int) : Option (Int) := if (wrap64 (a1 - (l0.length : Int))) < 0 then (some (-1)) else (laws_szIntSS.l0 k l0 (wrap64 (a1 - (l0.length : Int))) 0)
theorem laws_szIntSS.mono_l : ∀ k, (∀ y0 y1 y2, LeO (laws_szIntSS.l0 k y0 y1 y2) (laws_szIntSS.l0 (k + 1) y0 y1 y2))
  | 0 => fun _ _ _ r h => by simp [laws_szIntSS.l0] at h
  | k + 1 => by
    have ih0 := laws_szIntSS.mono_l k
    · intro y0 y1 y2
      unfold laws_szIntSS.l0
      repeat' first
      | (with_reducible exact ih0 _ _ _)
      | (with_reducible exact LeO.refl _)
      | (with_reducible exact LeO.none _)
      | (with_reducible refine LeO.ite ?_ ?_)
      | (with_reducible refine LeO.bind ?_ (fun _ => ?_))
      | exact ih0 _ _ _
      | exact LeO.none _
      | refine LeO.ite ?_ ?_
      | refine LeO.bind ?_ (fun _ => ?_)
theorem laws_szIntSS.mono : ∀ a0 a1 k, LeO (laws_szIntSS.f k a0 a1) (laws_szIntSS.f (k + 1) a0 a1) := by
  intro a0 a1 k
  have ih0 := laws_szIntSS.mono_l k
  unfold laws_szIntSS.f
  repeat' first
      | (with_reducible exact ih0 _ _ _)
      | (with_reducible exact LeO.refl _)
      | (with_reducible exact LeO.none _)
      | (with_reducible refine LeO.ite ?_ ?_)
      | (with_reducible refine LeO.bind ?_ (fun _ => ?_))
      | exact ih0 _ _ _
      | exact LeO.none _
      | refine LeO.ite ?_ ?_
      | refine LeO.bind ?_ (fun _ => ?_)
set_option maxHeartbeats 8000000 in
set_option maxRecDepth 100000 in
theorem laws_szIntSS.calls (k : Nat) (A0 : Option Addr) (c0 : Nat) (l0 : List (List Int)) (a1 : Int) (r : Int) (w : World) (hr0 : Kd.C (Kd.slice 3 (Kd.int .i64)) w A0 l0.length l0) (hc0 : l0.length ≤ c0) (h : laws_szIntSS.f k l0 a1 = some r) :
    Calls Try.prog 8 #[.slice A0 l0.length c0, .int .i64 a1] w fun e w' => e = .returned (.int .i64 r) ∧ Drawn0 w w' := by
  have HR0 := Aside0.mk hr0
  have HC0 := Aside0.mk hc0
  clear hr0 hc0
  have H : (if (wrap64 (a1 - (l0.length : Int))) < 0 then (some (-1)) else (laws_szIntSS.l0 k l0 (wrap64 (a1 - (l0.length : Int))) 0)) = some r := h
  clear h
  by_cases c3 : (wrap64 (a1 - (l0.length : Int))) < 0
  · rw [if_pos c3] at H
    have c3b0 : decide ((wrap64 (a1 - (l0.length : Int))) < 0) = true := decide_eq_true c3
    clear c3
    obtain rfl := Option.some.inj H
    go_enter Try.func8, Try.ntmps8
    go_wp2
    go_ret
    exact ⟨by first | rfl | (simp; done) | (simp [*]; done), by repeat (first | exact Drawn0.refl _ | apply Drawn0.step)⟩
  · rw [if_neg c3] at H
    have c3b0 : decide ((wrap64 (a1 - (l0.length : Int))) < 0) = false := decide_eq_false c3
    clear c3
    have H' := Aside0.mk H
    clear H
    go_enter Try.func8, Try.ntmps8
    go_wp2
    go_loopg [1, 5] k (fun kq v1 v5 w' => ∃ (x1_1 : Int) (x5_1 : Int), v1 = .int .i64 x1_1 ∧ v5 = .int .i64 x5_1 ∧ Aside0 (laws_szIntSS.l0 kq l0 x1_1 x5_1 = some r) ∧ Aside0 (kq ≤ k) ∧ Drawn0 w w')
    case atStart => exact ⟨(wrap64 (a1 - (l0.length : Int))), (0), (by first | rfl | (simp; done) | (simp [*]; done)), (by first | rfl | (simp; done) | (simp [*]; done)), H', ⟨Nat.le_refl _⟩, by repeat (first | exact Drawn0.refl _ | apply Drawn0.step)⟩
    case round =>
      clear H'
      try clear p2
      try clear c3
      try clear c3b0
      obtain ⟨x1_1, x5_1, rfl, rfl, HA, HK1, ⟨m1, rfl⟩⟩ := hrel
      cases gk with
      | zero => exact absurd HA.out (by simp [laws_szIntSS.l0])
      | succ k1 =>
        have H := HA.out
        clear HA
        simp only [laws_szIntSS.l0] at H
        by_cases c4 : x5_1 < (l0.length : Int)
        · rw [if_pos c4] at H
          have c4b0 : decide (x5_1 < (l0.length : Int)) = true := decide_eq_true c4
          clear c4
          by_cases c5 : 0 ≤ x5_1
          · rw [if_pos c5] at H
            have c5b0 : decide (0 ≤ x5_1) = true := decide_eq_true c5
            clear c5
            replace H := Option.bind_eq_some_iff.mp H
            obtain ⟨t9002, A60, H⟩ := H
            replace H : (if t9002 < 0 then (some (-1)) else (laws_szIntSS.l0 k1 l0 t9002 (wrap64 (x5_1 + 1)))) = some r := H
            have A6 := Aside0.mk A60
            clear A60
            by_cases c7 : t9002 < 0
            · rw [if_pos c7] at H
              have c7b0 : decide (t9002 < 0) = true := decide_eq_true c7
              clear c7
              obtain rfl := Option.some.inj H
              have p9001 : 0 ≤ (x5_1 : Int) := of_decide_eq_true (by first | (with_reducible assumption) | assumption)
              have q9001 : x5_1 < (l0.length : Int) := of_decide_eq_true (by first | (with_reducible assumption) | assumption)
              obtain ⟨ad9001, A9001_0, c9001_0, e9001, hx9001_0, hl9001_0, hi9001_0⟩ := at_L9 HR0.out x5_1 p9001 q9001
              cases e9001
              have HR9001_0 := Aside0.mk hi9001_0
              have HC9001_0 := Aside0.mk hl9001_0
              clear hi9001_0 hl9001_0
              replace p9001 := eq_true p9001
              replace q9001 := eq_true q9001
              go_wp2_with (first | ((with_reducible refine gate_callee (f := 42) rfl ?_); refine goesL_ (some 23) rfl rfl Try.func42 (by kernel_rfl) rfl #[.slice A9001_0 (rd_L9 l0 x5_1).length c9001_0, .int .i64 x1_1] rfl (by (try simp only [List.map_toArray, List.map_cons, List.map_nil]); first | done | rfl | (simp only [List.length_drop, List.length_take]; rfl)) ?_; (with_reducible refine (laws_szIntS.calls _ _ (rd_L9 l0 x5_1) x1_1 t9002 _ ?side1 ?side2 A6.out).mono ?_); (case side1 => repeat (first | exact HR9001_0.out | (with_reducible refine Kd.C_alloc ?_ _) | (with_reducible refine Kd.C_drewN ?_ _) | (with_reducible refine Kd.C_drew ?_))); (case side2 => exact HC9001_0.out); rintro e w' ⟨rfl, ⟨nd, rfl⟩⟩; refine ⟨_, rfl, ?_⟩))
              go_ret
              exact ⟨by first | rfl | (simp; done) | (simp [*]; done), by repeat (first | exact Drawn0.refl _ | apply Drawn0.step)⟩
            · rw [if_neg c7] at H
              have c7b0 : decide (t9002 < 0) = false := decide_eq_false c7
              clear c7
              have H' := Aside0.mk H
              clear H
              have p9001 : 0 ≤ (x5_1 : Int) := of_decide_eq_true (by first | (with_reducible assumption) | assumption)
              have q9001 : x5_1 < (l0.length : Int) := of_decide_eq_true (by first | (with_reducible assumption) | assumption)
              obtain ⟨ad9001, A9001_0, c9001_0, e9001, hx9001_0, hl9001_0, hi9001_0⟩ := at_L9 HR0.out x5_1 p9001 q9001
              cases e9001
              have HR9001_0 := Aside0.mk hi9001_0
              have HC9001_0 := Aside0.mk hl9001_0
              clear hi9001_0 hl9001_0
              replace p9001 := eq_true p9001
              replace q9001 := eq_true q9001
              go_wp2_with (first | ((with_reducible refine gate_callee (f := 42) rfl ?_); refine goesL_ (some 23) rfl rfl Try.func42 (by kernel_rfl) rfl #[.slice A9001_0 (rd_L9 l0 x5_1).length c9001_0, .int .i64 x1_1] rfl (by (try simp only [List.map_toArray, List.map_cons, List.map_nil]); first | done | rfl | (simp only [List.length_drop, List.length_take]; rfl)) ?_; (with_reducible refine (laws_szIntS.calls _ _ (rd_L9 l0 x5_1) x1_1 t9002 _ ?side1 ?side2 A6.out).mono ?_); (case side1 => repeat (first | exact HR9001_0.out | (with_reducible refine Kd.C_alloc ?_ _) | (with_reducible refine Kd.C_drewN ?_ _) | (with_reducible refine Kd.C_drew ?_))); (case side2 => exact HC9001_0.out); rintro e w' ⟨rfl, ⟨nd, rfl⟩⟩; refine ⟨_, rfl, ?_⟩))
              go_roundg k1
              case measure => have := HK1.out; omega
              case rel => exact ⟨(t9002), (wrap64 (x5_1 + 1)), (by first | rfl | (simp; done) | (simp [*]; done)), (by first | rfl | (simp; done) | (simp [*]; done)), H', ⟨by have := HK1.out; omega⟩, by repeat (first | exact Drawn0.refl _ | apply Drawn0.step)⟩
          · rw [if_neg c5] at H
            exact absurd H (by simp)
        · rw [if_neg c4] at H
          have c4b0 : decide (x5_1 < (l0.length : Int)) = false := decide_eq_false c4
          clear c4
          obtain rfl := Option.some.inj H
          go_wp2
          go_ret
          exact ⟨by first | rfl | (simp; done) | (simp [*]; done), by repeat (first | exact Drawn0.refl _ | apply Drawn0.step)⟩

end Go.Proofs.Ytgiehdhnhkmjfaa.X
-- Laid by xprint.py (wip/tools): printed contracts, and hand-written ones between them.
namespace Go.Proofs.Ytgiehdhnhkmjfaa.X
open Go.RowKit Go.Proofs.YtgiehdhnhkmjfaaW.PrintWords Go.Proofs.YtgiehdhnhkmjfaaW.PrintLast Go.Proofs.YtgiehdhnhkmjfaaW.PrintMore
attribute [local go_sem] max2_int min2_int max_two min_two max_three min_three max_four min_four   -- for this text's walks alone
set_option linter.unusedVariables false
set_option linter.unusedSimpArgs false

/-! ### spec_IsWord: function 60 -/
def spec_IsWord.l0 : Nat → List Int → List Int → Int → Int → Option (Bool)
  | 0, _, _, _, _ => none
  | k + 1, x0, x5, x6, x7 => if x7 < x6 then (if 0 ≤ x7 then (if x7 < (x5.length : Int) then ((spec_IsTrit.f (rd x5 x7)).bind fun t61002 => (if t61002 = true then (spec_IsWord.l0 k x0 x5 x6 (wrap64 (x7 + 1))) else (some false))) else (none)) else (none)) else ((spec_l1In.f (x0.length : Int) 1 30).bind fun t61003 => (some t61003))
def spec_IsWord.f (k : Nat) (l0 : List Int) : Option (Bool) := spec_IsWord.l0 k l0 l0 (l0.length : Int) 0
theorem spec_IsWord.mono_l : ∀ k, (∀ y0 y1 y2 y3, LeO (spec_IsWord.l0 k y0 y1 y2 y3) (spec_IsWord.l0 (k + 1) y0 y1 y2 y3))
  | 0 => fun _ _ _ _ r h => by simp [spec_IsWord.l0] at h
  | k + 1 => by
    have ih0 := spec_IsWord.mono_l k
    · intro y0 y1 y2 y3
      unfold spec_IsWord.l0
      repeat' first
      | (with_reducible exact ih0 _ _ _ _)
      | (with_reducible exact LeO.refl _)
      | (with_reducible exact LeO.none _)
      | (with_reducible refine LeO.ite ?_ ?_)
      | (with_reducible refine LeO.bind ?_ (fun _ => ?_))
      | exact ih0 _ _ _ _
      | exact LeO.none _
      | refine LeO.ite ?_ ?_
      | refine LeO.bind ?_ (fun _ => ?_)
theorem spec_IsWord.mono : ∀ a0 k, LeO (spec_IsWord.f k a0) (spec_IsWord.f (k + 1) a0) := by
  intro a0 k
  have ih0 := spec_IsWord.mono_l k
  unfold spec_IsWord.f
  repeat' first
      | (with_reducible exact ih0 _ _ _ _)
      | (with_reducible exact LeO.refl _)
      | (with_reducible exact LeO.none _)
      | (with_reducible refine LeO.ite ?_ ?_)
      | (with_reducible refine LeO.bind ?_ (fun _ => ?_))
      | exact ih0 _ _ _ _
      | exact LeO.none _
      | refine LeO.ite ?_ ?_
      | refine LeO.bind ?_ (fun _ => ?_)
set_option maxHeartbeats 8000000 in
set_option maxRecDepth 100000 in
theorem spec_IsWord.calls (k : Nat) (A0 : Option Addr) (c0 : Nat) (l0 : List Int) (r : Bool) (w : World) (hr0 : Kd.C (Kd.int .i64) w A0 l0.length l0) (hc0 : l0.length ≤ c0) (h : spec_IsWord.f k l0 = some r) :
    Calls Try.prog 60 #[.slice A0 l0.length c0] w fun e w' => e = .returned (.bool r) ∧ Drawn0 w w' := by
  have HR0 := Aside0.mk hr0
  have HC0 := Aside0.mk hc0
  clear hr0 hc0
  have H : (spec_IsWord.l0 k l0 l0 (l0.length : Int) 0) = some r := h
  clear h
  have H' := Aside0.mk H
  clear H
  go_enter Try.func60, Try.ntmps60
  go_wp2
  go_loopg [7] k (fun kq v7 w' => ∃ (x7_1 : Int), v7 = .int .i64 x7_1 ∧ Aside0 (spec_IsWord.l0 kq l0 l0 (l0.length : Int) x7_1 = some r) ∧ Aside0 (kq ≤ k) ∧ Drawn0 w w')
  case atStart => exact ⟨(0), (by first | rfl | (simp; done) | (simp [*]; done)), H', ⟨Nat.le_refl _⟩, by repeat (first | exact Drawn0.refl _ | apply Drawn0.step)⟩
  case round =>
    clear H'
    obtain ⟨x7_1, rfl, HA, HK1, ⟨m1, rfl⟩⟩ := hrel
    cases gk with
    | zero => exact absurd HA.out (by simp [spec_IsWord.l0])
    | succ k1 =>
      have H := HA.out
      clear HA
      simp only [spec_IsWord.l0] at H
      by_cases c2 : x7_1 < (l0.length : Int)
      · rw [if_pos c2] at H
        have c2b0 : decide (x7_1 < (l0.length : Int)) = true := decide_eq_true c2
        clear c2
        by_cases c3 : 0 ≤ x7_1
        · rw [if_pos c3] at H
          have c3b0 : decide (0 ≤ x7_1) = true := decide_eq_true c3
          clear c3
          by_cases c4 : x7_1 < (l0.length : Int)
          · rw [if_pos c4] at H
            have c4b0 : decide (x7_1 < (l0.length : Int)) = true := decide_eq_true c4
            clear c4
            replace H := Option.bind_eq_some_iff.mp H
            obtain ⟨t61002, A50, H⟩ := H
            replace H : (if t61002 = true then (spec_IsWord.l0 k1 l0 l0 (l0.length : Int) (wrap64 (x7_1 + 1))) else (some false)) = some r := H
            have A5 := Aside0.mk A50
            clear A50
            by_cases c6 : t61002 = true
            · subst c6
              have H1 : (spec_IsWord.l0 k1 l0 l0 (l0.length : Int) (wrap64 (x7_1 + 1))) = some r := by rw [if_pos rfl] at H; exact H
              clear H
              have H := H1
              clear H1
              have H' := Aside0.mk H
              clear H
              have p61001 : 0 ≤ (x7_1 : Int) := of_decide_eq_true (by first | (with_reducible assumption) | assumption)
              have q61001 : x7_1 < (l0.length : Int) := of_decide_eq_true (by first | (with_reducible assumption) | assumption)
              obtain ⟨ad61001, e61001, hx61001_0⟩ := Kd.at_int HR0.out x7_1 p61001 q61001
              cases e61001
              replace p61001 := eq_true p61001
              replace q61001 := eq_true q61001
              go_wp2_with (first | ((with_reducible refine gate_callee (f := 95) rfl ?_); refine goesL_ (some 12) rfl rfl Try.func95 (by kernel_rfl) rfl #[.int .i64 (rd l0 x7_1)] rfl (by (try simp only [List.map_toArray, List.map_cons, List.map_nil]); first | done | rfl | (simp only [List.length_drop, List.length_take]; rfl)) ?_; (with_reducible refine (spec_IsTrit.calls (rd l0 x7_1) true _ A5.out).mono ?_); rintro e w' ⟨rfl, ⟨nd, rfl⟩⟩; refine ⟨_, rfl, ?_⟩))
              go_roundg k1
              case measure => have := HK1.out; omega
              case rel => exact ⟨(wrap64 (x7_1 + 1)), (by first | rfl | (simp; done) | (simp [*]; done)), H', ⟨by have := HK1.out; omega⟩, by repeat (first | exact Drawn0.refl _ | apply Drawn0.step)⟩
            · replace c6 := Bool.eq_false_iff.mpr c6
              subst c6
              have H1 : (some false) = some r := by rw [if_neg (show ¬ (false = true) by decide)] at H; exact H
              clear H
              have H := H1
              clear H1
              obtain rfl := Option.some.inj H
              have p61001 : 0 ≤ (x7_1 : Int) := of_decide_eq_true (by first | (with_reducible assumption) | assumption)
              have q61001 : x7_1 < (l0.length : Int) := of_decide_eq_true (by first | (with_reducible assumption) | assumption)
              obtain ⟨ad61001, e61001, hx61001_0⟩ := Kd.at_int HR0.out x7_1 p61001 q61001
              cases e61001
              replace p61001 := eq_true p61001
              replace q61001 := eq_true q61001
              go_wp2_with (first | ((with_reducible refine gate_callee (f := 95) rfl ?_); refine goesL_ (some 12) rfl rfl Try.func95 (by kernel_rfl) rfl #[.int .i64 (rd l0 x7_1)] rfl (by (try simp only [List.map_toArray, List.map_cons, List.map_nil]); first | done | rfl | (simp only [List.length_drop, List.length_take]; rfl)) ?_; (with_reducible refine (spec_IsTrit.calls (rd l0 x7_1) false _ A5.out).mono ?_); rintro e w' ⟨rfl, ⟨nd, rfl⟩⟩; refine ⟨_, rfl, ?_⟩))
              go_ret
              exact ⟨by first | rfl | (simp; done) | (simp [*]; done), by repeat (first | exact Drawn0.refl _ | apply Drawn0.step)⟩
          · rw [if_neg c4] at H
            exact absurd H (by simp)
        · rw [if_neg c3] at H
          exact absurd H (by simp)
      · rw [if_neg c2] at H
        have c2b0 : decide (x7_1 < (l0.length : Int)) = false := decide_eq_false c2
        clear c2
        replace H := Option.bind_eq_some_iff.mp H
        obtain ⟨t61003, A70, H⟩ := H
        replace H : (some t61003) = some r := H
        have A7 := Aside0.mk A70
        clear A70
        obtain rfl := Option.some.inj H
        go_wp2_with (first | ((with_reducible refine gate_callee (f := 70) rfl ?_); refine goesL_ (some 17) rfl rfl Try.func70 (by kernel_rfl) rfl #[.int .i64 (l0.length : Int), .int .i64 1, .int .i64 30] rfl (by (try simp only [List.map_toArray, List.map_cons, List.map_nil]); first | done | rfl | (simp only [List.length_drop, List.length_take]; rfl)) ?_; (with_reducible refine (spec_l1In.calls (l0.length : Int) 1 30 t61003 _ A7.out).mono ?_); rintro e w' ⟨rfl, ⟨nd, rfl⟩⟩; refine ⟨_, rfl, ?_⟩))
        go_ret
        exact ⟨by first | rfl | (simp; done) | (simp [*]; done), by repeat (first | exact Drawn0.refl _ | apply Drawn0.step)⟩

end Go.Proofs.Ytgiehdhnhkmjfaa.X
-- Laid by xprint.py (wip/tools): printed contracts, and hand-written ones between them.
namespace Go.Proofs.Ytgiehdhnhkmjfaa.X
open Go.RowKit Go.Proofs.YtgiehdhnhkmjfaaW.PrintWords Go.Proofs.YtgiehdhnhkmjfaaW.PrintLast Go.Proofs.YtgiehdhnhkmjfaaW.PrintMore
attribute [local go_sem] max2_int min2_int max_two min_two max_three min_three max_four min_four   -- for this text's walks alone
set_option linter.unusedVariables false
set_option linter.unusedSimpArgs false

/-! ### spec_l3Fit: function 88 -/
def spec_l3Fit.f (k : Nat) (l0 : List Int) (l1 : List Int) : Option (Bool) := (spec_IsWord.f k l0).bind fun t89001 => (if t89001 = true then ((spec_IsWord.f k l1).bind fun t89002 => (if t89002 = true then (some ((l0.length : Int) == (l1.length : Int))) else (some false))) else (some false))
theorem spec_l3Fit.mono : ∀ a0 a1 k, LeO (spec_l3Fit.f k a0 a1) (spec_l3Fit.f (k + 1) a0 a1) := by
  intro a0 a1 k
  unfold spec_l3Fit.f
  repeat' first
      | (with_reducible exact spec_IsWord.mono _ _)
      | (with_reducible exact LeO.refl _)
      | (with_reducible exact LeO.none _)
      | (with_reducible refine LeO.ite ?_ ?_)
      | (with_reducible refine LeO.bind ?_ (fun _ => ?_))
      | exact spec_IsWord.mono _ _
      | exact LeO.none _
      | refine LeO.ite ?_ ?_
      | refine LeO.bind ?_ (fun _ => ?_)
set_option maxHeartbeats 8000000 in
set_option maxRecDepth 100000 in
theorem spec_l3Fit.calls (k : Nat) (A0 : Option Addr) (c0 : Nat) (l0 : List Int) (A1 : Option Addr) (c1 : Nat) (l1 : List Int) (r : Bool) (w : World) (hr0 : Kd.C (Kd.int .i64) w A0 l0.length l0) (hc0 : l0.length ≤ c0) (hr1 : Kd.C (Kd.int .i64) w A1 l1.length l1) (hc1 : l1.length ≤ c1) (h : spec_l3Fit.f k l0 l1 = some r) :
    Calls Try.prog 88 #[.slice A0 l0.length c0, .slice A1 l1.length c1] w fun e w' => e = .returned (.bool r) ∧ Drawn0 w w' := by
  have HR0 := Aside0.mk hr0
  have HC0 := Aside0.mk hc0
  clear hr0 hc0
  have HR1 := Aside0.mk hr1
  have HC1 := Aside0.mk hc1
  clear hr1 hc1
  have H : ((spec_IsWord.f k l0).bind fun t89001 => (if t89001 = true then ((spec_IsWord.f k l1).bind fun t89002 => (if t89002 = true then (some ((l0.length : Int) == (l1.length : Int))) else (some false))) else (some false))) = some r := h
  clear h
  replace H := Option.bind_eq_some_iff.mp H
  obtain ⟨t89001, A30, H⟩ := H
  replace H : (if t89001 = true then ((spec_IsWord.f k l1).bind fun t89002 => (if t89002 = true then (some ((l0.length : Int) == (l1.length : Int))) else (some false))) else (some false)) = some r := H
  have A3 := Aside0.mk A30
  clear A30
  by_cases c4 : t89001 = true
  · subst c4
    have H1 : ((spec_IsWord.f k l1).bind fun t89002 => (if t89002 = true then (some ((l0.length : Int) == (l1.length : Int))) else (some false))) = some r := by rw [if_pos rfl] at H; exact H
    clear H
    have H := H1
    clear H1
    replace H := Option.bind_eq_some_iff.mp H
    obtain ⟨t89002, A50, H⟩ := H
    replace H : (if t89002 = true then (some ((l0.length : Int) == (l1.length : Int))) else (some false)) = some r := H
    have A5 := Aside0.mk A50
    clear A50
    by_cases c6 : t89002 = true
    · subst c6
      have H1 : (some ((l0.length : Int) == (l1.length : Int))) = some r := by rw [if_pos rfl] at H; exact H
      clear H
      have H := H1
      clear H1
      obtain rfl := Option.some.inj H
      go_enter Try.func88, Try.ntmps88
      go_wp2_with (first | ((with_reducible refine gate_callee (f := 60) rfl ?_); refine goesL_ (some 6) rfl rfl Try.func60 (by kernel_rfl) rfl #[.slice A0 l0.length c0] rfl (by (try simp only [List.map_toArray, List.map_cons, List.map_nil]); first | done | rfl | (simp only [List.length_drop, List.length_take]; rfl)) ?_; (with_reducible refine (spec_IsWord.calls k _ _ l0 true _ ?side1 ?side2 A3.out).mono ?_); (case side1 => repeat (first | exact HR0.out | (with_reducible refine Kd.C_alloc ?_ _) | (with_reducible refine Kd.C_drewN ?_ _) | (with_reducible refine Kd.C_drew ?_))); (case side2 => exact HC0.out); rintro e w' ⟨rfl, ⟨nd, rfl⟩⟩; refine ⟨_, rfl, ?_⟩) | (go_at_call 60; (with_reducible refine (spec_IsWord.calls k _ _ l1 true _ ?side1 ?side2 A5.out).mono ?_); (case side1 => repeat (first | exact HR1.out | (with_reducible refine Kd.C_alloc ?_ _) | (with_reducible refine Kd.C_drewN ?_ _) | (with_reducible refine Kd.C_drew ?_))); (case side2 => exact HC1.out); rintro e w' ⟨rfl, ⟨nd, rfl⟩⟩))
      go_ret
      exact ⟨by first | rfl | (simp; done) | (simp [*]; done), by repeat (first | exact Drawn0.refl _ | apply Drawn0.step)⟩
    · replace c6 := Bool.eq_false_iff.mpr c6
      subst c6
      have H1 : (some false) = some r := by rw [if_neg (show ¬ (false = true) by decide)] at H; exact H
      clear H
      have H := H1
      clear H1
      obtain rfl := Option.some.inj H
      go_enter Try.func88, Try.ntmps88
      go_wp2_with (first | ((with_reducible refine gate_callee (f := 60) rfl ?_); refine goesL_ (some 6) rfl rfl Try.func60 (by kernel_rfl) rfl #[.slice A0 l0.length c0] rfl (by (try simp only [List.map_toArray, List.map_cons, List.map_nil]); first | done | rfl | (simp only [List.length_drop, List.length_take]; rfl)) ?_; (with_reducible refine (spec_IsWord.calls k _ _ l0 true _ ?side1 ?side2 A3.out).mono ?_); (case side1 => repeat (first | exact HR0.out | (with_reducible refine Kd.C_alloc ?_ _) | (with_reducible refine Kd.C_drewN ?_ _) | (with_reducible refine Kd.C_drew ?_))); (case side2 => exact HC0.out); rintro e w' ⟨rfl, ⟨nd, rfl⟩⟩; refine ⟨_, rfl, ?_⟩) | (go_at_call 60; (with_reducible refine (spec_IsWord.calls k _ _ l1 false _ ?side1 ?side2 A5.out).mono ?_); (case side1 => repeat (first | exact HR1.out | (with_reducible refine Kd.C_alloc ?_ _) | (with_reducible refine Kd.C_drewN ?_ _) | (with_reducible refine Kd.C_drew ?_))); (case side2 => exact HC1.out); rintro e w' ⟨rfl, ⟨nd, rfl⟩⟩))
      go_ret
      exact ⟨by first | rfl | (simp; done) | (simp [*]; done), by repeat (first | exact Drawn0.refl _ | apply Drawn0.step)⟩
  · replace c4 := Bool.eq_false_iff.mpr c4
    subst c4
    have H1 : (some false) = some r := by rw [if_neg (show ¬ (false = true) by decide)] at H; exact H
    clear H
    have H := H1
    clear H1
    obtain rfl := Option.some.inj H
    go_enter Try.func88, Try.ntmps88
    go_wp2_with (first | ((with_reducible refine gate_callee (f := 60) rfl ?_); refine goesL_ (some 6) rfl rfl Try.func60 (by kernel_rfl) rfl #[.slice A0 l0.length c0] rfl (by (try simp only [List.map_toArray, List.map_cons, List.map_nil]); first | done | rfl | (simp only [List.length_drop, List.length_take]; rfl)) ?_; (with_reducible refine (spec_IsWord.calls k _ _ l0 false _ ?side1 ?side2 A3.out).mono ?_); (case side1 => repeat (first | exact HR0.out | (with_reducible refine Kd.C_alloc ?_ _) | (with_reducible refine Kd.C_drewN ?_ _) | (with_reducible refine Kd.C_drew ?_))); (case side2 => exact HC0.out); rintro e w' ⟨rfl, ⟨nd, rfl⟩⟩; refine ⟨_, rfl, ?_⟩))
    go_ret
    exact ⟨by first | rfl | (simp; done) | (simp [*]; done), by repeat (first | exact Drawn0.refl _ | apply Drawn0.step)⟩

end Go.Proofs.Ytgiehdhnhkmjfaa.X
-- Laid by xprint.py (wip/tools): printed contracts, and hand-written ones between them.
namespace Go.Proofs.Ytgiehdhnhkmjfaa.X
open Go.RowKit Go.Proofs.YtgiehdhnhkmjfaaW.PrintWords Go.Proofs.YtgiehdhnhkmjfaaW.PrintLast Go.Proofs.YtgiehdhnhkmjfaaW.PrintMore
attribute [local go_sem] max2_int min2_int max_two min_two max_three min_three max_four min_four   -- for this text's walks alone
set_option linter.unusedVariables false
set_option linter.unusedSimpArgs false

/-! ### spec_l8Words: function 43 -/
def spec_l8Words.l0 : Nat → List (List Int) → List (List Int) → Int → Int → Option (Bool)
  | 0, _, _, _, _ => none
  | k + 1, x0, x5, x6, x7 => if x7 < x6 then (if 0 ≤ x7 then (if x7 < (x5.length : Int) then (if 0 < (x0.length : Int) then ((spec_l3Fit.f k (rd_L9 x0 0) (rd_L9 x5 x7)).bind fun t44003 => (if t44003 = true then (spec_l8Words.l0 k x0 x5 x6 (wrap64 (x7 + 1))) else (some false))) else (none)) else (none)) else (none)) else (some (decide ((x0.length : Int) > 0)))
def spec_l8Words.f (k : Nat) (l0 : List (List Int)) : Option (Bool) := spec_l8Words.l0 k l0 l0 (l0.length : Int) 0
theorem spec_l8Words.mono_l : ∀ k, (∀ y0 y1 y2 y3, LeO (spec_l8Words.l0 k y0 y1 y2 y3) (spec_l8Words.l0 (k + 1) y0 y1 y2 y3))
  | 0 => fun _ _ _ _ r h => by simp [spec_l8Words.l0] at h
  | k + 1 => by
    have ih0 := spec_l8Words.mono_l k
    · intro y0 y1 y2 y3
      unfold spec_l8Words.l0
      repeat' first
      | (with_reducible exact ih0 _ _ _ _)
      | (with_reducible exact spec_l3Fit.mono _ _ _)
      | (with_reducible exact LeO.refl _)
      | (with_reducible exact LeO.none _)
      | (with_reducible refine LeO.ite ?_ ?_)
      | (with_reducible refine LeO.bind ?_ (fun _ => ?_))
      | exact ih0 _ _ _ _
      | exact spec_l3Fit.mono _ _ _
      | exact LeO.none _
      | refine LeO.ite ?_ ?_
      | refine LeO.bind ?_ (fun _ => ?_)
theorem spec_l8Words.mono : ∀ a0 k, LeO (spec_l8Words.f k a0) (spec_l8Words.f (k + 1) a0) := by
  intro a0 k
  have ih0 := spec_l8Words.mono_l k
  unfold spec_l8Words.f
  repeat' first
      | (with_reducible exact ih0 _ _ _ _)
      | (with_reducible exact spec_l3Fit.mono _ _ _)
      | (with_reducible exact LeO.refl _)
      | (with_reducible exact LeO.none _)
      | (with_reducible refine LeO.ite ?_ ?_)
      | (with_reducible refine LeO.bind ?_ (fun _ => ?_))
      | exact ih0 _ _ _ _
      | exact spec_l3Fit.mono _ _ _
      | exact LeO.none _
      | refine LeO.ite ?_ ?_
      | refine LeO.bind ?_ (fun _ => ?_)
set_option maxHeartbeats 8000000 in
set_option maxRecDepth 100000 in
theorem spec_l8Words.calls (k : Nat) (A0 : Option Addr) (c0 : Nat) (l0 : List (List Int)) (r : Bool) (w : World) (hr0 : Kd.C (Kd.slice 3 (Kd.int .i64)) w A0 l0.length l0) (hc0 : l0.length ≤ c0) (h : spec_l8Words.f k l0 = some r) :
    Calls Try.prog 43 #[.slice A0 l0.length c0] w fun e w' => e = .returned (.bool r) ∧ Drawn0 w w' := by
  have HR0 := Aside0.mk hr0
  have HC0 := Aside0.mk hc0
  clear hr0 hc0
  have H : (spec_l8Words.l0 k l0 l0 (l0.length : Int) 0) = some r := h
  clear h
  have H' := Aside0.mk H
  clear H
  go_enter Try.func43, Try.ntmps43
  go_wp2
  go_loopg [7] k (fun kq v7 w' => ∃ (x7_1 : Int), v7 = .int .i64 x7_1 ∧ Aside0 (spec_l8Words.l0 kq l0 l0 (l0.length : Int) x7_1 = some r) ∧ Aside0 (kq ≤ k) ∧ Drawn0 w w')
  case atStart => exact ⟨(0), (by first | rfl | (simp; done) | (simp [*]; done)), H', ⟨Nat.le_refl _⟩, by repeat (first | exact Drawn0.refl _ | apply Drawn0.step)⟩
  case round =>
    clear H'
    obtain ⟨x7_1, rfl, HA, HK1, ⟨m1, rfl⟩⟩ := hrel
    cases gk with
    | zero => exact absurd HA.out (by simp [spec_l8Words.l0])
    | succ k1 =>
      have H := HA.out
      clear HA
      simp only [spec_l8Words.l0] at H
      by_cases c2 : x7_1 < (l0.length : Int)
      · rw [if_pos c2] at H
        have c2b0 : decide (x7_1 < (l0.length : Int)) = true := decide_eq_true c2
        clear c2
        by_cases c3 : 0 ≤ x7_1
        · rw [if_pos c3] at H
          have c3b0 : decide (0 ≤ x7_1) = true := decide_eq_true c3
          clear c3
          by_cases c4 : x7_1 < (l0.length : Int)
          · rw [if_pos c4] at H
            have c4b0 : decide (x7_1 < (l0.length : Int)) = true := decide_eq_true c4
            clear c4
            by_cases c5 : 0 < (l0.length : Int)
            · rw [if_pos c5] at H
              have c5b0 : decide (0 < (l0.length : Int)) = true := decide_eq_true c5
              have c5b1 : decide (0 < l0.length) = true := decide_eq_true (by omega)
              clear c5
              replace H := Option.bind_eq_some_iff.mp H
              obtain ⟨t44003, A60, H⟩ := H
              replace H : (if t44003 = true then (spec_l8Words.l0 k1 l0 l0 (l0.length : Int) (wrap64 (x7_1 + 1))) else (some false)) = some r := H
              have A6 := Aside0.mk A60
              clear A60
              by_cases c7 : t44003 = true
              · subst c7
                have H1 : (spec_l8Words.l0 k1 l0 l0 (l0.length : Int) (wrap64 (x7_1 + 1))) = some r := by rw [if_pos rfl] at H; exact H
                clear H
                have H := H1
                clear H1
                have H' := Aside0.mk H
                clear H
                have p44001 : 0 ≤ (x7_1 : Int) := of_decide_eq_true (by first | (with_reducible assumption) | assumption)
                have q44001 : x7_1 < (l0.length : Int) := of_decide_eq_true (by first | (with_reducible assumption) | assumption)
                obtain ⟨ad44001, A44001_0, c44001_0, e44001, hx44001_0, hl44001_0, hi44001_0⟩ := at_L9 HR0.out x7_1 p44001 q44001
                cases e44001
                have HR44001_0 := Aside0.mk hi44001_0
                have HC44001_0 := Aside0.mk hl44001_0
                clear hi44001_0 hl44001_0
                replace p44001 := eq_true p44001
                replace q44001 := eq_true q44001
                have p44002 : 0 ≤ (0 : Int) := (by omega)
                have q44002 : 0 < (l0.length : Int) := of_decide_eq_true (by first | (with_reducible assumption) | assumption)
                obtain ⟨ad44002, A44002_0, c44002_0, e44002, hx44002_0, hl44002_0, hi44002_0⟩ := at_L9 HR0.out 0 p44002 q44002
                obtain rfl : ad44001 = ad44002 := (by injection e44002)
                have qi44002 : (0 < l0.length) = True := eq_true (by omega)
                (try rw [show ((0 : Int)).toNat = 0 from rfl] at hx44002_0)
                (try rw [Addr.add_zero'] at hx44002_0)
                have HR44002_0 := Aside0.mk hi44002_0
                have HC44002_0 := Aside0.mk hl44002_0
                clear hi44002_0 hl44002_0
                replace p44002 := eq_true p44002
                replace q44002 := eq_true q44002
                go_wp2_with (first | ((with_reducible refine gate_callee (f := 88) rfl ?_); refine goesL_ (some 15) rfl rfl Try.func88 (by kernel_rfl) rfl #[.slice A44002_0 (rd_L9 l0 0).length c44002_0, .slice A44001_0 (rd_L9 l0 x7_1).length c44001_0] rfl (by (try simp only [List.map_toArray, List.map_cons, List.map_nil]); first | done | rfl | (simp only [List.length_drop, List.length_take]; rfl)) ?_; (with_reducible refine (spec_l3Fit.calls k1 _ _ (rd_L9 l0 0) _ _ (rd_L9 l0 x7_1) true _ ?side1 ?side2 ?side3 ?side4 A6.out).mono ?_); (case side1 => repeat (first | exact HR44002_0.out | (with_reducible refine Kd.C_alloc ?_ _) | (with_reducible refine Kd.C_drewN ?_ _) | (with_reducible refine Kd.C_drew ?_))); (case side2 => exact HC44002_0.out); (case side3 => repeat (first | exact HR44001_0.out | (with_reducible refine Kd.C_alloc ?_ _) | (with_reducible refine Kd.C_drewN ?_ _) | (with_reducible refine Kd.C_drew ?_))); (case side4 => exact HC44001_0.out); rintro e w' ⟨rfl, ⟨nd, rfl⟩⟩; refine ⟨_, rfl, ?_⟩))
                go_roundg k1
                case measure => have := HK1.out; omega
                case rel => exact ⟨(wrap64 (x7_1 + 1)), (by first | rfl | (simp; done) | (simp [*]; done)), H', ⟨by have := HK1.out; omega⟩, by repeat (first | exact Drawn0.refl _ | apply Drawn0.step)⟩
              · replace c7 := Bool.eq_false_iff.mpr c7
                subst c7
                have H1 : (some false) = some r := by rw [if_neg (show ¬ (false = true) by decide)] at H; exact H
                clear H
                have H := H1
                clear H1
                obtain rfl := Option.some.inj H
                have p44001 : 0 ≤ (x7_1 : Int) := of_decide_eq_true (by first | (with_reducible assumption) | assumption)
                have q44001 : x7_1 < (l0.length : Int) := of_decide_eq_true (by first | (with_reducible assumption) | assumption)
                obtain ⟨ad44001, A44001_0, c44001_0, e44001, hx44001_0, hl44001_0, hi44001_0⟩ := at_L9 HR0.out x7_1 p44001 q44001
                cases e44001
                have HR44001_0 := Aside0.mk hi44001_0
                have HC44001_0 := Aside0.mk hl44001_0
                clear hi44001_0 hl44001_0
                replace p44001 := eq_true p44001
                replace q44001 := eq_true q44001
                have p44002 : 0 ≤ (0 : Int) := (by omega)
                have q44002 : 0 < (l0.length : Int) := of_decide_eq_true (by first | (with_reducible assumption) | assumption)
                obtain ⟨ad44002, A44002_0, c44002_0, e44002, hx44002_0, hl44002_0, hi44002_0⟩ := at_L9 HR0.out 0 p44002 q44002
                obtain rfl : ad44001 = ad44002 := (by injection e44002)
                have qi44002 : (0 < l0.length) = True := eq_true (by omega)
                (try rw [show ((0 : Int)).toNat = 0 from rfl] at hx44002_0)
                (try rw [Addr.add_zero'] at hx44002_0)
                have HR44002_0 := Aside0.mk hi44002_0
                have HC44002_0 := Aside0.mk hl44002_0
                clear hi44002_0 hl44002_0
                replace p44002 := eq_true p44002
                replace q44002 := eq_true q44002
                go_wp2_with (first | ((with_reducible refine gate_callee (f := 88) rfl ?_); refine goesL_ (some 15) rfl rfl Try.func88 (by kernel_rfl) rfl #[.slice A44002_0 (rd_L9 l0 0).length c44002_0, .slice A44001_0 (rd_L9 l0 x7_1).length c44001_0] rfl (by (try simp only [List.map_toArray, List.map_cons, List.map_nil]); first | done | rfl | (simp only [List.length_drop, List.length_take]; rfl)) ?_; (with_reducible refine (spec_l3Fit.calls k1 _ _ (rd_L9 l0 0) _ _ (rd_L9 l0 x7_1) false _ ?side1 ?side2 ?side3 ?side4 A6.out).mono ?_); (case side1 => repeat (first | exact HR44002_0.out | (with_reducible refine Kd.C_alloc ?_ _) | (with_reducible refine Kd.C_drewN ?_ _) | (with_reducible refine Kd.C_drew ?_))); (case side2 => exact HC44002_0.out); (case side3 => repeat (first | exact HR44001_0.out | (with_reducible refine Kd.C_alloc ?_ _) | (with_reducible refine Kd.C_drewN ?_ _) | (with_reducible refine Kd.C_drew ?_))); (case side4 => exact HC44001_0.out); rintro e w' ⟨rfl, ⟨nd, rfl⟩⟩; refine ⟨_, rfl, ?_⟩))
                go_ret
                exact ⟨by first | rfl | (simp; done) | (simp [*]; done), by repeat (first | exact Drawn0.refl _ | apply Drawn0.step)⟩
            · rw [if_neg c5] at H
              exact absurd H (by simp)
          · rw [if_neg c4] at H
            exact absurd H (by simp)
        · rw [if_neg c3] at H
          exact absurd H (by simp)
      · rw [if_neg c2] at H
        have c2b0 : decide (x7_1 < (l0.length : Int)) = false := decide_eq_false c2
        clear c2
        obtain rfl := Option.some.inj H
        go_wp2
        go_ret
        exact ⟨by first | rfl | (simp; done) | (simp [*]; done), by repeat (first | exact Drawn0.refl _ | apply Drawn0.step)⟩

end Go.Proofs.Ytgiehdhnhkmjfaa.X
