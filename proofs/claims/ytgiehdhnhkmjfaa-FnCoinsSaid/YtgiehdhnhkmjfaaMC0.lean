/- The texts X0, Xp1, Xp3, Xf102, Xf79, Xf86, Xf104, Xf90, Xf45, Xf11, Xf69, Xf28, Xf70, Xf71, Xf36, Xp2, Xf67, Xf77, Xf97, Xf98, Xf64, Xf76, Xf101, Xf78, Xf81, Xf82, Xf33 of this claim, one behind the other. -/
import Derived.Test.YtgiehdhnhkmjfaaProg
import Derived.Below
import Derived.Deep.Draws
import Derived.Deep.AppendLies
import Derived.Maps.AppendAt
import Derived.OwnWalk
import Derived.Laws.BytesArg
import Derived.Laws.MakeOwn
import Derived.Laws.OwnMore
import Derived.Deep.OwnRows
import Derived.Tactics
import Derived.Lib.ConvBytes
import Derived.Laws.Slices
import Derived.WalkKit
import Derived.KernelRfl
import Derived.RowKit3
import Derived.Deep.LoopGhost
import Derived.Deep.QuietTactic
import Derived.BigQuiet
import Derived.WideLaws
import Derived.Deep.DeepCutAuto
import Derived.Deep.CutBlock
import Derived.Deep.RegionHeld3
import Derived.Laws.Rows
import Derived.Lib.AppendStr
import Derived.ArgAppend
import Derived.Laws.IdiomCopy
import Derived.OrdersHeld
import Derived.Laws.BitsLemmas
import Derived.RowKit
import Derived.Shelf.Abstract
import Derived.Test.YtgiehdhnhkmjfaaWWords
import Derived.Test.YtgiehdhnhkmjfaaWLast
import Derived.Test.YtgiehdhnhkmjfaaWTab
import Derived.Test.YtgiehdhnhkmjfaaWFour
import Derived.Test.YtgiehdhnhkmjfaaWQPut
import Derived.Test.YtgiehdhnhkmjfaaWApart
import Derived.Test.YtgiehdhnhkmjfaaWArr
import Derived.Test.YtgiehdhnhkmjfaaWZeros
import Derived.Test.YtgiehdhnhkmjfaaWFoot
import Derived.Test.YtgiehdhnhkmjfaaWKept
import Derived.Test.YtgiehdhnhkmjfaaWShare
import Derived.Test.YtgiehdhnhkmjfaaWN
import Derived.Test.YtgiehdhnhkmjfaaWFootNe
import Derived.Test.YtgiehdhnhkmjfaaWAt
import Derived.Test.YtgiehdhnhkmjfaaWEqStruct
import Derived.Test.YtgiehdhnhkmjfaaWRepsOne
import Derived.Test.YtgiehdhnhkmjfaaWInv
import Derived.Test.YtgiehdhnhkmjfaaWInvWords
import Derived.Test.YtgiehdhnhkmjfaaWGuard
import Derived.Test.YtgiehdhnhkmjfaaWNEv
import Derived.Test.YtgiehdhnhkmjfaaWMore
-- Laid by xprint.py (wip/tools): printed contracts, and hand-written ones between them.
namespace Go.Proofs.Ytgiehdhnhkmjfaa.X
open Go.RowKit Go.Proofs.YtgiehdhnhkmjfaaW.PrintWords Go.Proofs.YtgiehdhnhkmjfaaW.PrintLast Go.Proofs.YtgiehdhnhkmjfaaW.PrintMore
attribute [local go_sem] max2_int min2_int max_two min_two max_three min_three max_four min_four   -- for this text's walks alone
set_option linter.unusedVariables false
set_option linter.unusedSimpArgs false



def errW : Option Int → Value
  | none => .nilIface
  | some c => .iface 0 (.int .i64 c)
theorem errW_none : errW none = .nilIface := rfl
theorem errW_some (c : Int) : errW (some c) = .iface 0 (.int .i64 c) := rfl

theorem info3 : (Try.prog.info? 3).map (fun i => (i.zero, i.size, i.bytes)) = some (some (.int .i64 0), 1, 8) := by kernel_rfl
theorem info5 : (Try.prog.info? 5).map (fun i => (i.zero, i.size, i.bytes)) = some (some (.int .u8 0), 1, 1) := by kernel_rfl
theorem info34 : (Try.prog.info? 34).map (fun i => (i.zero, i.size, i.bytes)) = some (some (.agg #[(.int .i64 0), (.int .i64 0), (.slice none 0 0)]), 3, 40) := by kernel_rfl
theorem info38 : (Try.prog.info? 38).map (fun i => (i.zero, i.size, i.bytes)) = some (some (.agg #[(.int .i64 0), (.int .i64 0), (.slice none 0 0)]), 3, 40) := by kernel_rfl
theorem info47 : (Try.prog.info? 47).map (fun i => (i.zero, i.size, i.bytes)) = some (some (.slice none 0 0), 1, 24) := by kernel_rfl
theorem info50 : (Try.prog.info? 50).map (fun i => (i.zero, i.size, i.bytes)) = some (some (.agg #[(.slice none 0 0), (.slice none 0 0)]), 2, 48) := by kernel_rfl
-- the values' own types
/-! #### struct type 7 -/
structure S7 where
  f0 : Int
  f1 : Int
  f2 : Bool
  f3 : Int
def z7 : S7 := ⟨(0 : Int), (0 : Int), false, (0 : Int)⟩
def k7 : Kd S7 := Kd.iso (Kd.pair (Kd.int .i64) (Kd.pair (Kd.int .i64) (Kd.pair Kd.bool (Kd.int .u8)))) (fun x : S7 => (x.f0, x.f1, x.f2, x.f3))
theorem k7_heap : Kd.Heap k7 := Kd.heap_iso _ (Kd.heap_pair (Kd.heap_int .i64) (Kd.heap_pair (Kd.heap_int .i64) (Kd.heap_pair Kd.heap_bool (Kd.heap_int .u8))))
theorem k7_open {w : World} {x : S7} {cs : List Value} (h : k7.K w x cs) : cs = [.int .i64 x.f0, .int .i64 x.f1, .bool x.f2, .int .u8 x.f3] := by
  obtain ⟨_, _, rfl, rfl, ⟨_, _, rfl, rfl, ⟨_, _, rfl, rfl, rfl⟩⟩⟩ := h
  exact rfl
theorem k7_openM {w : World} {base : Nat} {ok : Nat → Prop} {x : S7} {cs : List Value} (h : k7.M w base ok x cs) : cs = [.int .i64 x.f0, .int .i64 x.f1, .bool x.f2, .int .u8 x.f3] := by
  obtain ⟨_, _, rfl, rfl, ⟨_, _, rfl, rfl, ⟨_, _, rfl, rfl, rfl⟩⟩⟩ := h
  exact rfl
theorem k7_mk (w : World) (x : S7)  : k7.K w x [.int .i64 x.f0, .int .i64 x.f1, .bool x.f2, .int .u8 x.f3] := ⟨[.int .i64 x.f0], [.int .i64 x.f1, .bool x.f2, .int .u8 x.f3], rfl, rfl, ⟨[.int .i64 x.f1], [.bool x.f2, .int .u8 x.f3], rfl, rfl, ⟨[.bool x.f2], [.int .u8 x.f3], rfl, rfl, rfl⟩⟩⟩
theorem k7_mkM (w : World) (base : Nat) (ok : Nat → Prop) (x : S7)  : k7.M w base ok x [.int .i64 x.f0, .int .i64 x.f1, .bool x.f2, .int .u8 x.f3] := ⟨[.int .i64 x.f0], [.int .i64 x.f1, .bool x.f2, .int .u8 x.f3], rfl, rfl, ⟨[.int .i64 x.f1], [.bool x.f2, .int .u8 x.f3], rfl, rfl, ⟨[.bool x.f2], [.int .u8 x.f3], rfl, rfl, rfl⟩⟩⟩
theorem k7_mkF (W : World) (ok : Nat → Prop) (x : S7) : Kd.FK k7 W ok x [.int .i64 x.f0, .int .i64 x.f1, .bool x.f2, .int .u8 x.f3] := fun W2 _ => k7_mk W2 x
def rd_T7 (xs : List S7) (i : Int) : S7 := xs.getD i.toNat z7
theorem at_T7 {w : World} {A : Option Addr} {n : Nat} {xs : List S7} (h : Kd.C k7 w A n xs) (i : Int) (h0 : 0 ≤ i) (h1 : i < n) : ∃ ad , A = some ad ∧ w.cell? (ad.add (i.toNat * 4)) = some (.int .i64 (rd_T7 xs i).f0) ∧ w.cell? ⟨(ad.add (i.toNat * 4)).block, (ad.add (i.toNat * 4)).off + 1, none⟩ = some (.int .i64 (rd_T7 xs i).f1) ∧ w.cell? ⟨(ad.add (i.toNat * 4)).block, (ad.add (i.toNat * 4)).off + 2, none⟩ = some (.bool (rd_T7 xs i).f2) ∧ w.cell? ⟨(ad.add (i.toNat * 4)).block, (ad.add (i.toNat * 4)).off + 3, none⟩ = some (.int .u8 (rd_T7 xs i).f3) := by
  obtain ⟨ad, c, e, _, hK, hc0⟩ := Kd.C_get h z7 i h0 h1
  have hc : ∀ j u, c[j]? = some u → w.cell? (ad.add (i.toNat * 4 + j)) = some u := hc0
  obtain rfl := k7_open hK
  exact ⟨ad, e, hc 0 _ rfl, by rw [← add_field _ _ 1 (by omega)]; exact hc 1 _ rfl, by rw [← add_field _ _ 2 (by omega)]; exact hc 2 _ rfl, by rw [← add_field _ _ 3 (by omega)]; exact hc 3 _ rfl⟩

/-! #### struct type 8 -/
structure S8 where
  f0 : Int
  f1 : Int
  f2 : Bool
  f3 : Int
def z8 : S8 := ⟨(0 : Int), (0 : Int), false, (0 : Int)⟩
def k8 : Kd S8 := Kd.iso (Kd.pair (Kd.int .i64) (Kd.pair (Kd.int .i64) (Kd.pair Kd.bool (Kd.int .u8)))) (fun x : S8 => (x.f0, x.f1, x.f2, x.f3))
theorem k8_heap : Kd.Heap k8 := Kd.heap_iso _ (Kd.heap_pair (Kd.heap_int .i64) (Kd.heap_pair (Kd.heap_int .i64) (Kd.heap_pair Kd.heap_bool (Kd.heap_int .u8))))
theorem k8_open {w : World} {x : S8} {cs : List Value} (h : k8.K w x cs) : cs = [.int .i64 x.f0, .int .i64 x.f1, .bool x.f2, .int .u8 x.f3] := by
  obtain ⟨_, _, rfl, rfl, ⟨_, _, rfl, rfl, ⟨_, _, rfl, rfl, rfl⟩⟩⟩ := h
  exact rfl
theorem k8_openM {w : World} {base : Nat} {ok : Nat → Prop} {x : S8} {cs : List Value} (h : k8.M w base ok x cs) : cs = [.int .i64 x.f0, .int .i64 x.f1, .bool x.f2, .int .u8 x.f3] := by
  obtain ⟨_, _, rfl, rfl, ⟨_, _, rfl, rfl, ⟨_, _, rfl, rfl, rfl⟩⟩⟩ := h
  exact rfl
theorem k8_mk (w : World) (x : S8)  : k8.K w x [.int .i64 x.f0, .int .i64 x.f1, .bool x.f2, .int .u8 x.f3] := ⟨[.int .i64 x.f0], [.int .i64 x.f1, .bool x.f2, .int .u8 x.f3], rfl, rfl, ⟨[.int .i64 x.f1], [.bool x.f2, .int .u8 x.f3], rfl, rfl, ⟨[.bool x.f2], [.int .u8 x.f3], rfl, rfl, rfl⟩⟩⟩
theorem k8_mkM (w : World) (base : Nat) (ok : Nat → Prop) (x : S8)  : k8.M w base ok x [.int .i64 x.f0, .int .i64 x.f1, .bool x.f2, .int .u8 x.f3] := ⟨[.int .i64 x.f0], [.int .i64 x.f1, .bool x.f2, .int .u8 x.f3], rfl, rfl, ⟨[.int .i64 x.f1], [.bool x.f2, .int .u8 x.f3], rfl, rfl, ⟨[.bool x.f2], [.int .u8 x.f3], rfl, rfl, rfl⟩⟩⟩
theorem k8_mkF (W : World) (ok : Nat → Prop) (x : S8) : Kd.FK k8 W ok x [.int .i64 x.f0, .int .i64 x.f1, .bool x.f2, .int .u8 x.f3] := fun W2 _ => k8_mk W2 x
def rd_T8 (xs : List S8) (i : Int) : S8 := xs.getD i.toNat z8
theorem at_T8 {w : World} {A : Option Addr} {n : Nat} {xs : List S8} (h : Kd.C k8 w A n xs) (i : Int) (h0 : 0 ≤ i) (h1 : i < n) : ∃ ad , A = some ad ∧ w.cell? (ad.add (i.toNat * 4)) = some (.int .i64 (rd_T8 xs i).f0) ∧ w.cell? ⟨(ad.add (i.toNat * 4)).block, (ad.add (i.toNat * 4)).off + 1, none⟩ = some (.int .i64 (rd_T8 xs i).f1) ∧ w.cell? ⟨(ad.add (i.toNat * 4)).block, (ad.add (i.toNat * 4)).off + 2, none⟩ = some (.bool (rd_T8 xs i).f2) ∧ w.cell? ⟨(ad.add (i.toNat * 4)).block, (ad.add (i.toNat * 4)).off + 3, none⟩ = some (.int .u8 (rd_T8 xs i).f3) := by
  obtain ⟨ad, c, e, _, hK, hc0⟩ := Kd.C_get h z8 i h0 h1
  have hc : ∀ j u, c[j]? = some u → w.cell? (ad.add (i.toNat * 4 + j)) = some u := hc0
  obtain rfl := k8_open hK
  exact ⟨ad, e, hc 0 _ rfl, by rw [← add_field _ _ 1 (by omega)]; exact hc 1 _ rfl, by rw [← add_field _ _ 2 (by omega)]; exact hc 2 _ rfl, by rw [← add_field _ _ 3 (by omega)]; exact hc 3 _ rfl⟩

/-! #### struct type 13 -/
structure S13 where
  f0 : ByteArray
  f1 : Int
def z13 : S13 := ⟨(⟨#[]⟩ : ByteArray), (0 : Int)⟩
def k13 : Kd S13 := Kd.iso (Kd.pair Kd.string (Kd.int .u64)) (fun x : S13 => (x.f0, x.f1))
theorem k13_heap : Kd.Heap k13 := Kd.heap_iso _ (Kd.heap_pair Kd.heap_string (Kd.heap_int .u64))
theorem k13_open {w : World} {x : S13} {cs : List Value} (h : k13.K w x cs) : cs = [.string x.f0, .int .u64 x.f1] := by
  obtain ⟨_, _, rfl, rfl, rfl⟩ := h
  exact rfl
theorem k13_openM {w : World} {base : Nat} {ok : Nat → Prop} {x : S13} {cs : List Value} (h : k13.M w base ok x cs) : cs = [.string x.f0, .int .u64 x.f1] := by
  obtain ⟨_, _, rfl, rfl, rfl⟩ := h
  exact rfl
theorem k13_mk (w : World) (x : S13)  : k13.K w x [.string x.f0, .int .u64 x.f1] := ⟨[.string x.f0], [.int .u64 x.f1], rfl, rfl, rfl⟩
theorem k13_mkM (w : World) (base : Nat) (ok : Nat → Prop) (x : S13)  : k13.M w base ok x [.string x.f0, .int .u64 x.f1] := ⟨[.string x.f0], [.int .u64 x.f1], rfl, rfl, rfl⟩
theorem k13_mkF (W : World) (ok : Nat → Prop) (x : S13) : Kd.FK k13 W ok x [.string x.f0, .int .u64 x.f1] := fun W2 _ => k13_mk W2 x
def rd_T13 (xs : List S13) (i : Int) : S13 := xs.getD i.toNat z13
theorem at_T13 {w : World} {A : Option Addr} {n : Nat} {xs : List S13} (h : Kd.C k13 w A n xs) (i : Int) (h0 : 0 ≤ i) (h1 : i < n) : ∃ ad , A = some ad ∧ w.cell? (ad.add (i.toNat * 2)) = some (.string (rd_T13 xs i).f0) ∧ w.cell? ⟨(ad.add (i.toNat * 2)).block, (ad.add (i.toNat * 2)).off + 1, none⟩ = some (.int .u64 (rd_T13 xs i).f1) := by
  obtain ⟨ad, c, e, _, hK, hc0⟩ := Kd.C_get h z13 i h0 h1
  have hc : ∀ j u, c[j]? = some u → w.cell? (ad.add (i.toNat * 2 + j)) = some u := hc0
  obtain rfl := k13_open hK
  exact ⟨ad, e, hc 0 _ rfl, by rw [← add_field _ _ 1 (by omega)]; exact hc 1 _ rfl⟩

/-! #### struct type 14 -/
structure S14 where
  f0 : ByteArray
  f1 : Int
def z14 : S14 := ⟨(⟨#[]⟩ : ByteArray), (0 : Int)⟩
def k14 : Kd S14 := Kd.iso (Kd.pair Kd.string (Kd.int .u64)) (fun x : S14 => (x.f0, x.f1))
theorem k14_heap : Kd.Heap k14 := Kd.heap_iso _ (Kd.heap_pair Kd.heap_string (Kd.heap_int .u64))
theorem k14_open {w : World} {x : S14} {cs : List Value} (h : k14.K w x cs) : cs = [.string x.f0, .int .u64 x.f1] := by
  obtain ⟨_, _, rfl, rfl, rfl⟩ := h
  exact rfl
theorem k14_openM {w : World} {base : Nat} {ok : Nat → Prop} {x : S14} {cs : List Value} (h : k14.M w base ok x cs) : cs = [.string x.f0, .int .u64 x.f1] := by
  obtain ⟨_, _, rfl, rfl, rfl⟩ := h
  exact rfl
theorem k14_mk (w : World) (x : S14)  : k14.K w x [.string x.f0, .int .u64 x.f1] := ⟨[.string x.f0], [.int .u64 x.f1], rfl, rfl, rfl⟩
theorem k14_mkM (w : World) (base : Nat) (ok : Nat → Prop) (x : S14)  : k14.M w base ok x [.string x.f0, .int .u64 x.f1] := ⟨[.string x.f0], [.int .u64 x.f1], rfl, rfl, rfl⟩
theorem k14_mkF (W : World) (ok : Nat → Prop) (x : S14) : Kd.FK k14 W ok x [.string x.f0, .int .u64 x.f1] := fun W2 _ => k14_mk W2 x
def rd_T14 (xs : List S14) (i : Int) : S14 := xs.getD i.toNat z14
theorem at_T14 {w : World} {A : Option Addr} {n : Nat} {xs : List S14} (h : Kd.C k14 w A n xs) (i : Int) (h0 : 0 ≤ i) (h1 : i < n) : ∃ ad , A = some ad ∧ w.cell? (ad.add (i.toNat * 2)) = some (.string (rd_T14 xs i).f0) ∧ w.cell? ⟨(ad.add (i.toNat * 2)).block, (ad.add (i.toNat * 2)).off + 1, none⟩ = some (.int .u64 (rd_T14 xs i).f1) := by
  obtain ⟨ad, c, e, _, hK, hc0⟩ := Kd.C_get h z14 i h0 h1
  have hc : ∀ j u, c[j]? = some u → w.cell? (ad.add (i.toNat * 2 + j)) = some u := hc0
  obtain rfl := k14_open hK
  exact ⟨ad, e, hc 0 _ rfl, by rw [← add_field _ _ 1 (by omega)]; exact hc 1 _ rfl⟩

def rd_L9 (xs : List (List Int)) (i : Int) : (List Int) := xs.getD i.toNat ([] : List Int)
theorem at_L9 {w : World} {A : Option Addr} {n : Nat} {xs : List (List Int)} (h : Kd.C (Kd.slice 3 (Kd.int .i64)) w A n xs) (i : Int) (h0 : 0 ≤ i) (h1 : i < n) : ∃ ad A0 c0, A = some ad ∧ w.cell? (ad.add i.toNat) = some (.slice A0 (rd_L9 xs i).length c0) ∧ (rd_L9 xs i).length ≤ c0 ∧ (Kd.int .i64).C w A0 (rd_L9 xs i).length (rd_L9 xs i) := by
  obtain ⟨ad, c, e, _, hK, hc0⟩ := Kd.C_get h ([] : List Int) i h0 h1
  have hc : ∀ j u, c[j]? = some u → w.cell? (ad.add (i.toNat * 1 + j)) = some u := hc0
  obtain ⟨A0, c0, rfl, l0, g0⟩ := hK
  exact ⟨ad, A0, c0, e, by have hq := hc 0 _ rfl; rwa [Nat.mul_one, Nat.add_zero] at hq, l0, g0⟩

def rd_L10 (xs : List (List (List Int))) (i : Int) : (List (List Int)) := xs.getD i.toNat ([] : List (List Int))
theorem at_L10 {w : World} {A : Option Addr} {n : Nat} {xs : List (List (List Int))} (h : Kd.C (Kd.slice 47 (Kd.slice 3 (Kd.int .i64))) w A n xs) (i : Int) (h0 : 0 ≤ i) (h1 : i < n) : ∃ ad A0 c0, A = some ad ∧ w.cell? (ad.add i.toNat) = some (.slice A0 (rd_L10 xs i).length c0) ∧ (rd_L10 xs i).length ≤ c0 ∧ (Kd.slice 3 (Kd.int .i64)).C w A0 (rd_L10 xs i).length (rd_L10 xs i) := by
  obtain ⟨ad, c, e, _, hK, hc0⟩ := Kd.C_get h ([] : List (List Int)) i h0 h1
  have hc : ∀ j u, c[j]? = some u → w.cell? (ad.add (i.toNat * 1 + j)) = some u := hc0
  obtain ⟨A0, c0, rfl, l0, g0⟩ := hK
  exact ⟨ad, A0, c0, e, by have hq := hc 0 _ rfl; rwa [Nat.mul_one, Nat.add_zero] at hq, l0, g0⟩

/-! #### struct type 50 -/
structure S50 where
  f0 : (List Int)
  f1 : (List Int)
def z50 : S50 := ⟨([] : List Int), ([] : List Int)⟩
def k50 : Kd S50 := Kd.iso (Kd.pair (Kd.slice 3 (Kd.int .i64)) (Kd.slice 3 (Kd.int .i64))) (fun x : S50 => (x.f0, x.f1))
theorem k50_heap : Kd.Heap k50 := Kd.heap_iso _ (Kd.heap_pair (Kd.heap_slice 3 (Kd.heap_int .i64)) (Kd.heap_slice 3 (Kd.heap_int .i64)))
theorem k50_open {w : World} {x : S50} {cs : List Value} (h : k50.K w x cs) : ∃ A0 c0 A1 c1, cs = [.slice A0 x.f0.length c0, .slice A1 x.f1.length c1] ∧ x.f0.length ≤ c0 ∧ (Kd.int .i64).C w A0 x.f0.length x.f0 ∧ x.f1.length ≤ c1 ∧ (Kd.int .i64).C w A1 x.f1.length x.f1 := by
  obtain ⟨_, _, rfl, ⟨A0, c0, rfl, l0, g0⟩, ⟨A1, c1, rfl, l1, g1⟩⟩ := h
  exact ⟨A0, c0, A1, c1, rfl, l0, g0, l1, g1⟩
theorem k50_openM {w : World} {base : Nat} {ok : Nat → Prop} {x : S50} {cs : List Value} (h : k50.M w base ok x cs) : ∃ v0 v1, cs = [v0, v1] ∧ (Kd.int .i64).R 3 w base ok v0 x.f0 ∧ (Kd.int .i64).R 3 w base ok v1 x.f1 := by
  obtain ⟨_, _, rfl, ⟨v0, rfl, g0⟩, ⟨v1, rfl, g1⟩⟩ := h
  exact ⟨v0, v1, rfl, g0, g1⟩
theorem k50_mk (w : World) (x : S50) {A0 : Option Addr} {c0 : Nat} (l0 : x.f0.length ≤ c0) (g0 : (Kd.int .i64).C w A0 x.f0.length x.f0) {A1 : Option Addr} {c1 : Nat} (l1 : x.f1.length ≤ c1) (g1 : (Kd.int .i64).C w A1 x.f1.length x.f1) : k50.K w x [.slice A0 x.f0.length c0, .slice A1 x.f1.length c1] := ⟨[.slice A0 x.f0.length c0], [.slice A1 x.f1.length c1], rfl, ⟨A0, c0, rfl, l0, g0⟩, ⟨A1, c1, rfl, l1, g1⟩⟩
theorem k50_mkM (w : World) (base : Nat) (ok : Nat → Prop) (x : S50) {v0 : Value} (g0 : (Kd.int .i64).R 3 w base ok v0 x.f0) {v1 : Value} (g1 : (Kd.int .i64).R 3 w base ok v1 x.f1) : k50.M w base ok x [v0, v1] := ⟨[v0], [v1], rfl, ⟨v0, rfl, g0⟩, ⟨v1, rfl, g1⟩⟩
theorem k50_openF {W : World} {ok : Nat → Prop} {x : S50} {cs : List Value} (h : Kd.FK k50 W ok x cs) : ∃ A0 c0 A1 c1, cs = [.slice A0 x.f0.length c0, .slice A1 x.f1.length c1] ∧ x.f0.length ≤ c0 ∧ Kd.F (Kd.int .i64) W ok A0 x.f0.length x.f0 ∧ x.f1.length ≤ c1 ∧ Kd.F (Kd.int .i64) W ok A1 x.f1.length x.f1 := by
  obtain ⟨A0, c0, A1, c1, rfl, l0, _, l1, _⟩ := k50_open (Kd.FK_now h)
  exact ⟨A0, c0, A1, c1, rfl, l0, (fun W' hW => by obtain ⟨A0_, c0_, A1_, c1_, he, l0_, g0_, l1_, g1_⟩ := k50_open (h W' hW); injection (Option.some.inj (show some (Value.slice A0 x.f0.length c0) = some (Value.slice A0_ x.f0.length c0_) from congrArg (fun l => l[0]?) he)) with ha_ _ _; rw [ha_]; exact g0_), l1, (fun W' hW => by obtain ⟨A0_, c0_, A1_, c1_, he, l0_, g0_, l1_, g1_⟩ := k50_open (h W' hW); injection (Option.some.inj (show some (Value.slice A1 x.f1.length c1) = some (Value.slice A1_ x.f1.length c1_) from congrArg (fun l => l[1]?) he)) with ha_ _ _; rw [ha_]; exact g1_)⟩
theorem k50_mkF (W : World) (ok : Nat → Prop) (x : S50) {A0 : Option Addr} {c0 : Nat} (l0 : x.f0.length ≤ c0) (g0 : Kd.F (Kd.int .i64) W ok A0 x.f0.length x.f0) {A1 : Option Addr} {c1 : Nat} (l1 : x.f1.length ≤ c1) (g1 : Kd.F (Kd.int .i64) W ok A1 x.f1.length x.f1) : Kd.FK k50 W ok x [.slice A0 x.f0.length c0, .slice A1 x.f1.length c1] := fun W2 hW => k50_mk W2 x l0 (g0 W2 hW) l1 (g1 W2 hW)
def rd_T50 (xs : List S50) (i : Int) : S50 := xs.getD i.toNat z50
theorem at_T50 {w : World} {A : Option Addr} {n : Nat} {xs : List S50} (h : Kd.C k50 w A n xs) (i : Int) (h0 : 0 ≤ i) (h1 : i < n) : ∃ ad A0 c0 A1 c1, A = some ad ∧ w.cell? (ad.add (i.toNat * 2)) = some (.slice A0 (rd_T50 xs i).f0.length c0) ∧ w.cell? ⟨(ad.add (i.toNat * 2)).block, (ad.add (i.toNat * 2)).off + 1, none⟩ = some (.slice A1 (rd_T50 xs i).f1.length c1) ∧ (rd_T50 xs i).f0.length ≤ c0 ∧ (Kd.int .i64).C w A0 (rd_T50 xs i).f0.length (rd_T50 xs i).f0 ∧ (rd_T50 xs i).f1.length ≤ c1 ∧ (Kd.int .i64).C w A1 (rd_T50 xs i).f1.length (rd_T50 xs i).f1 := by
  obtain ⟨ad, c, e, _, hK, hc0⟩ := Kd.C_get h z50 i h0 h1
  have hc : ∀ j u, c[j]? = some u → w.cell? (ad.add (i.toNat * 2 + j)) = some u := hc0
  obtain ⟨A0, c0, A1, c1, rfl, l0, g0, l1, g1⟩ := k50_open hK
  exact ⟨ad, A0, c0, A1, c1, e, hc 0 _ rfl, by rw [← add_field _ _ 1 (by omega)]; exact hc 1 _ rfl, l0, g0, l1, g1⟩

def rd_L12 (xs : List (List S50)) (i : Int) : (List S50) := xs.getD i.toNat ([] : List S50)
theorem at_L12 {w : World} {A : Option Addr} {n : Nat} {xs : List (List S50)} (h : Kd.C (Kd.slice 50 k50) w A n xs) (i : Int) (h0 : 0 ≤ i) (h1 : i < n) : ∃ ad A0 c0, A = some ad ∧ w.cell? (ad.add i.toNat) = some (.slice A0 (rd_L12 xs i).length c0) ∧ (rd_L12 xs i).length ≤ c0 ∧ k50.C w A0 (rd_L12 xs i).length (rd_L12 xs i) := by
  obtain ⟨ad, c, e, _, hK, hc0⟩ := Kd.C_get h ([] : List S50) i h0 h1
  have hc : ∀ j u, c[j]? = some u → w.cell? (ad.add (i.toNat * 1 + j)) = some u := hc0
  obtain ⟨A0, c0, rfl, l0, g0⟩ := hK
  exact ⟨ad, A0, c0, e, by have hq := hc 0 _ rfl; rwa [Nat.mul_one, Nat.add_zero] at hq, l0, g0⟩

/-! #### struct type 34, nested in itself -/
structure S34 where
  f0 : Int
  f1 : Int
  f2 : (List S34)
def z34 : S34 := ⟨(0 : Int), (0 : Int), ([] : List S34)⟩
def F34 (d : Kd S34) : Kd S34 := Kd.iso (Kd.pair (Kd.int .i64) (Kd.pair (Kd.int .i64) (Kd.slice 34 d))) (fun x : S34 => (x.f0, x.f1, x.f2))
theorem mono34 : Kd.Mono F34 := Kd.mono_iso _ (Kd.mono_pair (Kd.mono_const _) (Kd.mono_pair (Kd.mono_const _) (Kd.mono_slice 34 Kd.mono_id)))
theorem sub34 : Kd.Sub F34 [34] := Kd.sub_iso _ (Kd.sub_pair (Kd.sub_const _ (by decide)) (Kd.sub_pair (Kd.sub_const _ (by decide)) (Kd.sub_slice 34 (by decide) Kd.sub_id)))
theorem sz34 : ∀ n, (Kd.upto F34 3 [34] n).sz = 3 := Kd.upto_sz (fun _ => rfl)
def k34 : Kd S34 := Kd.fix F34 3 [34] sz34 (Kd.upto_E sub34)
theorem k34_heap : Kd.Heap k34 := Kd.heap_fix (fun _ h_ => Kd.heap_iso _ (Kd.heap_pair (Kd.heap_int .i64) (Kd.heap_pair (Kd.heap_int .i64) (Kd.heap_slice 34 h_))))
theorem k34_open {w : World} {x : S34} {cs : List Value} (h : k34.K w x cs) : ∃ A2 c2, cs = [.int .i64 x.f0, .int .i64 x.f1, .slice A2 x.f2.length c2] ∧ x.f2.length ≤ c2 ∧ k34.C w A2 x.f2.length x.f2 := by
  obtain ⟨n, h⟩ := h
  cases n with
  | zero => exact h.elim
  | succ n =>
    obtain ⟨_, _, rfl, rfl, ⟨_, _, rfl, rfl, ⟨A2, c2, rfl, l2, g2⟩⟩⟩ := h
    exact ⟨A2, c2, rfl, l2, Kd.fix_C g2⟩
theorem k34_openM {w : World} {base : Nat} {ok : Nat → Prop} {x : S34} {cs : List Value} (h : k34.M w base ok x cs) : ∃ v2, cs = [.int .i64 x.f0, .int .i64 x.f1, v2] ∧ k34.R 34 w base ok v2 x.f2 := by
  obtain ⟨n, h⟩ := h
  cases n with
  | zero => exact h.elim
  | succ n =>
    obtain ⟨_, _, rfl, rfl, ⟨_, _, rfl, rfl, ⟨v2, rfl, g2⟩⟩⟩ := h
    exact ⟨v2, rfl, Kd.fix_R g2⟩
theorem k34_mk (w : World) (x : S34) {A2 : Option Addr} {c2 : Nat} (l2 : x.f2.length ≤ c2) (g2 : k34.C w A2 x.f2.length x.f2) : k34.K w x [.int .i64 x.f0, .int .i64 x.f1, .slice A2 x.f2.length c2] := by
  obtain ⟨n2, q2⟩ := Kd.fix_C_back mono34 g2
  have r2 := Kd.upto_C_le mono34 sz34 (show n2 ≤ n2 by omega) q2
  exact ⟨n2 + 1, ⟨[.int .i64 x.f0], [.int .i64 x.f1, .slice A2 x.f2.length c2], rfl, rfl, ⟨[.int .i64 x.f1], [.slice A2 x.f2.length c2], rfl, rfl, ⟨A2, c2, rfl, l2, r2⟩⟩⟩⟩
theorem k34_mkM (w : World) (base : Nat) (ok : Nat → Prop) (x : S34) {v2 : Value} (g2 : k34.R 34 w base ok v2 x.f2) : k34.M w base ok x [.int .i64 x.f0, .int .i64 x.f1, v2] := by
  obtain ⟨n2, q2⟩ := Kd.fix_R_back mono34 g2
  have r2 := Kd.upto_R_le mono34 sz34 (show n2 ≤ n2 by omega) q2
  exact ⟨n2 + 1, ⟨[.int .i64 x.f0], [.int .i64 x.f1, v2], rfl, rfl, ⟨[.int .i64 x.f1], [v2], rfl, rfl, ⟨v2, rfl, r2⟩⟩⟩⟩
theorem k34_openF {W : World} {ok : Nat → Prop} {x : S34} {cs : List Value} (h : Kd.FK k34 W ok x cs) : ∃ A2 c2, cs = [.int .i64 x.f0, .int .i64 x.f1, .slice A2 x.f2.length c2] ∧ x.f2.length ≤ c2 ∧ Kd.F k34 W ok A2 x.f2.length x.f2 := by
  obtain ⟨A2, c2, rfl, l2, _⟩ := k34_open (Kd.FK_now h)
  exact ⟨A2, c2, rfl, l2, (fun W' hW => by obtain ⟨A2_, c2_, he, l2_, g2_⟩ := k34_open (h W' hW); injection (Option.some.inj (show some (Value.slice A2 x.f2.length c2) = some (Value.slice A2_ x.f2.length c2_) from congrArg (fun l => l[2]?) he)) with ha_ _ _; rw [ha_]; exact g2_)⟩
theorem k34_mkF (W : World) (ok : Nat → Prop) (x : S34) {A2 : Option Addr} {c2 : Nat} (l2 : x.f2.length ≤ c2) (g2 : Kd.F k34 W ok A2 x.f2.length x.f2) : Kd.FK k34 W ok x [.int .i64 x.f0, .int .i64 x.f1, .slice A2 x.f2.length c2] := fun W2 hW => k34_mk W2 x l2 (g2 W2 hW)
def rd_T34 (xs : List S34) (i : Int) : S34 := xs.getD i.toNat z34
theorem at_T34 {w : World} {A : Option Addr} {n : Nat} {xs : List S34} (h : Kd.C k34 w A n xs) (i : Int) (h0 : 0 ≤ i) (h1 : i < n) : ∃ ad A2 c2, A = some ad ∧ w.cell? (ad.add (i.toNat * 3)) = some (.int .i64 (rd_T34 xs i).f0) ∧ w.cell? ⟨(ad.add (i.toNat * 3)).block, (ad.add (i.toNat * 3)).off + 1, none⟩ = some (.int .i64 (rd_T34 xs i).f1) ∧ w.cell? ⟨(ad.add (i.toNat * 3)).block, (ad.add (i.toNat * 3)).off + 2, none⟩ = some (.slice A2 (rd_T34 xs i).f2.length c2) ∧ (rd_T34 xs i).f2.length ≤ c2 ∧ k34.C w A2 (rd_T34 xs i).f2.length (rd_T34 xs i).f2 := by
  obtain ⟨ad, c, e, _, hK, hc0⟩ := Kd.C_get h z34 i h0 h1
  have hc : ∀ j u, c[j]? = some u → w.cell? (ad.add (i.toNat * 3 + j)) = some u := hc0
  obtain ⟨A2, c2, rfl, l2, g2⟩ := k34_open hK
  exact ⟨ad, A2, c2, e, hc 0 _ rfl, by rw [← add_field _ _ 1 (by omega)]; exact hc 1 _ rfl, by rw [← add_field _ _ 2 (by omega)]; exact hc 2 _ rfl, l2, g2⟩

def rd_L14 (xs : List (List S34)) (i : Int) : (List S34) := xs.getD i.toNat ([] : List S34)
theorem at_L14 {w : World} {A : Option Addr} {n : Nat} {xs : List (List S34)} (h : Kd.C (Kd.slice 34 k34) w A n xs) (i : Int) (h0 : 0 ≤ i) (h1 : i < n) : ∃ ad A0 c0, A = some ad ∧ w.cell? (ad.add i.toNat) = some (.slice A0 (rd_L14 xs i).length c0) ∧ (rd_L14 xs i).length ≤ c0 ∧ k34.C w A0 (rd_L14 xs i).length (rd_L14 xs i) := by
  obtain ⟨ad, c, e, _, hK, hc0⟩ := Kd.C_get h ([] : List S34) i h0 h1
  have hc : ∀ j u, c[j]? = some u → w.cell? (ad.add (i.toNat * 1 + j)) = some u := hc0
  obtain ⟨A0, c0, rfl, l0, g0⟩ := hK
  exact ⟨ad, A0, c0, e, by have hq := hc 0 _ rfl; rwa [Nat.mul_one, Nat.add_zero] at hq, l0, g0⟩

/-! #### struct type 33 -/
structure S33 where
  f0 : Int
  f1 : Int
  f2 : (List S34)
def z33 : S33 := ⟨(0 : Int), (0 : Int), ([] : List S34)⟩
def k33 : Kd S33 := Kd.iso (Kd.pair (Kd.int .i64) (Kd.pair (Kd.int .i64) (Kd.slice 34 k34))) (fun x : S33 => (x.f0, x.f1, x.f2))
theorem k33_heap : Kd.Heap k33 := Kd.heap_iso _ (Kd.heap_pair (Kd.heap_int .i64) (Kd.heap_pair (Kd.heap_int .i64) (Kd.heap_slice 34 k34_heap)))
theorem k33_open {w : World} {x : S33} {cs : List Value} (h : k33.K w x cs) : ∃ A2 c2, cs = [.int .i64 x.f0, .int .i64 x.f1, .slice A2 x.f2.length c2] ∧ x.f2.length ≤ c2 ∧ k34.C w A2 x.f2.length x.f2 := by
  obtain ⟨_, _, rfl, rfl, ⟨_, _, rfl, rfl, ⟨A2, c2, rfl, l2, g2⟩⟩⟩ := h
  exact ⟨A2, c2, rfl, l2, g2⟩
theorem k33_openM {w : World} {base : Nat} {ok : Nat → Prop} {x : S33} {cs : List Value} (h : k33.M w base ok x cs) : ∃ v2, cs = [.int .i64 x.f0, .int .i64 x.f1, v2] ∧ k34.R 34 w base ok v2 x.f2 := by
  obtain ⟨_, _, rfl, rfl, ⟨_, _, rfl, rfl, ⟨v2, rfl, g2⟩⟩⟩ := h
  exact ⟨v2, rfl, g2⟩
theorem k33_mk (w : World) (x : S33) {A2 : Option Addr} {c2 : Nat} (l2 : x.f2.length ≤ c2) (g2 : k34.C w A2 x.f2.length x.f2) : k33.K w x [.int .i64 x.f0, .int .i64 x.f1, .slice A2 x.f2.length c2] := ⟨[.int .i64 x.f0], [.int .i64 x.f1, .slice A2 x.f2.length c2], rfl, rfl, ⟨[.int .i64 x.f1], [.slice A2 x.f2.length c2], rfl, rfl, ⟨A2, c2, rfl, l2, g2⟩⟩⟩
theorem k33_mkM (w : World) (base : Nat) (ok : Nat → Prop) (x : S33) {v2 : Value} (g2 : k34.R 34 w base ok v2 x.f2) : k33.M w base ok x [.int .i64 x.f0, .int .i64 x.f1, v2] := ⟨[.int .i64 x.f0], [.int .i64 x.f1, v2], rfl, rfl, ⟨[.int .i64 x.f1], [v2], rfl, rfl, ⟨v2, rfl, g2⟩⟩⟩
theorem k33_openF {W : World} {ok : Nat → Prop} {x : S33} {cs : List Value} (h : Kd.FK k33 W ok x cs) : ∃ A2 c2, cs = [.int .i64 x.f0, .int .i64 x.f1, .slice A2 x.f2.length c2] ∧ x.f2.length ≤ c2 ∧ Kd.F k34 W ok A2 x.f2.length x.f2 := by
  obtain ⟨A2, c2, rfl, l2, _⟩ := k33_open (Kd.FK_now h)
  exact ⟨A2, c2, rfl, l2, (fun W' hW => by obtain ⟨A2_, c2_, he, l2_, g2_⟩ := k33_open (h W' hW); injection (Option.some.inj (show some (Value.slice A2 x.f2.length c2) = some (Value.slice A2_ x.f2.length c2_) from congrArg (fun l => l[2]?) he)) with ha_ _ _; rw [ha_]; exact g2_)⟩
theorem k33_mkF (W : World) (ok : Nat → Prop) (x : S33) {A2 : Option Addr} {c2 : Nat} (l2 : x.f2.length ≤ c2) (g2 : Kd.F k34 W ok A2 x.f2.length x.f2) : Kd.FK k33 W ok x [.int .i64 x.f0, .int .i64 x.f1, .slice A2 x.f2.length c2] := fun W2 hW => k33_mk W2 x l2 (g2 W2 hW)
def rd_T33 (xs : List S33) (i : Int) : S33 := xs.getD i.toNat z33
theorem at_T33 {w : World} {A : Option Addr} {n : Nat} {xs : List S33} (h : Kd.C k33 w A n xs) (i : Int) (h0 : 0 ≤ i) (h1 : i < n) : ∃ ad A2 c2, A = some ad ∧ w.cell? (ad.add (i.toNat * 3)) = some (.int .i64 (rd_T33 xs i).f0) ∧ w.cell? ⟨(ad.add (i.toNat * 3)).block, (ad.add (i.toNat * 3)).off + 1, none⟩ = some (.int .i64 (rd_T33 xs i).f1) ∧ w.cell? ⟨(ad.add (i.toNat * 3)).block, (ad.add (i.toNat * 3)).off + 2, none⟩ = some (.slice A2 (rd_T33 xs i).f2.length c2) ∧ (rd_T33 xs i).f2.length ≤ c2 ∧ k34.C w A2 (rd_T33 xs i).f2.length (rd_T33 xs i).f2 := by
  obtain ⟨ad, c, e, _, hK, hc0⟩ := Kd.C_get h z33 i h0 h1
  have hc : ∀ j u, c[j]? = some u → w.cell? (ad.add (i.toNat * 3 + j)) = some u := hc0
  obtain ⟨A2, c2, rfl, l2, g2⟩ := k33_open hK
  exact ⟨ad, A2, c2, e, hc 0 _ rfl, by rw [← add_field _ _ 1 (by omega)]; exact hc 1 _ rfl, by rw [← add_field _ _ 2 (by omega)]; exact hc 2 _ rfl, l2, g2⟩

/-! #### struct type 38, nested in itself -/
structure S38 where
  f0 : Int
  f1 : Int
  f2 : (List S38)
def z38 : S38 := ⟨(0 : Int), (0 : Int), ([] : List S38)⟩
def F38 (d : Kd S38) : Kd S38 := Kd.iso (Kd.pair (Kd.int .i64) (Kd.pair (Kd.int .i64) (Kd.slice 38 d))) (fun x : S38 => (x.f0, x.f1, x.f2))
theorem mono38 : Kd.Mono F38 := Kd.mono_iso _ (Kd.mono_pair (Kd.mono_const _) (Kd.mono_pair (Kd.mono_const _) (Kd.mono_slice 38 Kd.mono_id)))
theorem sub38 : Kd.Sub F38 [38] := Kd.sub_iso _ (Kd.sub_pair (Kd.sub_const _ (by decide)) (Kd.sub_pair (Kd.sub_const _ (by decide)) (Kd.sub_slice 38 (by decide) Kd.sub_id)))
theorem sz38 : ∀ n, (Kd.upto F38 3 [38] n).sz = 3 := Kd.upto_sz (fun _ => rfl)
def k38 : Kd S38 := Kd.fix F38 3 [38] sz38 (Kd.upto_E sub38)
theorem k38_heap : Kd.Heap k38 := Kd.heap_fix (fun _ h_ => Kd.heap_iso _ (Kd.heap_pair (Kd.heap_int .i64) (Kd.heap_pair (Kd.heap_int .i64) (Kd.heap_slice 38 h_))))
theorem k38_open {w : World} {x : S38} {cs : List Value} (h : k38.K w x cs) : ∃ A2 c2, cs = [.int .i64 x.f0, .int .i64 x.f1, .slice A2 x.f2.length c2] ∧ x.f2.length ≤ c2 ∧ k38.C w A2 x.f2.length x.f2 := by
  obtain ⟨n, h⟩ := h
  cases n with
  | zero => exact h.elim
  | succ n =>
    obtain ⟨_, _, rfl, rfl, ⟨_, _, rfl, rfl, ⟨A2, c2, rfl, l2, g2⟩⟩⟩ := h
    exact ⟨A2, c2, rfl, l2, Kd.fix_C g2⟩
theorem k38_openM {w : World} {base : Nat} {ok : Nat → Prop} {x : S38} {cs : List Value} (h : k38.M w base ok x cs) : ∃ v2, cs = [.int .i64 x.f0, .int .i64 x.f1, v2] ∧ k38.R 38 w base ok v2 x.f2 := by
  obtain ⟨n, h⟩ := h
  cases n with
  | zero => exact h.elim
  | succ n =>
    obtain ⟨_, _, rfl, rfl, ⟨_, _, rfl, rfl, ⟨v2, rfl, g2⟩⟩⟩ := h
    exact ⟨v2, rfl, Kd.fix_R g2⟩
theorem k38_mk (w : World) (x : S38) {A2 : Option Addr} {c2 : Nat} (l2 : x.f2.length ≤ c2) (g2 : k38.C w A2 x.f2.length x.f2) : k38.K w x [.int .i64 x.f0, .int .i64 x.f1, .slice A2 x.f2.length c2] := by
  obtain ⟨n2, q2⟩ := Kd.fix_C_back mono38 g2
  have r2 := Kd.upto_C_le mono38 sz38 (show n2 ≤ n2 by omega) q2
  exact ⟨n2 + 1, ⟨[.int .i64 x.f0], [.int .i64 x.f1, .slice A2 x.f2.length c2], rfl, rfl, ⟨[.int .i64 x.f1], [.slice A2 x.f2.length c2], rfl, rfl, ⟨A2, c2, rfl, l2, r2⟩⟩⟩⟩
theorem k38_mkM (w : World) (base : Nat) (ok : Nat → Prop) (x : S38) {v2 : Value} (g2 : k38.R 38 w base ok v2 x.f2) : k38.M w base ok x [.int .i64 x.f0, .int .i64 x.f1, v2] := by
  obtain ⟨n2, q2⟩ := Kd.fix_R_back mono38 g2
  have r2 := Kd.upto_R_le mono38 sz38 (show n2 ≤ n2 by omega) q2
  exact ⟨n2 + 1, ⟨[.int .i64 x.f0], [.int .i64 x.f1, v2], rfl, rfl, ⟨[.int .i64 x.f1], [v2], rfl, rfl, ⟨v2, rfl, r2⟩⟩⟩⟩
theorem k38_openF {W : World} {ok : Nat → Prop} {x : S38} {cs : List Value} (h : Kd.FK k38 W ok x cs) : ∃ A2 c2, cs = [.int .i64 x.f0, .int .i64 x.f1, .slice A2 x.f2.length c2] ∧ x.f2.length ≤ c2 ∧ Kd.F k38 W ok A2 x.f2.length x.f2 := by
  obtain ⟨A2, c2, rfl, l2, _⟩ := k38_open (Kd.FK_now h)
  exact ⟨A2, c2, rfl, l2, (fun W' hW => by obtain ⟨A2_, c2_, he, l2_, g2_⟩ := k38_open (h W' hW); injection (Option.some.inj (show some (Value.slice A2 x.f2.length c2) = some (Value.slice A2_ x.f2.length c2_) from congrArg (fun l => l[2]?) he)) with ha_ _ _; rw [ha_]; exact g2_)⟩
theorem k38_mkF (W : World) (ok : Nat → Prop) (x : S38) {A2 : Option Addr} {c2 : Nat} (l2 : x.f2.length ≤ c2) (g2 : Kd.F k38 W ok A2 x.f2.length x.f2) : Kd.FK k38 W ok x [.int .i64 x.f0, .int .i64 x.f1, .slice A2 x.f2.length c2] := fun W2 hW => k38_mk W2 x l2 (g2 W2 hW)
def rd_T38 (xs : List S38) (i : Int) : S38 := xs.getD i.toNat z38
theorem at_T38 {w : World} {A : Option Addr} {n : Nat} {xs : List S38} (h : Kd.C k38 w A n xs) (i : Int) (h0 : 0 ≤ i) (h1 : i < n) : ∃ ad A2 c2, A = some ad ∧ w.cell? (ad.add (i.toNat * 3)) = some (.int .i64 (rd_T38 xs i).f0) ∧ w.cell? ⟨(ad.add (i.toNat * 3)).block, (ad.add (i.toNat * 3)).off + 1, none⟩ = some (.int .i64 (rd_T38 xs i).f1) ∧ w.cell? ⟨(ad.add (i.toNat * 3)).block, (ad.add (i.toNat * 3)).off + 2, none⟩ = some (.slice A2 (rd_T38 xs i).f2.length c2) ∧ (rd_T38 xs i).f2.length ≤ c2 ∧ k38.C w A2 (rd_T38 xs i).f2.length (rd_T38 xs i).f2 := by
  obtain ⟨ad, c, e, _, hK, hc0⟩ := Kd.C_get h z38 i h0 h1
  have hc : ∀ j u, c[j]? = some u → w.cell? (ad.add (i.toNat * 3 + j)) = some u := hc0
  obtain ⟨A2, c2, rfl, l2, g2⟩ := k38_open hK
  exact ⟨ad, A2, c2, e, hc 0 _ rfl, by rw [← add_field _ _ 1 (by omega)]; exact hc 1 _ rfl, by rw [← add_field _ _ 2 (by omega)]; exact hc 2 _ rfl, l2, g2⟩

def rd_L17 (xs : List (List S38)) (i : Int) : (List S38) := xs.getD i.toNat ([] : List S38)
theorem at_L17 {w : World} {A : Option Addr} {n : Nat} {xs : List (List S38)} (h : Kd.C (Kd.slice 38 k38) w A n xs) (i : Int) (h0 : 0 ≤ i) (h1 : i < n) : ∃ ad A0 c0, A = some ad ∧ w.cell? (ad.add i.toNat) = some (.slice A0 (rd_L17 xs i).length c0) ∧ (rd_L17 xs i).length ≤ c0 ∧ k38.C w A0 (rd_L17 xs i).length (rd_L17 xs i) := by
  obtain ⟨ad, c, e, _, hK, hc0⟩ := Kd.C_get h ([] : List S38) i h0 h1
  have hc : ∀ j u, c[j]? = some u → w.cell? (ad.add (i.toNat * 1 + j)) = some u := hc0
  obtain ⟨A0, c0, rfl, l0, g0⟩ := hK
  exact ⟨ad, A0, c0, e, by have hq := hc 0 _ rfl; rwa [Nat.mul_one, Nat.add_zero] at hq, l0, g0⟩

/-! #### struct type 37 -/
structure S37 where
  f0 : Int
  f1 : Int
  f2 : (List S38)
def z37 : S37 := ⟨(0 : Int), (0 : Int), ([] : List S38)⟩
def k37 : Kd S37 := Kd.iso (Kd.pair (Kd.int .i64) (Kd.pair (Kd.int .i64) (Kd.slice 38 k38))) (fun x : S37 => (x.f0, x.f1, x.f2))
theorem k37_heap : Kd.Heap k37 := Kd.heap_iso _ (Kd.heap_pair (Kd.heap_int .i64) (Kd.heap_pair (Kd.heap_int .i64) (Kd.heap_slice 38 k38_heap)))
theorem k37_open {w : World} {x : S37} {cs : List Value} (h : k37.K w x cs) : ∃ A2 c2, cs = [.int .i64 x.f0, .int .i64 x.f1, .slice A2 x.f2.length c2] ∧ x.f2.length ≤ c2 ∧ k38.C w A2 x.f2.length x.f2 := by
  obtain ⟨_, _, rfl, rfl, ⟨_, _, rfl, rfl, ⟨A2, c2, rfl, l2, g2⟩⟩⟩ := h
  exact ⟨A2, c2, rfl, l2, g2⟩
theorem k37_openM {w : World} {base : Nat} {ok : Nat → Prop} {x : S37} {cs : List Value} (h : k37.M w base ok x cs) : ∃ v2, cs = [.int .i64 x.f0, .int .i64 x.f1, v2] ∧ k38.R 38 w base ok v2 x.f2 := by
  obtain ⟨_, _, rfl, rfl, ⟨_, _, rfl, rfl, ⟨v2, rfl, g2⟩⟩⟩ := h
  exact ⟨v2, rfl, g2⟩
theorem k37_mk (w : World) (x : S37) {A2 : Option Addr} {c2 : Nat} (l2 : x.f2.length ≤ c2) (g2 : k38.C w A2 x.f2.length x.f2) : k37.K w x [.int .i64 x.f0, .int .i64 x.f1, .slice A2 x.f2.length c2] := ⟨[.int .i64 x.f0], [.int .i64 x.f1, .slice A2 x.f2.length c2], rfl, rfl, ⟨[.int .i64 x.f1], [.slice A2 x.f2.length c2], rfl, rfl, ⟨A2, c2, rfl, l2, g2⟩⟩⟩
theorem k37_mkM (w : World) (base : Nat) (ok : Nat → Prop) (x : S37) {v2 : Value} (g2 : k38.R 38 w base ok v2 x.f2) : k37.M w base ok x [.int .i64 x.f0, .int .i64 x.f1, v2] := ⟨[.int .i64 x.f0], [.int .i64 x.f1, v2], rfl, rfl, ⟨[.int .i64 x.f1], [v2], rfl, rfl, ⟨v2, rfl, g2⟩⟩⟩
theorem k37_openF {W : World} {ok : Nat → Prop} {x : S37} {cs : List Value} (h : Kd.FK k37 W ok x cs) : ∃ A2 c2, cs = [.int .i64 x.f0, .int .i64 x.f1, .slice A2 x.f2.length c2] ∧ x.f2.length ≤ c2 ∧ Kd.F k38 W ok A2 x.f2.length x.f2 := by
  obtain ⟨A2, c2, rfl, l2, _⟩ := k37_open (Kd.FK_now h)
  exact ⟨A2, c2, rfl, l2, (fun W' hW => by obtain ⟨A2_, c2_, he, l2_, g2_⟩ := k37_open (h W' hW); injection (Option.some.inj (show some (Value.slice A2 x.f2.length c2) = some (Value.slice A2_ x.f2.length c2_) from congrArg (fun l => l[2]?) he)) with ha_ _ _; rw [ha_]; exact g2_)⟩
theorem k37_mkF (W : World) (ok : Nat → Prop) (x : S37) {A2 : Option Addr} {c2 : Nat} (l2 : x.f2.length ≤ c2) (g2 : Kd.F k38 W ok A2 x.f2.length x.f2) : Kd.FK k37 W ok x [.int .i64 x.f0, .int .i64 x.f1, .slice A2 x.f2.length c2] := fun W2 hW => k37_mk W2 x l2 (g2 W2 hW)
def rd_T37 (xs : List S37) (i : Int) : S37 := xs.getD i.toNat z37
theorem at_T37 {w : World} {A : Option Addr} {n : Nat} {xs : List S37} (h : Kd.C k37 w A n xs) (i : Int) (h0 : 0 ≤ i) (h1 : i < n) : ∃ ad A2 c2, A = some ad ∧ w.cell? (ad.add (i.toNat * 3)) = some (.int .i64 (rd_T37 xs i).f0) ∧ w.cell? ⟨(ad.add (i.toNat * 3)).block, (ad.add (i.toNat * 3)).off + 1, none⟩ = some (.int .i64 (rd_T37 xs i).f1) ∧ w.cell? ⟨(ad.add (i.toNat * 3)).block, (ad.add (i.toNat * 3)).off + 2, none⟩ = some (.slice A2 (rd_T37 xs i).f2.length c2) ∧ (rd_T37 xs i).f2.length ≤ c2 ∧ k38.C w A2 (rd_T37 xs i).f2.length (rd_T37 xs i).f2 := by
  obtain ⟨ad, c, e, _, hK, hc0⟩ := Kd.C_get h z37 i h0 h1
  have hc : ∀ j u, c[j]? = some u → w.cell? (ad.add (i.toNat * 3 + j)) = some u := hc0
  obtain ⟨A2, c2, rfl, l2, g2⟩ := k37_open hK
  exact ⟨ad, A2, c2, e, hc 0 _ rfl, by rw [← add_field _ _ 1 (by omega)]; exact hc 1 _ rfl, by rw [← add_field _ _ 2 (by omega)]; exact hc 2 _ rfl, l2, g2⟩

def rd_L19 (xs : List (List Int)) (i : Int) : (List Int) := xs.getD i.toNat ([] : List Int)
theorem at_L19 {w : World} {A : Option Addr} {n : Nat} {xs : List (List Int)} (h : Kd.C (Kd.slice 5 (Kd.int .u8)) w A n xs) (i : Int) (h0 : 0 ≤ i) (h1 : i < n) : ∃ ad A0 c0, A = some ad ∧ w.cell? (ad.add i.toNat) = some (.slice A0 (rd_L19 xs i).length c0) ∧ (rd_L19 xs i).length ≤ c0 ∧ (Kd.int .u8).C w A0 (rd_L19 xs i).length (rd_L19 xs i) := by
  obtain ⟨ad, c, e, _, hK, hc0⟩ := Kd.C_get h ([] : List Int) i h0 h1
  have hc : ∀ j u, c[j]? = some u → w.cell? (ad.add (i.toNat * 1 + j)) = some u := hc0
  obtain ⟨A0, c0, rfl, l0, g0⟩ := hK
  exact ⟨ad, A0, c0, e, by have hq := hc 0 _ rfl; rwa [Nat.mul_one, Nat.add_zero] at hq, l0, g0⟩

/-! #### struct type 49 -/
structure S49 where
  f0 : (List Int)
  f1 : (List Int)
def z49 : S49 := ⟨([] : List Int), ([] : List Int)⟩
def k49 : Kd S49 := Kd.iso (Kd.pair (Kd.slice 3 (Kd.int .i64)) (Kd.slice 3 (Kd.int .i64))) (fun x : S49 => (x.f0, x.f1))
theorem k49_heap : Kd.Heap k49 := Kd.heap_iso _ (Kd.heap_pair (Kd.heap_slice 3 (Kd.heap_int .i64)) (Kd.heap_slice 3 (Kd.heap_int .i64)))
theorem k49_open {w : World} {x : S49} {cs : List Value} (h : k49.K w x cs) : ∃ A0 c0 A1 c1, cs = [.slice A0 x.f0.length c0, .slice A1 x.f1.length c1] ∧ x.f0.length ≤ c0 ∧ (Kd.int .i64).C w A0 x.f0.length x.f0 ∧ x.f1.length ≤ c1 ∧ (Kd.int .i64).C w A1 x.f1.length x.f1 := by
  obtain ⟨_, _, rfl, ⟨A0, c0, rfl, l0, g0⟩, ⟨A1, c1, rfl, l1, g1⟩⟩ := h
  exact ⟨A0, c0, A1, c1, rfl, l0, g0, l1, g1⟩
theorem k49_openM {w : World} {base : Nat} {ok : Nat → Prop} {x : S49} {cs : List Value} (h : k49.M w base ok x cs) : ∃ v0 v1, cs = [v0, v1] ∧ (Kd.int .i64).R 3 w base ok v0 x.f0 ∧ (Kd.int .i64).R 3 w base ok v1 x.f1 := by
  obtain ⟨_, _, rfl, ⟨v0, rfl, g0⟩, ⟨v1, rfl, g1⟩⟩ := h
  exact ⟨v0, v1, rfl, g0, g1⟩
theorem k49_mk (w : World) (x : S49) {A0 : Option Addr} {c0 : Nat} (l0 : x.f0.length ≤ c0) (g0 : (Kd.int .i64).C w A0 x.f0.length x.f0) {A1 : Option Addr} {c1 : Nat} (l1 : x.f1.length ≤ c1) (g1 : (Kd.int .i64).C w A1 x.f1.length x.f1) : k49.K w x [.slice A0 x.f0.length c0, .slice A1 x.f1.length c1] := ⟨[.slice A0 x.f0.length c0], [.slice A1 x.f1.length c1], rfl, ⟨A0, c0, rfl, l0, g0⟩, ⟨A1, c1, rfl, l1, g1⟩⟩
theorem k49_mkM (w : World) (base : Nat) (ok : Nat → Prop) (x : S49) {v0 : Value} (g0 : (Kd.int .i64).R 3 w base ok v0 x.f0) {v1 : Value} (g1 : (Kd.int .i64).R 3 w base ok v1 x.f1) : k49.M w base ok x [v0, v1] := ⟨[v0], [v1], rfl, ⟨v0, rfl, g0⟩, ⟨v1, rfl, g1⟩⟩
theorem k49_openF {W : World} {ok : Nat → Prop} {x : S49} {cs : List Value} (h : Kd.FK k49 W ok x cs) : ∃ A0 c0 A1 c1, cs = [.slice A0 x.f0.length c0, .slice A1 x.f1.length c1] ∧ x.f0.length ≤ c0 ∧ Kd.F (Kd.int .i64) W ok A0 x.f0.length x.f0 ∧ x.f1.length ≤ c1 ∧ Kd.F (Kd.int .i64) W ok A1 x.f1.length x.f1 := by
  obtain ⟨A0, c0, A1, c1, rfl, l0, _, l1, _⟩ := k49_open (Kd.FK_now h)
  exact ⟨A0, c0, A1, c1, rfl, l0, (fun W' hW => by obtain ⟨A0_, c0_, A1_, c1_, he, l0_, g0_, l1_, g1_⟩ := k49_open (h W' hW); injection (Option.some.inj (show some (Value.slice A0 x.f0.length c0) = some (Value.slice A0_ x.f0.length c0_) from congrArg (fun l => l[0]?) he)) with ha_ _ _; rw [ha_]; exact g0_), l1, (fun W' hW => by obtain ⟨A0_, c0_, A1_, c1_, he, l0_, g0_, l1_, g1_⟩ := k49_open (h W' hW); injection (Option.some.inj (show some (Value.slice A1 x.f1.length c1) = some (Value.slice A1_ x.f1.length c1_) from congrArg (fun l => l[1]?) he)) with ha_ _ _; rw [ha_]; exact g1_)⟩
theorem k49_mkF (W : World) (ok : Nat → Prop) (x : S49) {A0 : Option Addr} {c0 : Nat} (l0 : x.f0.length ≤ c0) (g0 : Kd.F (Kd.int .i64) W ok A0 x.f0.length x.f0) {A1 : Option Addr} {c1 : Nat} (l1 : x.f1.length ≤ c1) (g1 : Kd.F (Kd.int .i64) W ok A1 x.f1.length x.f1) : Kd.FK k49 W ok x [.slice A0 x.f0.length c0, .slice A1 x.f1.length c1] := fun W2 hW => k49_mk W2 x l0 (g0 W2 hW) l1 (g1 W2 hW)
def rd_T49 (xs : List S49) (i : Int) : S49 := xs.getD i.toNat z49
theorem at_T49 {w : World} {A : Option Addr} {n : Nat} {xs : List S49} (h : Kd.C k49 w A n xs) (i : Int) (h0 : 0 ≤ i) (h1 : i < n) : ∃ ad A0 c0 A1 c1, A = some ad ∧ w.cell? (ad.add (i.toNat * 2)) = some (.slice A0 (rd_T49 xs i).f0.length c0) ∧ w.cell? ⟨(ad.add (i.toNat * 2)).block, (ad.add (i.toNat * 2)).off + 1, none⟩ = some (.slice A1 (rd_T49 xs i).f1.length c1) ∧ (rd_T49 xs i).f0.length ≤ c0 ∧ (Kd.int .i64).C w A0 (rd_T49 xs i).f0.length (rd_T49 xs i).f0 ∧ (rd_T49 xs i).f1.length ≤ c1 ∧ (Kd.int .i64).C w A1 (rd_T49 xs i).f1.length (rd_T49 xs i).f1 := by
  obtain ⟨ad, c, e, _, hK, hc0⟩ := Kd.C_get h z49 i h0 h1
  have hc : ∀ j u, c[j]? = some u → w.cell? (ad.add (i.toNat * 2 + j)) = some u := hc0
  obtain ⟨A0, c0, A1, c1, rfl, l0, g0, l1, g1⟩ := k49_open hK
  exact ⟨ad, A0, c0, A1, c1, e, hc 0 _ rfl, by rw [← add_field _ _ 1 (by omega)]; exact hc 1 _ rfl, l0, g0, l1, g1⟩

/-! #### struct type 96 -/
structure S96 where
  f0 : (List Int)
  f1 : Int
  f2 : Int
def z96 : S96 := ⟨([] : List Int), (0 : Int), (0 : Int)⟩
def k96 : Kd S96 := Kd.iso (Kd.pair (Kd.slice 5 (Kd.int .u8)) (Kd.pair (Kd.int .i64) (Kd.int .i64))) (fun x : S96 => (x.f0, x.f1, x.f2))
theorem k96_heap : Kd.Heap k96 := Kd.heap_iso _ (Kd.heap_pair (Kd.heap_slice 5 (Kd.heap_int .u8)) (Kd.heap_pair (Kd.heap_int .i64) (Kd.heap_int .i64)))
theorem k96_open {w : World} {x : S96} {cs : List Value} (h : k96.K w x cs) : ∃ A0 c0, cs = [.slice A0 x.f0.length c0, .int .i64 x.f1, .int .i64 x.f2] ∧ x.f0.length ≤ c0 ∧ (Kd.int .u8).C w A0 x.f0.length x.f0 := by
  obtain ⟨_, _, rfl, ⟨A0, c0, rfl, l0, g0⟩, ⟨_, _, rfl, rfl, rfl⟩⟩ := h
  exact ⟨A0, c0, rfl, l0, g0⟩
theorem k96_openM {w : World} {base : Nat} {ok : Nat → Prop} {x : S96} {cs : List Value} (h : k96.M w base ok x cs) : ∃ v0, cs = [v0, .int .i64 x.f1, .int .i64 x.f2] ∧ (Kd.int .u8).R 5 w base ok v0 x.f0 := by
  obtain ⟨_, _, rfl, ⟨v0, rfl, g0⟩, ⟨_, _, rfl, rfl, rfl⟩⟩ := h
  exact ⟨v0, rfl, g0⟩
theorem k96_mk (w : World) (x : S96) {A0 : Option Addr} {c0 : Nat} (l0 : x.f0.length ≤ c0) (g0 : (Kd.int .u8).C w A0 x.f0.length x.f0) : k96.K w x [.slice A0 x.f0.length c0, .int .i64 x.f1, .int .i64 x.f2] := ⟨[.slice A0 x.f0.length c0], [.int .i64 x.f1, .int .i64 x.f2], rfl, ⟨A0, c0, rfl, l0, g0⟩, ⟨[.int .i64 x.f1], [.int .i64 x.f2], rfl, rfl, rfl⟩⟩
theorem k96_mkM (w : World) (base : Nat) (ok : Nat → Prop) (x : S96) {v0 : Value} (g0 : (Kd.int .u8).R 5 w base ok v0 x.f0) : k96.M w base ok x [v0, .int .i64 x.f1, .int .i64 x.f2] := ⟨[v0], [.int .i64 x.f1, .int .i64 x.f2], rfl, ⟨v0, rfl, g0⟩, ⟨[.int .i64 x.f1], [.int .i64 x.f2], rfl, rfl, rfl⟩⟩
theorem k96_openF {W : World} {ok : Nat → Prop} {x : S96} {cs : List Value} (h : Kd.FK k96 W ok x cs) : ∃ A0 c0, cs = [.slice A0 x.f0.length c0, .int .i64 x.f1, .int .i64 x.f2] ∧ x.f0.length ≤ c0 ∧ Kd.F (Kd.int .u8) W ok A0 x.f0.length x.f0 := by
  obtain ⟨A0, c0, rfl, l0, _⟩ := k96_open (Kd.FK_now h)
  exact ⟨A0, c0, rfl, l0, (fun W' hW => by obtain ⟨A0_, c0_, he, l0_, g0_⟩ := k96_open (h W' hW); injection (Option.some.inj (show some (Value.slice A0 x.f0.length c0) = some (Value.slice A0_ x.f0.length c0_) from congrArg (fun l => l[0]?) he)) with ha_ _ _; rw [ha_]; exact g0_)⟩
theorem k96_mkF (W : World) (ok : Nat → Prop) (x : S96) {A0 : Option Addr} {c0 : Nat} (l0 : x.f0.length ≤ c0) (g0 : Kd.F (Kd.int .u8) W ok A0 x.f0.length x.f0) : Kd.FK k96 W ok x [.slice A0 x.f0.length c0, .int .i64 x.f1, .int .i64 x.f2] := fun W2 hW => k96_mk W2 x l0 (g0 W2 hW)
def rd_T96 (xs : List S96) (i : Int) : S96 := xs.getD i.toNat z96
theorem at_T96 {w : World} {A : Option Addr} {n : Nat} {xs : List S96} (h : Kd.C k96 w A n xs) (i : Int) (h0 : 0 ≤ i) (h1 : i < n) : ∃ ad A0 c0, A = some ad ∧ w.cell? (ad.add (i.toNat * 3)) = some (.slice A0 (rd_T96 xs i).f0.length c0) ∧ w.cell? ⟨(ad.add (i.toNat * 3)).block, (ad.add (i.toNat * 3)).off + 1, none⟩ = some (.int .i64 (rd_T96 xs i).f1) ∧ w.cell? ⟨(ad.add (i.toNat * 3)).block, (ad.add (i.toNat * 3)).off + 2, none⟩ = some (.int .i64 (rd_T96 xs i).f2) ∧ (rd_T96 xs i).f0.length ≤ c0 ∧ (Kd.int .u8).C w A0 (rd_T96 xs i).f0.length (rd_T96 xs i).f0 := by
  obtain ⟨ad, c, e, _, hK, hc0⟩ := Kd.C_get h z96 i h0 h1
  have hc : ∀ j u, c[j]? = some u → w.cell? (ad.add (i.toNat * 3 + j)) = some u := hc0
  obtain ⟨A0, c0, rfl, l0, g0⟩ := k96_open hK
  exact ⟨ad, A0, c0, e, hc 0 _ rfl, by rw [← add_field _ _ 1 (by omega)]; exact hc 1 _ rfl, by rw [← add_field _ _ 2 (by omega)]; exact hc 2 _ rfl, l0, g0⟩

/-! #### struct type 97 -/
structure S97 where
  f0 : (List Int)
  f1 : Int
  f2 : Int
def z97 : S97 := ⟨([] : List Int), (0 : Int), (0 : Int)⟩
def k97 : Kd S97 := Kd.iso (Kd.pair (Kd.slice 5 (Kd.int .u8)) (Kd.pair (Kd.int .i64) (Kd.int .i64))) (fun x : S97 => (x.f0, x.f1, x.f2))
theorem k97_heap : Kd.Heap k97 := Kd.heap_iso _ (Kd.heap_pair (Kd.heap_slice 5 (Kd.heap_int .u8)) (Kd.heap_pair (Kd.heap_int .i64) (Kd.heap_int .i64)))
theorem k97_open {w : World} {x : S97} {cs : List Value} (h : k97.K w x cs) : ∃ A0 c0, cs = [.slice A0 x.f0.length c0, .int .i64 x.f1, .int .i64 x.f2] ∧ x.f0.length ≤ c0 ∧ (Kd.int .u8).C w A0 x.f0.length x.f0 := by
  obtain ⟨_, _, rfl, ⟨A0, c0, rfl, l0, g0⟩, ⟨_, _, rfl, rfl, rfl⟩⟩ := h
  exact ⟨A0, c0, rfl, l0, g0⟩
theorem k97_openM {w : World} {base : Nat} {ok : Nat → Prop} {x : S97} {cs : List Value} (h : k97.M w base ok x cs) : ∃ v0, cs = [v0, .int .i64 x.f1, .int .i64 x.f2] ∧ (Kd.int .u8).R 5 w base ok v0 x.f0 := by
  obtain ⟨_, _, rfl, ⟨v0, rfl, g0⟩, ⟨_, _, rfl, rfl, rfl⟩⟩ := h
  exact ⟨v0, rfl, g0⟩
theorem k97_mk (w : World) (x : S97) {A0 : Option Addr} {c0 : Nat} (l0 : x.f0.length ≤ c0) (g0 : (Kd.int .u8).C w A0 x.f0.length x.f0) : k97.K w x [.slice A0 x.f0.length c0, .int .i64 x.f1, .int .i64 x.f2] := ⟨[.slice A0 x.f0.length c0], [.int .i64 x.f1, .int .i64 x.f2], rfl, ⟨A0, c0, rfl, l0, g0⟩, ⟨[.int .i64 x.f1], [.int .i64 x.f2], rfl, rfl, rfl⟩⟩
theorem k97_mkM (w : World) (base : Nat) (ok : Nat → Prop) (x : S97) {v0 : Value} (g0 : (Kd.int .u8).R 5 w base ok v0 x.f0) : k97.M w base ok x [v0, .int .i64 x.f1, .int .i64 x.f2] := ⟨[v0], [.int .i64 x.f1, .int .i64 x.f2], rfl, ⟨v0, rfl, g0⟩, ⟨[.int .i64 x.f1], [.int .i64 x.f2], rfl, rfl, rfl⟩⟩
theorem k97_openF {W : World} {ok : Nat → Prop} {x : S97} {cs : List Value} (h : Kd.FK k97 W ok x cs) : ∃ A0 c0, cs = [.slice A0 x.f0.length c0, .int .i64 x.f1, .int .i64 x.f2] ∧ x.f0.length ≤ c0 ∧ Kd.F (Kd.int .u8) W ok A0 x.f0.length x.f0 := by
  obtain ⟨A0, c0, rfl, l0, _⟩ := k97_open (Kd.FK_now h)
  exact ⟨A0, c0, rfl, l0, (fun W' hW => by obtain ⟨A0_, c0_, he, l0_, g0_⟩ := k97_open (h W' hW); injection (Option.some.inj (show some (Value.slice A0 x.f0.length c0) = some (Value.slice A0_ x.f0.length c0_) from congrArg (fun l => l[0]?) he)) with ha_ _ _; rw [ha_]; exact g0_)⟩
theorem k97_mkF (W : World) (ok : Nat → Prop) (x : S97) {A0 : Option Addr} {c0 : Nat} (l0 : x.f0.length ≤ c0) (g0 : Kd.F (Kd.int .u8) W ok A0 x.f0.length x.f0) : Kd.FK k97 W ok x [.slice A0 x.f0.length c0, .int .i64 x.f1, .int .i64 x.f2] := fun W2 hW => k97_mk W2 x l0 (g0 W2 hW)
def rd_T97 (xs : List S97) (i : Int) : S97 := xs.getD i.toNat z97
theorem at_T97 {w : World} {A : Option Addr} {n : Nat} {xs : List S97} (h : Kd.C k97 w A n xs) (i : Int) (h0 : 0 ≤ i) (h1 : i < n) : ∃ ad A0 c0, A = some ad ∧ w.cell? (ad.add (i.toNat * 3)) = some (.slice A0 (rd_T97 xs i).f0.length c0) ∧ w.cell? ⟨(ad.add (i.toNat * 3)).block, (ad.add (i.toNat * 3)).off + 1, none⟩ = some (.int .i64 (rd_T97 xs i).f1) ∧ w.cell? ⟨(ad.add (i.toNat * 3)).block, (ad.add (i.toNat * 3)).off + 2, none⟩ = some (.int .i64 (rd_T97 xs i).f2) ∧ (rd_T97 xs i).f0.length ≤ c0 ∧ (Kd.int .u8).C w A0 (rd_T97 xs i).f0.length (rd_T97 xs i).f0 := by
  obtain ⟨ad, c, e, _, hK, hc0⟩ := Kd.C_get h z97 i h0 h1
  have hc : ∀ j u, c[j]? = some u → w.cell? (ad.add (i.toNat * 3 + j)) = some u := hc0
  obtain ⟨A0, c0, rfl, l0, g0⟩ := k97_open hK
  exact ⟨ad, A0, c0, e, hc 0 _ rfl, by rw [← add_field _ _ 1 (by omega)]; exact hc 1 _ rfl, by rw [← add_field _ _ 2 (by omega)]; exact hc 2 _ rfl, l0, g0⟩

end Go.Proofs.Ytgiehdhnhkmjfaa.X
-- Laid by xprint.py (wip/tools): printed contracts, and hand-written ones between them.
namespace Go.Proofs.Ytgiehdhnhkmjfaa.X
open Go.RowKit Go.Proofs.YtgiehdhnhkmjfaaW.PrintWords Go.Proofs.YtgiehdhnhkmjfaaW.PrintLast Go.Proofs.YtgiehdhnhkmjfaaW.PrintMore
attribute [local go_sem] max2_int min2_int max_two min_two max_three min_three max_four min_four   -- for this text's walks alone
set_option linter.unusedVariables false
set_option linter.unusedSimpArgs false

/-! ### words of these hand-written contracts (plain) -/
/-- The first place below n at which p holds; -1 if there is none. -/
def idxN (p : Nat → Bool) (n : Nat) : Int := match (List.range n).find? p with
  | some j => (j : Int)
  | none => -1
theorem idxN_miss {p : Nat → Bool} {n : Nat} (h : ∀ j, j < n → p j = false) : idxN p n = -1 := by
  have : (List.range n).find? p = none := by
    rw [List.find?_eq_none]
    intro x hx
    rw [h x (List.mem_range.1 hx)]
    exact Bool.false_ne_true
  unfold idxN
  rw [this]
theorem idxN_hit {p : Nat → Bool} {n k : Nat} (hk : k < n) (h : p k = true) (h0 : ∀ j, j < k → p j = false) : idxN p n = (k : Int) := by
  have : (List.range n).find? p = some k := by
    rw [List.find?_range_eq_some]
    exact ⟨h, List.mem_range.2 hk, fun j hj => by rw [h0 j hj]; rfl⟩
  unfold idxN
  rw [this]
theorem idxN_any (p : Nat → Bool) (n : Nat) : decide (0 ≤ idxN p n) = (List.range n).any p := by
  unfold idxN
  cases h : (List.range n).find? p with
  | none =>
    rw [List.find?_eq_none] at h
    have : (List.range n).any p = false := by
      rw [List.any_eq_false]
      exact h
    rw [this]
    rfl
  | some j =>
    have h1 := List.find?_some h
    have h2 := List.mem_of_find?_eq_some h
    have : (List.range n).any p = true := List.any_eq_true.2 ⟨j, h2, h1⟩
    rw [this]
    simp
theorem any_range_lt {p q : Nat → Bool} {n : Nat} (h : ∀ j, j < n → p j = q j) : (List.range n).any p = (List.range n).any q := by
  rw [Bool.eq_iff_iff, List.any_eq_true, List.any_eq_true]
  constructor
  · rintro ⟨j, hj, hp⟩
    exact ⟨j, hj, by rw [← h j (List.mem_range.1 hj)]; exact hp⟩
  · rintro ⟨j, hj, hp⟩
    exact ⟨j, hj, by rw [h j (List.mem_range.1 hj)]; exact hp⟩
/-- A list gone through by its places. -/
theorem any_range_list {α : Type} (xs : List α) (d : α) (p : α → Bool) : (List.range xs.length).any (fun j => p (xs.getD j d)) = xs.any p := by
  rw [Bool.eq_iff_iff, List.any_eq_true, List.any_eq_true]
  constructor
  · rintro ⟨j, hj, hp⟩
    have hj' := List.mem_range.1 hj
    refine ⟨xs[j], List.getElem_mem hj', ?_⟩
    rw [List.getD_eq_getElem?_getD, List.getElem?_eq_getElem hj'] at hp
    exact hp
  · rintro ⟨x, hx, hp⟩
    obtain ⟨j, hj, rfl⟩ := List.getElem_of_mem hx
    refine ⟨j, List.mem_range.2 hj, ?_⟩
    rw [List.getD_eq_getElem?_getD, List.getElem?_eq_getElem hj]
    exact hp
/-- The cells of a row of rows, by their places. -/
theorem rows_vals {e : Nat} {w : World} {A : Option Addr} {n : Nat} {xs : List (List Int)} (h : Kd.C (Kd.slice e (Kd.int .i64)) w A n xs) :
    ∃ vals : Nat → Value, (∀ j, j < n → ∃ ad, A = some ad ∧ w.cell? (ad.add j) = some (vals j)) ∧
      ∀ j, j < n → ∃ A1 c1, vals j = .slice A1 (xs.getD j []).length c1 ∧ (xs.getD j []).length ≤ c1 ∧ Kd.C (Kd.int .i64) w A1 (xs.getD j []).length (xs.getD j []) := by
  have key : ∀ j, ∃ v : Value, j < n → (∃ ad, A = some ad ∧ w.cell? (ad.add j) = some v) ∧ ∃ A1 c1, v = .slice A1 (xs.getD j []).length c1 ∧ (xs.getD j []).length ≤ c1 ∧ Kd.C (Kd.int .i64) w A1 (xs.getD j []).length (xs.getD j []) := by
    intro j
    by_cases hj : j < n
    · obtain ⟨ad, c, e1, _, hK, hcell⟩ := Kd.C_get h ([] : List Int) (j : Int) (by omega) (by omega)
      obtain ⟨A2, c2, rfl, hl2, hr2⟩ := hK
      have hx : w.cell? (ad.add (j * 1 + 0)) = some (.slice A2 (xs.getD j []).length c2) := hcell 0 _ rfl
      rw [Nat.mul_one, Nat.add_zero] at hx
      exact ⟨.slice A2 (xs.getD j []).length c2, fun _ => ⟨⟨ad, e1, hx⟩, A2, c2, rfl, hl2, hr2⟩⟩
    · exact ⟨.bool false, fun h => absurd h hj⟩
  obtain ⟨vals, hv⟩ := Classical.axiomOfChoice key
  exact ⟨vals, fun j hj => (hv j hj).1, fun j hj => (hv j hj).2⟩
theorem drawn_below {w w' : World} (h : ∃ q, w' = w.drewN q) : Below w.heap.size w w' := by
  obtain ⟨q, rfl⟩ := h
  exact pw_below_drewN (Below.refl _ _) q
theorem bne_nat (a b : Nat) : ((a : Int) != (b : Int)) = !decide (a = b) := by
  by_cases h : a = b
  · subst h; simp
  · have : ¬ (a : Int) = b := by omega
    simp [h, this, bne]
theorem beq_nat (a b : Nat) : ((a : Int) == (b : Int)) = decide (a = b) := by
  by_cases h : a = b
  · subst h; simp
  · have : ¬ (a : Int) = b := by omega
    simp [h, this]
/-- SignOf. -/
def signI (n : Int) : Int := if n < 0 then -1 else if n > 0 then 1 else 0
theorem ints_at {w : World} {A : Option Addr} {n : Nat} {xs : List Int} (h : Kd.C (Kd.int .i64) w A n xs) (i : Nat) (hi : i < n) : ∃ ad, A = some ad ∧ w.cell? (ad.add i) = some (.int .i64 (xs.getD i 0)) := by
  obtain ⟨ad, c, e1, _, hK, hcell⟩ := Kd.C_get h (0 : Int) (i : Int) (by omega) (by omega)
  obtain rfl : c = [.int .i64 (xs.getD i 0)] := hK
  have hx : w.cell? (ad.add (i * 1 + 0)) = some (.int .i64 (xs.getD i 0)) := hcell 0 _ rfl
  rw [Nat.mul_one, Nat.add_zero] at hx
  exact ⟨ad, e1, hx⟩
theorem drop_at {xs : List Int} {k : Nat} (h : k < xs.length) : xs.drop k = xs.getD k 0 :: xs.drop (k + 1) := by
  rw [List.drop_eq_getElem_cons h, List.getD_eq_getElem?_getD, List.getElem?_eq_getElem h]
  rfl
/-- A literal of two rows of numbers. -/
theorem two_rows {e t : Nat} {W : World} {A0 A1 : Option Addr} {c0 c1 : Nat} {l0 l1 : List Int} {B : Nat} (h0 : Kd.C (Kd.int .i64) W A0 l0.length l0) (hc0 : l0.length ≤ c0) (h1 : Kd.C (Kd.int .i64) W A1 l1.length l1) (hc1 : l1.length ≤ c1)
    (hb : W.heap[B]? = some (.cells #[.slice A0 l0.length c0, .slice A1 l1.length c1] t (0, 0))) : Kd.C (Kd.slice e (Kd.int .i64)) W (some ⟨B, 0, none⟩) [l0, l1].length [l0, l1] := by
  refine ⟨rfl, by simp, fun _ => ⟨⟨B, 0, none⟩, rfl, fun j p hj => ?_⟩⟩
  match j, hj with
  | 0, hj =>
    obtain rfl : l0 = p := by simpa using hj
    refine ⟨[.slice A0 l0.length c0], rfl, ⟨A0, c0, rfl, hc0, h0⟩, fun i u hu => ?_⟩
    match i, hu with
    | 0, hu =>
      obtain rfl : Value.slice A0 l0.length c0 = u := by simpa using hu
      exact (blk_cell hb 0).trans rfl
    | i + 1, hu => simp at hu
  | 1, hj =>
    obtain rfl : l1 = p := by simpa using hj
    refine ⟨[.slice A1 l1.length c1], rfl, ⟨A1, c1, rfl, hc1, h1⟩, fun i u hu => ?_⟩
    match i, hu with
    | 0, hu =>
      obtain rfl : Value.slice A1 l1.length c1 = u := by simpa using hu
      exact (blk_cell hb 1).trans rfl
    | i + 1, hu => simp at hu
  | j + 2, hj => simp at hj
theorem bools_set (s : List Bool) (i : Nat) (b : Bool) : (s.map Value.bool).toArray.setIfInBounds i (.bool b) = ((s.set i b).map Value.bool).toArray := by simp [List.map_set]
/-- What IsWord asks. -/
def tritB (x : Int) : Bool := decide (-1 ≤ x) && decide (x ≤ 1)
def wordB (w : List Int) : Bool := decide (1 ≤ w.length) && decide (w.length ≤ 30) && w.all tritB
theorem beq_dec (x y : Int) : (x == y) = decide (x = y) := rfl

end Go.Proofs.Ytgiehdhnhkmjfaa.X
-- Laid by xprint.py (wip/tools): printed contracts, and hand-written ones between them.
namespace Go.Proofs.Ytgiehdhnhkmjfaa.X
open Go.RowKit Go.Proofs.YtgiehdhnhkmjfaaW.PrintWords Go.Proofs.YtgiehdhnhkmjfaaW.PrintLast Go.Proofs.YtgiehdhnhkmjfaaW.PrintMore
attribute [local go_sem] max2_int min2_int max_two min_two max_three min_three max_four min_four   -- for this text's walks alone
set_option linter.unusedVariables false
set_option linter.unusedSimpArgs false

/-! ### a block of the call's own whose first m cells are rows of numbers, no two in one block -/
def LVf (e3 : Nat) (W : World) (base g m : Nat) (t : TypeId) (cur : Array Value) (f : Nat → Nat) (L : Nat → List Int) : Prop :=
  W.heap[g]? = some (.cells cur t (0, 0)) ∧ m ≤ cur.size ∧ base ≤ g ∧ ∀ j, j < m → ∃ v, cur[j]? = some v ∧ Kd.R (Kd.int .i64) e3 W base (fun k => k ≠ g ∧ f k = j) v (L j)
def LV (e3 : Nat) (W : World) (base g m : Nat) (t : TypeId) (N : Nat) (L : Nat → List Int) : Prop := ∃ cur f, cur.size = N ∧ LVf e3 W base g m t cur f L
theorem LV.ext {e3 : Nat} {W : World} {base g m N : Nat} {t : TypeId} {L L' : Nat → List Int} (h : LV e3 W base g m t N L) (hL : ∀ j, j < m → L j = L' j) : LV e3 W base g m t N L' := by
  obtain ⟨cur, f, hN, h1, h2, h3, h4⟩ := h
  exact ⟨cur, f, hN, h1, h2, h3, fun j hj => by
    obtain ⟨v, hv, hr⟩ := h4 j hj
    exact ⟨v, hv, hL j hj ▸ hr⟩⟩
theorem LV.drewN {e3 : Nat} {W : World} {base g m N : Nat} {t : TypeId} {L : Nat → List Int} (h : LV e3 W base g m t N L) (q : Nat) : LV e3 (W.drewN q) base g m t N L := by
  obtain ⟨cur, f, hN, h1, h2, h3, h4⟩ := h
  exact ⟨cur, f, hN, blk_drewN h1 q, h2, h3, fun j hj => by
    obtain ⟨v, hv, hr⟩ := h4 j hj
    exact ⟨v, hv, Kd.R_drewN hr q⟩⟩
theorem LV.step {e3 : Nat} {W W1 : World} {base g m N : Nat} {t : TypeId} {L : Nat → List Int} (h : LV e3 W base g m t N L) (hm : ∀ k, base ≤ k → k < W.heap.size → W1.heap[k]? = W.heap[k]?) : LV e3 W1 base g m t N L := by
  obtain ⟨cur, f, hN, h1, h2, h3, h4⟩ := h
  refine ⟨cur, f, hN, (hm g h3 (blk_lt h1)).trans h1, h2, h3, fun j hj => ?_⟩
  obtain ⟨v, hv, hr⟩ := h4 j hj
  exact ⟨v, hv, Kd.R_mono (Kd.R_step (Kd.R_bound hr) (fun k hk hlt => hm k hk.2.1 hlt)) (fun _ hk => hk.1)⟩
/-- Cell j, its row, and what stands when a longer row was put into it. -/
theorem LV.open_ {e3 : Nat} {W : World} {base g m N : Nat} {t : TypeId} {L : Nat → List Int} (h : LV e3 W base g m t N L) {j : Nat} (hj : j < m) :
    ∃ (A : Option Addr) (c : Nat) (ok : Nat → Prop), W.cell? ⟨g, j, none⟩ = some (.slice A (L j).length c) ∧ W.frozen? ⟨g, j, none⟩ = false ∧ Kd.R (Kd.int .i64) e3 W base ok (.slice A (L j).length c) (L j) ∧ (∀ k, W.heap.size ≤ k → ok k) ∧
      ∀ (v1 : Value) (W1 : World) (l' : List Int), Kd.R (Kd.int .i64) e3 W1 base ok v1 l' → W.grownBy W1 (Value.slice A (L j).length c).ownBlock →
        W1.heap[g]? ≠ none ∧ W1.frozen? ⟨g, j, none⟩ = false ∧ (∃ x, W1.cell? ⟨g, j, none⟩ = some x) ∧ LV e3 (W1.setCell ⟨g, j, none⟩ v1) base g m t N (fun i => if i = j then l' else L i) := by
  obtain ⟨cur, f, hN, h1, h2, h3, h4⟩ := h
  obtain ⟨v, hv, hr⟩ := h4 j hj
  obtain ⟨A, c, rfl⟩ := Kd.R_slice hr
  have hg := blk_lt h1
  refine ⟨A, c, fun k => k ≠ g ∧ (f k = j ∨ W.heap.size ≤ k), (blk_cell h1 j).trans hv, blk_frozen h1 j, Kd.R_mono hr (fun k hk => ⟨hk.1, .inl hk.2⟩), fun k hk => ⟨by omega, .inr hk⟩, ?_⟩
  intro v1 W1 l' hr1 hgr
  have hown : ∀ k, (Value.slice A (L j).length c).ownBlock = some k → k ≠ g ∧ f k = j := hr.1
  have hb1 : W1.heap[g]? = some (.cells cur t (0, 0)) := blk_grown h1 hgr (fun e => (hown g e.symm).1 rfl)
  refine ⟨by rw [hb1]; simp, blk_frozen hb1 j, ⟨_, (blk_cell hb1 j).trans hv⟩, cur.setIfInBounds j v1, fun k => if W.heap.size ≤ k then j else f k, by simpa using hN, blk_set hb1 j v1, by simpa using h2, h3, fun i hi => ?_⟩
  by_cases e : i = j
  · subst e
    refine ⟨v1, by rw [Array.getElem?_setIfInBounds_self_of_lt (by omega)], ?_⟩
    show Kd.R _ _ _ _ _ _ (if i = i then l' else L i)
    rw [if_pos rfl]
    refine Kd.R_far (p := ⟨g, i, none⟩) (Kd.R_mono hr1 (fun k hk => ⟨hk.1, ?_⟩)) (fun k hk => hk.1) v1
    rcases hk.2 with h | h
    · by_cases hk2 : W.heap.size ≤ k
      · exact if_pos hk2
      · exact (if_neg hk2).trans h
    · exact if_pos h
  · obtain ⟨u, hu, hru⟩ := h4 i hi
    refine ⟨u, by rw [Array.getElem?_setIfInBounds_ne (fun h => e h.symm)]; exact hu, ?_⟩
    show Kd.R _ _ _ _ _ _ (if i = j then l' else L i)
    rw [if_neg e]
    refine Kd.R_far (p := ⟨g, j, none⟩) ?_ (fun k hk => hk.1) v1
    refine Kd.R_mono (Kd.R_grown (Kd.R_bound hru) hgr (fun k hk he => ?_)) (fun k hk => ⟨hk.1.1, ?_⟩)
    · have := (hown k he.symm).2
      have := hk.1.2
      omega
    · exact (if_neg (by have := hk.2.2.1; omega)).trans hk.1.2
/-- A row that was made, of elements of s empty rows each. -/
theorem LV.make {e3 e s n : Nat} {W : World} {base : Nat} {ok : Nat → Prop} {v : Value} (hs : 0 < s) (hn : 0 < n) (h : Kd.R (Kd.raw s) e W base ok v (List.replicate n (List.replicate s (.slice none 0 0)))) :
    ∃ g cap, v = .slice (some ⟨g, 0, none⟩) n cap ∧ n ≤ cap ∧ cap ≤ maxLen ∧ LV e3 W base g (n * s) e (cap * s) (fun _ => []) := by
  obtain ⟨_, inner, ⟨hlen, hown⟩, hrep⟩ := h
  rw [List.length_replicate] at hown hlen
  rcases hown with ⟨_, h0⟩ | ⟨g, cap, cur, rfl, hg, hh, hnc, hcm, hsz, htake⟩
  · omega
  · refine ⟨g, cap, rfl, hnc, hcm, cur, fun _ => 0, hsz, hh, by rw [hsz]; exact Nat.mul_le_mul_right _ hnc, hg, fun j hj => ?_⟩
    have hjs : j / s < n := Nat.div_lt_of_lt_mul (by rw [Nat.mul_comm]; exact hj)
    obtain ⟨he, hl, _⟩ := hrep.2 (j / s) (List.replicate s (.slice none 0 0)) (by rw [List.getElem?_replicate, if_pos hjs])
    have hm : j % s < s := Nat.mod_lt _ hs
    have e1 : inner[j]? = some (.slice none 0 0) := by
      have h2 : ((inner.drop (j / s * (Kd.raw s).sz)).take (Kd.raw s).sz)[j % s]? = some (.slice none 0 0) := by rw [he, List.getElem?_replicate, if_pos hm]
      have hsz' : (Kd.raw s).sz = s := rfl
      rw [hsz', List.getElem?_take, if_pos hm, List.getElem?_drop] at h2
      rwa [show j / s * s + j % s = j by rw [Nat.mul_comm]; exact Nat.div_add_mod j s] at h2
    refine ⟨.slice none 0 0, ?_, Kd.R_nil _ _ _ _ _⟩
    have hsz' : (Kd.raw s).sz = s := rfl
    rw [← htake, hsz', List.getElem?_take, if_pos hj, Array.getElem?_toList] at e1
    exact e1

end Go.Proofs.Ytgiehdhnhkmjfaa.X
-- Laid by xprint.py (wip/tools): printed contracts, and hand-written ones between them.
namespace Go.Proofs.Ytgiehdhnhkmjfaa.X
open Go.RowKit Go.Proofs.YtgiehdhnhkmjfaaW.PrintWords Go.Proofs.YtgiehdhnhkmjfaaW.PrintLast Go.Proofs.YtgiehdhnhkmjfaaW.PrintMore
attribute [local go_sem] max2_int min2_int max_two min_two max_three min_three max_four min_four   -- for this text's walks alone
set_option linter.unusedVariables false
set_option linter.unusedSimpArgs false

/-! ### slices_IndexFunc_int_int_102: function 102 -/
set_option maxHeartbeats 2000000 in
theorem slices_IndexFunc_int_int_102.calls (g : Nat) (lb : Array Value) (vals : Nat → Value) (p : Nat → Bool) (n c : Nat) (A : Option Addr) (w : World) (hbig : n ≤ 9223372036854775807)
    (hc : ∀ j, j < n → ∃ ad, A = some ad ∧ w.cell? (ad.add j) = some (vals j))
    (eg : ∀ args w, (callFunc g args).run Try.prog w = .ok (.enter g args) w)
    (hp : ∀ j q, j < n → Calls Try.prog g (#[vals j] ++ lb) (w.drewN q) fun e w' => e = .returned (.bool (p j)) ∧ ∃ q', w' = (w.drewN q).drewN q') :
    Calls Try.prog 102 #[.slice A n c, .func (.func g) #[] lb] w fun e w' => e = .returned (.int .i64 (idxN p n)) ∧ ∃ q, w' = w.drewN q := by
  have HC := Aside0.mk hc
  have HP := Aside0.mk hp
  clear hc hp
  go_enter Try.func102, Try.ntmps102
  go_wp2
  go_loopg [5, 8] n (fun gg _ s8 wr => ∃ kk q : Nat, kk ≤ n ∧ n - kk ≤ gg ∧ s8 = .int .i64 kk ∧ wr = w.drewN q ∧ Aside0 (∀ j, j < kk → p j = false))
  case atStart => exact ⟨0, 0, Nat.zero_le _, by omega, rfl, rfl, Aside0.mk (fun j hj => absurd hj (Nat.not_lt_zero _))⟩
  case round =>
    obtain ⟨kk, q, hkk, hg, rfl, rfl, HA⟩ := hrel
    by_cases hlt : kk < n
    · have hltz : (kk : Int) < (n : Int) := by omega
      obtain ⟨ad, rfl, hcell⟩ := HC.out kk hlt
      have hcall := fun q => HP.out kk q hlt
      generalize hy : vals kk = y at hcell hcall
      clear hy
      cases hq : p kk with
      | true =>
        rw [hq] at hcall
        have HQ := Aside0.mk hq
        clear hq
        go_wp2_with (go_at_fn g; refine (hcall _).mono ?_; rintro e w' ⟨rfl, q', rfl⟩)
        go_ret
        exact ⟨by rw [idxN_hit hlt HQ.out HA.out]; rfl, _, rfl⟩
      | false =>
        rw [hq] at hcall
        have HQ := Aside0.mk hq
        clear hq
        go_wp2_with (go_at_fn g; refine (hcall _).mono ?_; rintro e w' ⟨rfl, q', rfl⟩)
        go_roundg (n - (kk + 1))
        case measure => omega
        case rel =>
          refine ⟨kk + 1, _, by omega, by omega, by go_num, rfl, Aside0.mk fun j hj => ?_⟩
          by_cases e : j = kk
          · subst e
            exact HQ.out
          · exact HA.out j (by omega)
    · have hltz : ¬ (kk : Int) < (n : Int) := by omega
      have : kk = n := by omega
      subst this
      go_wp2
      go_ret
      exact ⟨by rw [idxN_miss HA.out]; rfl, q, rfl⟩

end Go.Proofs.Ytgiehdhnhkmjfaa.X
-- Laid by xprint.py (wip/tools): printed contracts, and hand-written ones between them.
namespace Go.Proofs.Ytgiehdhnhkmjfaa.X
open Go.RowKit Go.Proofs.YtgiehdhnhkmjfaaW.PrintWords Go.Proofs.YtgiehdhnhkmjfaaW.PrintLast Go.Proofs.YtgiehdhnhkmjfaaW.PrintMore
attribute [local go_sem] max2_int min2_int max_two min_two max_three min_three max_four min_four   -- for this text's walks alone
set_option linter.unusedVariables false
set_option linter.unusedSimpArgs false

/-! ### slices_ContainsFunc_int_int_79: function 79 -/
set_option maxHeartbeats 2000000 in
theorem slices_ContainsFunc_int_int_79.gives (g : Nat) (lb : Array Value) (vals : Nat → Value) (p : Nat → Bool) (n c : Nat) (A : Option Addr) (w : World) (hbig : n ≤ 9223372036854775807)
    (hc : ∀ j, j < n → ∃ ad, A = some ad ∧ w.cell? (ad.add j) = some (vals j))
    (eg : ∀ args w, (callFunc g args).run Try.prog w = .ok (.enter g args) w)
    (hp : ∀ j q, j < n → Calls Try.prog g (#[vals j] ++ lb) (w.drewN q) fun e w' => e = .returned (.bool (p j)) ∧ ∃ q', w' = (w.drewN q).drewN q') :
    Calls Try.prog 79 #[.slice A n c, .func (.func g) #[] lb] w fun e w' => e = .returned (.bool ((List.range n).any p)) ∧ ∃ q, w' = w.drewN q := by
  have hcall := slices_IndexFunc_int_int_102.calls g lb vals p n c A w hbig hc eg hp
  clear hc hp
  rw [← idxN_any]
  go_enter Try.func79, Try.ntmps79
  go_wp2_with (go_at_call 102; refine hcall.mono ?_; rintro e w' ⟨rfl, q, rfl⟩)
  go_ret
  exact ⟨rfl, q, rfl⟩

end Go.Proofs.Ytgiehdhnhkmjfaa.X
-- Laid by xprint.py (wip/tools): printed contracts, and hand-written ones between them.
namespace Go.Proofs.Ytgiehdhnhkmjfaa.X
open Go.RowKit Go.Proofs.YtgiehdhnhkmjfaaW.PrintWords Go.Proofs.YtgiehdhnhkmjfaaW.PrintLast Go.Proofs.YtgiehdhnhkmjfaaW.PrintMore
attribute [local go_sem] max2_int min2_int max_two min_two max_three min_three max_four min_four   -- for this text's walks alone
set_option linter.unusedVariables false
set_option linter.unusedSimpArgs false

/-! ### impl_IsTrit: function 86 -/
def impl_IsTrit.f (a0 : Int) : Option (Bool) := if a0 ≥ (-1) then (some (decide (a0 ≤ 1))) else (some false)
set_option maxHeartbeats 8000000 in
set_option maxRecDepth 100000 in
theorem impl_IsTrit.calls (a0 : Int) (r : Bool) (w : World) (h : impl_IsTrit.f a0 = some r) :
    Calls Try.prog 86 #[.int .i64 a0] w fun e w' => e = .returned (.bool r) ∧ Drawn0 w w' := by
  have H : (if a0 ≥ (-1) then (some (decide (a0 ≤ 1))) else (some false)) = some r := h
  clear h
  by_cases c2 : a0 ≥ (-1)
  · rw [if_pos c2] at H
    have c2b0 : decide ((-1) ≤ a0) = true := decide_eq_true c2
    clear c2
    obtain rfl := Option.some.inj H
    go_enter Try.func86, Try.ntmps86
    go_wp2
    go_ret
    exact ⟨by first | rfl | (simp; done) | (simp [*]; done), by repeat (first | exact Drawn0.refl _ | apply Drawn0.step)⟩
  · rw [if_neg c2] at H
    have c2b0 : decide ((-1) ≤ a0) = false := decide_eq_false c2
    clear c2
    obtain rfl := Option.some.inj H
    go_enter Try.func86, Try.ntmps86
    go_wp2
    go_ret
    exact ⟨by first | rfl | (simp; done) | (simp [*]; done), by repeat (first | exact Drawn0.refl _ | apply Drawn0.step)⟩

end Go.Proofs.Ytgiehdhnhkmjfaa.X
-- Laid by xprint.py (wip/tools): printed contracts, and hand-written ones between them.
namespace Go.Proofs.Ytgiehdhnhkmjfaa.X
open Go.RowKit Go.Proofs.YtgiehdhnhkmjfaaW.PrintWords Go.Proofs.YtgiehdhnhkmjfaaW.PrintLast Go.Proofs.YtgiehdhnhkmjfaaW.PrintMore
attribute [local go_sem] max2_int min2_int max_two min_two max_three min_three max_four min_four   -- for this text's walks alone
set_option linter.unusedVariables false
set_option linter.unusedSimpArgs false

/-! ### impl_trits: function 104 -/
def impl_trits.l0 : Nat → List Int → Int → Int → Option (Bool)
  | 0, _, _, _ => none
  | k + 1, x5, x6, x7 => if x7 < x6 then (if 0 ≤ x7 then (if x7 < (x5.length : Int) then ((impl_IsTrit.f (rd x5 x7)).bind fun t105002 => (if t105002 = true then (impl_trits.l0 k x5 x6 (wrap64 (x7 + 1))) else (some false))) else (none)) else (none)) else (some true)
def impl_trits.f (k : Nat) (l0 : List Int) : Option (Bool) := impl_trits.l0 k l0 (l0.length : Int) 0
theorem impl_trits.mono_l : ∀ k, (∀ y0 y1 y2, LeO (impl_trits.l0 k y0 y1 y2) (impl_trits.l0 (k + 1) y0 y1 y2))
  | 0 => fun _ _ _ r h => by simp [impl_trits.l0] at h
  | k + 1 => by
    have ih0 := impl_trits.mono_l k
    · intro y0 y1 y2
      unfold impl_trits.l0
      repeat' first
      | (with_reducible exact ih0 _ _ _)
      | (with_reducible exact LeO.refl _)
      | (with_reducible exact LeO.none _)
      | (with_reducible refine LeO.ite ?_ ?_)
      | (with_reducible refine LeO.bind ?_ (fun _ => ?_))
      | exact ih0 _ _ _
      | exact LeO.none _
      | refine LeO.ite ?_ ?_
      | refine LeO.bind ?_ (fun _ => ?_)
theorem impl_trits.mono : ∀ a0 k, LeO (impl_trits.f k a0) (impl_trits.f (k + 1) a0) := by
  intro a0 k
  have ih0 := impl_trits.mono_l k
  unfold impl_trits.f
  repeat' first
      | (with_reducible exact ih0 _ _ _)
      | (with_reducible exact LeO.refl _)
      | (with_reducible exact LeO.none _)
      | (with_reducible refine LeO.ite ?_ ?_)
      | (with_reducible refine LeO.bind ?_ (fun _ => ?_))
      | exact ih0 _ _ _
      | exact LeO.none _
      | refine LeO.ite ?_ ?_
      | refine LeO.bind ?_ (fun _ => ?_)
set_option maxHeartbeats 8000000 in
set_option maxRecDepth 100000 in
theorem impl_trits.calls (k : Nat) (A0 : Option Addr) (c0 : Nat) (l0 : List Int) (r : Bool) (w : World) (hr0 : Kd.C (Kd.int .i64) w A0 l0.length l0) (hc0 : l0.length ≤ c0) (h : impl_trits.f k l0 = some r) :
    Calls Try.prog 104 #[.slice A0 l0.length c0] w fun e w' => e = .returned (.bool r) ∧ Drawn0 w w' := by
  have HR0 := Aside0.mk hr0
  have HC0 := Aside0.mk hc0
  clear hr0 hc0
  have H : (impl_trits.l0 k l0 (l0.length : Int) 0) = some r := h
  clear h
  have H' := Aside0.mk H
  clear H
  go_enter Try.func104, Try.ntmps104
  go_wp2
  go_loopg [7] k (fun kq v7 w' => ∃ (x7_1 : Int), v7 = .int .i64 x7_1 ∧ Aside0 (impl_trits.l0 kq l0 (l0.length : Int) x7_1 = some r) ∧ Aside0 (kq ≤ k) ∧ Drawn0 w w')
  case atStart => exact ⟨(0), (by first | rfl | (simp; done) | (simp [*]; done)), H', ⟨Nat.le_refl _⟩, by repeat (first | exact Drawn0.refl _ | apply Drawn0.step)⟩
  case round =>
    clear H'
    try clear c1
    obtain ⟨x7_1, rfl, HA, HK1, ⟨m1, rfl⟩⟩ := hrel
    cases gk with
    | zero => exact absurd HA.out (by simp [impl_trits.l0])
    | succ k1 =>
      have H := HA.out
      clear HA
      simp only [impl_trits.l0] at H
      by_cases c2 : x7_1 < (l0.length : Int)
      · rw [if_pos c2] at H
        have c2b0 : decide (x7_1 < (l0.length : Int)) = true := decide_eq_true c2
        clear c2
        by_cases c3 : 0 ≤ x7_1
        · rw [if_pos c3] at H
          have c3b0 : decide (0 ≤ x7_1) = true := decide_eq_true c3
          clear c3
          by_cases c4 : x7_1 < (l0.length : Int)
          · rw [if_pos c4] at H
            have c4b0 : decide (x7_1 < (l0.length : Int)) = true := decide_eq_true c4
            clear c4
            replace H := Option.bind_eq_some_iff.mp H
            obtain ⟨t105002, A50, H⟩ := H
            replace H : (if t105002 = true then (impl_trits.l0 k1 l0 (l0.length : Int) (wrap64 (x7_1 + 1))) else (some false)) = some r := H
            have A5 := Aside0.mk A50
            clear A50
            by_cases c6 : t105002 = true
            · subst c6
              have H1 : (impl_trits.l0 k1 l0 (l0.length : Int) (wrap64 (x7_1 + 1))) = some r := by rw [if_pos rfl] at H; exact H
              clear H
              have H := H1
              clear H1
              have H' := Aside0.mk H
              clear H
              have p105001 : 0 ≤ (x7_1 : Int) := of_decide_eq_true (by first | (with_reducible assumption) | assumption)
              have q105001 : x7_1 < (l0.length : Int) := of_decide_eq_true (by first | (with_reducible assumption) | assumption)
              obtain ⟨ad105001, e105001, hx105001_0⟩ := Kd.at_int HR0.out x7_1 p105001 q105001
              cases e105001
              replace p105001 := eq_true p105001
              replace q105001 := eq_true q105001
              go_wp2_with (first | ((with_reducible refine gate_callee (f := 86) rfl ?_); refine goesL_ (some 12) rfl rfl Try.func86 (by kernel_rfl) rfl #[.int .i64 (rd l0 x7_1)] rfl (by (try simp only [List.map_toArray, List.map_cons, List.map_nil]); first | done | rfl | (simp only [List.length_drop, List.length_take]; rfl)) ?_; (with_reducible refine (impl_IsTrit.calls (rd l0 x7_1) true _ A5.out).mono ?_); rintro e w' ⟨rfl, ⟨nd, rfl⟩⟩; refine ⟨_, rfl, ?_⟩))
              go_roundg k1
              case measure => have := HK1.out; omega
              case rel => exact ⟨(wrap64 (x7_1 + 1)), (by first | rfl | (simp; done) | (simp [*]; done)), H', ⟨by have := HK1.out; omega⟩, by repeat (first | exact Drawn0.refl _ | apply Drawn0.step)⟩
            · replace c6 := Bool.eq_false_iff.mpr c6
              subst c6
              have H1 : (some false) = some r := by rw [if_neg (show ¬ (false = true) by decide)] at H; exact H
              clear H
              have H := H1
              clear H1
              obtain rfl := Option.some.inj H
              have p105001 : 0 ≤ (x7_1 : Int) := of_decide_eq_true (by first | (with_reducible assumption) | assumption)
              have q105001 : x7_1 < (l0.length : Int) := of_decide_eq_true (by first | (with_reducible assumption) | assumption)
              obtain ⟨ad105001, e105001, hx105001_0⟩ := Kd.at_int HR0.out x7_1 p105001 q105001
              cases e105001
              replace p105001 := eq_true p105001
              replace q105001 := eq_true q105001
              go_wp2_with (first | ((with_reducible refine gate_callee (f := 86) rfl ?_); refine goesL_ (some 12) rfl rfl Try.func86 (by kernel_rfl) rfl #[.int .i64 (rd l0 x7_1)] rfl (by (try simp only [List.map_toArray, List.map_cons, List.map_nil]); first | done | rfl | (simp only [List.length_drop, List.length_take]; rfl)) ?_; (with_reducible refine (impl_IsTrit.calls (rd l0 x7_1) false _ A5.out).mono ?_); rintro e w' ⟨rfl, ⟨nd, rfl⟩⟩; refine ⟨_, rfl, ?_⟩))
              go_ret
              exact ⟨by first | rfl | (simp; done) | (simp [*]; done), by repeat (first | exact Drawn0.refl _ | apply Drawn0.step)⟩
          · rw [if_neg c4] at H
            exact absurd H (by simp)
        · rw [if_neg c3] at H
          exact absurd H (by simp)
      · rw [if_neg c2] at H
        have c2b0 : decide (x7_1 < (l0.length : Int)) = false := decide_eq_false c2
        clear c2
        obtain rfl := Option.some.inj H
        go_wp2
        go_ret
        exact ⟨by first | rfl | (simp; done) | (simp [*]; done), by repeat (first | exact Drawn0.refl _ | apply Drawn0.step)⟩

end Go.Proofs.Ytgiehdhnhkmjfaa.X
-- Laid by xprint.py (wip/tools): printed contracts, and hand-written ones between them.
namespace Go.Proofs.Ytgiehdhnhkmjfaa.X
open Go.RowKit Go.Proofs.YtgiehdhnhkmjfaaW.PrintWords Go.Proofs.YtgiehdhnhkmjfaaW.PrintLast Go.Proofs.YtgiehdhnhkmjfaaW.PrintMore
attribute [local go_sem] max2_int min2_int max_two min_two max_three min_three max_four min_four   -- for this text's walks alone
set_option linter.unusedVariables false
set_option linter.unusedSimpArgs false

/-! ### impl_IsWord: function 90 -/
def impl_IsWord.f (k : Nat) (l0 : List Int) : Option (Bool) := if (l0.length : Int) ≥ 1 then (if (l0.length : Int) ≤ 30 then ((impl_trits.f k l0).bind fun t91001 => (some t91001)) else (some false)) else (some false)
theorem impl_IsWord.mono : ∀ a0 k, LeO (impl_IsWord.f k a0) (impl_IsWord.f (k + 1) a0) := by
  intro a0 k
  unfold impl_IsWord.f
  repeat' first
      | (with_reducible exact impl_trits.mono _ _)
      | (with_reducible exact LeO.refl _)
      | (with_reducible exact LeO.none _)
      | (with_reducible refine LeO.ite ?_ ?_)
      | (with_reducible refine LeO.bind ?_ (fun _ => ?_))
      | exact impl_trits.mono _ _
      | exact LeO.none _
      | refine LeO.ite ?_ ?_
      | refine LeO.bind ?_ (fun _ => ?_)
set_option maxHeartbeats 8000000 in
set_option maxRecDepth 100000 in
theorem impl_IsWord.calls (k : Nat) (A0 : Option Addr) (c0 : Nat) (l0 : List Int) (r : Bool) (w : World) (hr0 : Kd.C (Kd.int .i64) w A0 l0.length l0) (hc0 : l0.length ≤ c0) (h : impl_IsWord.f k l0 = some r) :
    Calls Try.prog 90 #[.slice A0 l0.length c0] w fun e w' => e = .returned (.bool r) ∧ Drawn0 w w' := by
  have HR0 := Aside0.mk hr0
  have HC0 := Aside0.mk hc0
  clear hr0 hc0
  have H : (if (l0.length : Int) ≥ 1 then (if (l0.length : Int) ≤ 30 then ((impl_trits.f k l0).bind fun t91001 => (some t91001)) else (some false)) else (some false)) = some r := h
  clear h
  by_cases c2 : (l0.length : Int) ≥ 1
  · rw [if_pos c2] at H
    have c2b0 : decide (1 ≤ (l0.length : Int)) = true := decide_eq_true c2
    have c2b1 : decide (1 ≤ l0.length) = true := decide_eq_true (by omega)
    clear c2
    by_cases c3 : (l0.length : Int) ≤ 30
    · rw [if_pos c3] at H
      have c3b0 : decide ((l0.length : Int) ≤ 30) = true := decide_eq_true c3
      have c3b1 : decide (l0.length ≤ 30) = true := decide_eq_true (by omega)
      clear c3
      replace H := Option.bind_eq_some_iff.mp H
      obtain ⟨t91001, A40, H⟩ := H
      replace H : (some t91001) = some r := H
      have A4 := Aside0.mk A40
      clear A40
      obtain rfl := Option.some.inj H
      go_enter Try.func90, Try.ntmps90
      go_wp2_with (first | (go_at_call 104; (with_reducible refine (impl_trits.calls k _ _ l0 t91001 _ ?side1 ?side2 A4.out).mono ?_); (case side1 => repeat (first | exact HR0.out | (with_reducible refine Kd.C_alloc ?_ _) | (with_reducible refine Kd.C_drewN ?_ _) | (with_reducible refine Kd.C_drew ?_))); (case side2 => exact HC0.out); rintro e w' ⟨rfl, ⟨nd, rfl⟩⟩))
      go_ret
      exact ⟨by first | rfl | (simp; done) | (simp [*]; done), by repeat (first | exact Drawn0.refl _ | apply Drawn0.step)⟩
    · rw [if_neg c3] at H
      have c3b0 : decide ((l0.length : Int) ≤ 30) = false := decide_eq_false c3
      have c3b1 : decide (l0.length ≤ 30) = false := decide_eq_false (by omega)
      clear c3
      obtain rfl := Option.some.inj H
      go_enter Try.func90, Try.ntmps90
      go_wp2
      go_ret
      exact ⟨by first | rfl | (simp; done) | (simp [*]; done), by repeat (first | exact Drawn0.refl _ | apply Drawn0.step)⟩
  · rw [if_neg c2] at H
    have c2b0 : decide (1 ≤ (l0.length : Int)) = false := decide_eq_false c2
    have c2b1 : decide (1 ≤ l0.length) = false := decide_eq_false (by omega)
    clear c2
    obtain rfl := Option.some.inj H
    go_enter Try.func90, Try.ntmps90
    go_wp2
    go_ret
    exact ⟨by first | rfl | (simp; done) | (simp [*]; done), by repeat (first | exact Drawn0.refl _ | apply Drawn0.step)⟩

end Go.Proofs.Ytgiehdhnhkmjfaa.X
-- Laid by xprint.py (wip/tools): printed contracts, and hand-written ones between them.
namespace Go.Proofs.Ytgiehdhnhkmjfaa.X
open Go.RowKit Go.Proofs.YtgiehdhnhkmjfaaW.PrintWords Go.Proofs.YtgiehdhnhkmjfaaW.PrintLast Go.Proofs.YtgiehdhnhkmjfaaW.PrintMore
attribute [local go_sem] max2_int min2_int max_two min_two max_three min_three max_four min_four   -- for this text's walks alone
set_option linter.unusedVariables false
set_option linter.unusedSimpArgs false

/-! ### impl_sameLength: function 45 -/
theorem impl_IsTrit_tells (x : Int) : impl_IsTrit.f x = some (tritB x) := by
  unfold impl_IsTrit.f tritB
  by_cases h : x ≥ -1
  · rw [if_pos h, decide_eq_true (show -1 ≤ x from h), Bool.true_and]
  · rw [if_neg h, decide_eq_false (show ¬ -1 ≤ x from h), Bool.false_and]
theorem impl_trits_tells (xs : List Int) (hx : xs.length ≤ 9223372036854775806) (d : Nat) : ∀ (k i : Nat), i ≤ xs.length → xs.length - i = d → d < k → impl_trits.l0 k xs (xs.length : Int) (i : Int) = some ((xs.drop i).all tritB) := by
  induction d with
  | zero =>
    intro k i h1 h2 hk
    obtain ⟨k, rfl⟩ : ∃ m, k = m + 1 := ⟨k - 1, by omega⟩
    simp only [impl_trits.l0]
    rw [if_neg (by omega), List.drop_of_length_le (by omega)]
    rfl
  | succ d ih =>
    intro k i h1 h2 hk
    obtain ⟨k, rfl⟩ : ∃ m, k = m + 1 := ⟨k - 1, by omega⟩
    have hi : i < xs.length := by omega
    have e : rd xs (i : Int) = xs[i] := by simp [rd, List.getElem?_eq_getElem hi]
    simp only [impl_trits.l0]
    rw [if_pos (by omega), if_pos (by omega), if_pos (by omega), e, impl_IsTrit_tells, List.drop_eq_getElem_cons hi, List.all_cons]
    simp only [Option.bind_some]
    cases hb : tritB xs[i] with
    | true =>
      rw [if_pos rfl, Bool.true_and, show wrap64 ((i : Int) + 1) = ((i + 1 : Nat) : Int) by unfold wrap64; omega]
      exact ih k (i + 1) (by omega) (by omega) (by omega)
    | false => rfl
theorem impl_IsWord_tells (xs : List Int) (k : Nat) (hk : xs.length < k) : impl_IsWord.f k xs = some (wordB xs) := by
  unfold impl_IsWord.f wordB impl_trits.f
  by_cases h1 : (xs.length : Int) ≥ 1
  · rw [if_pos h1, decide_eq_true (show 1 ≤ xs.length by omega), Bool.true_and]
    by_cases h2 : (xs.length : Int) ≤ 30
    · have h := impl_trits_tells xs (by omega) xs.length k 0 (Nat.zero_le _) rfl hk
      rw [List.drop_zero] at h
      rw [if_pos h2, decide_eq_true (show xs.length ≤ 30 by omega), Bool.true_and, show ((0 : Int)) = ((0 : Nat) : Int) from rfl, h]
      rfl
    · rw [if_neg h2, decide_eq_false (show ¬ xs.length ≤ 30 by omega), Bool.false_and]
  · rw [if_neg h1, decide_eq_false (show ¬ 1 ≤ xs.length by omega), Bool.false_and, Bool.false_and]
/-- What the closure tells of the word at place j. -/
def oddB (l : List (List Int)) (j : Nat) : Bool := !wordB (l.getD j []) || decide ((l.getD j []).length ≠ (l.getD 0 []).length)
def sameB (l : List (List Int)) : Bool := decide (0 < l.length) && !((List.range l.length).any (oddB l))
set_option maxHeartbeats 8000000 in
theorem impl_sameLength_1.calls (B : Nat) (A0 : Option Addr) (c0 : Nat) (l0 : List (List Int)) (A1 : Option Addr) (c1 : Nat) (y : List Int) (w : World) (hr0 : Kd.C (Kd.slice 3 (Kd.int .i64)) w A0 l0.length l0) (hp : 0 < l0.length)
    (hr1 : Kd.C (Kd.int .i64) w A1 y.length y) (hc1 : y.length ≤ c1) (hB : w.cell? ⟨B, 0, none⟩ = some (.slice A0 l0.length c0)) :
    Calls Try.prog 89 #[.slice A1 y.length c1, .pointer (some ⟨B, 0, none⟩)] w fun e w' => e = .returned (.bool (!wordB y || decide (y.length ≠ (l0.getD 0 []).length))) ∧ ∃ q, w' = w.drewN q := by
  obtain ⟨ad, c, e, _, hK, hcell⟩ := Kd.C_get hr0 ([] : List Int) 0 (by omega) (by omega)
  obtain ⟨A2, c2, rfl, hl2, hr2⟩ := hK
  have hx0 : w.cell? (ad.add 0) = some (.slice A2 (l0.getD 0 []).length c2) := hcell 0 _ rfl
  have hx : w.cell? ad = some (.slice A2 (l0.getD 0 []).length c2) := by rwa [Addr.add_zero'] at hx0
  clear hx0
  obtain ⟨z, hz⟩ : ∃ z, l0.getD 0 [] = z := ⟨_, rfl⟩
  rw [hz] at hx ⊢
  have hcall := impl_IsWord.calls (y.length + 1) A1 c1 y (wordB y) w hr1 hc1 (impl_IsWord_tells y _ (by omega))
  have hm := hr0.2.1
  clear hcell hr2 hr0 hr1 hl2 hz
  subst e
  cases hb : wordB y with
  | false =>
    rw [hb] at hcall
    clear hb
    go_enter Try.func89, Try.ntmps89
    go_wp2_with (go_at_call 90; refine hcall.mono ?_; rintro e w' ⟨rfl, ⟨q, rfl⟩⟩)
    go_ret
    exact ⟨rfl, _, rfl⟩
  | true =>
    rw [hb] at hcall
    clear hb
    go_enter Try.func89, Try.ntmps89
    go_wp2_with (go_at_call 90; refine hcall.mono ?_; rintro e w' ⟨rfl, ⟨q, rfl⟩⟩)
    go_ret
    exact ⟨by simp [bne_nat], _, rfl⟩
def impl_sameLength.f (l0 : List (List Int)) : Option Bool := some (sameB l0)
theorem impl_sameLength.calls (A0 : Option Addr) (c0 : Nat) (l0 : List (List Int)) (r : Bool) (w : World) (hr0 : Kd.C (Kd.slice 3 (Kd.int .i64)) w A0 l0.length l0) (hc0 : l0.length ≤ c0) (h : impl_sameLength.f l0 = some r) :
    Calls Try.prog 45 #[.slice A0 l0.length c0] w fun e w' => e = .returned (.bool r) ∧ Below w.heap.size w w' := by
  obtain rfl := Option.some.inj h
  clear h
  unfold sameB
  by_cases hp : 0 < l0.length
  · rw [decide_eq_true hp, Bool.true_and]
    obtain ⟨vals, hv1, hv2⟩ := rows_vals hr0
    have hcall : ∀ W B, Below w.heap.size w W → W.cell? ⟨B, 0, none⟩ = some (.slice A0 l0.length c0) →
        Calls Try.prog 79 #[.slice A0 l0.length c0, .func (.func 89) #[] #[.pointer (some ⟨B, 0, none⟩)]] W fun e w' => e = .returned (.bool ((List.range l0.length).any (oddB l0))) ∧ ∃ q, w' = W.drewN q := by
      intro W B hb hB
      refine slices_ContainsFunc_int_int_79.gives 89 #[.pointer (some ⟨B, 0, none⟩)] vals (oddB l0) l0.length c0 A0 W hr0.2.1 ?_ (enters_of Try.func89 (by kernel_rfl) rfl) ?_
      · intro j hj
        obtain ⟨ad, e, hx⟩ := hv1 j hj
        exact ⟨ad, e, pw_cell_below hb hx⟩
      · intro j q hj
        obtain ⟨A1, c1, e, hl, hr⟩ := hv2 j hj
        rw [e]
        have hbq := pw_below_drewN hb q
        exact impl_sameLength_1.calls B A0 c0 l0 A1 c1 (l0.getD j []) (W.drewN q) (Kd.C_below hr0 hbq) hp (Kd.C_below hr hbq) hl hB
    clear hv1 hv2 hr0
    go_enter Try.func45, Try.ntmps45
    go_wp2_with (go_at_call 79; refine (hcall _ w.heap.size (by exact below_alloc (Below.refl _ _) _) (by simp)).mono ?_; rintro e w' ⟨rfl, q, rfl⟩)
    go_ret
    exact ⟨rfl, by repeat (first | exact Below.refl _ _ | apply below_alloc | apply pw_below_drewN)⟩
  · rw [decide_eq_false hp, Bool.false_and]
    have h0 : decide (0 < l0.length) = false := decide_eq_false hp
    clear hp hr0 hc0
    go_enter Try.func45, Try.ntmps45
    go_wp2
    go_ret
    exact ⟨rfl, by repeat (first | exact Below.refl _ _ | apply below_alloc | apply pw_below_drewN)⟩

end Go.Proofs.Ytgiehdhnhkmjfaa.X
-- Laid by xprint.py (wip/tools): printed contracts, and hand-written ones between them.
namespace Go.Proofs.Ytgiehdhnhkmjfaa.X
open Go.RowKit Go.Proofs.YtgiehdhnhkmjfaaW.PrintWords Go.Proofs.YtgiehdhnhkmjfaaW.PrintLast Go.Proofs.YtgiehdhnhkmjfaaW.PrintMore
attribute [local go_sem] max2_int min2_int max_two min_two max_three min_three max_four min_four   -- for this text's walks alone
set_option linter.unusedVariables false
set_option linter.unusedSimpArgs false

/-! ### impl_WeighingsOf: function 11 -/
/-- The coins below m whose words have c at place p. -/
def cntW (ws : List (List Int)) (c : Int) (p m : Nat) : List Int := ((List.range m).filter (fun j => (ws.getD j []).getD p 0 == c)).map (fun (j : Nat) => (j : Int))
theorem cntW_succ (ws : List (List Int)) (c : Int) (p m : Nat) : cntW ws c p (m + 1) = cntW ws c p m ++ if (ws.getD m []).getD p 0 = c then [(m : Int)] else [] := by
  unfold cntW
  rw [List.range_succ, List.filter_append, List.map_append]
  congr 1
  by_cases h : (ws.getD m []).getD p 0 = c
  · rw [if_pos h, List.filter_cons_of_pos (by rw [h]; exact beq_self_eq_true c)]
    rfl
  · rw [if_neg h, List.filter_cons_of_neg (by simpa using h)]
    rfl
theorem cntW_length (ws : List (List Int)) (c : Int) (p m : Nat) : (cntW ws c p m).length ≤ m := by
  unfold cntW
  rw [List.length_map]
  exact Nat.le_trans (List.length_filter_le _ _) (by rw [List.length_range]; exact Nat.le_refl _)
def rowsW (ws : List (List Int)) (coin i : Nat) (j : Nat) : List Int := cntW ws (if j % 2 = 0 then 1 else -1) (j / 2) (if j / 2 < i then coin + 1 else coin)
theorem rowsW_zero (ws : List (List Int)) (j : Nat) : rowsW ws 0 0 j = [] := by unfold rowsW; rw [if_neg (show ¬ j / 2 < 0 by omega)]; rfl
theorem rowsW_next (ws : List (List Int)) (coin n j : Nat) (hj : j < n * 2) : rowsW ws coin n j = rowsW ws (coin + 1) 0 j := by
  unfold rowsW
  rw [if_pos (show j / 2 < n by omega), if_neg (show ¬ j / 2 < 0 by omega)]
theorem rowsW_one (ws : List (List Int)) (coin i j : Nat) (h : (ws.getD coin []).getD i 0 = 1) : (if j = i * 2 then rowsW ws coin i (i * 2) ++ [(coin : Int)] else rowsW ws coin i j) = rowsW ws coin (i + 1) j := by
  by_cases e : j = i * 2
  · subst e
    rw [if_pos rfl]
    unfold rowsW
    rw [if_pos (show i * 2 % 2 = 0 by omega), show i * 2 / 2 = i by omega, if_neg (Nat.lt_irrefl i), if_pos (Nat.lt_succ_self i), cntW_succ, if_pos h]
  · rw [if_neg e]
    unfold rowsW
    by_cases e2 : j / 2 = i
    · rw [if_neg (show ¬ j % 2 = 0 by omega), e2, if_neg (Nat.lt_irrefl i), if_pos (Nat.lt_succ_self i), cntW_succ, if_neg (by omega), List.append_nil]
    · congr 1
      by_cases e3 : j / 2 < i
      · rw [if_pos e3, if_pos (by omega)]
      · rw [if_neg e3, if_neg (by omega)]
theorem rowsW_neg (ws : List (List Int)) (coin i j : Nat) (h : (ws.getD coin []).getD i 0 = -1) : (if j = i * 2 + 1 then rowsW ws coin i (i * 2 + 1) ++ [(coin : Int)] else rowsW ws coin i j) = rowsW ws coin (i + 1) j := by
  by_cases e : j = i * 2 + 1
  · subst e
    rw [if_pos rfl]
    unfold rowsW
    rw [if_neg (show ¬ (i * 2 + 1) % 2 = 0 by omega), show (i * 2 + 1) / 2 = i by omega, if_neg (Nat.lt_irrefl i), if_pos (Nat.lt_succ_self i), cntW_succ, if_pos h]
  · rw [if_neg e]
    unfold rowsW
    by_cases e2 : j / 2 = i
    · rw [if_pos (show j % 2 = 0 by omega), e2, if_neg (Nat.lt_irrefl i), if_pos (Nat.lt_succ_self i), cntW_succ, if_neg (by omega), List.append_nil]
    · congr 1
      by_cases e3 : j / 2 < i
      · rw [if_pos e3, if_pos (by omega)]
      · rw [if_neg e3, if_neg (by omega)]
theorem rowsW_none (ws : List (List Int)) (coin i j : Nat) (h1 : (ws.getD coin []).getD i 0 ≠ 1) (h2 : (ws.getD coin []).getD i 0 ≠ -1) : rowsW ws coin i j = rowsW ws coin (i + 1) j := by
  unfold rowsW
  have hc : ¬ (ws.getD coin []).getD i 0 = (if j % 2 = 0 then 1 else -1) := by split <;> assumption
  by_cases e2 : j / 2 = i
  · rw [e2, if_neg (Nat.lt_irrefl i), if_pos (Nat.lt_succ_self i), cntW_succ, if_neg hc, List.append_nil]
  · congr 1
    by_cases e3 : j / 2 < i
    · rw [if_pos e3, if_pos (by omega)]
    · rw [if_neg e3, if_neg (by omega)]
theorem sameB_len {ws : List (List Int)} (h : sameB ws = true) {j : Nat} (hj : j < ws.length) : (ws.getD j []).length = (ws.getD 0 []).length ∧ 1 ≤ (ws.getD j []).length ∧ (ws.getD j []).length ≤ 30 := by
  unfold sameB at h
  simp only [Bool.and_eq_true, Bool.not_eq_true'] at h
  have := List.any_eq_false.1 h.2 j (List.mem_range.2 hj)
  unfold oddB wordB at this
  simp only [Bool.or_eq_true, not_or, Bool.not_eq_true', Bool.not_eq_false, Bool.and_eq_true, decide_eq_true_eq, ne_eq, Decidable.not_not, Bool.not_eq_eq_eq_not, Bool.not_true] at this
  exact ⟨this.2, by simpa using this.1.1.1, by simpa using this.1.1.2⟩
theorem raw2_zero (W : World) (base : Nat) (ok : Nat → Prop) : (Kd.raw 2).M W base ok (List.replicate 2 (.slice none 0 0)) (Value.agg #[.slice none 0 0, .slice none 0 0]).cells.toList := by
  refine ⟨rfl, rfl, fun u hu => ?_⟩
  have : u = .slice none 0 0 := List.eq_of_mem_replicate (n := 2) hu
  rw [this]
  rfl
set_option maxHeartbeats 8000000 in
set_option maxRecDepth 100000 in
theorem impl_WeighingsOf.strong (A0 : Option Addr) (c0 : Nat) (l0 : List (List Int)) (w : World) (hr0 : Kd.C (Kd.slice 3 (Kd.int .i64)) w A0 l0.length l0) (hc0 : l0.length ≤ c0) (hs : sameB l0 = true) (hn : l0.length ≤ 2000000) :
    Calls Try.prog 11 #[.slice A0 l0.length c0] w fun e w' => ∃ g cap, e = .returned (.tuple #[.slice (some ⟨g, 0, none⟩) (l0.getD 0 []).length cap, .bool true]) ∧ (l0.getD 0 []).length ≤ cap ∧ cap ≤ maxLen ∧ LV 3 w' w.heap.size g ((l0.getD 0 []).length * 2) 50 (cap * 2) (rowsW l0 l0.length 0) ∧ Below w.heap.size w w' := by
  have hu := Try.underlying50
  have hS : impl_sameLength.f l0 = some true := by unfold impl_sameLength.f; rw [hs]
  have HS := Aside0.mk hS
  have HR0 := Aside0.mk hr0
  have HC0 := Aside0.mk hc0
  have hpos : 0 < l0.length := by
    unfold sameB at hs
    simp only [Bool.and_eq_true, decide_eq_true_eq] at hs
    exact hs.1
  have HLEN := Aside0.mk (fun j (hj : j < l0.length) => sameB_len hs hj)
  obtain ⟨ad, c, e, _, hK, hcell⟩ := Kd.C_get hr0 ([] : List Int) 0 (by omega) (by omega)
  obtain ⟨A2, c2, rfl, hl2, hr2⟩ := hK
  have hx0 : w.cell? (ad.add 0) = some (.slice A2 (l0.getD 0 []).length c2) := hcell 0 _ rfl
  have hx : w.cell? ad = some (.slice A2 (l0.getD 0 []).length c2) := by rwa [Addr.add_zero'] at hx0
  obtain ⟨vals, hv1, hv2⟩ := rows_vals hr0
  have HV1 := Aside0.mk hv1
  have HV2 := Aside0.mk hv2
  clear hx0 hcell hS hr0 hc0 hs hl2 hv1 hv2
  subst e
  obtain ⟨n, hn2⟩ : ∃ n, (l0.getD 0 []).length = n := ⟨_, rfl⟩
  have hn30 : 1 ≤ n ∧ n ≤ 30 := by rw [← hn2]; exact (HLEN.out 0 hpos).2
  rw [hn2] at hx HLEN ⊢
  have HN := Aside0.mk hn30
  have hn30' : n ≤ 30 := hn30.2
  have hn1 : 0 < n := hn30.1
  clear hn2 hr2 hn30
  go_enter Try.func11, Try.ntmps11
  go_upto_region 3 with (go_at_call 45; refine (impl_sameLength.calls _ c0 l0 true _ HR0.out HC0.out HS.out).mono ?_; rintro e w1 ⟨rfl, hB1⟩)
  have hx1 := pw_cell_below hB1 hx
  have HB1 := Aside0.mk hB1
  clear hx hB1
  go_wp2_with (first | ((with_reducible refine gate_dst (N := 16) rfl ?_); refine Kd.R_make (Kd.raw 2) (w0 := w) w.heap.size 50 rfl (N := 16) rfl 24 _ _ rfl (n : Int) rfl rfl Try.underlying24 (.agg #[.slice none 0 0, .slice none 0 0]) 48 info50 rfl (by decide) (by omega) (List.replicate 2 (.slice none 0 0)) (ok := fun _ => True) (okp := fun _ => True) (raw2_zero _ _ _) (fun _ hk => hk) trivial (by omega) (by rw [Int.toNat_natCast]; omega) HB1.out HB1.out.size ?_; intro v4 w4 hR4 hB4 _ _; rw [Int.toNat_natCast] at hR4; obtain ⟨g, cap, rfl, hnc, hcm, hLV⟩ := LV.make (e3 := 3) (s := 2) (n := n) (by decide) hn1 hR4; have HLV := Aside0.mk hLV; have HB4 := Aside0.mk hB4; have HNC := Aside0.mk hnc; have HCM := Aside0.mk hcm; clear hR4 hB4 hLV hnc hcm))
  go_loopg [19] l0.length (fun g1 v19 W => ∃ (coin : Nat), v19 = .int .i64 (coin : Int) ∧ Aside0 (coin ≤ l0.length ∧ l0.length - coin ≤ g1) ∧ Aside0 (LV 3 W w.heap.size g (n * 2) 50 (cap * 2) (rowsW l0 coin 0)) ∧ Aside0 (Below w.heap.size w W))
  case atStart => exact ⟨0, rfl, ⟨Nat.zero_le _, by omega⟩, ⟨LV.ext HLV.out (fun j _ => (rowsW_zero l0 j).symm)⟩, HB4⟩
  case round =>
    obtain ⟨coin, rfl, HK1, HL1, HB1'⟩ := hrel
    by_cases hlt : coin < l0.length
    · have hlti : (coin : Int) < ↑l0.length := by omega
      obtain ⟨ad0, hAd, hcl⟩ := HV1.out coin hlt
      obtain rfl : ad = ad0 := by simpa using hAd
      obtain ⟨A1, c1, hve, hle1, hC1⟩ := HV2.out coin hlt
      obtain ⟨word, hwd⟩ : ∃ word, l0.getD coin [] = word := ⟨_, rfl⟩
      have hwl : word.length = n := by rw [← hwd]; exact (HLEN.out coin hlt).1
      rw [hwd] at hve hle1 hC1
      rw [hwl] at hve hle1
      rw [hve] at hcl
      have hcw := pw_cell_below HB1'.out hcl
      have HC1 := Aside0.mk hC1
      have HX := Aside0.mk hlt
      have HWD := Aside0.mk hwd
      have HWL := Aside0.mk hwl
      clear hAd hve hle1 hC1 hcl hlt hwd hwl
      go_wp2
      go_loopg [26] n (fun g2 v26 W => ∃ (i : Nat), v26 = .int .i64 (i : Int) ∧ Aside0 (i ≤ n ∧ n - i ≤ g2) ∧ Aside0 (LV 3 W w.heap.size g (n * 2) 50 (cap * 2) (rowsW l0 coin i)) ∧ Aside0 (Below w.heap.size w W))
      case atStart => exact ⟨0, rfl, ⟨Nat.zero_le _, by omega⟩, HL1, HB1'⟩
      case round =>
        obtain ⟨i, rfl, HK2, HL2, HB2⟩ := hrel
        by_cases hlt2 : i < n
        · have hlti2 : (i : Int) < ↑n := by omega
          obtain ⟨ad1, hA1, hci⟩ := ints_at (Kd.C_below HC1.out HB2.out) i (by rw [HWL.out]; exact hlt2)
          subst hA1
          obtain ⟨x, hx⟩ : ∃ x, word.getD i 0 = x := ⟨_, rfl⟩
          rw [hx] at hci
          have HX2 := Aside0.mk hlt2
          have HXX := Aside0.mk hx
          by_cases t1 : x = 1
          · subst t1
            obtain ⟨Ar, cr, okr, hcr, hfr, HRr, hok, Hput⟩ := LV.open_ HL2.out (j := i * 2) (by have := HX2.out; omega)
            obtain ⟨row, hrow⟩ : ∃ row, rowsW l0 coin i (i * 2) = row := ⟨_, rfl⟩
            have hrl : row.length ≤ 2000001 := by rw [← hrow]; unfold rowsW; refine Nat.le_trans (cntW_length _ _ _ _) ?_; have := HX.out; split <;> omega
            rw [hrow] at hcr HRr Hput
            have HROW := Aside0.mk hrow
            have HRL := Aside0.mk hrl
            have HRr' := Aside0.mk HRr
            have HOK := Aside0.mk hok
            have HPUT := Aside0.mk Hput
            clear HRr hok Hput hrow hrl hx hlt2
            go_wp2_with (first | ((with_reducible refine gate_builtin (b := .append) (xs := #[.tmp 40, .tmp 42]) rfl ?_); at_builtin; refine Kd.R_append (Kd.int .i64) (w0 := w) w.heap.size rfl (.tmp 40) (.tmp 42) 47 3 (.int .i64 0) 8 rfl Try.underlying47 info3 rfl (by decide) (by omega) (.slice Ar row.length cr) row (coin : Int) [.int .i64 (coin : Int)] okr (fun _ => False) rfl rfl ?aP (fun _ hk => hk.elim) ?aF ?aO ?aB ?aS ?aL ?_; (case aP => exact rfl); (case aF => exact HOK.out); (case aO => exact HRr'.out); (case aB => exact HB2.out); (case aS => exact HB2.out.size); (case aL => have := HRL.out; omega); intro v5 w5 hR5 hB5 hg5 hat5; obtain ⟨row2, hr2⟩ : ∃ row2, row ++ [(coin : Int)] = row2 := ⟨_, rfl⟩; rw [hr2] at hR5; obtain ⟨A5, c5, rfl⟩ := Kd.R_slice hR5; have HR2 := Aside0.mk hr2; obtain ⟨_, hf5, ⟨y5, hc5⟩, hLV5⟩ := HPUT.out _ w5 _ (Kd.R_mono hR5 (fun _ h => h)) hg5; have HLV5 := Aside0.mk hLV5; have HB5 := Aside0.mk hB5; have HGE := Aside0.mk (show w.heap.size ≤ g from HL2.out.choose_spec.choose_spec.2.2.2.1); clear hR5 hB5 hg5 hat5 hLV5 hr2))
            have HL3 : Aside0 (LV 3 (w5.setCell ⟨g, i * 2, none⟩ (.slice A5 row2.length c5)) w.heap.size g (n * 2) 50 (cap * 2) (rowsW l0 coin (i + 1))) := ⟨LV.ext HLV5.out (fun j _ => by have h := rowsW_one l0 coin i j (by rw [HWD.out]; exact HXX.out); rw [HROW.out, HR2.out] at h; exact h)⟩
            go_roundg (n - (i + 1))
            case measure => have := HK2.out.2; have := HX2.out; omega
            case rel => exact ⟨i + 1, by first | rfl | go_num | (simp; done), ⟨by have := HX2.out; omega, by omega⟩, HL3, ⟨below_set HB5.out HGE.out⟩⟩
          · by_cases t2 : x = -1
            · subst t2
              obtain ⟨Ar, cr, okr, hcr, hfr, HRr, hok, Hput⟩ := LV.open_ HL2.out (j := i * 2 + 1) (by have := HX2.out; omega)
              obtain ⟨row, hrow⟩ : ∃ row, rowsW l0 coin i (i * 2 + 1) = row := ⟨_, rfl⟩
              have hrl : row.length ≤ 2000001 := by rw [← hrow]; unfold rowsW; refine Nat.le_trans (cntW_length _ _ _ _) ?_; have := HX.out; split <;> omega
              rw [hrow] at hcr HRr Hput
              have HROW := Aside0.mk hrow
              have HRL := Aside0.mk hrl
              have HRr' := Aside0.mk HRr
              have HOK := Aside0.mk hok
              have HPUT := Aside0.mk Hput
              clear HRr hok Hput hrow hrl hx hlt2
              go_wp2_with (first | ((with_reducible refine gate_builtin (b := .append) (xs := #[.tmp 54, .tmp 56]) rfl ?_); at_builtin; refine Kd.R_append (Kd.int .i64) (w0 := w) w.heap.size rfl (.tmp 54) (.tmp 56) 47 3 (.int .i64 0) 8 rfl Try.underlying47 info3 rfl (by decide) (by omega) (.slice Ar row.length cr) row (coin : Int) [.int .i64 (coin : Int)] okr (fun _ => False) rfl rfl ?aP (fun _ hk => hk.elim) ?aF ?aO ?aB ?aS ?aL ?_; (case aP => exact rfl); (case aF => exact HOK.out); (case aO => exact HRr'.out); (case aB => exact HB2.out); (case aS => exact HB2.out.size); (case aL => have := HRL.out; omega); intro v5 w5 hR5 hB5 hg5 hat5; obtain ⟨row2, hr2⟩ : ∃ row2, row ++ [(coin : Int)] = row2 := ⟨_, rfl⟩; rw [hr2] at hR5; obtain ⟨A5, c5, rfl⟩ := Kd.R_slice hR5; have HR2 := Aside0.mk hr2; obtain ⟨_, hf5, ⟨y5, hc5⟩, hLV5⟩ := HPUT.out _ w5 _ (Kd.R_mono hR5 (fun _ h => h)) hg5; have HLV5 := Aside0.mk hLV5; have HB5 := Aside0.mk hB5; have HGE := Aside0.mk (show w.heap.size ≤ g from HL2.out.choose_spec.choose_spec.2.2.2.1); clear hR5 hB5 hg5 hat5 hLV5 hr2))
              have HL3 : Aside0 (LV 3 (w5.setCell ⟨g, i * 2 + 1, none⟩ (.slice A5 row2.length c5)) w.heap.size g (n * 2) 50 (cap * 2) (rowsW l0 coin (i + 1))) := ⟨LV.ext HLV5.out (fun j _ => by have h := rowsW_neg l0 coin i j (by rw [HWD.out]; exact HXX.out); rw [HROW.out, HR2.out] at h; exact h)⟩
              go_roundg (n - (i + 1))
              case measure => have := HK2.out.2; have := HX2.out; omega
              case rel => exact ⟨i + 1, by first | rfl | go_num | (simp; done), ⟨by have := HX2.out; omega, by omega⟩, HL3, ⟨below_set HB5.out HGE.out⟩⟩
            · have b1 : decide (x = 1) = false := decide_eq_false t1
              have b2 : decide (x = -1) = false := decide_eq_false t2
              have HL3 : Aside0 (LV 3 wr w.heap.size g (n * 2) 50 (cap * 2) (rowsW l0 coin (i + 1))) := ⟨LV.ext HL2.out (fun j _ => rowsW_none l0 coin i j (by rw [HWD.out, hx]; exact t1) (by rw [HWD.out, hx]; exact t2))⟩
              clear hx hlt2
              go_wp2
              go_roundg (n - (i + 1))
              case measure => have := HK2.out.2; have := HX2.out; omega
              case rel => exact ⟨i + 1, by first | rfl | go_num | (simp; done), ⟨by have := HX2.out; omega, by omega⟩, HL3, HB2⟩
        · have hlti2 : ¬ (i : Int) < ↑n := by omega
          obtain rfl : i = n := by have := HK2.out; omega
          clear hlt2
          go_wp2
          go_roundg (l0.length - (coin + 1))
          case measure => have := HK1.out.2; have := HX.out; omega
          case rel => exact ⟨coin + 1, by first | rfl | go_num | (simp; done), ⟨by have := HX.out; omega, by omega⟩, ⟨LV.ext HL2.out (fun j hj => rowsW_next l0 coin i j hj)⟩, HB2⟩
    · have hlti : ¬ (coin : Int) < ↑l0.length := by omega
      obtain rfl : coin = l0.length := by have := HK1.out; omega
      clear hlt
      go_wp2
      go_ret2
      exact ⟨g, cap, rfl, HNC.out, HCM.out, HL1.out, HB1'.out⟩
theorem weighS_of {W : World} {base g n cap : Nat} {L : Nat → List Int} (h : LV 3 W base g (n * 2) 50 (cap * 2) L) (hnc : n ≤ cap) (hcm : cap ≤ maxLen) :
    Kd.S k50 50 W base (fun _ => True) (.slice (some ⟨g, 0, none⟩) n cap) ((List.range n).map fun i => (⟨L (i * 2), L (i * 2 + 1)⟩ : S50)) := by
  obtain ⟨cur, f, hN, h1, h2, h3, h4⟩ := h
  have hl : ((List.range n).map fun i => (⟨L (i * 2), L (i * 2 + 1)⟩ : S50)).zipIdx.length = n := by simp
  refine ⟨fun k => f k / 2, fun _ _ => trivial, cur.toList.take (n * 2), ?_, ?_, fun j p hj => ?_⟩
  · rw [hl]
    exact ⟨by rw [List.length_take, Array.length_toList]; exact Nat.min_eq_left h2, .inr ⟨g, cap, cur, rfl, h3, h1, hnc, hcm, hN, rfl⟩⟩
  · rw [hl, List.length_take, Array.length_toList]
    exact Nat.min_eq_left h2
  · have hjn : j < n := by
      rcases Nat.lt_or_ge j n with h | h
      · exact h
      · rw [List.getElem?_eq_none (by omega)] at hj
        cases hj
    rw [List.getElem?_zipIdx, List.getElem?_map, List.getElem?_range hjn] at hj
    simp only [Option.map_some, Option.some.injEq, Nat.zero_add] at hj
    subst hj
    obtain ⟨v0, hv0, hr0⟩ := h4 (j * 2) (by omega)
    obtain ⟨v1, hv1, hr1⟩ := h4 (j * 2 + 1) (by omega)
    have e : ((cur.toList.take (n * 2)).drop (j * 2)).take 2 = [v0, v1] := by
      apply List.ext_getElem?
      intro i
      match i with
      | 0 =>
        rw [List.getElem?_take, if_pos (by decide), List.getElem?_drop, List.getElem?_take, if_pos (by omega), Array.getElem?_toList]
        exact hv0
      | 1 =>
        rw [List.getElem?_take, if_pos (by decide), List.getElem?_drop, List.getElem?_take, if_pos (by omega), Array.getElem?_toList]
        exact hv1
      | i + 2 =>
        rw [List.getElem?_take, if_neg (by omega)]
        rfl
    have e' : ((cur.toList.take (n * 2)).drop (j * (Kd.tag (fun k => f k / 2) k50).sz)).take (Kd.tag (fun k => f k / 2) k50).sz = [v0, v1] := e
    rw [e']
    have ow : ∀ k, k ≠ g → some k ≠ (Value.slice (some ⟨g, 0, none⟩) n cap).ownBlock := fun k hk he => hk (Option.some.inj (he.trans rfl))
    exact k50_mkM _ _ _ _ (Kd.R_mono hr0 (fun k hk => ⟨⟨trivial, ow k hk.1⟩, by show f k / 2 = j; rw [hk.2]; omega⟩)) (Kd.R_mono hr1 (fun k hk => ⟨⟨trivial, ow k hk.1⟩, by show f k / 2 = j; rw [hk.2]; omega⟩))
def weighW (l0 : List (List Int)) : List (S50) := (List.range (l0.getD 0 []).length).map fun i => (⟨rowsW l0 l0.length 0 (i * 2), rowsW l0 l0.length 0 (i * 2 + 1)⟩ : S50)
def impl_WeighingsOf.f (l0 : List (List Int)) : Option (List (S50) × Bool) := if sameB l0 then if l0.length ≤ 2000000 then some (weighW l0, true) else none else some ([], false)
set_option maxRecDepth 100000 in
theorem impl_WeighingsOf.calls (A0 : Option Addr) (c0 : Nat) (l0 : List (List Int)) (r1 : List (S50)) (r2 : Bool) (w : World) (hr0 : Kd.C (Kd.slice 3 (Kd.int .i64)) w A0 l0.length l0) (hc0 : l0.length ≤ c0) (h : impl_WeighingsOf.f l0 = some (r1, r2)) :
    Calls Try.prog 11 #[.slice A0 l0.length c0] w fun e w' => ∃ v0_ : Value, e = .returned (.tuple #[v0_, .bool r2]) ∧ Kd.S k50 50 w' w.heap.size (fun _ => True) v0_ r1 ∧ Below w.heap.size w w' := by
  unfold impl_WeighingsOf.f at h
  by_cases hs : sameB l0 = true
  · rw [if_pos hs] at h
    by_cases hn : l0.length ≤ 2000000
    · rw [if_pos hn] at h
      simp only [Option.some.injEq, Prod.mk.injEq] at h
      obtain ⟨rfl, rfl⟩ := h
      refine (impl_WeighingsOf.strong A0 c0 l0 w hr0 hc0 hs hn).mono ?_
      rintro e w' ⟨g, cap, rfl, hnc, hcm, hL, hB⟩
      exact ⟨_, rfl, weighS_of hL hnc hcm, hB⟩
    · rw [if_neg hn] at h
      cases h
  · rw [if_neg hs] at h
    simp only [Option.some.injEq, Prod.mk.injEq] at h
    obtain ⟨rfl, rfl⟩ := h
    have hS : impl_sameLength.f l0 = some false := by unfold impl_sameLength.f; rw [Bool.eq_false_iff.2 hs]
    have HS := Aside0.mk hS
    have HR0 := Aside0.mk hr0
    have HC0 := Aside0.mk hc0
    clear hr0 hc0 hS hs
    go_enter Try.func11, Try.ntmps11
    go_wp2_with (go_at_call 45; refine (impl_sameLength.calls _ c0 l0 false _ HR0.out HC0.out HS.out).mono ?_; rintro e w1 ⟨rfl, hB1⟩; have HB1 := Aside0.mk hB1)
    go_ret2
    exact ⟨_, rfl, Kd.S_nil _ _ _ _ _, HB1.out⟩

end Go.Proofs.Ytgiehdhnhkmjfaa.X
-- Laid by xprint.py (wip/tools): printed contracts, and hand-written ones between them.
namespace Go.Proofs.Ytgiehdhnhkmjfaa.X
open Go.RowKit Go.Proofs.YtgiehdhnhkmjfaaW.PrintWords Go.Proofs.YtgiehdhnhkmjfaaW.PrintLast Go.Proofs.YtgiehdhnhkmjfaaW.PrintMore
attribute [local go_sem] max2_int min2_int max_two min_two max_three min_three max_four min_four   -- for this text's walks alone
set_option linter.unusedVariables false
set_option linter.unusedSimpArgs false

/-! ### spec_l5Lift: function 69 -/
def spec_l5Lift.l0 : Nat → Int → Int → Option (Int)
  | 0, _, _ => none
  | k + 1, x0, x1 => if x1 > 0 then (spec_l5Lift.l0 k (wrap64 (3 * x0)) (wrap64 (x1 - 1))) else (some x0)
def spec_l5Lift.f (k : Nat) (a0 : Int) (a1 : Int) : Option (Int) := spec_l5Lift.l0 k a0 a1
theorem spec_l5Lift.mono_l : ∀ k, (∀ y0 y1, LeO (spec_l5Lift.l0 k y0 y1) (spec_l5Lift.l0 (k + 1) y0 y1))
  | 0 => fun _ _ r h => by simp [spec_l5Lift.l0] at h
  | k + 1 => by
    have ih0 := spec_l5Lift.mono_l k
    · intro y0 y1
      unfold spec_l5Lift.l0
      repeat' first
      | (with_reducible exact ih0 _ _)
      | (with_reducible exact LeO.refl _)
      | (with_reducible exact LeO.none _)
      | (with_reducible refine LeO.ite ?_ ?_)
      | (with_reducible refine LeO.bind ?_ (fun _ => ?_))
      | exact ih0 _ _
      | exact LeO.none _
      | refine LeO.ite ?_ ?_
      | refine LeO.bind ?_ (fun _ => ?_)
theorem spec_l5Lift.mono : ∀ a0 a1 k, LeO (spec_l5Lift.f k a0 a1) (spec_l5Lift.f (k + 1) a0 a1) := by
  intro a0 a1 k
  have ih0 := spec_l5Lift.mono_l k
  unfold spec_l5Lift.f
  repeat' first
      | (with_reducible exact ih0 _ _)
      | (with_reducible exact LeO.refl _)
      | (with_reducible exact LeO.none _)
      | (with_reducible refine LeO.ite ?_ ?_)
      | (with_reducible refine LeO.bind ?_ (fun _ => ?_))
      | exact ih0 _ _
      | exact LeO.none _
      | refine LeO.ite ?_ ?_
      | refine LeO.bind ?_ (fun _ => ?_)
set_option maxHeartbeats 8000000 in
set_option maxRecDepth 100000 in
theorem spec_l5Lift.calls (k : Nat) (a0 : Int) (a1 : Int) (r : Int) (w : World) (h : spec_l5Lift.f k a0 a1 = some r) :
    Calls Try.prog 69 #[.int .i64 a0, .int .i64 a1] w fun e w' => e = .returned (.int .i64 r) ∧ Drawn0 w w' := by
  have H : (spec_l5Lift.l0 k a0 a1) = some r := h
  clear h
  have H' := Aside0.mk H
  clear H
  go_enter Try.func69, Try.ntmps69
  go_wp2
  go_loopg [0, 1] k (fun kq v0 v1 w' => ∃ (x0_1 : Int) (x1_1 : Int), v0 = .int .i64 x0_1 ∧ v1 = .int .i64 x1_1 ∧ Aside0 (spec_l5Lift.l0 kq x0_1 x1_1 = some r) ∧ Aside0 (kq ≤ k) ∧ Drawn0 w w')
  case atStart => exact ⟨(a0), (a1), (by first | rfl | (simp; done) | (simp [*]; done)), (by first | rfl | (simp; done) | (simp [*]; done)), H', ⟨Nat.le_refl _⟩, by repeat (first | exact Drawn0.refl _ | apply Drawn0.step)⟩
  case round =>
    clear H'
    try clear p2
    obtain ⟨x0_1, x1_1, rfl, rfl, HA, HK1, ⟨m1, rfl⟩⟩ := hrel
    cases gk with
    | zero => exact absurd HA.out (by simp [spec_l5Lift.l0])
    | succ k1 =>
      have H := HA.out
      clear HA
      simp only [spec_l5Lift.l0] at H
      by_cases c3 : x1_1 > 0
      · rw [if_pos c3] at H
        have c3b0 : decide (0 < x1_1) = true := decide_eq_true c3
        clear c3
        have H' := Aside0.mk H
        clear H
        go_wp2
        go_roundg k1
        case measure => have := HK1.out; omega
        case rel => exact ⟨(wrap64 (3 * x0_1)), (wrap64 (x1_1 - 1)), (by first | rfl | (simp; done) | (simp [*]; done)), (by first | rfl | (simp; done) | (simp [*]; done)), H', ⟨by have := HK1.out; omega⟩, by repeat (first | exact Drawn0.refl _ | apply Drawn0.step)⟩
      · rw [if_neg c3] at H
        have c3b0 : decide (0 < x1_1) = false := decide_eq_false c3
        clear c3
        obtain rfl := Option.some.inj H
        go_wp2
        go_ret
        exact ⟨by first | rfl | (simp; done) | (simp [*]; done), by repeat (first | exact Drawn0.refl _ | apply Drawn0.step)⟩

end Go.Proofs.Ytgiehdhnhkmjfaa.X
-- Laid by xprint.py (wip/tools): printed contracts, and hand-written ones between them.
namespace Go.Proofs.Ytgiehdhnhkmjfaa.X
open Go.RowKit Go.Proofs.YtgiehdhnhkmjfaaW.PrintWords Go.Proofs.YtgiehdhnhkmjfaaW.PrintLast Go.Proofs.YtgiehdhnhkmjfaaW.PrintMore
attribute [local go_sem] max2_int min2_int max_two min_two max_three min_three max_four min_four   -- for this text's walks alone
set_option linter.unusedVariables false
set_option linter.unusedSimpArgs false

/-! ### spec_MakePower: function 28 -/
def spec_MakePower.f (k : Nat) (a0 : Int) : Option (Int) := (spec_l5Lift.f k 1 (mx 0 (mn a0 30))).bind fun t29001 => (some t29001)
theorem spec_MakePower.mono : ∀ a0 k, LeO (spec_MakePower.f k a0) (spec_MakePower.f (k + 1) a0) := by
  intro a0 k
  unfold spec_MakePower.f
  repeat' first
      | (with_reducible exact spec_l5Lift.mono _ _ _)
      | (with_reducible exact LeO.refl _)
      | (with_reducible exact LeO.none _)
      | (with_reducible refine LeO.ite ?_ ?_)
      | (with_reducible refine LeO.bind ?_ (fun _ => ?_))
      | exact spec_l5Lift.mono _ _ _
      | exact LeO.none _
      | refine LeO.ite ?_ ?_
      | refine LeO.bind ?_ (fun _ => ?_)
set_option maxHeartbeats 8000000 in
set_option maxRecDepth 100000 in
theorem spec_MakePower.calls (k : Nat) (a0 : Int) (r : Int) (w : World) (h : spec_MakePower.f k a0 = some r) :
    Calls Try.prog 28 #[.int .i64 a0] w fun e w' => e = .returned (.int .i64 r) ∧ Below w.heap.size w w' := by
  have HB := Aside0.mk (Below.refl w.heap.size w)
  have H : ((spec_l5Lift.f k 1 (mx 0 (mn a0 30))).bind fun t29001 => (some t29001)) = some r := h
  clear h
  obtain ⟨ji2, hji2⟩ : ∃ j_ : Int, (mn a0 30) = j_ := ⟨_, rfl⟩
  replace H : ((spec_l5Lift.f k 1 (mx 0 (ji2))).bind fun t29001 => (some t29001)) = some r := by first | (rw [hji2] at H; exact H) | (simp only [hji2] at H ⊢; exact H)
  (try (have hji2h : ji2 ≤ 30 := by (rw [← hji2]; unfold mn; (repeat' split) <;> omega)))
  (try (have hji2g : ji2 ≤ 64 := by omega))
  have hji2_ : (if 30 < a0 then 30 else a0) = ji2 := hji2
  obtain ⟨ji3, hji3⟩ : ∃ j_ : Int, (mx 0 (ji2)) = j_ := ⟨_, rfl⟩
  replace H : ((spec_l5Lift.f k 1 (ji3)).bind fun t29001 => (some t29001)) = some r := by first | (rw [hji3] at H; exact H) | (simp only [hji3] at H ⊢; exact H)
  have hji3_ : (if 0 < (ji2) then (ji2) else 0) = ji3 := hji3
  replace H := Option.bind_eq_some_iff.mp H
  obtain ⟨t29001, A40, H⟩ := H
  replace H : (some t29001) = some r := H
  have A4 := Aside0.mk A40
  clear A40
  obtain rfl := Option.some.inj H
  go_enter Try.func28, Try.ntmps28
  go_wp2_with (first | ((with_reducible refine gate_callee (f := 69) rfl ?_); refine goesL_ (some 6) rfl rfl Try.func69 (by kernel_rfl) rfl #[.int .i64 1, .int .i64 ji3] rfl (by (try simp only [List.map_toArray, List.map_cons, List.map_nil]); first | done | (simp only [hji3]; rfl) | rfl | (simp only [List.length_drop, List.length_take]; rfl)) ?_; (with_reducible refine (spec_l5Lift.calls k 1 ji3 t29001 _ A4.out).mono ?_); rintro e w' ⟨rfl, ⟨nd, rfl⟩⟩; refine ⟨_, rfl, ?_⟩))
  go_ret
  exact ⟨by first | rfl | (simp [errW_none, errW_some] <;> rfl) | (simp only [← hji2, ← hji3]; first | rfl | (simp [errW_none, errW_some] <;> rfl)) | (simp [*, errW_none, errW_some] <;> rfl), by repeat (first | (with_reducible first | exact HB.out | apply below_alloc | apply pw_below_drewN | apply below_drew1) | exact HB.out)⟩

end Go.Proofs.Ytgiehdhnhkmjfaa.X
-- Laid by xprint.py (wip/tools): printed contracts, and hand-written ones between them.
namespace Go.Proofs.Ytgiehdhnhkmjfaa.X
open Go.RowKit Go.Proofs.YtgiehdhnhkmjfaaW.PrintWords Go.Proofs.YtgiehdhnhkmjfaaW.PrintLast Go.Proofs.YtgiehdhnhkmjfaaW.PrintMore
attribute [local go_sem] max2_int min2_int max_two min_two max_three min_three max_four min_four   -- for this text's walks alone
set_option linter.unusedVariables false
set_option linter.unusedSimpArgs false

/-! ### spec_l1In: function 70 -/
def spec_l1In.f (a0 : Int) (a1 : Int) (a2 : Int) : Option (Bool) := if a0 ≥ a1 then (some (decide (a0 ≤ a2))) else (some false)
set_option maxHeartbeats 8000000 in
set_option maxRecDepth 100000 in
theorem spec_l1In.calls (a0 : Int) (a1 : Int) (a2 : Int) (r : Bool) (w : World) (h : spec_l1In.f a0 a1 a2 = some r) :
    Calls Try.prog 70 #[.int .i64 a0, .int .i64 a1, .int .i64 a2] w fun e w' => e = .returned (.bool r) ∧ Drawn0 w w' := by
  have H : (if a0 ≥ a1 then (some (decide (a0 ≤ a2))) else (some false)) = some r := h
  clear h
  by_cases c4 : a0 ≥ a1
  · rw [if_pos c4] at H
    have c4b0 : decide (a1 ≤ a0) = true := decide_eq_true c4
    clear c4
    obtain rfl := Option.some.inj H
    go_enter Try.func70, Try.ntmps70
    go_wp2
    go_ret
    exact ⟨by first | rfl | (simp; done) | (simp [*]; done), by repeat (first | exact Drawn0.refl _ | apply Drawn0.step)⟩
  · rw [if_neg c4] at H
    have c4b0 : decide (a1 ≤ a0) = false := decide_eq_false c4
    clear c4
    obtain rfl := Option.some.inj H
    go_enter Try.func70, Try.ntmps70
    go_wp2
    go_ret
    exact ⟨by first | rfl | (simp; done) | (simp [*]; done), by repeat (first | exact Drawn0.refl _ | apply Drawn0.step)⟩

end Go.Proofs.Ytgiehdhnhkmjfaa.X
-- Laid by xprint.py (wip/tools): printed contracts, and hand-written ones between them.
namespace Go.Proofs.Ytgiehdhnhkmjfaa.X
open Go.RowKit Go.Proofs.YtgiehdhnhkmjfaaW.PrintWords Go.Proofs.YtgiehdhnhkmjfaaW.PrintLast Go.Proofs.YtgiehdhnhkmjfaaW.PrintMore
attribute [local go_sem] max2_int min2_int max_two min_two max_three min_three max_four min_four   -- for this text's walks alone
set_option linter.unusedVariables false
set_option linter.unusedSimpArgs false

/-! ### spec_LimitOf: function 71 -/
def spec_LimitOf.l0 : Nat → Int → Int → Int → Option (Int)
  | 0, _, _, _ => none
  | k + 1, x0, x3, x4 => if x4 < x0 then (spec_LimitOf.l0 k x0 (wrap64 ((wrap64 (3 * x3)) + 1)) (wrap64 (x4 + 1))) else (some x3)
def spec_LimitOf.f (k : Nat) (a0 : Int) : Option (Int) := (spec_l1In.f a0 1 30).bind fun t72001 => (if t72001 = true then (spec_LimitOf.l0 k a0 0 0) else (some 0))
theorem spec_LimitOf.mono_l : ∀ k, (∀ y0 y1 y2, LeO (spec_LimitOf.l0 k y0 y1 y2) (spec_LimitOf.l0 (k + 1) y0 y1 y2))
  | 0 => fun _ _ _ r h => by simp [spec_LimitOf.l0] at h
  | k + 1 => by
    have ih0 := spec_LimitOf.mono_l k
    · intro y0 y1 y2
      unfold spec_LimitOf.l0
      repeat' first
      | (with_reducible exact ih0 _ _ _)
      | (with_reducible exact LeO.refl _)
      | (with_reducible exact LeO.none _)
      | (with_reducible refine LeO.ite ?_ ?_)
      | (with_reducible refine LeO.bind ?_ (fun _ => ?_))
      | exact ih0 _ _ _
      | exact LeO.none _
      | refine LeO.ite ?_ ?_
      | refine LeO.bind ?_ (fun _ => ?_)
theorem spec_LimitOf.mono : ∀ a0 k, LeO (spec_LimitOf.f k a0) (spec_LimitOf.f (k + 1) a0) := by
  intro a0 k
  have ih0 := spec_LimitOf.mono_l k
  unfold spec_LimitOf.f
  repeat' first
      | (with_reducible exact ih0 _ _ _)
      | (with_reducible exact LeO.refl _)
      | (with_reducible exact LeO.none _)
      | (with_reducible refine LeO.ite ?_ ?_)
      | (with_reducible refine LeO.bind ?_ (fun _ => ?_))
      | exact ih0 _ _ _
      | exact LeO.none _
      | refine LeO.ite ?_ ?_
      | refine LeO.bind ?_ (fun _ => ?_)
set_option maxHeartbeats 8000000 in
set_option maxRecDepth 100000 in
theorem spec_LimitOf.calls (k : Nat) (a0 : Int) (r : Int) (w : World) (h : spec_LimitOf.f k a0 = some r) :
    Calls Try.prog 71 #[.int .i64 a0] w fun e w' => e = .returned (.int .i64 r) ∧ Drawn0 w w' := by
  have H : ((spec_l1In.f a0 1 30).bind fun t72001 => (if t72001 = true then (spec_LimitOf.l0 k a0 0 0) else (some 0))) = some r := h
  clear h
  replace H := Option.bind_eq_some_iff.mp H
  obtain ⟨t72001, A20, H⟩ := H
  replace H : (if t72001 = true then (spec_LimitOf.l0 k a0 0 0) else (some 0)) = some r := H
  have A2 := Aside0.mk A20
  clear A20
  by_cases c3 : t72001 = true
  · subst c3
    have H1 : (spec_LimitOf.l0 k a0 0 0) = some r := by rw [if_pos rfl] at H; exact H
    clear H
    have H := H1
    clear H1
    have H' := Aside0.mk H
    clear H
    go_enter Try.func71, Try.ntmps71
    go_wp2_with (first | ((with_reducible refine gate_callee (f := 70) rfl ?_); refine goesL_ (some 6) rfl rfl Try.func70 (by kernel_rfl) rfl #[.int .i64 a0, .int .i64 1, .int .i64 30] rfl (by (try simp only [List.map_toArray, List.map_cons, List.map_nil]); first | done | rfl | (simp only [List.length_drop, List.length_take]; rfl)) ?_; (with_reducible refine (spec_l1In.calls a0 1 30 true _ A2.out).mono ?_); rintro e w' ⟨rfl, ⟨nd, rfl⟩⟩; refine ⟨_, rfl, ?_⟩))
    go_loopg [3, 4] k (fun kq v3 v4 w' => ∃ (x3_1 : Int) (x4_1 : Int), v3 = .int .i64 x3_1 ∧ v4 = .int .i64 x4_1 ∧ Aside0 (spec_LimitOf.l0 kq a0 x3_1 x4_1 = some r) ∧ Aside0 (kq ≤ k) ∧ Drawn0 w w')
    case atStart => exact ⟨(0), (0), (by first | rfl | (simp; done) | (simp [*]; done)), (by first | rfl | (simp; done) | (simp [*]; done)), H', ⟨Nat.le_refl _⟩, by repeat (first | exact Drawn0.refl _ | apply Drawn0.step)⟩
    case round =>
      clear H'
      try clear p2
      try clear c3
      obtain ⟨x3_1, x4_1, rfl, rfl, HA, HK1, ⟨m1, rfl⟩⟩ := hrel
      cases gk with
      | zero => exact absurd HA.out (by simp [spec_LimitOf.l0])
      | succ k1 =>
        have H := HA.out
        clear HA
        simp only [spec_LimitOf.l0] at H
        by_cases c4 : x4_1 < a0
        · rw [if_pos c4] at H
          have c4b0 : decide (x4_1 < a0) = true := decide_eq_true c4
          clear c4
          have H' := Aside0.mk H
          clear H
          go_wp2
          go_roundg k1
          case measure => have := HK1.out; omega
          case rel => exact ⟨(wrap64 ((wrap64 (3 * x3_1)) + 1)), (wrap64 (x4_1 + 1)), (by first | rfl | (simp; done) | (simp [*]; done)), (by first | rfl | (simp; done) | (simp [*]; done)), H', ⟨by have := HK1.out; omega⟩, by repeat (first | exact Drawn0.refl _ | apply Drawn0.step)⟩
        · rw [if_neg c4] at H
          have c4b0 : decide (x4_1 < a0) = false := decide_eq_false c4
          clear c4
          obtain rfl := Option.some.inj H
          go_wp2
          go_ret
          exact ⟨by first | rfl | (simp; done) | (simp [*]; done), by repeat (first | exact Drawn0.refl _ | apply Drawn0.step)⟩
  · replace c3 := Bool.eq_false_iff.mpr c3
    subst c3
    have H1 : (some 0) = some r := by rw [if_neg (show ¬ (false = true) by decide)] at H; exact H
    clear H
    have H := H1
    clear H1
    obtain rfl := Option.some.inj H
    go_enter Try.func71, Try.ntmps71
    go_wp2_with (first | ((with_reducible refine gate_callee (f := 70) rfl ?_); refine goesL_ (some 6) rfl rfl Try.func70 (by kernel_rfl) rfl #[.int .i64 a0, .int .i64 1, .int .i64 30] rfl (by (try simp only [List.map_toArray, List.map_cons, List.map_nil]); first | done | rfl | (simp only [List.length_drop, List.length_take]; rfl)) ?_; (with_reducible refine (spec_l1In.calls a0 1 30 false _ A2.out).mono ?_); rintro e w' ⟨rfl, ⟨nd, rfl⟩⟩; refine ⟨_, rfl, ?_⟩))
    go_ret
    exact ⟨by first | rfl | (simp; done) | (simp [*]; done), by repeat (first | exact Drawn0.refl _ | apply Drawn0.step)⟩

end Go.Proofs.Ytgiehdhnhkmjfaa.X
-- Laid by xprint.py (wip/tools): printed contracts, and hand-written ones between them.
namespace Go.Proofs.Ytgiehdhnhkmjfaa.X
open Go.RowKit Go.Proofs.YtgiehdhnhkmjfaaW.PrintWords Go.Proofs.YtgiehdhnhkmjfaaW.PrintLast Go.Proofs.YtgiehdhnhkmjfaaW.PrintMore
attribute [local go_sem] max2_int min2_int max_two min_two max_three min_three max_four min_four   -- for this text's walks alone
set_option linter.unusedVariables false
set_option linter.unusedSimpArgs false

/-! ### spec_CoinsFor: function 36 -/
def spec_CoinsFor.f (k : Nat) (a0 : Int) : Option (Int) := (spec_l1In.f a0 2 5).bind fun t37001 => (if t37001 = true then ((spec_LimitOf.f k a0).bind fun t37002 => (some (wrap64 (t37002 - 1)))) else (some 0))
theorem spec_CoinsFor.mono : ∀ a0 k, LeO (spec_CoinsFor.f k a0) (spec_CoinsFor.f (k + 1) a0) := by
  intro a0 k
  unfold spec_CoinsFor.f
  repeat' first
      | (with_reducible exact spec_LimitOf.mono _ _)
      | (with_reducible exact LeO.refl _)
      | (with_reducible exact LeO.none _)
      | (with_reducible refine LeO.ite ?_ ?_)
      | (with_reducible refine LeO.bind ?_ (fun _ => ?_))
      | exact spec_LimitOf.mono _ _
      | exact LeO.none _
      | refine LeO.ite ?_ ?_
      | refine LeO.bind ?_ (fun _ => ?_)
set_option maxHeartbeats 8000000 in
set_option maxRecDepth 100000 in
theorem spec_CoinsFor.calls (k : Nat) (a0 : Int) (r : Int) (w : World) (h : spec_CoinsFor.f k a0 = some r) :
    Calls Try.prog 36 #[.int .i64 a0] w fun e w' => e = .returned (.int .i64 r) ∧ Drawn0 w w' := by
  have H : ((spec_l1In.f a0 2 5).bind fun t37001 => (if t37001 = true then ((spec_LimitOf.f k a0).bind fun t37002 => (some (wrap64 (t37002 - 1)))) else (some 0))) = some r := h
  clear h
  replace H := Option.bind_eq_some_iff.mp H
  obtain ⟨t37001, A20, H⟩ := H
  replace H : (if t37001 = true then ((spec_LimitOf.f k a0).bind fun t37002 => (some (wrap64 (t37002 - 1)))) else (some 0)) = some r := H
  have A2 := Aside0.mk A20
  clear A20
  by_cases c3 : t37001 = true
  · subst c3
    have H1 : ((spec_LimitOf.f k a0).bind fun t37002 => (some (wrap64 (t37002 - 1)))) = some r := by rw [if_pos rfl] at H; exact H
    clear H
    have H := H1
    clear H1
    replace H := Option.bind_eq_some_iff.mp H
    obtain ⟨t37002, A40, H⟩ := H
    replace H : (some (wrap64 (t37002 - 1))) = some r := H
    have A4 := Aside0.mk A40
    clear A40
    obtain rfl := Option.some.inj H
    go_enter Try.func36, Try.ntmps36
    go_wp2_with (first | ((with_reducible refine gate_callee (f := 70) rfl ?_); refine goesL_ (some 4) rfl rfl Try.func70 (by kernel_rfl) rfl #[.int .i64 a0, .int .i64 2, .int .i64 5] rfl (by (try simp only [List.map_toArray, List.map_cons, List.map_nil]); first | done | rfl | (simp only [List.length_drop, List.length_take]; rfl)) ?_; (with_reducible refine (spec_l1In.calls a0 2 5 true _ A2.out).mono ?_); rintro e w' ⟨rfl, ⟨nd, rfl⟩⟩; refine ⟨_, rfl, ?_⟩) | ((with_reducible refine gate_callee (f := 71) rfl ?_); refine goesL_ (some 7) rfl rfl Try.func71 (by kernel_rfl) rfl #[.int .i64 a0] rfl (by (try simp only [List.map_toArray, List.map_cons, List.map_nil]); first | done | rfl | (simp only [List.length_drop, List.length_take]; rfl)) ?_; (with_reducible refine (spec_LimitOf.calls k a0 t37002 _ A4.out).mono ?_); rintro e w' ⟨rfl, ⟨nd, rfl⟩⟩; refine ⟨_, rfl, ?_⟩))
    go_ret
    exact ⟨by first | rfl | (simp; done) | (simp [*]; done), by repeat (first | exact Drawn0.refl _ | apply Drawn0.step)⟩
  · replace c3 := Bool.eq_false_iff.mpr c3
    subst c3
    have H1 : (some 0) = some r := by rw [if_neg (show ¬ (false = true) by decide)] at H; exact H
    clear H
    have H := H1
    clear H1
    obtain rfl := Option.some.inj H
    go_enter Try.func36, Try.ntmps36
    go_wp2_with (first | ((with_reducible refine gate_callee (f := 70) rfl ?_); refine goesL_ (some 4) rfl rfl Try.func70 (by kernel_rfl) rfl #[.int .i64 a0, .int .i64 2, .int .i64 5] rfl (by (try simp only [List.map_toArray, List.map_cons, List.map_nil]); first | done | rfl | (simp only [List.length_drop, List.length_take]; rfl)) ?_; (with_reducible refine (spec_l1In.calls a0 2 5 false _ A2.out).mono ?_); rintro e w' ⟨rfl, ⟨nd, rfl⟩⟩; refine ⟨_, rfl, ?_⟩))
    go_ret
    exact ⟨by first | rfl | (simp; done) | (simp [*]; done), by repeat (first | exact Drawn0.refl _ | apply Drawn0.step)⟩

end Go.Proofs.Ytgiehdhnhkmjfaa.X
-- Laid by xprint.py (wip/tools): printed contracts, and hand-written ones between them.
namespace Go.Proofs.Ytgiehdhnhkmjfaa.X
open Go.RowKit Go.Proofs.YtgiehdhnhkmjfaaW.PrintWords Go.Proofs.YtgiehdhnhkmjfaaW.PrintLast Go.Proofs.YtgiehdhnhkmjfaaW.PrintMore
attribute [local go_sem] max2_int min2_int max_two min_two max_three min_three max_four min_four   -- for this text's walks alone
set_option linter.unusedVariables false
set_option linter.unusedSimpArgs false

/-! ### rows of rows that lie apart: three at once -/
section
variable {P : Program} {ops : Array Oper} {o : Oper} {a : Act} {Q : Exit → Act → World → Prop} {Kc : Act → World → Prop} {α : Type}
open Classical in
/-- append(v, y1, y2, y3): each new element's blocks are its own. -/
theorem S_append3_step (d : Kd α) (hd : d.sz = 1) {w0 W : World} (base : Nat) (hw : Region.wanted o (yielded ops a.tmps) = true) (s x : Operand) (t e : TypeId) (z : Value) (bytes : Nat)
    (ho : o.op = .call { callee := .builtin .append, args := #[s, x], argTypes := #[t, t] })
    (ht : P.underlying t = some (.slice e)) (hinfo : (P.info? e).map (fun i => (i.zero, i.size, i.bytes)) = some (some z, d.sz, bytes)) (hz : z.cells.size = d.sz) (hb0 : 0 < bytes)
    (v : Value) (xs : List α) (y1 y2 y3 : α) (g : Nat) (t' : TypeId) (u1 u2 u3 : Value) (ok ok1 ok2 ok3 : Nat → Prop) (hs : a.eval s = v) (hx : a.eval x = .slice (some ⟨g, 0, none⟩) 3 3) (hg : W.heap[g]? = some (.cells #[u1, u2, u3] t' (0, 0)))
    (h1 : d.M W base ok1 y1 [u1]) (h2 : d.M W base ok2 y2 [u2]) (h3 : d.M W base ok3 y3 [u3])
    (k1 : ∀ k, ok1 k → ok k ∧ some k ≠ v.ownBlock) (k2 : ∀ k, ok2 k → ok k ∧ some k ≠ v.ownBlock) (k3 : ∀ k, ok3 k → ok k ∧ some k ≠ v.ownBlock)
    (d12 : ∀ k, ok1 k → ¬ ok2 k) (d13 : ∀ k, ok1 k → ¬ ok3 k) (d23 : ∀ k, ok2 k → ¬ ok3 k) (hfresh : ∀ k, W.heap.size ≤ k → ok k)
    (HO : Kd.S d e W base (fun k => ok k ∧ ¬ ok1 k ∧ ¬ ok2 k ∧ ¬ ok3 k) v xs) (HB : Below base w0 W) (hbase : base ≤ W.heap.size) (hl : (xs.length + 3) * bytes ≤ 140737488355328)
    (h : ∀ v1 w1, Kd.S d e w1 base ok v1 (xs ++ [y1, y2, y3]) → Below base w0 w1 → W.grownBy w1 v.ownBlock → Kc (a.put o.dst v1) w1) :
    if Region.wanted o (yielded ops a.tmps) = true then Oper.wp P o a W Kc Q else Kc (a.put o.dst undef) W := by
  obtain ⟨f, hf⟩ := HO
  obtain ⟨F, hF⟩ : ∃ F : Nat → Nat, F = fun k => if ok1 k then xs.length else if ok2 k then xs.length + 1 else if ok3 k then xs.length + 2 else f k := ⟨_, rfl⟩
  have f1 : ∀ k, ok1 k → F k = xs.length := fun k hk => by rw [hF]; exact if_pos hk
  have f2 : ∀ k, ok2 k → F k = xs.length + 1 := fun k hk => by rw [hF]; exact (if_neg (fun hk1 => d12 k hk1 hk)).trans (if_pos hk)
  have f3 : ∀ k, ok3 k → F k = xs.length + 2 := fun k hk => by rw [hF]; exact (if_neg (fun hk1 => d13 k hk1 hk)).trans ((if_neg (fun hk2 => d23 k hk2 hk)).trans (if_pos hk))
  have f0 : ∀ k, (ok k ∧ ¬ ok1 k ∧ ¬ ok2 k ∧ ¬ ok3 k) → k < W.heap.size → F k = f k := fun k hk _ => by rw [hF]; exact (if_neg hk.2.1).trans ((if_neg hk.2.2.1).trans (if_neg hk.2.2.2))
  have hR : (Kd.tag F d).R e W base ok v xs.zipIdx := Kd.R_mono (Kd.R_tag hf f0) (fun _ hk => hk.1)
  have hread : ReadsRow ((Kd.tag F d).M W base (fun k => ok1 k ∨ ok2 k ∨ ok3 k)) (Kd.tag F d).sz W (some ⟨g, 0, none⟩) 3 [(y1, xs.length), (y2, xs.length + 1), (y3, xs.length + 2)] := by
    have hsz : (Kd.tag F d).sz = 1 := hd
    rw [hsz]
    have cell : ∀ (j : Nat) (u : Value), (#[u1, u2, u3] : Array Value)[j]? = some u → ∀ i u', ([u] : List Value)[i]? = some u' → W.cell? ((⟨g, 0, none⟩ : Addr).add (j * 1 + i)) = some u' := by
      intro j u hu i u' hi
      match i, hi with
      | 0, hi =>
        obtain rfl : u = u' := by simpa using hi
        rw [Nat.mul_one, Nat.add_zero, add_plain]
        exact (blk_cell hg j).trans hu
      | i + 1, hi => simp at hi
    refine ⟨rfl, by omega, fun _ => ⟨_, rfl, fun j p hj => ?_⟩⟩
    match j, hj with
    | 0, hj =>
      obtain rfl : (y1, xs.length) = p := by simpa using hj
      exact ⟨[u1], rfl, d.M_mono (fun k hk => ⟨.inl hk, f1 k hk⟩) h1, cell 0 u1 rfl⟩
    | 1, hj =>
      obtain rfl : (y2, xs.length + 1) = p := by simpa using hj
      exact ⟨[u2], rfl, d.M_mono (fun k hk => ⟨.inr (.inl hk), f2 k hk⟩) h2, cell 1 u2 rfl⟩
    | 2, hj =>
      obtain rfl : (y3, xs.length + 2) = p := by simpa using hj
      exact ⟨[u3], rfl, d.M_mono (fun k hk => ⟨.inr (.inr hk), f3 k hk⟩) h3, cell 2 u3 rfl⟩
    | j + 3, hj => simp at hj
  refine Kd.R_append_rows_step (Kd.tag F d) (Rr := (Kd.tag F d).M W base (fun k => ok1 k ∨ ok2 k ∨ ok3 k)) base hw s x t e z bytes ho ht hinfo hz (by show 0 < d.sz; omega) hb0 v xs.zipIdx _ (some ⟨g, 0, none⟩) 3 3 ok (fun k => ok1 k ∨ ok2 k ∨ ok3 k) hs hx hR hread (fun _ _ hp => hp) (fun k hk => ?_) hfresh HB hbase (by rw [List.length_zipIdx]; exact hl) ?_
  · rcases hk with hk | hk | hk
    · exact k1 k hk
    · exact k2 k hk
    · exact k3 k hk
  · intro v1 w1 hr hb hgr _
    refine h v1 w1 ⟨F, ?_⟩ hb hgr
    rw [List.zipIdx_append]
    simpa using hr
end
/-- An empty row that was made: nothing is in it. -/
theorem S_empty {α : Type} (d : Kd α) {e : TypeId} {W : World} {base g : Nat} (hg : W.heap[g]? = some (.cells #[] e (0, 0))) (hb : base ≤ g) : Kd.S d e W base (fun _ => True) (.slice (some ⟨g, 0, none⟩) 0 0) [] :=
  ⟨fun _ => 0, fun _ _ => trivial, [], ⟨by simp, .inr ⟨g, 0, #[], rfl, hb, hg, Nat.le_refl _, by unfold maxLen; omega, by simp, by simp⟩⟩, Reps.none _ _⟩

end Go.Proofs.Ytgiehdhnhkmjfaa.X
-- Laid by xprint.py (wip/tools): printed contracts, and hand-written ones between them.
namespace Go.Proofs.Ytgiehdhnhkmjfaa.X
open Go.RowKit Go.Proofs.YtgiehdhnhkmjfaaW.PrintWords Go.Proofs.YtgiehdhnhkmjfaaW.PrintLast Go.Proofs.YtgiehdhnhkmjfaaW.PrintMore
attribute [local go_sem] max2_int min2_int max_two min_two max_three min_three max_four min_four   -- for this text's walks alone
set_option linter.unusedVariables false
set_option linter.unusedSimpArgs false

/-! ### impl_power: function 67 -/
def impl_power.l0 : Nat → Int → Int → Int → Option (Int)
  | 0, _, _, _ => none
  | k + 1, x3, x4, x5 => if x5 < x4 then (impl_power.l0 k (wrap64 (x3 * 3)) x4 (wrap64 (x5 + 1))) else (some x3)
def impl_power.f (k : Nat) (a0 : Int) : Option (Int) := impl_power.l0 k 1 a0 0
theorem impl_power.mono_l : ∀ k, (∀ y0 y1 y2, LeO (impl_power.l0 k y0 y1 y2) (impl_power.l0 (k + 1) y0 y1 y2))
  | 0 => fun _ _ _ r h => by simp [impl_power.l0] at h
  | k + 1 => by
    have ih0 := impl_power.mono_l k
    · intro y0 y1 y2
      unfold impl_power.l0
      repeat' first
      | (with_reducible exact ih0 _ _ _)
      | (with_reducible exact LeO.refl _)
      | (with_reducible exact LeO.none _)
      | (with_reducible refine LeO.ite ?_ ?_)
      | (with_reducible refine LeO.bind ?_ (fun _ => ?_))
      | exact ih0 _ _ _
      | exact LeO.none _
      | refine LeO.ite ?_ ?_
      | refine LeO.bind ?_ (fun _ => ?_)
theorem impl_power.mono : ∀ a0 k, LeO (impl_power.f k a0) (impl_power.f (k + 1) a0) := by
  intro a0 k
  have ih0 := impl_power.mono_l k
  unfold impl_power.f
  repeat' first
      | (with_reducible exact ih0 _ _ _)
      | (with_reducible exact LeO.refl _)
      | (with_reducible exact LeO.none _)
      | (with_reducible refine LeO.ite ?_ ?_)
      | (with_reducible refine LeO.bind ?_ (fun _ => ?_))
      | exact ih0 _ _ _
      | exact LeO.none _
      | refine LeO.ite ?_ ?_
      | refine LeO.bind ?_ (fun _ => ?_)
set_option maxHeartbeats 8000000 in
set_option maxRecDepth 100000 in
theorem impl_power.calls (k : Nat) (a0 : Int) (r : Int) (w : World) (h : impl_power.f k a0 = some r) :
    Calls Try.prog 67 #[.int .i64 a0] w fun e w' => e = .returned (.int .i64 r) ∧ Drawn0 w w' := by
  have H : (impl_power.l0 k 1 a0 0) = some r := h
  clear h
  have H' := Aside0.mk H
  clear H
  go_enter Try.func67, Try.ntmps67
  go_wp2
  go_loopg [3, 5] k (fun kq v3 v5 w' => ∃ (x3_1 : Int) (x5_1 : Int), v3 = .int .i64 x3_1 ∧ v5 = .int .i64 x5_1 ∧ Aside0 (impl_power.l0 kq x3_1 a0 x5_1 = some r) ∧ Aside0 (kq ≤ k) ∧ Drawn0 w w')
  case atStart => exact ⟨(1), (0), (by first | rfl | (simp; done) | (simp [*]; done)), (by first | rfl | (simp; done) | (simp [*]; done)), H', ⟨Nat.le_refl _⟩, by repeat (first | exact Drawn0.refl _ | apply Drawn0.step)⟩
  case round =>
    clear H'
    obtain ⟨x3_1, x5_1, rfl, rfl, HA, HK1, ⟨m1, rfl⟩⟩ := hrel
    cases gk with
    | zero => exact absurd HA.out (by simp [impl_power.l0])
    | succ k1 =>
      have H := HA.out
      clear HA
      simp only [impl_power.l0] at H
      by_cases c2 : x5_1 < a0
      · rw [if_pos c2] at H
        have c2b0 : decide (x5_1 < a0) = true := decide_eq_true c2
        clear c2
        have H' := Aside0.mk H
        clear H
        go_wp2
        go_roundg k1
        case measure => have := HK1.out; omega
        case rel => exact ⟨(wrap64 (x3_1 * 3)), (wrap64 (x5_1 + 1)), (by first | rfl | (simp; done) | (simp [*]; done)), (by first | rfl | (simp; done) | (simp [*]; done)), H', ⟨by have := HK1.out; omega⟩, by repeat (first | exact Drawn0.refl _ | apply Drawn0.step)⟩
      · rw [if_neg c2] at H
        have c2b0 : decide (x5_1 < a0) = false := decide_eq_false c2
        clear c2
        obtain rfl := Option.some.inj H
        go_wp2
        go_ret
        exact ⟨by first | rfl | (simp; done) | (simp [*]; done), by repeat (first | exact Drawn0.refl _ | apply Drawn0.step)⟩

end Go.Proofs.Ytgiehdhnhkmjfaa.X
-- Laid by xprint.py (wip/tools): printed contracts, and hand-written ones between them.
namespace Go.Proofs.Ytgiehdhnhkmjfaa.X
open Go.RowKit Go.Proofs.YtgiehdhnhkmjfaaW.PrintWords Go.Proofs.YtgiehdhnhkmjfaaW.PrintLast Go.Proofs.YtgiehdhnhkmjfaaW.PrintMore
attribute [local go_sem] max2_int min2_int max_two min_two max_three min_three max_four min_four   -- for this text's walks alone
set_option linter.unusedVariables false
set_option linter.unusedSimpArgs false

/-! ### impl_LimitOf: function 77 -/
def impl_LimitOf.f (k : Nat) (a0 : Int) : Option (Int) := if a0 < 1 then (some 0) else (if a0 > 30 then (some 0) else ((impl_power.f k a0).bind fun t78001 => (some (wrap64 (Int.tdiv (wrap64 (t78001 - 1)) 2)))))
theorem impl_LimitOf.mono : ∀ a0 k, LeO (impl_LimitOf.f k a0) (impl_LimitOf.f (k + 1) a0) := by
  intro a0 k
  unfold impl_LimitOf.f
  repeat' first
      | (with_reducible exact impl_power.mono _ _)
      | (with_reducible exact LeO.refl _)
      | (with_reducible exact LeO.none _)
      | (with_reducible refine LeO.ite ?_ ?_)
      | (with_reducible refine LeO.bind ?_ (fun _ => ?_))
      | exact impl_power.mono _ _
      | exact LeO.none _
      | refine LeO.ite ?_ ?_
      | refine LeO.bind ?_ (fun _ => ?_)
set_option maxHeartbeats 8000000 in
set_option maxRecDepth 100000 in
theorem impl_LimitOf.calls (k : Nat) (a0 : Int) (r : Int) (w : World) (h : impl_LimitOf.f k a0 = some r) :
    Calls Try.prog 77 #[.int .i64 a0] w fun e w' => e = .returned (.int .i64 r) ∧ Drawn0 w w' := by
  have H : (if a0 < 1 then (some 0) else (if a0 > 30 then (some 0) else ((impl_power.f k a0).bind fun t78001 => (some (wrap64 (Int.tdiv (wrap64 (t78001 - 1)) 2)))))) = some r := h
  clear h
  by_cases c2 : a0 < 1
  · rw [if_pos c2] at H
    have c2b0 : decide (a0 < 1) = true := decide_eq_true c2
    clear c2
    obtain rfl := Option.some.inj H
    go_enter Try.func77, Try.ntmps77
    go_wp2
    go_ret
    exact ⟨by first | rfl | (simp; done) | (simp [*]; done), by repeat (first | exact Drawn0.refl _ | apply Drawn0.step)⟩
  · rw [if_neg c2] at H
    have c2b0 : decide (a0 < 1) = false := decide_eq_false c2
    clear c2
    by_cases c3 : a0 > 30
    · rw [if_pos c3] at H
      have c3b0 : decide (30 < a0) = true := decide_eq_true c3
      clear c3
      obtain rfl := Option.some.inj H
      go_enter Try.func77, Try.ntmps77
      go_wp2
      go_ret
      exact ⟨by first | rfl | (simp; done) | (simp [*]; done), by repeat (first | exact Drawn0.refl _ | apply Drawn0.step)⟩
    · rw [if_neg c3] at H
      have c3b0 : decide (30 < a0) = false := decide_eq_false c3
      clear c3
      replace H := Option.bind_eq_some_iff.mp H
      obtain ⟨t78001, A40, H⟩ := H
      replace H : (some (wrap64 (Int.tdiv (wrap64 (t78001 - 1)) 2))) = some r := H
      have A4 := Aside0.mk A40
      clear A40
      obtain rfl := Option.some.inj H
      go_enter Try.func77, Try.ntmps77
      go_wp2_with (first | ((with_reducible refine gate_callee (f := 67) rfl ?_); refine goesL_ (some 10) rfl rfl Try.func67 (by kernel_rfl) rfl #[.int .i64 a0] rfl (by (try simp only [List.map_toArray, List.map_cons, List.map_nil]); first | done | rfl | (simp only [List.length_drop, List.length_take]; rfl)) ?_; (with_reducible refine (impl_power.calls k a0 t78001 _ A4.out).mono ?_); rintro e w' ⟨rfl, ⟨nd, rfl⟩⟩; refine ⟨_, rfl, ?_⟩))
      go_ret
      exact ⟨by first | rfl | (simp; done) | (simp [*]; done), by repeat (first | exact Drawn0.refl _ | apply Drawn0.step)⟩

end Go.Proofs.Ytgiehdhnhkmjfaa.X
-- Laid by xprint.py (wip/tools): printed contracts, and hand-written ones between them.
namespace Go.Proofs.Ytgiehdhnhkmjfaa.X
open Go.RowKit Go.Proofs.YtgiehdhnhkmjfaaW.PrintWords Go.Proofs.YtgiehdhnhkmjfaaW.PrintLast Go.Proofs.YtgiehdhnhkmjfaaW.PrintMore
attribute [local go_sem] max2_int min2_int max_two min_two max_three min_three max_four min_four   -- for this text's walks alone
set_option linter.unusedVariables false
set_option linter.unusedSimpArgs false

/-! ### impl_fits: function 97 -/
def impl_fits.f (k : Nat) (a0 : Int) (a1 : Int) : Option (Bool) := (impl_LimitOf.f k a1).bind fun t98001 => (if a0 ≥ (wrap64 (-t98001)) then ((impl_LimitOf.f k a1).bind fun t98002 => (some (decide (a0 ≤ t98002)))) else (some false))
theorem impl_fits.mono : ∀ a0 a1 k, LeO (impl_fits.f k a0 a1) (impl_fits.f (k + 1) a0 a1) := by
  intro a0 a1 k
  unfold impl_fits.f
  repeat' first
      | (with_reducible exact impl_LimitOf.mono _ _)
      | (with_reducible exact LeO.refl _)
      | (with_reducible exact LeO.none _)
      | (with_reducible refine LeO.ite ?_ ?_)
      | (with_reducible refine LeO.bind ?_ (fun _ => ?_))
      | exact impl_LimitOf.mono _ _
      | exact LeO.none _
      | refine LeO.ite ?_ ?_
      | refine LeO.bind ?_ (fun _ => ?_)
set_option maxHeartbeats 8000000 in
set_option maxRecDepth 100000 in
theorem impl_fits.calls (k : Nat) (a0 : Int) (a1 : Int) (r : Bool) (w : World) (h : impl_fits.f k a0 a1 = some r) :
    Calls Try.prog 97 #[.int .i64 a0, .int .i64 a1] w fun e w' => e = .returned (.bool r) ∧ Drawn0 w w' := by
  have H : ((impl_LimitOf.f k a1).bind fun t98001 => (if a0 ≥ (wrap64 (-t98001)) then ((impl_LimitOf.f k a1).bind fun t98002 => (some (decide (a0 ≤ t98002)))) else (some false))) = some r := h
  clear h
  replace H := Option.bind_eq_some_iff.mp H
  obtain ⟨t98001, A30, H⟩ := H
  replace H : (if a0 ≥ (wrap64 (-t98001)) then ((impl_LimitOf.f k a1).bind fun t98002 => (some (decide (a0 ≤ t98002)))) else (some false)) = some r := H
  have A3 := Aside0.mk A30
  clear A30
  by_cases c4 : a0 ≥ (wrap64 (-t98001))
  · rw [if_pos c4] at H
    have c4b0 : decide ((wrap64 (-t98001)) ≤ a0) = true := decide_eq_true c4
    clear c4
    replace H := Option.bind_eq_some_iff.mp H
    obtain ⟨t98002, A50, H⟩ := H
    replace H : (some (decide (a0 ≤ t98002))) = some r := H
    have A5 := Aside0.mk A50
    clear A50
    obtain rfl := Option.some.inj H
    go_enter Try.func97, Try.ntmps97
    go_wp2_with (first | ((with_reducible refine gate_callee (f := 77) rfl ?_); refine goesL_ (some 7) rfl rfl Try.func77 (by kernel_rfl) rfl #[.int .i64 a1] rfl (by (try simp only [List.map_toArray, List.map_cons, List.map_nil]); first | done | rfl | (simp only [List.length_drop, List.length_take]; rfl)) ?_; (with_reducible refine (impl_LimitOf.calls k a1 t98001 _ A3.out).mono ?_); rintro e w' ⟨rfl, ⟨nd, rfl⟩⟩; refine ⟨_, rfl, ?_⟩) | (go_at_call 77; (with_reducible refine (impl_LimitOf.calls k a1 t98002 _ A5.out).mono ?_); rintro e w' ⟨rfl, ⟨nd, rfl⟩⟩))
    go_ret
    exact ⟨by first | rfl | (simp; done) | (simp [*]; done), by repeat (first | exact Drawn0.refl _ | apply Drawn0.step)⟩
  · rw [if_neg c4] at H
    have c4b0 : decide ((wrap64 (-t98001)) ≤ a0) = false := decide_eq_false c4
    clear c4
    obtain rfl := Option.some.inj H
    go_enter Try.func97, Try.ntmps97
    go_wp2_with (first | ((with_reducible refine gate_callee (f := 77) rfl ?_); refine goesL_ (some 7) rfl rfl Try.func77 (by kernel_rfl) rfl #[.int .i64 a1] rfl (by (try simp only [List.map_toArray, List.map_cons, List.map_nil]); first | done | rfl | (simp only [List.length_drop, List.length_take]; rfl)) ?_; (with_reducible refine (impl_LimitOf.calls k a1 t98001 _ A3.out).mono ?_); rintro e w' ⟨rfl, ⟨nd, rfl⟩⟩; refine ⟨_, rfl, ?_⟩))
    go_ret
    exact ⟨by first | rfl | (simp; done) | (simp [*]; done), by repeat (first | exact Drawn0.refl _ | apply Drawn0.step)⟩

end Go.Proofs.Ytgiehdhnhkmjfaa.X
-- Laid by xprint.py (wip/tools): printed contracts, and hand-written ones between them.
namespace Go.Proofs.Ytgiehdhnhkmjfaa.X
open Go.RowKit Go.Proofs.YtgiehdhnhkmjfaaW.PrintWords Go.Proofs.YtgiehdhnhkmjfaaW.PrintLast Go.Proofs.YtgiehdhnhkmjfaaW.PrintMore
attribute [local go_sem] max2_int min2_int max_two min_two max_three min_three max_four min_four   -- for this text's walks alone
set_option linter.unusedVariables false
set_option linter.unusedSimpArgs false

/-! ### impl_carried: function 98 -/
def impl_carried.f (a0 : Int) : Option (Int × Int) := if a0 > 1 then (some (wrap64 (a0 - 3), 1)) else (if a0 < (-1) then (some (wrap64 (a0 + 3), (-1))) else (some (a0, 0)))
set_option maxHeartbeats 8000000 in
set_option maxRecDepth 100000 in
theorem impl_carried.calls (a0 : Int) (r1 : Int) (r2 : Int) (w : World) (h : impl_carried.f a0 = some (r1, r2)) :
    Calls Try.prog 98 #[.int .i64 a0] w fun e w' => e = .returned (.tuple #[.int .i64 r1, .int .i64 r2]) ∧ Drawn0 w w' := by
  have H : (if a0 > 1 then (some (wrap64 (a0 - 3), 1)) else (if a0 < (-1) then (some (wrap64 (a0 + 3), (-1))) else (some (a0, 0)))) = some (r1, r2) := h
  clear h
  by_cases c2 : a0 > 1
  · rw [if_pos c2] at H
    have c2b0 : decide (1 < a0) = true := decide_eq_true c2
    clear c2
    simp only [Option.some.injEq, Prod.mk.injEq] at H
    obtain ⟨rfl, rfl⟩ := H
    go_enter Try.func98, Try.ntmps98
    go_wp2
    go_ret2
    exact ⟨by first | rfl | (simp; done) | (simp [*]; done), by repeat (first | exact Drawn0.refl _ | apply Drawn0.step)⟩
  · rw [if_neg c2] at H
    have c2b0 : decide (1 < a0) = false := decide_eq_false c2
    clear c2
    by_cases c3 : a0 < (-1)
    · rw [if_pos c3] at H
      have c3b0 : decide (a0 < (-1)) = true := decide_eq_true c3
      clear c3
      simp only [Option.some.injEq, Prod.mk.injEq] at H
      obtain ⟨rfl, rfl⟩ := H
      go_enter Try.func98, Try.ntmps98
      go_wp2
      go_ret2
      exact ⟨by first | rfl | (simp; done) | (simp [*]; done), by repeat (first | exact Drawn0.refl _ | apply Drawn0.step)⟩
    · rw [if_neg c3] at H
      have c3b0 : decide (a0 < (-1)) = false := decide_eq_false c3
      clear c3
      simp only [Option.some.injEq, Prod.mk.injEq] at H
      obtain ⟨rfl, rfl⟩ := H
      go_enter Try.func98, Try.ntmps98
      go_wp2
      go_ret2
      exact ⟨by first | rfl | (simp; done) | (simp [*]; done), by repeat (first | exact Drawn0.refl _ | apply Drawn0.step)⟩

end Go.Proofs.Ytgiehdhnhkmjfaa.X
-- Laid by xprint.py (wip/tools): printed contracts, and hand-written ones between them.
namespace Go.Proofs.Ytgiehdhnhkmjfaa.X
open Go.RowKit Go.Proofs.YtgiehdhnhkmjfaaW.PrintWords Go.Proofs.YtgiehdhnhkmjfaaW.PrintLast Go.Proofs.YtgiehdhnhkmjfaaW.PrintMore
attribute [local go_sem] max2_int min2_int max_two min_two max_three min_three max_four min_four   -- for this text's walks alone
set_option linter.unusedVariables false
set_option linter.unusedSimpArgs false

/-! ### impl_WordOf: function 64 -/
mutual
def impl_WordOf.j0 : Nat → Int → Int → Bool → Option (List Int × Bool)
  | 0, _, _, _ => none
  | k + 1, x0, x1, x20 => if x20 = true then (some (([] : List Int), false)) else (impl_WordOf.l0 k x0 (([] : List Int)) x1 0)
def impl_WordOf.l0 : Nat → Int → List Int → Int → Int → Option (List Int × Bool)
  | 0, _, _, _, _ => none
  | k + 1, x0, x6, x22, x23 => if x23 < x22 then ((impl_carried.f (Int.tmod x0 3)).bind fun bt65005 => (if x6.length < 17592186044416 then (impl_WordOf.l0 k (wrap64 (Int.tdiv (wrap64 (x0 - bt65005.1)) 3)) (x6 ++ [bt65005.1]) x22 (wrap64 (x23 + 1))) else (none))) else (some (x6, true))
end
def impl_WordOf.f (k : Nat) (a0 : Int) (a1 : Int) : Option (List Int × Bool) := if a1 < 1 then (impl_WordOf.j0 k a0 a1 true) else (if a1 > 30 then (impl_WordOf.j0 k a0 a1 true) else ((impl_fits.f k a0 a1).bind fun t65001 => (impl_WordOf.j0 k a0 a1 (!t65001))))
theorem impl_WordOf.mono_l : ∀ k, (∀ y0 y1 y2, LeO (impl_WordOf.j0 k y0 y1 y2) (impl_WordOf.j0 (k + 1) y0 y1 y2)) ∧ (∀ y0 y1 y2 y3, LeO (impl_WordOf.l0 k y0 y1 y2 y3) (impl_WordOf.l0 (k + 1) y0 y1 y2 y3))
  | 0 => ⟨fun _ _ _ r h => by simp [impl_WordOf.j0] at h, fun _ _ _ _ r h => by simp [impl_WordOf.l0] at h⟩
  | k + 1 => by
    obtain ⟨ih0, ih1⟩ := impl_WordOf.mono_l k
    refine ⟨?_, ?_⟩
    · intro y0 y1 y2
      unfold impl_WordOf.j0
      repeat' first
      | (with_reducible exact ih0 _ _ _)
      | (with_reducible exact ih1 _ _ _ _)
      | (with_reducible exact impl_fits.mono _ _ _)
      | (with_reducible exact LeO.refl _)
      | (with_reducible exact LeO.none _)
      | (with_reducible refine LeO.ite ?_ ?_)
      | (with_reducible refine LeO.bind ?_ (fun _ => ?_))
      | exact ih0 _ _ _
      | exact ih1 _ _ _ _
      | exact impl_fits.mono _ _ _
      | exact LeO.none _
      | refine LeO.ite ?_ ?_
      | refine LeO.bind ?_ (fun _ => ?_)
    · intro y0 y1 y2 y3
      unfold impl_WordOf.l0
      repeat' first
      | (with_reducible exact ih0 _ _ _)
      | (with_reducible exact ih1 _ _ _ _)
      | (with_reducible exact impl_fits.mono _ _ _)
      | (with_reducible exact LeO.refl _)
      | (with_reducible exact LeO.none _)
      | (with_reducible refine LeO.ite ?_ ?_)
      | (with_reducible refine LeO.bind ?_ (fun _ => ?_))
      | exact ih0 _ _ _
      | exact ih1 _ _ _ _
      | exact impl_fits.mono _ _ _
      | exact LeO.none _
      | refine LeO.ite ?_ ?_
      | refine LeO.bind ?_ (fun _ => ?_)
theorem impl_WordOf.mono : ∀ a0 a1 k, LeO (impl_WordOf.f k a0 a1) (impl_WordOf.f (k + 1) a0 a1) := by
  intro a0 a1 k
  obtain ⟨ih0, ih1⟩ := impl_WordOf.mono_l k
  unfold impl_WordOf.f
  repeat' first
      | (with_reducible exact ih0 _ _ _)
      | (with_reducible exact ih1 _ _ _ _)
      | (with_reducible exact impl_fits.mono _ _ _)
      | (with_reducible exact LeO.refl _)
      | (with_reducible exact LeO.none _)
      | (with_reducible refine LeO.ite ?_ ?_)
      | (with_reducible refine LeO.bind ?_ (fun _ => ?_))
      | exact ih0 _ _ _
      | exact ih1 _ _ _ _
      | exact impl_fits.mono _ _ _
      | exact LeO.none _
      | refine LeO.ite ?_ ?_
      | refine LeO.bind ?_ (fun _ => ?_)
set_option maxHeartbeats 8000000 in
set_option maxRecDepth 100000 in
theorem impl_WordOf.calls (k : Nat) (a0 : Int) (a1 : Int) (r1 : List Int) (r2 : Bool) (w : World) (h : impl_WordOf.f k a0 a1 = some (r1, r2)) :
    Calls Try.prog 64 #[.int .i64 a0, .int .i64 a1] w fun e w' => ∃ v0_ : Value, e = .returned (.tuple #[v0_, .bool r2]) ∧ Kd.R (Kd.int .i64) 3 w' w.heap.size (fun _ => True) v0_ r1 ∧ Below w.heap.size w w' := by
  have HB := Aside0.mk (Below.refl w.heap.size w)
  have H : (if a1 < 1 then (impl_WordOf.j0 k a0 a1 true) else (if a1 > 30 then (impl_WordOf.j0 k a0 a1 true) else ((impl_fits.f k a0 a1).bind fun t65001 => (impl_WordOf.j0 k a0 a1 (!t65001))))) = some (r1, r2) := h
  clear h
  have HC3 := Aside0.mk H
  clear H
  go_enter Try.func64, Try.ntmps64
  go_upto_region 1 with (fail)
  go_cut [20] (fun v20 wc => ∃ (kq : Nat) (x20_2 : Bool), v20 = .bool x20_2 ∧ Aside0 (impl_WordOf.j0 kq a0 a1 x20_2 = some (r1, r2)) ∧ Aside0 (kq ≤ k) ∧ Aside0 (Below w.heap.size w wc))
  case first =>
    have H := HC3.out
    clear HC3
    by_cases c4 : a1 < 1
    · rw [if_pos c4] at H
      have c4b0 : decide (a1 < 1) = true := decide_eq_true c4
      clear c4
      (first | rw [c4b0] | (simp only [i64_w, i32_w]; rw [c4b0]) | skip)
      have H' := Aside0.mk H
      clear H
      go_wp2
      go_meet
      case rel => exact ⟨_, (true), (by first | rfl | (simp; done) | (simp [*]; done)), H', ⟨by first | omega | exact Nat.le_refl _⟩, ⟨by repeat (first | (with_reducible first | exact HB.out | apply below_alloc | apply pw_below_drewN | apply below_drew1) | exact HB.out)⟩⟩
    · rw [if_neg c4] at H
      have c4b0 : decide (a1 < 1) = false := decide_eq_false c4
      clear c4
      (first | rw [c4b0] | (simp only [i64_w, i32_w]; rw [c4b0]) | skip)
      by_cases c5 : a1 > 30
      · rw [if_pos c5] at H
        have c5b0 : decide (30 < a1) = true := decide_eq_true c5
        clear c5
        have H' := Aside0.mk H
        clear H
        go_wp2
        go_meet
        case rel => exact ⟨_, (true), (by first | rfl | (simp; done) | (simp [*]; done)), H', ⟨by first | omega | exact Nat.le_refl _⟩, ⟨by repeat (first | (with_reducible first | exact HB.out | apply below_alloc | apply pw_below_drewN | apply below_drew1) | exact HB.out)⟩⟩
      · rw [if_neg c5] at H
        have c5b0 : decide (30 < a1) = false := decide_eq_false c5
        clear c5
        replace H := Option.bind_eq_some_iff.mp H
        obtain ⟨t65001, A60, H⟩ := H
        replace H : (impl_WordOf.j0 k a0 a1 (!t65001)) = some (r1, r2) := H
        have A6 := Aside0.mk A60
        clear A60
        have H' := Aside0.mk H
        clear H
        go_wp2_with (first | (go_at_call 97; (with_reducible refine (impl_fits.calls k a0 a1 t65001 _ A6.out).mono ?_); rintro e w' ⟨rfl, ⟨nd, rfl⟩⟩))
        go_meet
        case rel => exact ⟨_, (!t65001), (by first | rfl | (simp; done) | (simp [*]; done)), H', ⟨by first | omega | exact Nat.le_refl _⟩, ⟨by repeat (first | (with_reducible first | exact HB.out | apply below_alloc | apply pw_below_drewN | apply below_drew1) | exact HB.out)⟩⟩
  case rest =>
    clear HC3
    try clear p2
    try clear c4
    try clear c4b0
    try clear c5
    try clear c5b0
    try clear c6
    obtain ⟨kq, x20_2, rfl, HA, HJ2, HB⟩ := hcut
    cases kq with
    | zero => exact absurd HA.out (by simp [impl_WordOf.j0])
    | succ kj2 =>
      have H := HA.out
      clear HA
      simp only [impl_WordOf.j0] at H
      by_cases c7 : x20_2 = true
      · subst c7
        have H1 : (some (([] : List Int), false)) = some (r1, r2) := by rw [if_pos rfl] at H; exact H
        clear H
        have H := H1
        clear H1
        simp only [Option.some.injEq, Prod.mk.injEq] at H
        obtain ⟨rfl, rfl⟩ := H
        go_wp2
        go_ret2
        exact ⟨_, by first | rfl | (simp [errW_none, errW_some] <;> rfl) | (simp [*, errW_none, errW_some] <;> rfl), by first | exact Kd.R_nil _ _ _ _ _ | exact Kd.N_nil _ _ _ _ _ | exact Kd.V_nil _ _ _ _ _ | exact Kd.Q_nil _ _ _ _ _ | exact Kd.S_nil _ _ _ _ _, by repeat (first | (with_reducible first | exact HB.out | apply below_alloc | apply pw_below_drewN | apply below_drew1) | exact HB.out)⟩
      · replace c7 := Bool.eq_false_iff.mpr c7
        subst c7
        have H1 : (impl_WordOf.l0 kj2 a0 (([] : List Int)) a1 0) = some (r1, r2) := by rw [if_neg (show ¬ (false = true) by decide)] at H; exact H
        clear H
        have H := H1
        clear H1
        obtain ⟨y65002, hy65002⟩ : ∃ y_ : List Int, y_ = (([] : List Int)) := ⟨_, rfl⟩
        replace H : (impl_WordOf.l0 kj2 a0 y65002 a1 0) = some (r1, r2) := by first | (rw [hy65002]; with_reducible exact H) | (have H2_ := (Option.bind_some _ _).symm.trans H; rw [hy65002]; with_reducible exact H2_) | (have H2_ := (Option.bind_some _ _).symm.trans H; with_reducible exact H2_) | with_reducible exact H | (rw [hy65002]; exact H) | exact H
        have Ny65002 := Aside0.mk hy65002
        clear hy65002
        have H' := Aside0.mk H
        clear H
        go_wp2_with (first | ((with_reducible refine gate_dst (N := 21) rfl ?_); refine Kd.R_lit (Kd.int .i64) _ 3 ?hg (N := 21) ?hd (xs := ([] : List Int)) (inner := []) (ok := fun _ => True) (okp := fun _ => True) ?hr ?hp (fun _ hk => hk) trivial (Below.refl _ _) (Nat.le_refl _) (by simp) ?_; (case hd => rfl); (case hg => rfl); (case hr => first | (go_simp; done) | (go_simp; rfl)); (case hp => exact (Reps.none _ _)); intro v65003 w8 ho9 hb hg_ hnew_; clear hg_ hnew_; (first | rw [← Ny65002.out] at ho9 | (simp only [Int.reduceToNat] at ho9; rw [← Ny65002.out] at ho9)); have n0_ := Aside0.mk (Kd.R_lower ho9 (below_size (by repeat (first | (with_reducible first | exact HB.out | apply below_alloc | apply pw_below_drewN | apply below_drew1) | exact HB.out)))); have n1_ := Aside0.mk (below_step (by repeat (first | (with_reducible first | exact HB.out | apply below_alloc | apply pw_below_drewN | apply below_drew1) | exact HB.out)) hb); clear HB; have HO65004 := n0_; have HB := n1_; clear n0_ n1_; clear hb ho9))
        go_loopg [0, 6, 23] kj2 (fun kq v0 v6 v23 w' => ∃ (x0_2 : Int) (x6_2 : List Int) (x23_2 : Int), v0 = .int .i64 x0_2 ∧ v23 = .int .i64 x23_2 ∧ Aside0 (impl_WordOf.l0 kq x0_2 x6_2 a1 x23_2 = some (r1, r2)) ∧ Aside0 (kq ≤ kj2) ∧ Aside0 (Kd.R (Kd.int .i64) 3 w' w.heap.size (fun _ => True) v6 x6_2) ∧ Aside0 (Below w.heap.size w w'))
        case atStart => exact ⟨(a0), (y65002), (0), (by first | rfl | (simp; done) | (simp [*]; done)), (by first | rfl | (simp; done) | (simp [*]; done)), H', ⟨Nat.le_refl _⟩, ⟨by (with_reducible repeat (first | apply Kd.R_alloc | apply Kd.R_drewN | apply Kd.R_drew)); exact HO65004.out⟩, ⟨by repeat (first | (with_reducible first | exact HB.out | apply below_alloc | apply pw_below_drewN | apply below_drew1) | exact HB.out)⟩⟩
        case round =>
          clear H'
          try clear p2
          try clear c4
          try clear c4b0
          try clear c5
          try clear c5b0
          try clear c6
          try clear c7
          try clear p2
          obtain ⟨x0_2, x6_2, x23_2, rfl, rfl, HA, HK2, HO_6, HB⟩ := hrel
          cases gk with
          | zero => exact absurd HA.out (by simp [impl_WordOf.l0])
          | succ k2 =>
            have H := HA.out
            clear HA
            simp only [impl_WordOf.l0] at H
            by_cases c10 : x23_2 < a1
            · rw [if_pos c10] at H
              have c10b0 : decide (x23_2 < a1) = true := decide_eq_true c10
              clear c10
              replace H := Option.bind_eq_some_iff.mp H
              obtain ⟨⟨t65005, t65006⟩, A110, H⟩ := H
              replace H : (if x6_2.length < 17592186044416 then (impl_WordOf.l0 k2 (wrap64 (Int.tdiv (wrap64 (x0_2 - t65005)) 3)) (x6_2 ++ [t65005]) a1 (wrap64 (x23_2 + 1))) else (none)) = some (r1, r2) := H
              have A11 := Aside0.mk A110
              clear A110
              by_cases c12 : x6_2.length < 17592186044416
              · rw [if_pos c12] at H
                have LMc12 := Aside0.mk c12
                clear c12
                obtain ⟨y65007, hy65007⟩ : ∃ y_ : List Int, y_ = (x6_2 ++ [t65005]) := ⟨_, rfl⟩
                replace H : (impl_WordOf.l0 k2 (wrap64 (Int.tdiv (wrap64 (x0_2 - t65005)) 3)) y65007 a1 (wrap64 (x23_2 + 1))) = some (r1, r2) := by first | (rw [hy65007]; with_reducible exact H) | (have H2_ := (Option.bind_some _ _).symm.trans H; rw [hy65007]; with_reducible exact H2_) | (have H2_ := (Option.bind_some _ _).symm.trans H; with_reducible exact H2_) | with_reducible exact H | (rw [hy65007]; exact H) | exact H
                have Ny65007 := Aside0.mk hy65007
                clear hy65007
                have H' := Aside0.mk H
                clear H
                go_wp2_with (first | ((with_reducible refine gate_callee (f := 98) rfl ?_); refine goesL_ (some 28) rfl rfl Try.func98 (by kernel_rfl) rfl #[.int .i64 (Int.tmod x0_2 3)] rfl (by (try simp only [List.map_toArray, List.map_cons, List.map_nil]); first | done | rfl | (simp only [List.length_drop, List.length_take]; rfl)) ?_; (with_reducible refine (impl_carried.calls (Int.tmod x0_2 3) t65005 t65006 _ A11.out).mono ?_); rintro e w' ⟨rfl, ⟨nd, rfl⟩⟩; refine ⟨_, rfl, ?_⟩) | ((with_reducible refine gate_builtin (b := .append) (xs := #[.tmp 31, .tmp 33]) rfl ?_); at_builtin; refine Kd.R_append (Kd.int .i64) (w0 := w) w.heap.size rfl (.tmp 31) (.tmp 33) 47 3 (.int .i64 0) 8 rfl Try.underlying47 info3 rfl (by decide) (by omega) u6 x6_2 t65005 [.int .i64 t65005] (fun _ => True) (fun _ => False) rfl rfl ?aP (fun _ hk => hk.elim) ?aF ?aO ?aB ?aS ?aL ?_; (case aP => exact rfl); (case aB => exact (by repeat (first | (with_reducible first | exact HB.out | apply below_alloc | apply pw_below_drewN | apply below_drew1) | exact HB.out))); (case aF => exact (fun _ _ => trivial)); (case aO => exact (by (with_reducible repeat (first | apply Kd.R_alloc | apply Kd.R_drewN | apply Kd.R_drew)); exact HO_6.out)); (case aS => exact (below_size (by repeat (first | (with_reducible first | exact HB.out | apply below_alloc | apply pw_below_drewN | apply below_drew1) | exact HB.out)))); (case aL => have := LMc12.out; omega); intro v65008 w13 ho hb hg hat; rw [← Ny65007.out] at ho; have n0_ := Aside0.mk (hb); have n1_ := Aside0.mk (ho); clear HB; clear HO_6; have HB := n0_; have HO65009 := n1_; clear n0_ n1_; clear ho hb hg hat))
                go_roundg k2
                case measure => have := HJ2.out; have := HK2.out; omega
                case rel => exact ⟨(wrap64 (Int.tdiv (wrap64 (x0_2 - t65005)) 3)), (y65007), (wrap64 (x23_2 + 1)), (by first | rfl | (simp; done) | (simp [*]; done)), (by first | rfl | (simp; done) | (simp [*]; done)), H', ⟨by have := HJ2.out; have := HK2.out; omega⟩, ⟨by (with_reducible repeat (first | apply Kd.R_alloc | apply Kd.R_drewN | apply Kd.R_drew)); exact HO65009.out⟩, ⟨by repeat (first | (with_reducible first | exact HB.out | apply below_alloc | apply pw_below_drewN | apply below_drew1) | exact HB.out)⟩⟩
              · rw [if_neg c12] at H
                exact absurd H (by simp)
            · rw [if_neg c10] at H
              have c10b0 : decide (x23_2 < a1) = false := decide_eq_false c10
              clear c10
              simp only [Option.some.injEq, Prod.mk.injEq] at H
              obtain ⟨rfl, rfl⟩ := H
              go_wp2
              go_ret2
              exact ⟨_, by first | rfl | (simp [errW_none, errW_some] <;> rfl) | (simp [*, errW_none, errW_some] <;> rfl), by (with_reducible repeat (first | apply Kd.R_alloc | apply Kd.R_drewN | apply Kd.R_drew)); exact HO_6.out, by repeat (first | (with_reducible first | exact HB.out | apply below_alloc | apply pw_below_drewN | apply below_drew1) | exact HB.out)⟩

end Go.Proofs.Ytgiehdhnhkmjfaa.X
-- Laid by xprint.py (wip/tools): printed contracts, and hand-written ones between them.
namespace Go.Proofs.Ytgiehdhnhkmjfaa.X
open Go.RowKit Go.Proofs.YtgiehdhnhkmjfaaW.PrintWords Go.Proofs.YtgiehdhnhkmjfaaW.PrintLast Go.Proofs.YtgiehdhnhkmjfaaW.PrintMore
attribute [local go_sem] max2_int min2_int max_two min_two max_three min_three max_four min_four   -- for this text's walks alone
set_option linter.unusedVariables false
set_option linter.unusedSimpArgs false

/-! ### impl_CoinsFor: function 76 -/
def impl_CoinsFor.f (k : Nat) (a0 : Int) : Option (Int) := if a0 < 2 then (some 0) else (if a0 > 5 then (some 0) else ((impl_power.f k a0).bind fun t77001 => (some (wrap64 (Int.tdiv (wrap64 (t77001 - 3)) 2)))))
theorem impl_CoinsFor.mono : ∀ a0 k, LeO (impl_CoinsFor.f k a0) (impl_CoinsFor.f (k + 1) a0) := by
  intro a0 k
  unfold impl_CoinsFor.f
  repeat' first
      | (with_reducible exact impl_power.mono _ _)
      | (with_reducible exact LeO.refl _)
      | (with_reducible exact LeO.none _)
      | (with_reducible refine LeO.ite ?_ ?_)
      | (with_reducible refine LeO.bind ?_ (fun _ => ?_))
      | exact impl_power.mono _ _
      | exact LeO.none _
      | refine LeO.ite ?_ ?_
      | refine LeO.bind ?_ (fun _ => ?_)
set_option maxHeartbeats 8000000 in
set_option maxRecDepth 100000 in
theorem impl_CoinsFor.calls (k : Nat) (a0 : Int) (r : Int) (w : World) (h : impl_CoinsFor.f k a0 = some r) :
    Calls Try.prog 76 #[.int .i64 a0] w fun e w' => e = .returned (.int .i64 r) ∧ Drawn0 w w' := by
  have H : (if a0 < 2 then (some 0) else (if a0 > 5 then (some 0) else ((impl_power.f k a0).bind fun t77001 => (some (wrap64 (Int.tdiv (wrap64 (t77001 - 3)) 2)))))) = some r := h
  clear h
  by_cases c2 : a0 < 2
  · rw [if_pos c2] at H
    have c2b0 : decide (a0 < 2) = true := decide_eq_true c2
    clear c2
    obtain rfl := Option.some.inj H
    go_enter Try.func76, Try.ntmps76
    go_wp2
    go_ret
    exact ⟨by first | rfl | (simp; done) | (simp [*]; done), by repeat (first | exact Drawn0.refl _ | apply Drawn0.step)⟩
  · rw [if_neg c2] at H
    have c2b0 : decide (a0 < 2) = false := decide_eq_false c2
    clear c2
    by_cases c3 : a0 > 5
    · rw [if_pos c3] at H
      have c3b0 : decide (5 < a0) = true := decide_eq_true c3
      clear c3
      obtain rfl := Option.some.inj H
      go_enter Try.func76, Try.ntmps76
      go_wp2
      go_ret
      exact ⟨by first | rfl | (simp; done) | (simp [*]; done), by repeat (first | exact Drawn0.refl _ | apply Drawn0.step)⟩
    · rw [if_neg c3] at H
      have c3b0 : decide (5 < a0) = false := decide_eq_false c3
      clear c3
      replace H := Option.bind_eq_some_iff.mp H
      obtain ⟨t77001, A40, H⟩ := H
      replace H : (some (wrap64 (Int.tdiv (wrap64 (t77001 - 3)) 2))) = some r := H
      have A4 := Aside0.mk A40
      clear A40
      obtain rfl := Option.some.inj H
      go_enter Try.func76, Try.ntmps76
      go_wp2_with (first | ((with_reducible refine gate_callee (f := 67) rfl ?_); refine goesL_ (some 10) rfl rfl Try.func67 (by kernel_rfl) rfl #[.int .i64 a0] rfl (by (try simp only [List.map_toArray, List.map_cons, List.map_nil]); first | done | rfl | (simp only [List.length_drop, List.length_take]; rfl)) ?_; (with_reducible refine (impl_power.calls k a0 t77001 _ A4.out).mono ?_); rintro e w' ⟨rfl, ⟨nd, rfl⟩⟩; refine ⟨_, rfl, ?_⟩))
      go_ret
      exact ⟨by first | rfl | (simp; done) | (simp [*]; done), by repeat (first | exact Drawn0.refl _ | apply Drawn0.step)⟩

end Go.Proofs.Ytgiehdhnhkmjfaa.X
-- Laid by xprint.py (wip/tools): printed contracts, and hand-written ones between them.
namespace Go.Proofs.Ytgiehdhnhkmjfaa.X
open Go.RowKit Go.Proofs.YtgiehdhnhkmjfaaW.PrintWords Go.Proofs.YtgiehdhnhkmjfaaW.PrintLast Go.Proofs.YtgiehdhnhkmjfaaW.PrintMore
attribute [local go_sem] max2_int min2_int max_two min_two max_three min_three max_four min_four   -- for this text's walks alone
set_option linter.unusedVariables false
set_option linter.unusedSimpArgs false

/-! ### impl_TurnTrit: function 101 -/
def impl_TurnTrit.f (a0 : Int) : Option (Int) := (impl_IsTrit.f a0).bind fun t102001 => (if t102001 = true then ((impl_carried.f (wrap64 (a0 + 1))).bind fun bt102002 => (some bt102002.1)) else (some 0))
set_option maxHeartbeats 8000000 in
set_option maxRecDepth 100000 in
theorem impl_TurnTrit.calls (a0 : Int) (r : Int) (w : World) (h : impl_TurnTrit.f a0 = some r) :
    Calls Try.prog 101 #[.int .i64 a0] w fun e w' => e = .returned (.int .i64 r) ∧ Drawn0 w w' := by
  have H : ((impl_IsTrit.f a0).bind fun t102001 => (if t102001 = true then ((impl_carried.f (wrap64 (a0 + 1))).bind fun bt102002 => (some bt102002.1)) else (some 0))) = some r := h
  clear h
  replace H := Option.bind_eq_some_iff.mp H
  obtain ⟨t102001, A20, H⟩ := H
  replace H : (if t102001 = true then ((impl_carried.f (wrap64 (a0 + 1))).bind fun bt102002 => (some bt102002.1)) else (some 0)) = some r := H
  have A2 := Aside0.mk A20
  clear A20
  by_cases c3 : t102001 = true
  · subst c3
    have H1 : ((impl_carried.f (wrap64 (a0 + 1))).bind fun bt102002 => (some bt102002.1)) = some r := by rw [if_pos rfl] at H; exact H
    clear H
    have H := H1
    clear H1
    replace H := Option.bind_eq_some_iff.mp H
    obtain ⟨⟨t102002, t102003⟩, A40, H⟩ := H
    replace H : (some t102002) = some r := H
    have A4 := Aside0.mk A40
    clear A40
    obtain rfl := Option.some.inj H
    go_enter Try.func101, Try.ntmps101
    go_wp2_with (first | ((with_reducible refine gate_callee (f := 86) rfl ?_); refine goesL_ (some 6) rfl rfl Try.func86 (by kernel_rfl) rfl #[.int .i64 a0] rfl (by (try simp only [List.map_toArray, List.map_cons, List.map_nil]); first | done | rfl | (simp only [List.length_drop, List.length_take]; rfl)) ?_; (with_reducible refine (impl_IsTrit.calls a0 true _ A2.out).mono ?_); rintro e w' ⟨rfl, ⟨nd, rfl⟩⟩; refine ⟨_, rfl, ?_⟩) | ((with_reducible refine gate_callee (f := 98) rfl ?_); refine goesL_ (some 11) rfl rfl Try.func98 (by kernel_rfl) rfl #[.int .i64 (wrap64 (a0 + 1))] rfl (by (try simp only [List.map_toArray, List.map_cons, List.map_nil]); first | done | rfl | (simp only [List.length_drop, List.length_take]; rfl)) ?_; (with_reducible refine (impl_carried.calls (wrap64 (a0 + 1)) t102002 t102003 _ A4.out).mono ?_); rintro e w' ⟨rfl, ⟨nd, rfl⟩⟩; refine ⟨_, rfl, ?_⟩))
    go_ret
    exact ⟨by first | rfl | (simp; done) | (simp [*]; done), by repeat (first | exact Drawn0.refl _ | apply Drawn0.step)⟩
  · replace c3 := Bool.eq_false_iff.mpr c3
    subst c3
    have H1 : (some 0) = some r := by rw [if_neg (show ¬ (false = true) by decide)] at H; exact H
    clear H
    have H := H1
    clear H1
    obtain rfl := Option.some.inj H
    go_enter Try.func101, Try.ntmps101
    go_wp2_with (first | ((with_reducible refine gate_callee (f := 86) rfl ?_); refine goesL_ (some 6) rfl rfl Try.func86 (by kernel_rfl) rfl #[.int .i64 a0] rfl (by (try simp only [List.map_toArray, List.map_cons, List.map_nil]); first | done | rfl | (simp only [List.length_drop, List.length_take]; rfl)) ?_; (with_reducible refine (impl_IsTrit.calls a0 false _ A2.out).mono ?_); rintro e w' ⟨rfl, ⟨nd, rfl⟩⟩; refine ⟨_, rfl, ?_⟩))
    go_ret
    exact ⟨by first | rfl | (simp; done) | (simp [*]; done), by repeat (first | exact Drawn0.refl _ | apply Drawn0.step)⟩

end Go.Proofs.Ytgiehdhnhkmjfaa.X
-- Laid by xprint.py (wip/tools): printed contracts, and hand-written ones between them.
namespace Go.Proofs.Ytgiehdhnhkmjfaa.X
open Go.RowKit Go.Proofs.YtgiehdhnhkmjfaaW.PrintWords Go.Proofs.YtgiehdhnhkmjfaaW.PrintLast Go.Proofs.YtgiehdhnhkmjfaaW.PrintMore
attribute [local go_sem] max2_int min2_int max_two min_two max_three min_three max_four min_four   -- for this text's walks alone
set_option linter.unusedVariables false
set_option linter.unusedSimpArgs false

/-! ### impl_TurnsForward: function 78 -/
def impl_TurnsForward.l0 : Nat → List Int → Int → Option (Bool)
  | 0, _, _ => none
  | k + 1, x0, x3 => if x3 < (x0.length : Int) then (if 0 ≤ x3 then (if 0 ≤ (wrap64 (x3 - 1)) then (if (wrap64 (x3 - 1)) < (x0.length : Int) then (if (rd x0 x3) = (rd x0 (wrap64 (x3 - 1))) then (impl_TurnsForward.l0 k x0 (wrap64 (x3 + 1))) else ((impl_TurnTrit.f (rd x0 (wrap64 (x3 - 1)))).bind fun t79006 => (some ((rd x0 x3) == t79006)))) else (none)) else (none)) else (none)) else (some false)
def impl_TurnsForward.f (k : Nat) (l0 : List Int) : Option (Bool) := (impl_IsWord.f k l0).bind fun t79001 => (if t79001 = true then (impl_TurnsForward.l0 k l0 1) else (some false))
theorem impl_TurnsForward.mono_l : ∀ k, (∀ y0 y1, LeO (impl_TurnsForward.l0 k y0 y1) (impl_TurnsForward.l0 (k + 1) y0 y1))
  | 0 => fun _ _ r h => by simp [impl_TurnsForward.l0] at h
  | k + 1 => by
    have ih0 := impl_TurnsForward.mono_l k
    · intro y0 y1
      unfold impl_TurnsForward.l0
      repeat' first
      | (with_reducible exact ih0 _ _)
      | (with_reducible exact impl_IsWord.mono _ _)
      | (with_reducible exact LeO.refl _)
      | (with_reducible exact LeO.none _)
      | (with_reducible refine LeO.ite ?_ ?_)
      | (with_reducible refine LeO.bind ?_ (fun _ => ?_))
      | exact ih0 _ _
      | exact impl_IsWord.mono _ _
      | exact LeO.none _
      | refine LeO.ite ?_ ?_
      | refine LeO.bind ?_ (fun _ => ?_)
theorem impl_TurnsForward.mono : ∀ a0 k, LeO (impl_TurnsForward.f k a0) (impl_TurnsForward.f (k + 1) a0) := by
  intro a0 k
  have ih0 := impl_TurnsForward.mono_l k
  unfold impl_TurnsForward.f
  repeat' first
      | (with_reducible exact ih0 _ _)
      | (with_reducible exact impl_IsWord.mono _ _)
      | (with_reducible exact LeO.refl _)
      | (with_reducible exact LeO.none _)
      | (with_reducible refine LeO.ite ?_ ?_)
      | (with_reducible refine LeO.bind ?_ (fun _ => ?_))
      | exact ih0 _ _
      | exact impl_IsWord.mono _ _
      | exact LeO.none _
      | refine LeO.ite ?_ ?_
      | refine LeO.bind ?_ (fun _ => ?_)
set_option maxHeartbeats 8000000 in
set_option maxRecDepth 100000 in
theorem impl_TurnsForward.calls (k : Nat) (A0 : Option Addr) (c0 : Nat) (l0 : List Int) (r : Bool) (w : World) (hr0 : Kd.C (Kd.int .i64) w A0 l0.length l0) (hc0 : l0.length ≤ c0) (h : impl_TurnsForward.f k l0 = some r) :
    Calls Try.prog 78 #[.slice A0 l0.length c0] w fun e w' => e = .returned (.bool r) ∧ Drawn0 w w' := by
  have HR0 := Aside0.mk hr0
  have HC0 := Aside0.mk hc0
  clear hr0 hc0
  have H : ((impl_IsWord.f k l0).bind fun t79001 => (if t79001 = true then (impl_TurnsForward.l0 k l0 1) else (some false))) = some r := h
  clear h
  replace H := Option.bind_eq_some_iff.mp H
  obtain ⟨t79001, A20, H⟩ := H
  replace H : (if t79001 = true then (impl_TurnsForward.l0 k l0 1) else (some false)) = some r := H
  have A2 := Aside0.mk A20
  clear A20
  by_cases c3 : t79001 = true
  · subst c3
    have H1 : (impl_TurnsForward.l0 k l0 1) = some r := by rw [if_pos rfl] at H; exact H
    clear H
    have H := H1
    clear H1
    have H' := Aside0.mk H
    clear H
    go_enter Try.func78, Try.ntmps78
    go_wp2_with (first | (go_at_call 90; (with_reducible refine (impl_IsWord.calls k _ _ l0 true _ ?side1 ?side2 A2.out).mono ?_); (case side1 => repeat (first | exact HR0.out | (with_reducible refine Kd.C_alloc ?_ _) | (with_reducible refine Kd.C_drewN ?_ _) | (with_reducible refine Kd.C_drew ?_))); (case side2 => exact HC0.out); rintro e w' ⟨rfl, ⟨nd, rfl⟩⟩; (try first | exact ⟨rfl, _, World.drewN_drewN _ _ _⟩ | exact ⟨rfl, _, Eq.trans (World.drewN_drewN _ _ _) (congrArg (World.drewN _) (Nat.add_assoc _ _ _))⟩)))
    repeat (go_quiet (first | (go_at_call 90; (with_reducible refine (impl_IsWord.calls k _ _ l0 true _ ?side1 ?side2 A2.out).mono ?_); (case side1 => repeat (first | exact HR0.out | (with_reducible refine Kd.C_alloc ?_ _) | (with_reducible refine Kd.C_drewN ?_ _) | (with_reducible refine Kd.C_drew ?_))); (case side2 => exact HC0.out); rintro e w' ⟨rfl, ⟨nd, rfl⟩⟩; (try first | exact ⟨rfl, _, World.drewN_drewN _ _ _⟩ | exact ⟨rfl, _, Eq.trans (World.drewN_drewN _ _ _) (congrArg (World.drewN _) (Nat.add_assoc _ _ _))⟩))); try go_wp2_with (first | (go_at_call 90; (with_reducible refine (impl_IsWord.calls k _ _ l0 true _ ?side1 ?side2 A2.out).mono ?_); (case side1 => repeat (first | exact HR0.out | (with_reducible refine Kd.C_alloc ?_ _) | (with_reducible refine Kd.C_drewN ?_ _) | (with_reducible refine Kd.C_drew ?_))); (case side2 => exact HC0.out); rintro e w' ⟨rfl, ⟨nd, rfl⟩⟩; (try first | exact ⟨rfl, _, World.drewN_drewN _ _ _⟩ | exact ⟨rfl, _, Eq.trans (World.drewN_drewN _ _ _) (congrArg (World.drewN _) (Nat.add_assoc _ _ _))⟩))))
    go_loopg [3] k (fun kq v3 w' => ∃ (x3_1 : Int), v3 = .int .i64 x3_1 ∧ Aside0 (impl_TurnsForward.l0 kq l0 x3_1 = some r) ∧ Aside0 (kq ≤ k) ∧ Drawn0 w w')
    case atStart => exact ⟨(1), (by first | rfl | (simp; done) | (simp [*]; done)), H', ⟨Nat.le_refl _⟩, by repeat (first | exact Drawn0.refl _ | apply Drawn0.step)⟩
    case round =>
      clear H'
      try clear p2
      try clear c3
      obtain ⟨x3_1, rfl, HA, HK1, ⟨m1, rfl⟩⟩ := hrel
      cases gk with
      | zero => exact absurd HA.out (by simp [impl_TurnsForward.l0])
      | succ k1 =>
        have H := HA.out
        clear HA
        simp only [impl_TurnsForward.l0] at H
        by_cases c4 : x3_1 < (l0.length : Int)
        · rw [if_pos c4] at H
          have c4b0 : decide (x3_1 < (l0.length : Int)) = true := decide_eq_true c4
          clear c4
          by_cases c5 : 0 ≤ x3_1
          · rw [if_pos c5] at H
            have c5b0 : decide (0 ≤ x3_1) = true := decide_eq_true c5
            clear c5
            obtain ⟨ji6, hji6⟩ : ∃ j_ : Int, (wrap64 (x3_1 - 1)) = j_ := ⟨_, rfl⟩
            replace H : (if 0 ≤ (ji6) then (if (ji6) < (l0.length : Int) then (if (rd l0 x3_1) = (rd l0 (ji6)) then (impl_TurnsForward.l0 k1 l0 (wrap64 (x3_1 + 1))) else ((impl_TurnTrit.f (rd l0 (ji6))).bind fun t79006 => (some ((rd l0 x3_1) == t79006)))) else (none)) else (none)) = some r := by first | (rw [hji6] at H; exact H) | (simp only [hji6] at H ⊢; exact H)
            have hji6w : (IntKind.i64.wrap (x3_1 - 1)) = ji6 := (i64_w _).trans hji6
            by_cases c7 : 0 ≤ (ji6)
            · rw [if_pos c7] at H
              have c7b0 : decide (0 ≤ (ji6)) = true := decide_eq_true c7
              clear c7
              by_cases c8 : (ji6) < (l0.length : Int)
              · rw [if_pos c8] at H
                have c8b0 : decide ((ji6) < (l0.length : Int)) = true := decide_eq_true c8
                clear c8
                by_cases c9 : (rd l0 x3_1) = (rd l0 (ji6))
                · rw [if_pos c9] at H
                  have c9b0 : ((rd l0 x3_1) == (rd l0 (ji6))) = true := beq_iff_eq.mpr c9
                  have c9b1 : ((rd l0 x3_1) != (rd l0 (ji6))) = false := bne_eq_false_iff_eq.mpr c9
                  clear c9
                  have H' := Aside0.mk H
                  clear H
                  have p79002 : 0 ≤ (x3_1 : Int) := of_decide_eq_true (by first | (with_reducible assumption) | assumption)
                  have q79002 : x3_1 < (l0.length : Int) := of_decide_eq_true (by first | (with_reducible assumption) | assumption)
                  obtain ⟨ad79002, e79002, hx79002_0⟩ := Kd.at_int HR0.out x3_1 p79002 q79002
                  cases e79002
                  replace p79002 := eq_true p79002
                  replace q79002 := eq_true q79002
                  have p79003 : 0 ≤ ((ji6) : Int) := of_decide_eq_true (by first | (with_reducible assumption) | assumption)
                  have q79003 : (ji6) < (l0.length : Int) := of_decide_eq_true (by first | (with_reducible assumption) | assumption)
                  obtain ⟨ad79003, e79003, hx79003_0⟩ := Kd.at_int HR0.out (ji6) p79003 q79003
                  obtain rfl : ad79002 = ad79003 := (by injection e79003)
                  replace p79003 := eq_true p79003
                  replace q79003 := eq_true q79003
                  go_wp2
                  repeat (go_quiet (fail); try go_wp2)
                  go_roundg k1
                  case measure => have := HK1.out; omega
                  case rel => exact ⟨(wrap64 (x3_1 + 1)), (by first | rfl | (simp; done) | (simp [*]; done)), H', ⟨by have := HK1.out; omega⟩, by repeat (first | exact Drawn0.refl _ | apply Drawn0.step)⟩
                · rw [if_neg c9] at H
                  have c9b0 : ((rd l0 x3_1) == (rd l0 (ji6))) = false := beq_eq_false_iff_ne.mpr c9
                  have c9b1 : ((rd l0 x3_1) != (rd l0 (ji6))) = true := bne_iff_ne.mpr c9
                  replace H := Option.bind_eq_some_iff.mp H
                  obtain ⟨t79006, A100, H⟩ := H
                  replace H : (some ((rd l0 x3_1) == t79006)) = some r := H
                  have A10 := Aside0.mk A100
                  clear A100
                  obtain rfl := Option.some.inj H
                  have p79002 : 0 ≤ (x3_1 : Int) := of_decide_eq_true (by first | (with_reducible assumption) | assumption)
                  have q79002 : x3_1 < (l0.length : Int) := of_decide_eq_true (by first | (with_reducible assumption) | assumption)
                  obtain ⟨ad79002, e79002, hx79002_0⟩ := Kd.at_int HR0.out x3_1 p79002 q79002
                  cases e79002
                  replace p79002 := eq_true p79002
                  replace q79002 := eq_true q79002
                  have p79003 : 0 ≤ ((ji6) : Int) := of_decide_eq_true (by first | (with_reducible assumption) | assumption)
                  have q79003 : (ji6) < (l0.length : Int) := of_decide_eq_true (by first | (with_reducible assumption) | assumption)
                  obtain ⟨ad79003, e79003, hx79003_0⟩ := Kd.at_int HR0.out (ji6) p79003 q79003
                  obtain rfl : ad79002 = ad79003 := (by injection e79003)
                  replace p79003 := eq_true p79003
                  replace q79003 := eq_true q79003
                  have p79004 : 0 ≤ (x3_1 : Int) := of_decide_eq_true (by first | (with_reducible assumption) | assumption)
                  have q79004 : x3_1 < (l0.length : Int) := of_decide_eq_true (by first | (with_reducible assumption) | assumption)
                  obtain ⟨ad79004, e79004, hx79004_0⟩ := Kd.at_int HR0.out x3_1 p79004 q79004
                  obtain rfl : ad79002 = ad79004 := (by injection e79004)
                  replace p79004 := eq_true p79004
                  replace q79004 := eq_true q79004
                  have p79005 : 0 ≤ ((ji6) : Int) := of_decide_eq_true (by first | (with_reducible assumption) | assumption)
                  have q79005 : (ji6) < (l0.length : Int) := of_decide_eq_true (by first | (with_reducible assumption) | assumption)
                  obtain ⟨ad79005, e79005, hx79005_0⟩ := Kd.at_int HR0.out (ji6) p79005 q79005
                  obtain rfl : ad79002 = ad79005 := (by injection e79005)
                  replace p79005 := eq_true p79005
                  replace q79005 := eq_true q79005
                  go_wp2_with (first | (go_at_call 101; (with_reducible refine (impl_TurnTrit.calls (rd l0 (ji6)) t79006 _ A10.out).mono ?_); rintro e w' ⟨rfl, ⟨nd, rfl⟩⟩; (try first | exact ⟨rfl, _, World.drewN_drewN _ _ _⟩ | exact ⟨rfl, _, Eq.trans (World.drewN_drewN _ _ _) (congrArg (World.drewN _) (Nat.add_assoc _ _ _))⟩)))
                  repeat (go_quiet (first | (go_at_call 101; (with_reducible refine (impl_TurnTrit.calls (rd l0 (ji6)) t79006 _ A10.out).mono ?_); rintro e w' ⟨rfl, ⟨nd, rfl⟩⟩; (try first | exact ⟨rfl, _, World.drewN_drewN _ _ _⟩ | exact ⟨rfl, _, Eq.trans (World.drewN_drewN _ _ _) (congrArg (World.drewN _) (Nat.add_assoc _ _ _))⟩))); try go_wp2_with (first | (go_at_call 101; (with_reducible refine (impl_TurnTrit.calls (rd l0 (ji6)) t79006 _ A10.out).mono ?_); rintro e w' ⟨rfl, ⟨nd, rfl⟩⟩; (try first | exact ⟨rfl, _, World.drewN_drewN _ _ _⟩ | exact ⟨rfl, _, Eq.trans (World.drewN_drewN _ _ _) (congrArg (World.drewN _) (Nat.add_assoc _ _ _))⟩))))
                  go_ret
                  exact ⟨by first | rfl | (simp; done) | (simp only [← hji6] <;> (first | rfl | simp)) | (simp [*]; done), by repeat (first | exact Drawn0.refl _ | apply Drawn0.step)⟩
              · rw [if_neg c8] at H
                exact absurd H (by simp)
            · rw [if_neg c7] at H
              exact absurd H (by simp)
          · rw [if_neg c5] at H
            exact absurd H (by simp)
        · rw [if_neg c4] at H
          have c4b0 : decide (x3_1 < (l0.length : Int)) = false := decide_eq_false c4
          clear c4
          obtain rfl := Option.some.inj H
          go_wp2
          repeat (go_quiet (fail); try go_wp2)
          go_ret
          exact ⟨by first | rfl | (simp; done) | (simp [*]; done), by repeat (first | exact Drawn0.refl _ | apply Drawn0.step)⟩
  · replace c3 := Bool.eq_false_iff.mpr c3
    subst c3
    have H1 : (some false) = some r := by rw [if_neg (show ¬ (false = true) by decide)] at H; exact H
    clear H
    have H := H1
    clear H1
    obtain rfl := Option.some.inj H
    go_enter Try.func78, Try.ntmps78
    go_wp2_with (first | (go_at_call 90; (with_reducible refine (impl_IsWord.calls k _ _ l0 false _ ?side1 ?side2 A2.out).mono ?_); (case side1 => repeat (first | exact HR0.out | (with_reducible refine Kd.C_alloc ?_ _) | (with_reducible refine Kd.C_drewN ?_ _) | (with_reducible refine Kd.C_drew ?_))); (case side2 => exact HC0.out); rintro e w' ⟨rfl, ⟨nd, rfl⟩⟩; (try first | exact ⟨rfl, _, World.drewN_drewN _ _ _⟩ | exact ⟨rfl, _, Eq.trans (World.drewN_drewN _ _ _) (congrArg (World.drewN _) (Nat.add_assoc _ _ _))⟩)))
    repeat (go_quiet (first | (go_at_call 90; (with_reducible refine (impl_IsWord.calls k _ _ l0 false _ ?side1 ?side2 A2.out).mono ?_); (case side1 => repeat (first | exact HR0.out | (with_reducible refine Kd.C_alloc ?_ _) | (with_reducible refine Kd.C_drewN ?_ _) | (with_reducible refine Kd.C_drew ?_))); (case side2 => exact HC0.out); rintro e w' ⟨rfl, ⟨nd, rfl⟩⟩; (try first | exact ⟨rfl, _, World.drewN_drewN _ _ _⟩ | exact ⟨rfl, _, Eq.trans (World.drewN_drewN _ _ _) (congrArg (World.drewN _) (Nat.add_assoc _ _ _))⟩))); try go_wp2_with (first | (go_at_call 90; (with_reducible refine (impl_IsWord.calls k _ _ l0 false _ ?side1 ?side2 A2.out).mono ?_); (case side1 => repeat (first | exact HR0.out | (with_reducible refine Kd.C_alloc ?_ _) | (with_reducible refine Kd.C_drewN ?_ _) | (with_reducible refine Kd.C_drew ?_))); (case side2 => exact HC0.out); rintro e w' ⟨rfl, ⟨nd, rfl⟩⟩; (try first | exact ⟨rfl, _, World.drewN_drewN _ _ _⟩ | exact ⟨rfl, _, Eq.trans (World.drewN_drewN _ _ _) (congrArg (World.drewN _) (Nat.add_assoc _ _ _))⟩))))
    go_ret
    exact ⟨by first | rfl | (simp; done) | (simp [*]; done), by repeat (first | exact Drawn0.refl _ | apply Drawn0.step)⟩

end Go.Proofs.Ytgiehdhnhkmjfaa.X
-- Laid by xprint.py (wip/tools): printed contracts, and hand-written ones between them.
namespace Go.Proofs.Ytgiehdhnhkmjfaa.X
open Go.RowKit Go.Proofs.YtgiehdhnhkmjfaaW.PrintWords Go.Proofs.YtgiehdhnhkmjfaaW.PrintLast Go.Proofs.YtgiehdhnhkmjfaaW.PrintMore
attribute [local go_sem] max2_int min2_int max_two min_two max_three min_three max_four min_four   -- for this text's walks alone
set_option linter.unusedVariables false
set_option linter.unusedSimpArgs false

/-! ### slices_Equal_int_int: function 81 -/
def slices_Equal_int_int.l0 : Nat → List Int → List Int → Int → Int → Option (Bool)
  | 0, _, _, _, _ => none
  | k + 1, x0, x1, x12, x13 => if x13 < x12 then (if 0 ≤ x13 then (if x13 < (x0.length : Int) then (if x13 < (x1.length : Int) then (if (rd x0 x13) = (rd x1 x13) then (slices_Equal_int_int.l0 k x0 x1 x12 (wrap64 (x13 + 1))) else (some false)) else (none)) else (none)) else (none)) else (some true)
def slices_Equal_int_int.f (k : Nat) (l0 : List Int) (l1 : List Int) : Option (Bool) := if (l0.length : Int) = (l1.length : Int) then (slices_Equal_int_int.l0 k l0 l1 (l0.length : Int) 0) else (some false)
theorem slices_Equal_int_int.mono_l : ∀ k, (∀ y0 y1 y2 y3, LeO (slices_Equal_int_int.l0 k y0 y1 y2 y3) (slices_Equal_int_int.l0 (k + 1) y0 y1 y2 y3))
  | 0 => fun _ _ _ _ r h => by simp [slices_Equal_int_int.l0] at h
  | k + 1 => by
    have ih0 := slices_Equal_int_int.mono_l k
    · intro y0 y1 y2 y3
      unfold slices_Equal_int_int.l0
      repeat' first
      | (with_reducible exact ih0 _ _ _ _)
      | (with_reducible exact LeO.refl _)
      | (with_reducible exact LeO.none _)
      | (with_reducible refine LeO.ite ?_ ?_)
      | (with_reducible refine LeO.bind ?_ (fun _ => ?_))
      | exact ih0 _ _ _ _
      | exact LeO.none _
      | refine LeO.ite ?_ ?_
      | refine LeO.bind ?_ (fun _ => ?_)
theorem slices_Equal_int_int.mono : ∀ a0 a1 k, LeO (slices_Equal_int_int.f k a0 a1) (slices_Equal_int_int.f (k + 1) a0 a1) := by
  intro a0 a1 k
  have ih0 := slices_Equal_int_int.mono_l k
  unfold slices_Equal_int_int.f
  repeat' first
      | (with_reducible exact ih0 _ _ _ _)
      | (with_reducible exact LeO.refl _)
      | (with_reducible exact LeO.none _)
      | (with_reducible refine LeO.ite ?_ ?_)
      | (with_reducible refine LeO.bind ?_ (fun _ => ?_))
      | exact ih0 _ _ _ _
      | exact LeO.none _
      | refine LeO.ite ?_ ?_
      | refine LeO.bind ?_ (fun _ => ?_)
set_option maxHeartbeats 8000000 in
set_option maxRecDepth 100000 in
theorem slices_Equal_int_int.calls (k : Nat) (A0 : Option Addr) (c0 : Nat) (l0 : List Int) (A1 : Option Addr) (c1 : Nat) (l1 : List Int) (r : Bool) (w : World) (hr0 : Kd.C (Kd.int .i64) w A0 l0.length l0) (hc0 : l0.length ≤ c0) (hr1 : Kd.C (Kd.int .i64) w A1 l1.length l1) (hc1 : l1.length ≤ c1) (h : slices_Equal_int_int.f k l0 l1 = some r) :
    Calls Try.prog 81 #[.slice A0 l0.length c0, .slice A1 l1.length c1] w fun e w' => e = .returned (.bool r) ∧ Drawn0 w w' := by
  have HR0 := Aside0.mk hr0
  have HC0 := Aside0.mk hc0
  clear hr0 hc0
  have HR1 := Aside0.mk hr1
  have HC1 := Aside0.mk hc1
  clear hr1 hc1
  have H : (if (l0.length : Int) = (l1.length : Int) then (slices_Equal_int_int.l0 k l0 l1 (l0.length : Int) 0) else (some false)) = some r := h
  clear h
  by_cases c3 : (l0.length : Int) = (l1.length : Int)
  · rw [if_pos c3] at H
    have c3b0 : ((l0.length : Int) == (l1.length : Int)) = true := beq_iff_eq.mpr c3
    have c3b1 : ((l0.length : Int) != (l1.length : Int)) = false := bne_eq_false_iff_eq.mpr c3
    have c3b2 : (l0.length == l1.length) = true := by first | simpa using c3 | (simp at c3 ⊢; omega)
    clear c3
    have H' := Aside0.mk H
    clear H
    go_enter Try.func81, Try.ntmps81
    go_wp2
    repeat (go_quiet (fail); try go_wp2)
    go_loopg [13] k (fun kq v13 w' => ∃ (x13_1 : Int), v13 = .int .i64 x13_1 ∧ Aside0 (slices_Equal_int_int.l0 kq l0 l1 (l0.length : Int) x13_1 = some r) ∧ Aside0 (kq ≤ k) ∧ Drawn0 w w')
    case atStart => exact ⟨(0), (by first | rfl | (simp; done) | (simp [*]; done)), H', ⟨Nat.le_refl _⟩, by repeat (first | exact Drawn0.refl _ | apply Drawn0.step)⟩
    case round =>
      clear H'
      try clear c1
      try clear p2
      try clear c3
      try clear c3b0
      try clear c3b1
      try clear c3b2
      obtain ⟨x13_1, rfl, HA, HK1, ⟨m1, rfl⟩⟩ := hrel
      cases gk with
      | zero => exact absurd HA.out (by simp [slices_Equal_int_int.l0])
      | succ k1 =>
        have H := HA.out
        clear HA
        simp only [slices_Equal_int_int.l0] at H
        by_cases c4 : x13_1 < (l0.length : Int)
        · rw [if_pos c4] at H
          have c4b0 : decide (x13_1 < (l0.length : Int)) = true := decide_eq_true c4
          clear c4
          by_cases c5 : 0 ≤ x13_1
          · rw [if_pos c5] at H
            have c5b0 : decide (0 ≤ x13_1) = true := decide_eq_true c5
            clear c5
            by_cases c6 : x13_1 < (l0.length : Int)
            · rw [if_pos c6] at H
              have c6b0 : decide (x13_1 < (l0.length : Int)) = true := decide_eq_true c6
              clear c6
              by_cases c7 : x13_1 < (l1.length : Int)
              · rw [if_pos c7] at H
                have c7b0 : decide (x13_1 < (l1.length : Int)) = true := decide_eq_true c7
                clear c7
                by_cases c8 : (rd l0 x13_1) = (rd l1 x13_1)
                · rw [if_pos c8] at H
                  have c8b0 : ((rd l0 x13_1) == (rd l1 x13_1)) = true := beq_iff_eq.mpr c8
                  have c8b1 : ((rd l0 x13_1) != (rd l1 x13_1)) = false := bne_eq_false_iff_eq.mpr c8
                  clear c8
                  have H' := Aside0.mk H
                  clear H
                  have p82001 : 0 ≤ (x13_1 : Int) := of_decide_eq_true (by first | (with_reducible assumption) | assumption)
                  have q82001 : x13_1 < (l0.length : Int) := of_decide_eq_true (by first | (with_reducible assumption) | assumption)
                  obtain ⟨ad82001, e82001, hx82001_0⟩ := Kd.at_int HR0.out x13_1 p82001 q82001
                  cases e82001
                  replace p82001 := eq_true p82001
                  replace q82001 := eq_true q82001
                  have p82002 : 0 ≤ (x13_1 : Int) := of_decide_eq_true (by first | (with_reducible assumption) | assumption)
                  have q82002 : x13_1 < (l1.length : Int) := of_decide_eq_true (by first | (with_reducible assumption) | assumption)
                  obtain ⟨ad82002, e82002, hx82002_0⟩ := Kd.at_int HR1.out x13_1 p82002 q82002
                  cases e82002
                  replace p82002 := eq_true p82002
                  replace q82002 := eq_true q82002
                  go_wp2
                  repeat (go_quiet (fail); try go_wp2)
                  go_roundg k1
                  case measure => have := HK1.out; omega
                  case rel => exact ⟨(wrap64 (x13_1 + 1)), (by first | rfl | (simp; done) | (simp [*]; done)), H', ⟨by have := HK1.out; omega⟩, by repeat (first | exact Drawn0.refl _ | apply Drawn0.step)⟩
                · rw [if_neg c8] at H
                  have c8b0 : ((rd l0 x13_1) == (rd l1 x13_1)) = false := beq_eq_false_iff_ne.mpr c8
                  have c8b1 : ((rd l0 x13_1) != (rd l1 x13_1)) = true := bne_iff_ne.mpr c8
                  obtain rfl := Option.some.inj H
                  have p82001 : 0 ≤ (x13_1 : Int) := of_decide_eq_true (by first | (with_reducible assumption) | assumption)
                  have q82001 : x13_1 < (l0.length : Int) := of_decide_eq_true (by first | (with_reducible assumption) | assumption)
                  obtain ⟨ad82001, e82001, hx82001_0⟩ := Kd.at_int HR0.out x13_1 p82001 q82001
                  cases e82001
                  replace p82001 := eq_true p82001
                  replace q82001 := eq_true q82001
                  have p82002 : 0 ≤ (x13_1 : Int) := of_decide_eq_true (by first | (with_reducible assumption) | assumption)
                  have q82002 : x13_1 < (l1.length : Int) := of_decide_eq_true (by first | (with_reducible assumption) | assumption)
                  obtain ⟨ad82002, e82002, hx82002_0⟩ := Kd.at_int HR1.out x13_1 p82002 q82002
                  cases e82002
                  replace p82002 := eq_true p82002
                  replace q82002 := eq_true q82002
                  go_wp2
                  repeat (go_quiet (fail); try go_wp2)
                  go_ret
                  exact ⟨by first | rfl | (simp; done) | (simp [*]; done), by repeat (first | exact Drawn0.refl _ | apply Drawn0.step)⟩
              · rw [if_neg c7] at H
                exact absurd H (by simp)
            · rw [if_neg c6] at H
              exact absurd H (by simp)
          · rw [if_neg c5] at H
            exact absurd H (by simp)
        · rw [if_neg c4] at H
          have c4b0 : decide (x13_1 < (l0.length : Int)) = false := decide_eq_false c4
          clear c4
          obtain rfl := Option.some.inj H
          go_wp2
          repeat (go_quiet (fail); try go_wp2)
          go_ret
          exact ⟨by first | rfl | (simp; done) | (simp [*]; done), by repeat (first | exact Drawn0.refl _ | apply Drawn0.step)⟩
  · rw [if_neg c3] at H
    have c3b0 : ((l0.length : Int) == (l1.length : Int)) = false := beq_eq_false_iff_ne.mpr c3
    have c3b1 : ((l0.length : Int) != (l1.length : Int)) = true := bne_iff_ne.mpr c3
    have c3b2 : (l0.length == l1.length) = false := by first | simpa using c3 | (simp at c3 ⊢; omega)
    obtain rfl := Option.some.inj H
    go_enter Try.func81, Try.ntmps81
    go_wp2
    repeat (go_quiet (fail); try go_wp2)
    go_ret
    exact ⟨by first | rfl | (simp; done) | (simp [*]; done), by repeat (first | exact Drawn0.refl _ | apply Drawn0.step)⟩

end Go.Proofs.Ytgiehdhnhkmjfaa.X
-- Laid by xprint.py (wip/tools): printed contracts, and hand-written ones between them.
namespace Go.Proofs.Ytgiehdhnhkmjfaa.X
open Go.RowKit Go.Proofs.YtgiehdhnhkmjfaaW.PrintWords Go.Proofs.YtgiehdhnhkmjfaaW.PrintLast Go.Proofs.YtgiehdhnhkmjfaaW.PrintMore
attribute [local go_sem] max2_int min2_int max_two min_two max_three min_three max_four min_four   -- for this text's walks alone
set_option linter.unusedVariables false
set_option linter.unusedSimpArgs false

/-! ### impl_turned: function 82 -/
def impl_turned.l0 : Nat → List Int → List Int → Int → Int → Option (List Int)
  | 0, _, _, _, _ => none
  | k + 1, x3, x7, x8, x9 => if x9 < x8 then (if 0 ≤ x9 then (if x9 < (x7.length : Int) then ((impl_TurnTrit.f (rd x7 x9)).bind fun t83005 => (if x3.length < 17592186044416 then (impl_turned.l0 k (x3 ++ [t83005]) x7 x8 (wrap64 (x9 + 1))) else (none))) else (none)) else (none)) else (some x3)
def impl_turned.f (k : Nat) (l0 : List Int) : Option (List Int) := impl_turned.l0 k (([] : List Int)) l0 (l0.length : Int) 0
theorem impl_turned.mono_l : ∀ k, (∀ y0 y1 y2 y3, LeO (impl_turned.l0 k y0 y1 y2 y3) (impl_turned.l0 (k + 1) y0 y1 y2 y3))
  | 0 => fun _ _ _ _ r h => by simp [impl_turned.l0] at h
  | k + 1 => by
    have ih0 := impl_turned.mono_l k
    · intro y0 y1 y2 y3
      unfold impl_turned.l0
      repeat' first
      | (with_reducible exact ih0 _ _ _ _)
      | (with_reducible exact LeO.refl _)
      | (with_reducible exact LeO.none _)
      | (with_reducible refine LeO.ite ?_ ?_)
      | (with_reducible refine LeO.bind ?_ (fun _ => ?_))
      | exact ih0 _ _ _ _
      | exact LeO.none _
      | refine LeO.ite ?_ ?_
      | refine LeO.bind ?_ (fun _ => ?_)
theorem impl_turned.mono : ∀ a0 k, LeO (impl_turned.f k a0) (impl_turned.f (k + 1) a0) := by
  intro a0 k
  have ih0 := impl_turned.mono_l k
  unfold impl_turned.f
  repeat' first
      | (with_reducible exact ih0 _ _ _ _)
      | (with_reducible exact LeO.refl _)
      | (with_reducible exact LeO.none _)
      | (with_reducible refine LeO.ite ?_ ?_)
      | (with_reducible refine LeO.bind ?_ (fun _ => ?_))
      | exact ih0 _ _ _ _
      | exact LeO.none _
      | refine LeO.ite ?_ ?_
      | refine LeO.bind ?_ (fun _ => ?_)
set_option maxHeartbeats 8000000 in
set_option maxRecDepth 100000 in
theorem impl_turned.calls (k : Nat) (A0 : Option Addr) (c0 : Nat) (l0 : List Int) (r : List Int) (w : World) (hr0 : Kd.C (Kd.int .i64) w A0 l0.length l0) (hc0 : l0.length ≤ c0) (h : impl_turned.f k l0 = some r) :
    Calls Try.prog 82 #[.slice A0 l0.length c0] w fun e w' => ∃ v0_ : Value, e = .returned (v0_) ∧ Kd.R (Kd.int .i64) 3 w' w.heap.size (fun _ => True) v0_ r ∧ Below w.heap.size w w' := by
  have HR0 := Aside0.mk hr0
  have HC0 := Aside0.mk hc0
  clear hr0 hc0
  have HB := Aside0.mk (Below.refl w.heap.size w)
  have H : (impl_turned.l0 k (([] : List Int)) l0 (l0.length : Int) 0) = some r := h
  clear h
  obtain ⟨y83001, hy83001⟩ : ∃ y_ : List Int, y_ = (([] : List Int)) := ⟨_, rfl⟩
  replace H : (impl_turned.l0 k y83001 l0 (l0.length : Int) 0) = some r := by first | (rw [hy83001]; with_reducible exact H) | (have H2_ := (Option.bind_some _ _).symm.trans H; rw [hy83001]; with_reducible exact H2_) | (have H2_ := (Option.bind_some _ _).symm.trans H; with_reducible exact H2_) | with_reducible exact H | (rw [hy83001]; exact H) | exact H
  have Ny83001 := Aside0.mk hy83001
  clear hy83001
  have H' := Aside0.mk H
  clear H
  go_enter Try.func82, Try.ntmps82
  go_wp2_with (first | ((with_reducible refine gate_dst (N := 6) rfl ?_); refine Kd.R_lit (Kd.int .i64) _ 3 ?hg (N := 6) ?hd (xs := ([] : List Int)) (inner := []) (ok := fun _ => True) (okp := fun _ => True) ?hr ?hp (fun _ hk => hk) trivial (Below.refl _ _) (Nat.le_refl _) (by simp) ?_; (case hd => rfl); (case hg => rfl); (case hr => first | (go_simp; done) | (go_simp; rfl)); (case hp => exact (Reps.none _ _)); intro v83002 w2 ho3 hb hg_ hnew_; clear hg_ hnew_; (first | rw [← Ny83001.out] at ho3 | (simp only [Int.reduceToNat] at ho3; rw [← Ny83001.out] at ho3)); have n0_ := Aside0.mk (Kd.R_lower ho3 (below_size (by repeat (first | (with_reducible first | exact HB.out | apply below_alloc | apply pw_below_drewN | apply below_drew1) | exact HB.out)))); have n1_ := Aside0.mk (below_step (by repeat (first | (with_reducible first | exact HB.out | apply below_alloc | apply pw_below_drewN | apply below_drew1) | exact HB.out)) hb); clear HB; have HO83003 := n0_; have HB := n1_; clear n0_ n1_; clear hb ho3))
  go_loopg [3, 9] k (fun kq v3 v9 w' => ∃ (x3_1 : List Int) (x9_1 : Int), v9 = .int .i64 x9_1 ∧ Aside0 (impl_turned.l0 kq x3_1 l0 (l0.length : Int) x9_1 = some r) ∧ Aside0 (kq ≤ k) ∧ Aside0 (Kd.R (Kd.int .i64) 3 w' w.heap.size (fun _ => True) v3 x3_1) ∧ Aside0 (Below w.heap.size w w'))
  case atStart => exact ⟨(y83001), (0), (by first | rfl | (simp; done) | (simp [*]; done)), H', ⟨Nat.le_refl _⟩, ⟨by (with_reducible repeat (first | apply Kd.R_alloc | apply Kd.R_drewN | apply Kd.R_drew)); exact HO83003.out⟩, ⟨by repeat (first | (with_reducible first | exact HB.out | apply below_alloc | apply pw_below_drewN | apply below_drew1) | exact HB.out)⟩⟩
  case round =>
    clear H'
    try clear p2
    obtain ⟨x3_1, x9_1, rfl, HA, HK1, HO_3, HB⟩ := hrel
    cases gk with
    | zero => exact absurd HA.out (by simp [impl_turned.l0])
    | succ k1 =>
      have H := HA.out
      clear HA
      simp only [impl_turned.l0] at H
      by_cases c4 : x9_1 < (l0.length : Int)
      · rw [if_pos c4] at H
        have c4b0 : decide (x9_1 < (l0.length : Int)) = true := decide_eq_true c4
        clear c4
        by_cases c5 : 0 ≤ x9_1
        · rw [if_pos c5] at H
          have c5b0 : decide (0 ≤ x9_1) = true := decide_eq_true c5
          clear c5
          by_cases c6 : x9_1 < (l0.length : Int)
          · rw [if_pos c6] at H
            have c6b0 : decide (x9_1 < (l0.length : Int)) = true := decide_eq_true c6
            clear c6
            replace H := Option.bind_eq_some_iff.mp H
            obtain ⟨t83005, A70, H⟩ := H
            replace H : (if x3_1.length < 17592186044416 then (impl_turned.l0 k1 (x3_1 ++ [t83005]) l0 (l0.length : Int) (wrap64 (x9_1 + 1))) else (none)) = some r := H
            have A7 := Aside0.mk A70
            clear A70
            by_cases c8 : x3_1.length < 17592186044416
            · rw [if_pos c8] at H
              have LMc8 := Aside0.mk c8
              clear c8
              obtain ⟨y83006, hy83006⟩ : ∃ y_ : List Int, y_ = (x3_1 ++ [t83005]) := ⟨_, rfl⟩
              replace H : (impl_turned.l0 k1 y83006 l0 (l0.length : Int) (wrap64 (x9_1 + 1))) = some r := by first | (rw [hy83006]; with_reducible exact H) | (have H2_ := (Option.bind_some _ _).symm.trans H; rw [hy83006]; with_reducible exact H2_) | (have H2_ := (Option.bind_some _ _).symm.trans H; with_reducible exact H2_) | with_reducible exact H | (rw [hy83006]; exact H) | exact H
              have Ny83006 := Aside0.mk hy83006
              clear hy83006
              have H' := Aside0.mk H
              clear H
              have p83004 : 0 ≤ (x9_1 : Int) := of_decide_eq_true (by first | (with_reducible assumption) | assumption)
              have q83004 : x9_1 < (l0.length : Int) := of_decide_eq_true (by first | (with_reducible assumption) | assumption)
              obtain ⟨ad83004, e83004, hx83004_0⟩ := Kd.at_int HR0.out x9_1 p83004 q83004
              cases e83004
              replace hx83004_0 := (HB.out.cell (World.block_lt_of_cell? w _ hx83004_0)).trans hx83004_0
              replace p83004 := eq_true p83004
              replace q83004 := eq_true q83004
              go_wp2_with (first | ((with_reducible refine gate_callee (f := 101) rfl ?_); refine goesL_ (some 15) rfl rfl Try.func101 (by kernel_rfl) rfl #[.int .i64 (rd l0 x9_1)] rfl (by (try simp only [List.map_toArray, List.map_cons, List.map_nil]); first | done | rfl | (simp only [List.length_drop, List.length_take]; rfl)) ?_; (with_reducible refine (impl_TurnTrit.calls (rd l0 x9_1) t83005 _ A7.out).mono ?_); rintro e w' ⟨rfl, ⟨nd, rfl⟩⟩; refine ⟨_, rfl, ?_⟩) | ((with_reducible refine gate_builtin (b := .append) (xs := #[.tmp 13, .tmp 16]) rfl ?_); at_builtin; refine Kd.R_append (Kd.int .i64) (w0 := w) w.heap.size rfl (.tmp 13) (.tmp 16) 47 3 (.int .i64 0) 8 rfl Try.underlying47 info3 rfl (by decide) (by omega) u3 x3_1 t83005 [.int .i64 t83005] (fun _ => True) (fun _ => False) rfl rfl ?aP (fun _ hk => hk.elim) ?aF ?aO ?aB ?aS ?aL ?_; (case aP => exact rfl); (case aB => exact (by repeat (first | (with_reducible first | exact HB.out | apply below_alloc | apply pw_below_drewN | apply below_drew1) | exact HB.out))); (case aF => exact (fun _ _ => trivial)); (case aO => exact (by (with_reducible repeat (first | apply Kd.R_alloc | apply Kd.R_drewN | apply Kd.R_drew)); exact HO_3.out)); (case aS => exact (below_size (by repeat (first | (with_reducible first | exact HB.out | apply below_alloc | apply pw_below_drewN | apply below_drew1) | exact HB.out)))); (case aL => have := LMc8.out; omega); intro v83007 w9 ho hb hg hat; rw [← Ny83006.out] at ho; have n0_ := Aside0.mk (hb); have n1_ := Aside0.mk (ho); clear HB; clear HO_3; have HB := n0_; have HO83008 := n1_; clear n0_ n1_; clear ho hb hg hat))
              go_roundg k1
              case measure => have := HK1.out; omega
              case rel => exact ⟨(y83006), (wrap64 (x9_1 + 1)), (by first | rfl | (simp; done) | (simp [*]; done)), H', ⟨by have := HK1.out; omega⟩, ⟨by (with_reducible repeat (first | apply Kd.R_alloc | apply Kd.R_drewN | apply Kd.R_drew)); exact HO83008.out⟩, ⟨by repeat (first | (with_reducible first | exact HB.out | apply below_alloc | apply pw_below_drewN | apply below_drew1) | exact HB.out)⟩⟩
            · rw [if_neg c8] at H
              exact absurd H (by simp)
          · rw [if_neg c6] at H
            exact absurd H (by simp)
        · rw [if_neg c5] at H
          exact absurd H (by simp)
      · rw [if_neg c4] at H
        have c4b0 : decide (x9_1 < (l0.length : Int)) = false := decide_eq_false c4
        clear c4
        obtain rfl := Option.some.inj H
        go_wp2
        go_ret
        exact ⟨_, by first | rfl | (simp [errW_none, errW_some] <;> rfl) | (simp [*, errW_none, errW_some] <;> rfl), by (with_reducible repeat (first | apply Kd.R_alloc | apply Kd.R_drewN | apply Kd.R_drew)); exact HO_3.out, by repeat (first | (with_reducible first | exact HB.out | apply below_alloc | apply pw_below_drewN | apply below_drew1) | exact HB.out)⟩

end Go.Proofs.Ytgiehdhnhkmjfaa.X
-- Laid by xprint.py (wip/tools): printed contracts, and hand-written ones between them.
namespace Go.Proofs.Ytgiehdhnhkmjfaa.X
open Go.RowKit Go.Proofs.YtgiehdhnhkmjfaaW.PrintWords Go.Proofs.YtgiehdhnhkmjfaaW.PrintLast Go.Proofs.YtgiehdhnhkmjfaaW.PrintMore
attribute [local go_sem] max2_int min2_int max_two min_two max_three min_three max_four min_four   -- for this text's walks alone
set_option linter.unusedVariables false
set_option linter.unusedSimpArgs false

/-! ### impl_CoinWords: function 33 -/
theorem equal_l (xs ys : List Int) (hl : xs.length = ys.length) (hx : xs.length ≤ 9000000000000000000) (d : Nat) : ∀ (k i : Nat), i ≤ xs.length → xs.length - i = d → d < k → slices_Equal_int_int.l0 k xs ys (xs.length : Int) (i : Int) = some (decide (xs.drop i = ys.drop i)) := by
  induction d with
  | zero =>
    intro k i h1 h2 hk
    obtain ⟨k, rfl⟩ : ∃ m, k = m + 1 := ⟨k - 1, by omega⟩
    simp only [slices_Equal_int_int.l0]
    rw [if_neg (by omega), List.drop_of_length_le (by omega), List.drop_of_length_le (by omega), decide_eq_true rfl]
  | succ d ih =>
    intro k i h1 h2 hk
    obtain ⟨k, rfl⟩ : ∃ m, k = m + 1 := ⟨k - 1, by omega⟩
    have hi : i < xs.length := by omega
    have hi2 : i < ys.length := by omega
    have e1 : rd xs (i : Int) = xs[i] := by simp [rd, List.getElem?_eq_getElem hi]
    have e2 : rd ys (i : Int) = ys[i] := by simp [rd, List.getElem?_eq_getElem hi2]
    simp only [slices_Equal_int_int.l0]
    rw [if_pos (by omega), if_pos (by omega), if_pos (by omega), if_pos (by omega), e1, e2, List.drop_eq_getElem_cons hi, List.drop_eq_getElem_cons hi2]
    by_cases c : xs[i] = ys[i]
    · rw [if_pos c, show wrap64 ((i : Int) + 1) = ((i + 1 : Nat) : Int) by unfold wrap64; omega, ih k (i + 1) (by omega) (by omega) (by omega)]
      exact congrArg some (decide_eq_decide.2 ⟨fun h => by rw [c, h], fun h => (List.cons.inj h).2⟩)
    · rw [if_neg c, decide_eq_false (fun h => c (List.cons.inj h).1)]
theorem equal_tells (xs ys : List Int) (hx : xs.length ≤ 9000000000000000000) (k : Nat) (hk : xs.length < k) : slices_Equal_int_int.f k xs ys = some (decide (xs = ys)) := by
  unfold slices_Equal_int_int.f
  by_cases h : xs.length = ys.length
  · rw [if_pos (by omega)]
    have := equal_l xs ys h hx xs.length k 0 (Nat.zero_le _) rfl hk
    rw [List.drop_zero, List.drop_zero] at this
    exact this
  · rw [if_neg (by omega), decide_eq_false (fun e => h (by rw [e]))]
theorem impl_CoinWords_1.calls (B : Nat) (A0 : Option Addr) (c0 : Nat) (l0 : List Int) (A1 : Option Addr) (c1 : Nat) (y : List Int) (w : World) (hr0 : Kd.C (Kd.int .i64) w A0 l0.length l0) (hc0 : l0.length ≤ c0)
    (hr1 : Kd.C (Kd.int .i64) w A1 y.length y) (hc1 : y.length ≤ c1) (hy : y.length ≤ 1000000) (hB : w.cell? ⟨B, 0, none⟩ = some (.slice A0 l0.length c0)) :
    Calls Try.prog 80 #[.slice A1 y.length c1, .pointer (some ⟨B, 0, none⟩)] w fun e w' => e = .returned (.bool (decide (y = l0))) ∧ ∃ q, w' = w.drewN q := by
  have hcall := slices_Equal_int_int.calls (y.length + 1) A1 c1 y A0 c0 l0 (decide (y = l0)) w hr1 hc1 hr0 hc0 (equal_tells y l0 (by omega) _ (by omega))
  obtain ⟨b, hb⟩ : ∃ b, decide (y = l0) = b := ⟨_, rfl⟩
  rw [hb] at hcall ⊢
  clear hb hr0 hr1
  go_enter Try.func80, Try.ntmps80
  go_wp2_with (go_at_call 81; refine hcall.mono ?_; rintro e w' ⟨rfl, ⟨q, rfl⟩⟩)
  go_ret
  exact ⟨rfl, _, rfl⟩
theorem coin_h1 {e : Nat} {W0 w2 w3 w4 : World} {base : Nat} {ok : Nat → Prop} {x : Value} {l : List Int} {o : Obj} (h : Kd.R (Kd.int .i64) e W0 base ok x l) (h2 : Below W0.heap.size W0 w2) (h3 : Below w2.heap.size w2 w3) (h4 : Below w3.heap.size w3 w4) : (Kd.slice e (Kd.int .i64)).M (w4.alloc o) base ok l [x] :=
  ⟨x, rfl, Kd.R_alloc (Kd.R_below (Kd.R_below (Kd.R_below h h2) h3) h4) o⟩
theorem coin_h2 {e : Nat} {w W0 w2 w3 w4 : World} {x : Value} {l : List Int} {o : Obj} (hb : Below w.heap.size w W0) (h : Kd.R (Kd.int .i64) e w2 W0.heap.size (fun _ => True) x l) (h3 : Below w2.heap.size w2 w3) (h4 : Below w3.heap.size w3 w4) : (Kd.slice e (Kd.int .i64)).M (w4.alloc o) w.heap.size (fun k_ => W0.heap.size ≤ k_ ∧ k_ < w2.heap.size) l [x] :=
  ⟨x, rfl, Kd.R_alloc (Kd.R_below (Kd.R_below (Kd.R_lower (Kd.R_mono (Kd.R_bound h) (fun k_ hk => ⟨hk.2.1, hk.2.2.1⟩)) hb.size) h3) h4) o⟩
theorem coin_h3 {e : Nat} {w w3 w4 : World} {x : Value} {l : List Int} {o : Obj} (hb : Below w.heap.size w w3) (h : Kd.R (Kd.int .i64) e w4 w3.heap.size (fun _ => True) x l) : (Kd.slice e (Kd.int .i64)).M (w4.alloc o) w.heap.size (fun k_ => w3.heap.size ≤ k_ ∧ k_ < w4.heap.size) l [x] :=
  ⟨x, rfl, Kd.R_alloc (Kd.R_lower (Kd.R_mono (Kd.R_bound h) (fun k_ hk => ⟨hk.2.1, hk.2.2.1⟩)) hb.size) o⟩
theorem coin_k {α : Type} {d : Kd α} {e : Nat} {W0 : World} {base N : Nat} {x : Value} {xs : List α} (h : Kd.S d e W0 base (fun k_ => True ∧ k_ < N) x xs) {k : Nat} (hk : N ≤ k) : some k ≠ x.ownBlock := fun e => by
  have := ((Kd.S_R h).1 k e.symm).2
  omega
theorem coin_S {α : Type} {d : Kd α} {e : Nat} {W0 w2 w3 w4 : World} {base N : Nat} {ok1 ok2 ok3 : Nat → Prop} {x : Value} {xs : List α} {o : Obj} (h : Kd.S d e W0 base (fun k_ => True ∧ k_ < N) x xs) (h2 : Below W0.heap.size W0 w2) (h3 : Below w2.heap.size w2 w3) (h4 : Below w3.heap.size w3 w4) (hn : ∀ k, k < N → ¬ ok1 k ∧ ¬ ok2 k ∧ ¬ ok3 k) : Kd.S d e (w4.alloc o) base (fun k => True ∧ ¬ ok1 k ∧ ¬ ok2 k ∧ ¬ ok3 k) x xs :=
  Kd.S_alloc (Kd.S_below (Kd.S_below (Kd.S_below (Kd.S_mono h (fun k hk => ⟨trivial, hn k hk.2⟩)) h2) h3) h4) o
theorem coin_append {ops : Array Oper} {o : Oper} {a : Act} {Q : Exit → Act → World → Prop} {Kc : Act → World → Prop} {w wr W0 w2 w3 w4 : World} {B : Nat} {A Aw Ax Ay : Option Addr} {c cw cx cy : Nat} {out : List (List Int)} {l u v : List Int}
    (HB0 : Below w.heap.size w W0) (HS0 : Kd.S (Kd.slice 3 (Kd.int .i64)) 47 W0 w.heap.size (fun k_ => True ∧ k_ < wr.heap.size) (.slice A out.length c) out)
    (HR0 : Kd.R (Kd.int .i64) 3 W0 w.heap.size (fun k_ => wr.heap.size ≤ k_ ∧ k_ < B) (.slice Aw l.length cw) l) (hR2 : Kd.R (Kd.int .i64) 3 w2 W0.heap.size (fun _ => True) (.slice Ax u.length cx) u) (hR4 : Kd.R (Kd.int .i64) 3 w4 w3.heap.size (fun _ => True) (.slice Ay v.length cy) v)
    (hB2 : Below W0.heap.size W0 w2) (hB3 : Below w2.heap.size w2 w3) (hB4 : Below w3.heap.size w3 w4) (HSZ : wr.heap.size ≤ B ∧ B + 1 = W0.heap.size) (HBIG : out.length < 1000000)
    (hw : Region.wanted o (yielded ops a.tmps) = true) (ho : o.op = .call { callee := .builtin .append, args := #[.tmp 61, .tmp 68], argTypes := #[22, 22] }) (hs : a.eval (.tmp 61) = .slice A out.length c) (hx : a.eval (.tmp 68) = .slice (some ⟨w4.heap.size, 0, none⟩) 3 3)
    (hbx : W0.cell? ⟨B, 0, none⟩ = some (.slice Aw l.length cw)) (h : ∀ v1 w1, Kd.S (Kd.slice 3 (Kd.int .i64)) 47 w1 w.heap.size (fun _ => True) v1 (out ++ [l, u, v]) → Below w.heap.size w w1 → w1.cell? ⟨B, 0, none⟩ = some (.slice Aw l.length cw) → Kc (a.put o.dst v1) w1) :
    if Region.wanted o (yielded ops a.tmps) = true then Oper.wp Try.prog o a (w4.alloc (.cells #[.slice Aw l.length cw, .slice Ax u.length cx, .slice Ay v.length cy] 47)) Kc Q else Kc (a.put o.dst undef) (w4.alloc (.cells #[.slice Aw l.length cw, .slice Ax u.length cx, .slice Ay v.length cy] 47)) := by
  have hsz1 := HSZ.1
  have z2 := hB2.size
  have z3 := hB3.size
  have z4 := hB4.size
  have z0 := HB0.size
  have b3 : Below w.heap.size w w3 := below_then (below_then HB0 z0 hB2) (Nat.le_trans z0 z2) hB3
  have b4 : Below w.heap.size w w4 := below_then b3 (by omega) hB4
  exact S_append3_step (Kd.slice 3 (Kd.int .i64)) rfl (w0 := w) w.heap.size hw (.tmp 61) (.tmp 68) 22 47 (.slice none 0 0) 24 ho Try.underlying22 info47 rfl (by decide) (.slice A out.length c) out l u v w4.heap.size 47 (.slice Aw l.length cw) (.slice Ax u.length cx) (.slice Ay v.length cy) (fun _ => True) (fun k_ => wr.heap.size ≤ k_ ∧ k_ < B) (fun k_ => W0.heap.size ≤ k_ ∧ k_ < w2.heap.size) (fun k_ => w3.heap.size ≤ k_ ∧ k_ < w4.heap.size) hs hx (blk_new w4 _) (coin_h1 HR0 hB2 hB3 hB4) (coin_h2 HB0 hR2 hB3 hB4) (coin_h3 b3 hR4)
    (fun k_ hk => ⟨trivial, coin_k HS0 hk.1⟩) (fun k_ hk => ⟨trivial, coin_k HS0 (by omega)⟩) (fun k_ hk => ⟨trivial, coin_k HS0 (by omega)⟩) (fun k_ h1 h2 => by omega) (fun k_ h1 h2 => by omega) (fun k_ h1 h2 => by omega) (fun _ _ => trivial) (coin_S HS0 hB2 hB3 hB4 (fun k_ hk => ⟨by omega, by omega, by omega⟩)) (below_alloc b4 _) (by simp; omega) (by omega) (fun v1 w1 hs hb hgr => h v1 w1 hs hb (by
      have e : (w4.alloc (.cells #[.slice Aw l.length cw, .slice Ax u.length cx, .slice Ay v.length cy] 47)).cell? ⟨B, 0, none⟩ = some (.slice Aw l.length cw) := pw_cell_below (below_alloc (Below.refl _ _) _) (pw_cell_below hB4 (pw_cell_below hB3 (pw_cell_below hB2 hbx)))
      exact (hgr.cell_far (a := ⟨B, 0, none⟩) (World.block_lt_of_cell? _ _ e) (coin_k HS0 hsz1)).trans e))
def impl_CoinWords.l0 : Nat → Int → Int → List (List Int) → Int → Option (List (List Int) × Bool)
  | 0, _, _, _, _ => none
  | k + 1, a0, a1, out, n => (impl_LimitOf.f k a1).bind fun t => if n ≤ t then (if (out.length : Int) < a0 then ((impl_WordOf.f k n a1).bind fun bt => if bt.1.length ≤ 1000000 then ((impl_TurnsForward.f k bt.1).bind fun f => if f = true then (if out.all (fun y => decide (y.length ≤ 1000000)) = true then (if out.any (fun y => decide (y = bt.1)) = true then impl_CoinWords.l0 k a0 a1 out (wrap64 (n + 1)) else (impl_turned.f k bt.1).bind fun u => (impl_turned.f k u).bind fun v => if out.length < 1000000 then impl_CoinWords.l0 k a0 a1 (out ++ [bt.1, u, v]) (wrap64 (n + 1)) else none) else none) else impl_CoinWords.l0 k a0 a1 out (wrap64 (n + 1))) else none) else some (out, true)) else some (out, true)
def impl_CoinWords.f (k : Nat) (a0 : Int) (a1 : Int) : Option (List (List Int) × Bool) := if a1 < 2 then some ([], false) else if a1 > 5 then some ([], false) else if a0 < 3 then some ([], false) else (impl_CoinsFor.f k a1).bind fun t => if a0 > t then some ([], false) else if Int.tmod a0 3 ≠ 0 then some ([], false) else (impl_LimitOf.f k a1).bind fun t => impl_CoinWords.l0 k a0 a1 [] (wrap64 (-t))
theorem impl_CoinWords.mono_l : ∀ k, (∀ y0 y1 y2 y3, LeO (impl_CoinWords.l0 k y0 y1 y2 y3) (impl_CoinWords.l0 (k + 1) y0 y1 y2 y3))
  | 0 => fun _ _ _ _ r h => by simp [impl_CoinWords.l0] at h
  | k + 1 => by
    have ih0 := impl_CoinWords.mono_l k
    intro y0 y1 y2 y3
    unfold impl_CoinWords.l0
    repeat' first
      | (with_reducible exact ih0 _ _ _ _)
      | (with_reducible exact impl_LimitOf.mono _ _)
      | (with_reducible exact impl_WordOf.mono _ _ _)
      | (with_reducible exact impl_TurnsForward.mono _ _)
      | (with_reducible exact impl_turned.mono _ _)
      | (with_reducible exact LeO.refl _)
      | (with_reducible exact LeO.none _)
      | (with_reducible refine LeO.ite ?_ ?_)
      | (with_reducible refine LeO.bind ?_ (fun _ => ?_))
theorem impl_CoinWords.mono : ∀ a0 a1 k, LeO (impl_CoinWords.f k a0 a1) (impl_CoinWords.f (k + 1) a0 a1) := by
  intro a0 a1 k
  have ih0 := impl_CoinWords.mono_l k
  unfold impl_CoinWords.f
  repeat' first
      | (with_reducible exact ih0 _ _ _ _)
      | (with_reducible exact impl_LimitOf.mono _ _)
      | (with_reducible exact impl_CoinsFor.mono _ _)
      | (with_reducible exact LeO.refl _)
      | (with_reducible exact LeO.none _)
      | (with_reducible refine LeO.ite ?_ ?_)
      | (with_reducible refine LeO.bind ?_ (fun _ => ?_))
set_option maxHeartbeats 8000000 in
set_option maxRecDepth 100000 in
theorem impl_CoinWords.calls (k : Nat) (a0 : Int) (a1 : Int) (r1 : List (List Int)) (r2 : Bool) (w : World) (h : impl_CoinWords.f k a0 a1 = some (r1, r2)) :
    Calls Try.prog 33 #[.int .i64 a0, .int .i64 a1] w fun e w' => ∃ v0_ : Value, e = .returned (.tuple #[v0_, .bool r2]) ∧ Kd.S (Kd.slice 3 (Kd.int .i64)) 47 w' w.heap.size (fun _ => True) v0_ r1 ∧ Below w.heap.size w w' := by
  have HB := Aside0.mk (Below.refl w.heap.size w)
  unfold impl_CoinWords.f at h
  by_cases c1 : a1 < 2
  · rw [if_pos c1] at h
    simp only [Option.some.injEq, Prod.mk.injEq] at h
    obtain ⟨rfl, rfl⟩ := h
    have g1 : decide (a1 < 2) = true := decide_eq_true c1
    clear c1
    go_enter Try.func33, Try.ntmps33
    go_wp2
    go_ret2
    exact ⟨_, rfl, Kd.S_nil _ _ _ _ _, by repeat (first | exact HB.out | apply pw_below_drewN)⟩
  rw [if_neg c1] at h
  have g1 : decide (a1 < 2) = false := decide_eq_false c1
  by_cases c2 : a1 > 5
  · rw [if_pos c2] at h
    simp only [Option.some.injEq, Prod.mk.injEq] at h
    obtain ⟨rfl, rfl⟩ := h
    have g2 : decide (5 < a1) = true := decide_eq_true c2
    clear c1
    clear c2
    go_enter Try.func33, Try.ntmps33
    go_wp2
    go_ret2
    exact ⟨_, rfl, Kd.S_nil _ _ _ _ _, by repeat (first | exact HB.out | apply pw_below_drewN)⟩
  rw [if_neg c2] at h
  have g2 : decide (5 < a1) = false := decide_eq_false c2
  by_cases c3 : a0 < 3
  · rw [if_pos c3] at h
    simp only [Option.some.injEq, Prod.mk.injEq] at h
    obtain ⟨rfl, rfl⟩ := h
    have g3 : decide (a0 < 3) = true := decide_eq_true c3
    clear c1 c2
    clear c3
    go_enter Try.func33, Try.ntmps33
    go_wp2
    go_ret2
    exact ⟨_, rfl, Kd.S_nil _ _ _ _ _, by repeat (first | exact HB.out | apply pw_below_drewN)⟩
  rw [if_neg c3] at h
  have g3 : decide (a0 < 3) = false := decide_eq_false c3
  obtain ⟨tc, htc, h⟩ := Option.bind_eq_some_iff.mp h
  by_cases c4 : a0 > tc
  · rw [if_pos c4] at h
    simp only [Option.some.injEq, Prod.mk.injEq] at h
    obtain ⟨rfl, rfl⟩ := h
    have g4 : decide (tc < a0) = true := decide_eq_true c4
    have HTC := Aside0.mk htc
    clear c1 c2 c3 htc
    clear c4
    go_enter Try.func33, Try.ntmps33
    go_wp2_with (go_at_call 76; refine (impl_CoinsFor.calls k a1 tc _ HTC.out).mono ?_; rintro e w' ⟨rfl, ⟨q, rfl⟩⟩)
    go_ret2
    exact ⟨_, rfl, Kd.S_nil _ _ _ _ _, by repeat (first | exact HB.out | apply pw_below_drewN)⟩
  rw [if_neg c4] at h
  have g4 : decide (tc < a0) = false := decide_eq_false c4
  by_cases c5 : Int.tmod a0 3 ≠ 0
  · rw [if_pos c5] at h
    simp only [Option.some.injEq, Prod.mk.injEq] at h
    obtain ⟨rfl, rfl⟩ := h
    have g5 : (Int.tmod a0 3 != 0) = true := by simpa using c5
    have HTC := Aside0.mk htc
    clear c1 c2 c3 c4 htc
    clear c5
    go_enter Try.func33, Try.ntmps33
    go_wp2_with (go_at_call 76; refine (impl_CoinsFor.calls k a1 tc _ HTC.out).mono ?_; rintro e w' ⟨rfl, ⟨q, rfl⟩⟩)
    go_ret2
    exact ⟨_, rfl, Kd.S_nil _ _ _ _ _, by repeat (first | exact HB.out | apply pw_below_drewN)⟩
  rw [if_neg c5] at h
  have g5 : (Int.tmod a0 3 != 0) = false := by simpa using c5
  obtain ⟨tl, htl, h⟩ := Option.bind_eq_some_iff.mp h
  have HTC := Aside0.mk htc
  have HTL := Aside0.mk htl
  have H := Aside0.mk h
  clear c1 c2 c3 c4 c5 htc htl h
  go_enter Try.func33, Try.ntmps33
  go_wp2_with (first | (go_at_call 76; refine (impl_CoinsFor.calls k a1 tc _ HTC.out).mono ?_; rintro e w' ⟨rfl, ⟨q, rfl⟩⟩) | (go_at_call 77; refine (impl_LimitOf.calls k a1 tl _ HTL.out).mono ?_; rintro e w' ⟨rfl, ⟨q2, rfl⟩⟩))
  go_loopg [6, 7] k (fun kq v6 v7 W => ∃ (out : List (List Int)) (n : Int) (A : Option Addr) (c : Nat), v6 = .slice A out.length c ∧ v7 = .int .i64 n ∧ Aside0 (impl_CoinWords.l0 kq a0 a1 out n = some (r1, r2)) ∧ Aside0 (kq ≤ k) ∧ Aside0 (Kd.S (Kd.slice 3 (Kd.int .i64)) 47 W w.heap.size (fun _ => True) (.slice A out.length c) out) ∧ Aside0 (Below w.heap.size w W))
  case atStart => exact ⟨[], wrap64 (-tl), some ⟨w.heap.size, 0, none⟩, 0, rfl, rfl, H, ⟨Nat.le_refl _⟩, ⟨S_empty _ (by repeat (first | refine blk_drewN ?_ _ | exact blk_new _ _ | (have hh := blk_new (w.drewN q) (.cells #[] 47); simpa using hh))) (Nat.le_refl _)⟩, ⟨by repeat (first | exact HB.out | apply below_alloc | apply pw_below_drewN)⟩⟩
  case round =>
    obtain ⟨out, n, A, c, rfl, rfl, HA, HK1, HS, HB1⟩ := hrel
    cases gk with
    | zero => exact absurd HA.out (by simp [impl_CoinWords.l0])
    | succ k1 =>
      have H := HA.out
      clear HA
      simp only [impl_CoinWords.l0] at H
      obtain ⟨t1, ht1, H⟩ := Option.bind_eq_some_iff.mp H
      have HT1 := Aside0.mk ht1
      clear ht1
      by_cases d1 : n ≤ t1
      · rw [if_pos d1] at H
        have e1 : decide (n ≤ t1) = true := decide_eq_true d1
        by_cases d2 : (out.length : Int) < a0
        · rw [if_pos d2] at H
          have e2 : decide ((out.length : Int) < a0) = true := decide_eq_true d2
          obtain ⟨⟨l, okb⟩, hw1, H⟩ := Option.bind_eq_some_iff.mp H
          simp only at H
          split at H
          · rename_i hlen
            obtain ⟨f, hf, H⟩ := Option.bind_eq_some_iff.mp H
            have HW1 := Aside0.mk hw1
            have HF := Aside0.mk hf
            have HL := Aside0.mk hlen
            clear hw1 hf d1 d2 hlen
            by_cases d3 : f = true
            · subst d3
              rw [if_pos rfl] at H
              split at H
              · rename_i hall
                have HALL := Aside0.mk hall
                clear hall
                obtain ⟨vals, hv1, hv2⟩ := rows_vals (Kd.S_reads' HS.out).2.2
                have hcont : ∀ (W : World) (B : Nat) (Aw : Option Addr) (cw : Nat), Below wr.heap.size wr W → W.cell? ⟨B, 0, none⟩ = some (.slice Aw l.length cw) → Kd.C (Kd.int .i64) W Aw l.length l → l.length ≤ cw →
                    Calls Try.prog 79 #[.slice A out.length c, .func (.func 80) #[] #[.pointer (some ⟨B, 0, none⟩)]] W fun e w' => e = .returned (.bool (out.any (fun y => decide (y = l)))) ∧ ∃ q, w' = W.drewN q := by
                  intro W B Aw cw hb hB hCw hcw
                  have hp := any_range_list out ([] : List Int) (fun y => decide (y = l))
                  rw [← hp]
                  have hn := (Kd.S_reads' HS.out).2.2.2.1
                  refine slices_ContainsFunc_int_int_79.gives 80 #[.pointer (some ⟨B, 0, none⟩)] vals (fun j => decide (out.getD j [] = l)) out.length c A W hn ?_ (enters_of Try.func80 (by kernel_rfl) rfl) ?_
                  · intro j hj
                    obtain ⟨ad, e, hx⟩ := hv1 j hj
                    exact ⟨ad, e, pw_cell_below hb hx⟩
                  · intro j q hj
                    obtain ⟨A1, c1, e, hl, hr⟩ := hv2 j hj
                    rw [e]
                    have hbq := pw_below_drewN hb q
                    have hyl : (out.getD j []).length ≤ 1000000 := by
                      have := List.all_eq_true.1 HALL.out (out.getD j []) (by rw [List.getD_eq_getElem?_getD, List.getElem?_eq_getElem hj]; exact List.getElem_mem hj)
                      simpa using this
                    exact impl_CoinWords_1.calls B Aw cw l A1 c1 (out.getD j []) (W.drewN q) (Kd.C_drewN hCw q) hcw (Kd.C_below hr hbq) hl hyl hB
                have HCONT0 := Aside0.mk hcont
                clear hv1 hv2 hcont
                by_cases d4 : out.any (fun y => decide (y = l)) = true
                · rw [if_pos d4] at H
                  have H2 := Aside0.mk H
                  have HCONT := HCONT0.out
                  rw [d4] at HCONT
                  have HCONT := Aside0.mk HCONT
                  clear H d4 HCONT0
                  go_wp2_with (first | (go_at_call 77; refine (impl_LimitOf.calls k1 a1 t1 _ HT1.out).mono ?_; rintro e w' ⟨rfl, ⟨q, rfl⟩⟩) | (go_at_call 64; refine (impl_WordOf.calls k1 n a1 l okb _ HW1.out).mono ?_; rintro e w1 ⟨vw, rfl, hR, hB⟩; obtain ⟨Aw, cw, rfl, hcw, hCw⟩ := Kd.R_reads hR; have HBw := Aside0.mk hB; have HCw := Aside0.mk hCw; have HCWL := Aside0.mk hcw; clear hR hB hCw hcw) | (go_at_call 78; refine (impl_TurnsForward.calls k1 Aw cw l true _ (Kd.C_alloc HCw.out _) HCWL.out HF.out).mono ?_; rintro e w' ⟨rfl, ⟨q3, rfl⟩⟩) | (go_at_call 79; refine (HCONT.out _ w1.heap.size Aw cw (by exact pw_below_drewN (below_alloc (below_then (pw_below_drewN (Below.refl _ _) _) (by simp) HBw.out) _) _) (by simp) (by exact Kd.C_drewN (Kd.C_alloc HCw.out _) _) HCWL.out).mono ?_; rintro e w' ⟨rfl, ⟨q4, rfl⟩⟩))
                  have hb1 : Below wr.heap.size wr w1 := below_then (pw_below_drewN (Below.refl _ _) _) (by simp) HBw.out
                  have HS1 := Aside0.mk (Kd.S_below HS.out hb1)
                  have HB2 := Aside0.mk (below_then HB1.out HB1.out.size hb1)
                  clear hb1 HBw HCw HS HB1 HCONT
                  go_roundg k1
                  case measure => have := HK1.out; omega
                  case rel => exact ⟨out, wrap64 (n + 1), A, c, by first | rfl | (simp; done), by first | rfl | (simp; done), H2, ⟨by have := HK1.out; omega⟩, ⟨by repeat (first | exact HS1.out | apply Kd.S_drewN | apply Kd.S_alloc | apply Kd.S_drew)⟩, ⟨by repeat (first | exact HB2.out | apply pw_below_drewN | apply below_alloc)⟩⟩
                · rw [if_neg d4] at H
                  obtain ⟨u, hu, H⟩ := Option.bind_eq_some_iff.mp H
                  obtain ⟨v, hv, H⟩ := Option.bind_eq_some_iff.mp H
                  split at H
                  · rename_i hbig
                    have HU := Aside0.mk hu
                    have HV := Aside0.mk hv
                    have HBIG := Aside0.mk hbig
                    have HCONT := HCONT0.out
                    rw [Bool.eq_false_iff.mpr d4] at HCONT
                    have HCONT := Aside0.mk HCONT
                    clear HCONT0
                    have H2 := Aside0.mk H
                    clear hu hv hbig d4 H
                    go_upto_region 9 with (first | (go_at_call 77; refine (impl_LimitOf.calls k1 a1 t1 _ HT1.out).mono ?_; rintro e w' ⟨rfl, ⟨q, rfl⟩⟩) | (go_at_call 64; refine (impl_WordOf.calls k1 n a1 l okb _ HW1.out).mono ?_; rintro e w1 ⟨vw, rfl, hR, hB⟩; obtain ⟨Aw, cw, rfl, hcw, hCw⟩ := Kd.R_reads hR; have HR := Aside0.mk hR; have HBw := Aside0.mk hB; have HCw := Aside0.mk hCw; have HCWL := Aside0.mk hcw; clear hR hB hCw hcw) | (go_at_call 78; refine (impl_TurnsForward.calls k1 Aw cw l true _ (Kd.C_alloc HCw.out _) HCWL.out HF.out).mono ?_; rintro e w' ⟨rfl, ⟨q3, rfl⟩⟩) | (go_at_call 79; refine (HCONT.out _ w1.heap.size Aw cw (by exact pw_below_drewN (below_alloc (below_then (pw_below_drewN (Below.refl _ _) _) (by simp) HBw.out) _) _) (by simp) (by exact Kd.C_drewN (Kd.C_alloc HCw.out _) _) HCWL.out).mono ?_; rintro e w' ⟨rfl, ⟨q4, rfl⟩⟩))
                    have hb1 : Below wr.heap.size wr w1 := below_then (pw_below_drewN (Below.refl _ _) _) (by simp) HBw.out
                    have hb0 : Below w1.heap.size w1 (((w1.alloc (.cells #[.slice Aw l.length cw] 47)).drewN (q3 + q4))) := pw_below_drewN (below_alloc (Below.refl _ _) _) _
                    have hsz1 := hb1.size
                    have hszw := HB1.out.size
                    have HC0 := Aside0.mk (Kd.C_below HCw.out hb0)
                    have HS0 := Aside0.mk (Kd.S_below (Kd.S_old HS.out hb1) hb0)
                    have HR0 := Aside0.mk (Kd.R_below (Kd.R_lower (base' := w.heap.size) (Kd.R_mono (ok' := fun k_ => wr.heap.size ≤ k_ ∧ k_ < w1.heap.size) (Kd.R_bound HR.out) (fun k_ hk => ⟨by have := hk.2.1; simpa using this, hk.2.2.1⟩)) (by simp; omega)) hb0)
                    have HBox := Aside0.mk (blk_drewN (blk_new w1 (.cells #[.slice Aw l.length cw] 47)) (q3 + q4))
                    have HB0 := Aside0.mk (below_then (below_then HB1.out hszw hb1) (by omega) hb0)
                    have HSZ : Aside0 (wr.heap.size ≤ w1.heap.size ∧ w1.heap.size + 1 = (((w1.alloc (.cells #[.slice Aw l.length cw] 47)).drewN (q3 + q4))).heap.size) := ⟨hsz1, by simp⟩
                    clear hb1 hb0 hsz1 hszw HCONT HBw HCw HR HS HB1
                    obtain ⟨W0, hW0⟩ : ∃ W0, W0 = ((w1.alloc (.cells #[.slice Aw l.length cw] 47)).drewN (q3 + q4)) := ⟨_, rfl⟩
                    rw [← hW0] at HC0 HS0 HR0 HBox HB0 HSZ
                    first
                      | rw [← hW0]
                      | (rw [show ((w1.alloc (.cells #[.slice Aw l.length cw] 47)).drewN q3).drewN q4 = W0 from by rw [hW0, World.drewN_drewN]])
                    clear hW0
                    obtain ⟨B, hB⟩ : ∃ B, w1.heap.size = B := ⟨_, rfl⟩
                    rw [hB] at HBox HSZ HR0 ⊢
                    clear hB
                    have hbox : W0.cell? ⟨B, 0, none⟩ = some (.slice Aw l.length cw) := (blk_cell HBox.out 0).trans rfl
                    go_region_held3 (fun w' => w'.cell? ⟨B, 0, none⟩ = some (.slice Aw l.length cw))
                      (first | exact hC5 | exact hbox | exact pw_cell_below hB2 hbox | exact pw_cell_below hB3 (pw_cell_below hB2 hbox) | exact pw_cell_below hB4 (pw_cell_below hB3 (pw_cell_below hB2 hbox)) | exact pw_cell_below (below_alloc (Below.refl _ _) _) (pw_cell_below hB4 (pw_cell_below hB3 (pw_cell_below hB2 hbox))))
                      ((first
                        | (go_at_call 82; with_reducible refine (impl_turned.calls k1 Aw cw l u W0.drew (Kd.C_drew HC0.out) HCWL.out HU.out).mono ?_; rintro e w2 ⟨v2, rfl, hR2, hB2⟩; replace hB2 := below_then (below_drew (Below.refl W0.heap.size W0)) (Nat.le_refl _) hB2; obtain ⟨Ax, cx, rfl⟩ := Kd.R_slice hR2)
                        | (go_at_call 82; with_reducible refine (impl_turned.calls k1 Aw cw l u w2 (Kd.C_below HC0.out hB2) HCWL.out HU.out).mono ?_; rintro e w3 ⟨v3, rfl, hR3, hB3⟩; obtain ⟨Au, cu, rfl, hcu, hCu⟩ := Kd.R_reads hR3)
                        | (go_at_call 82; with_reducible refine (impl_turned.calls k1 Au cu u v w3 hCu hcu HV.out).mono ?_; rintro e w4 ⟨v4, rfl, hR4, hB4⟩; obtain ⟨Ay, cy, rfl⟩ := Kd.R_slice hR4)
                        | (refine coin_append HB0.out HS0.out HR0.out hR2 hR4 hB2 hB3 hB4 HSZ.out HBIG.out rfl rfl rfl rfl hbox ?_; intro v5 w5 hS5 hB5 hC5)))
                    obtain ⟨A5, c5, rfl⟩ := Kd.S_slice hS5
                    have hl5 : ((out ++ [l, u, v]).length : Int) = out.length + 3 := by simp
                    have HS5 := Aside0.mk hS5
                    have HB5 := Aside0.mk hB5
                    clear hS5 hB5 hC5 hR2 hR4 hB2 hB3 hB4 hbox hl5
                    go_wp2
                    go_roundg k1
                    case measure => have := HK1.out; omega
                    case rel => exact ⟨out ++ [l, u, v], wrap64 (n + 1), A5, c5, by first | rfl | (simp; done), by first | rfl | (simp; done), H2, ⟨by have := HK1.out; omega⟩, HS5, HB5⟩
                  · cases H
              · cases H
            · rw [if_neg d3] at H
              obtain rfl : f = false := Bool.eq_false_iff.mpr d3
              have H2 := Aside0.mk H
              clear H d3
              go_wp2_with (first | (go_at_call 77; refine (impl_LimitOf.calls k1 a1 t1 _ HT1.out).mono ?_; rintro e w' ⟨rfl, ⟨q, rfl⟩⟩) | (go_at_call 64; refine (impl_WordOf.calls k1 n a1 l okb _ HW1.out).mono ?_; rintro e w1 ⟨vw, rfl, hR, hB⟩; obtain ⟨Aw, cw, rfl, hcw, hCw⟩ := Kd.R_reads hR; have HBw := Aside0.mk hB; have HCw := Aside0.mk hCw; have HCWL := Aside0.mk hcw; clear hR hB hCw hcw) | (go_at_call 78; refine (impl_TurnsForward.calls k1 Aw cw l false _ (Kd.C_alloc HCw.out _) HCWL.out HF.out).mono ?_; rintro e w' ⟨rfl, ⟨q3, rfl⟩⟩))
              have hb1 : Below wr.heap.size wr w1 := below_then (pw_below_drewN (Below.refl _ _) _) (by simp) HBw.out
              have HS1 := Aside0.mk (Kd.S_below HS.out hb1)
              have HB2 := Aside0.mk (below_then HB1.out HB1.out.size hb1)
              clear hb1 HBw HCw HS HB1
              go_roundg k1
              case measure => have := HK1.out; omega
              case rel => exact ⟨out, wrap64 (n + 1), A, c, by first | rfl | (simp; done), by first | rfl | (simp; done), H2, ⟨by have := HK1.out; omega⟩, ⟨by repeat (first | exact HS1.out | apply Kd.S_drewN | apply Kd.S_alloc | apply Kd.S_drew)⟩, ⟨by repeat (first | exact HB2.out | apply pw_below_drewN | apply below_alloc)⟩⟩
          · cases H
        · rw [if_neg d2] at H
          have e2 : decide ((out.length : Int) < a0) = false := decide_eq_false d2
          simp only [Option.some.injEq, Prod.mk.injEq] at H
          obtain ⟨rfl, rfl⟩ := H
          clear d1 d2
          go_wp2_with (first | (go_at_call 77; refine (impl_LimitOf.calls k1 a1 t1 _ HT1.out).mono ?_; rintro e w' ⟨rfl, ⟨q, rfl⟩⟩))
          go_ret2
          exact ⟨_, rfl, by repeat (first | exact HS.out | apply Kd.S_drewN | apply Kd.S_alloc | apply Kd.S_drew), by repeat (first | exact HB1.out | apply pw_below_drewN | apply below_alloc)⟩
      · rw [if_neg d1] at H
        have e1 : decide (n ≤ t1) = false := decide_eq_false d1
        simp only [Option.some.injEq, Prod.mk.injEq] at H
        obtain ⟨rfl, rfl⟩ := H
        clear d1
        go_wp2_with (first | (go_at_call 77; refine (impl_LimitOf.calls k1 a1 t1 _ HT1.out).mono ?_; rintro e w' ⟨rfl, ⟨q, rfl⟩⟩))
        go_ret2
        exact ⟨_, rfl, by repeat (first | exact HS.out | apply Kd.S_drewN | apply Kd.S_alloc | apply Kd.S_drew), by repeat (first | exact HB1.out | apply pw_below_drewN | apply below_alloc)⟩

end Go.Proofs.Ytgiehdhnhkmjfaa.X
