/- What word.parts answers of any word of 64 bits: its rest's low five bits, the next eight, and the others. No conditions but that the word is one of 64 bits. -/
import Derived.Test.YtijhamhgdnhmgaaProg
import Derived.Test.YtijhamhgdnhmgaaBits
import Derived.Below
import Derived.Deep.Draws
import Derived.Tactics
import Derived.WalkKit
import Derived.KernelRfl
import Derived.Deep.QuietTactic
import Derived.BigQuiet
namespace Go.Proofs.Ytijhamhgdnhmgaa.Parts
set_option linter.unusedVariables false
set_option linter.unusedSimpArgs false
open Go.RowKit Go.Proofs.Ytijhamhgdnhmgaa.Bits

theorem below_drewN {B : Nat} {a w : World} (h : Below B a w) {n : Nat} : Below B a (w.drewN n) := ⟨h.os, h.tape, h.output, h.size, h.block⟩
def DrawnSome (w w' : World) : Prop := ∃ n, w' = w.drewN n

set_option maxHeartbeats 1000000 in
theorem cut3 (b : Nat) (x : Int) (w : World) (hc : w.cell? ⟨b, 0, none⟩ = some (.int .u64 x)) (h0 : 0 ≤ x) (h1 : x ≤ 18446744073709551615) :
    Calls Try.prog 30 #[.int .i64 3, .int .i64 5, .pointer (some ⟨b, 0, none⟩)] w fun e w' => e = .returned (.int .u64 (Go.bits .and .u64 (x / 8) 31)) ∧ DrawnSome w w' := by
  go_enter Try.func30, Try.ntmps30
  go_wp2
  go_quiet (fail)
  go_wp2
  go_ret
  exact ⟨rfl, ⟨_, rfl⟩⟩
set_option maxHeartbeats 1000000 in
theorem cut8 (b : Nat) (x : Int) (w : World) (hc : w.cell? ⟨b, 0, none⟩ = some (.int .u64 x)) (h0 : 0 ≤ x) (h1 : x ≤ 18446744073709551615) :
    Calls Try.prog 30 #[.int .i64 8, .int .i64 8, .pointer (some ⟨b, 0, none⟩)] w fun e w' => e = .returned (.int .u64 (Go.bits .and .u64 (x / 256) 255)) ∧ DrawnSome w w' := by
  go_enter Try.func30, Try.ntmps30
  go_wp2
  go_quiet (fail)
  go_wp2
  go_ret
  exact ⟨rfl, ⟨_, rfl⟩⟩
set_option maxHeartbeats 1000000 in
theorem cut16 (b : Nat) (x : Int) (w : World) (hc : w.cell? ⟨b, 0, none⟩ = some (.int .u64 x)) (h0 : 0 ≤ x) (h1 : x ≤ 18446744073709551615) :
    Calls Try.prog 30 #[.int .i64 16, .int .i64 48, .pointer (some ⟨b, 0, none⟩)] w fun e w' => e = .returned (.int .u64 (Go.bits .and .u64 (x / 65536) 281474976710655)) ∧ DrawnSome w w' := by
  go_enter Try.func30, Try.ntmps30
  go_wp2
  go_quiet (fail)
  go_wp2
  go_ret
  exact ⟨rfl, ⟨_, rfl⟩⟩

set_option maxHeartbeats 1000000 in
theorem parts_any (x : Int) (w : World) (h0 : 0 ≤ x) (h1 : x ≤ 18446744073709551615) :
    Calls Try.prog 29 #[.int .u64 x] w fun e w' => e = .returned (.tuple #[.int .i64 (x / 8 % 32), .int .i64 (x / 256 % 256), .int .u64 (x / 65536)]) ∧ Below w.heap.size w w' := by
  go_enter Try.func29, Try.ntmps29
  go_wp2_with fail
  refine (cut3 w.heap.size x _ (by go_simp) h0 h1).mono ?_
  rintro e w1 ⟨rfl, n1, rfl⟩
  go_wp2_with fail
  refine (cut8 w.heap.size x _ (by go_simp) h0 h1).mono ?_
  rintro e w1 ⟨rfl, n2, rfl⟩
  go_wp2_with fail
  refine (cut16 w.heap.size x _ (by go_simp) h0 h1).mono ?_
  rintro e w1 ⟨rfl, n3, rfl⟩
  go_wp2
  go_ret3
  rw [and_31 _ (by omega) (by omega), and_255 _ (by omega) (by omega), and_48 _ (by omega) (by omega)]
  refine ⟨?_, ?_⟩
  · have e1 : wrap64 (x / 8 % 32) = x / 8 % 32 := by unfold wrap64; omega
    have e2 : wrap64 (x / 256 % 256) = x / 256 % 256 := by unfold wrap64; omega
    have e3 : x / 65536 % 281474976710656 = x / 65536 := by omega
    rw [e1, e2, e3]
    rfl
  · exact below_drewN ((Below.refl _ _).alloc (Nat.le_refl _) _)
end Go.Proofs.Ytijhamhgdnhmgaa.Parts
