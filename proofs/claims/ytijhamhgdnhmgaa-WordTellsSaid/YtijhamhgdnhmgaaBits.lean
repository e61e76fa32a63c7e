/- Small facts on the word's bits: parts that do not overlap are joined by 'or' as by a sum. No conditions beyond those in each statement. -/
import Derived.Laws.BitsAllLaws
import Derived.RowKit
namespace Go.Proofs.Ytijhamhgdnhmgaa.Bits
open Go.RowKit

theorem or_join (i : Nat) (x y : Int) (hx0 : 0 ≤ x) (hx : x < 18446744073709551616) (hm : x.toNat % 2 ^ i = 0) (hy0 : 0 ≤ y) (hy : y.toNat < 2 ^ i) (hy1 : y < 18446744073709551616) : Go.bits .or .u64 x y = x + y := by
  rw [u64_or x y hx0 hx hy0 hy1, nat_join i _ _ hm hy]
  omega

theorem or_3 (x y : Int) (hx0 : 0 ≤ x) (hx : x < 18446744073709551616) (hm : x % 8 = 0) (hy0 : 0 ≤ y) (hy : y < 8) : Go.bits .or .u64 x y = x + y :=
  or_join 3 x y hx0 hx (by show x.toNat % 8 = 0; omega) hy0 (by show y.toNat < 8; omega) (by omega)
theorem or_8 (x y : Int) (hx0 : 0 ≤ x) (hx : x < 18446744073709551616) (hm : x % 256 = 0) (hy0 : 0 ≤ y) (hy : y < 256) : Go.bits .or .u64 x y = x + y :=
  or_join 8 x y hx0 hx (by show x.toNat % 256 = 0; omega) hy0 (by show y.toNat < 256; omega) (by omega)
theorem or_16 (x y : Int) (hx0 : 0 ≤ x) (hx : x < 18446744073709551616) (hm : x % 65536 = 0) (hy0 : 0 ≤ y) (hy : y < 65536) : Go.bits .or .u64 x y = x + y :=
  or_join 16 x y hx0 hx (by show x.toNat % 65536 = 0; omega) hy0 (by show y.toNat < 65536; omega) (by omega)

theorem and_7 (x : Int) (h0 : 0 ≤ x) (h : x < 18446744073709551616) : Go.bits .and .u64 x 7 = x % 8 := by
  rw [u64_and x 7 h0 h (by decide) (by decide), show (7 : Int).toNat = 7 from rfl, nat_mask3]
  omega

theorem and_31 (x : Int) (h0 : 0 ≤ x) (h : x < 18446744073709551616) : Go.bits .and .u64 x 31 = x % 32 := by
  rw [u64_and x 31 h0 h (by decide) (by decide), show (31 : Int).toNat = 31 from rfl, nat_mask5]
  omega
theorem and_255 (x : Int) (h0 : 0 ≤ x) (h : x < 18446744073709551616) : Go.bits .and .u64 x 255 = x % 256 := by
  rw [u64_and x 255 h0 h (by decide) (by decide), show (255 : Int).toNat = 2 ^ 8 - 1 from rfl, Nat.and_two_pow_sub_one_eq_mod]
  omega
theorem and_48 (x : Int) (h0 : 0 ≤ x) (h : x < 18446744073709551616) : Go.bits .and .u64 x 281474976710655 = x % 281474976710656 := by
  rw [u64_and x 281474976710655 h0 h (by decide) (by decide), show (281474976710655 : Int).toNat = 2 ^ 48 - 1 from rfl, Nat.and_two_pow_sub_one_eq_mod]
  omega

/-- The same as Option.bind_some, but not by definition: so that the kernel is not asked to run what stands behind it. -/
theorem bsome {α β : Type} (a : α) (f : α → Option β) : (some a).bind f = f a := by
  cases h : f a with
  | none => simp [h]
  | some b => simp [h]
end Go.Proofs.Ytijhamhgdnhmgaa.Bits
