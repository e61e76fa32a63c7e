/- Any header is the document's, or there is none: the law's plain statement over numbers. No conditions. -/
import Derived.Test.YtijhamhgdnhmgaaPWordHeadersx2
import Derived.Test.YtijhamhgdnhmgaaBits
import Derived.OpenShut
namespace Go.Proofs.Ytijhamhgdnhmgaa.Pure
open Go.RowKit Go.Proofs.Ytijhamhgdnhmgaa.PWordHeaders Go.Proofs.YtijhamhgdnhmgaaW.PrintWords Go.Proofs.YtijhamhgdnhmgaaW.PrintLast
open Go.Proofs.Ytijhamhgdnhmgaa.Bits

namespace WordHeadersParts
theorem awake_true : morainelaw01_awake.f = some true := by decide +kernel
theorem power16 : moraineref01_power.f 98 16 = some 65536 := by decide +kernel

theorem j0_true (t n m : Int) : morainelaw01_WordHeaders.j0 99 t n m 0 1 true = some true := by
  rw [show (99 : Nat) = 98 + 1 from rfl]
  simp only [morainelaw01_WordHeaders.j0]
  simp [awake_true]
theorem word_of (t n m : Int) (ht : 1 ≤ t ∧ t ≤ 13) (hn : 0 ≤ n ∧ n ≤ 62) (hm : 0 ≤ m ∧ m < 281474976710656) : moraineref01_Word.f 98 5 t n 0 m = some (m * 65536 + n * 256 + t * 8 + 5) := by
  unfold moraineref01_Word.f
  rw [if_neg (by decide), if_neg (by decide), if_neg (by decide), if_neg (by decide), power16]
  simp only [Option.bind_some, IntKind.wrap_u64]
  congr 1
  omega
theorem head_in (t n m : Int) (ht : 1 ≤ t ∧ t ≤ 13) (hn : 0 ≤ n ∧ n ≤ 62) (hm : 0 ≤ m ∧ m < 281474976710656) : word_Header.f t n m = some (m * 65536 + n * 256 + t * 8 + 5, 0) := by
  unfold word_Header.f
  rw [if_neg (by omega), if_neg (by omega), if_neg (by omega), if_neg (by omega), if_neg (by omega)]
  have e1 : IntKind.u64.wrap (m * 65536) = m * 65536 := by rw [IntKind.wrap_u64]; omega
  have e2 : IntKind.u64.wrap n = n := by rw [IntKind.wrap_u64]; omega
  have e3 : IntKind.u64.wrap (n * 256) = n * 256 := by rw [IntKind.wrap_u64]; omega
  have e4 : IntKind.u64.wrap t = t := by rw [IntKind.wrap_u64]; omega
  have e5 : IntKind.u64.wrap (t * 8) = t * 8 := by rw [IntKind.wrap_u64]; omega
  rw [e1, e2, e3, e4, e5, or_16 (m * 65536) (n * 256) (by omega) (by omega) (by omega) (by omega) (by omega), or_8 _ (t * 8) (by omega) (by omega) (by omega) (by omega) (by omega),
    or_3 _ 5 (by omega) (by omega) (by omega) (by omega) (by omega)]
theorem head_out (t n m : Int) (h : t < 1 ∨ t > 13 ∨ n < 0 ∨ n > 62 ∨ m ≥ 281474976710656) : word_Header.f t n m = some (0, 1) := by
  unfold word_Header.f
  repeat (split; rfl)
  omega
end WordHeadersParts
open WordHeadersParts

theorem WordHeaders : morainelaw01_WordHeaders.Pure := by
  intro t n m _ _ wm
  have bm := Go.bounds_u64 wm
  refine ⟨99, ?_⟩
  unfold morainelaw01_WordHeaders.f
  by_cases h : t < 1 ∨ t > 13 ∨ n < 0 ∨ n > 62 ∨ m ≥ 281474976710656
  · rw [head_out t n m h]
    simp only [Option.bind_some]
    have hj := j0_true t n m
    by_cases h1 : t < 1
    · rw [if_pos h1]; exact hj
    · rw [if_neg h1]
      by_cases h2 : t > 13
      · rw [if_pos h2]; exact hj
      · rw [if_neg h2]
        by_cases h3 : n < 0
        · rw [if_pos h3]; exact hj
        · rw [if_neg h3]
          by_cases h4 : n > 62
          · rw [if_pos h4]; exact hj
          · rw [if_neg h4, show decide (m ≥ 281474976710656) = true by simp; omega]
            exact hj
  · rw [head_in t n m (by omega) (by omega) (by omega)]
    simp only [Option.bind_some]
    rw [if_neg (by omega), if_neg (by omega), if_neg (by omega), if_neg (by omega), show decide (m ≥ 281474976710656) = false by simp; omega, show (99 : Nat) = 98 + 1 from rfl]
    simp only [morainelaw01_WordHeaders.j0]
    rw [word_of t n m (by omega) (by omega) (by omega)]
    simp [awake_true]

end Go.Proofs.Ytijhamhgdnhmgaa.Pure
