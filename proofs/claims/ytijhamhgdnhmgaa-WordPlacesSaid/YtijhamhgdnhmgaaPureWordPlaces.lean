/- The word of any address of any tag is the document's, or there is none: the law's plain statement over numbers. No conditions. -/
import Derived.Test.YtijhamhgdnhmgaaPWordPlacesx2
import Derived.Test.YtijhamhgdnhmgaaBits
import Derived.OpenShut
namespace Go.Proofs.Ytijhamhgdnhmgaa.Pure
open Go.RowKit Go.Proofs.Ytijhamhgdnhmgaa.PWordPlaces Go.Proofs.YtijhamhgdnhmgaaW.PrintWords Go.Proofs.YtijhamhgdnhmgaaW.PrintLast
open Go.Proofs.Ytijhamhgdnhmgaa.Bits

namespace WordPlacesParts
theorem awake_true : morainelaw01_awake.f = some true := by decide +kernel

theorem j1_out (t a : Int) : morainelaw01_WordPlaces.j1 98 t a 0 18 true = some true := by
  rw [show (98 : Nat) = 97 + 1 from rfl]
  simp only [morainelaw01_WordPlaces.j1]
  simp [awake_true]
theorem word_of (t a : Int) (ht : 1 ≤ t ∧ t ≤ 6) (ha : 0 ≤ a ∧ a < 65536) : moraineref01_Word.f 97 2 t a 0 0 = some (a * 8 + t) := by
  unfold moraineref01_Word.f
  rw [if_neg (by decide), if_pos rfl]
  simp only [IntKind.wrap_u64]
  congr 1
  omega
theorem j1_in (t a : Int) (ht : 1 ≤ t ∧ t ≤ 6) (ha : 0 ≤ a ∧ a < 65536) : morainelaw01_WordPlaces.j1 98 t a (a * 8 + t) 0 false = some true := by
  rw [show (98 : Nat) = 97 + 1 from rfl]
  simp only [morainelaw01_WordPlaces.j1]
  rw [word_of t a ht ha]
  simp [awake_true]
theorem j0_false (t a : Int) (ht : 1 ≤ t ∧ t ≤ 6) (r : Int × Int) (hr : r = if 0 ≤ a ∧ a < 65536 then (a * 8 + t, 0) else (0, 18)) : morainelaw01_WordPlaces.j0 99 t a r.1 r.2 false = some true := by
  rw [show (99 : Nat) = 98 + 1 from rfl]
  simp only [morainelaw01_WordPlaces.j0]
  rw [if_neg (by decide)]
  by_cases ha : 0 ≤ a ∧ a < 65536
  · rw [if_pos ha] at hr
    subst hr
    rw [if_neg (by omega), show decide (a ≥ 65536) = false by simp; omega]
    exact j1_in t a ht ha
  · rw [if_neg ha] at hr
    subst hr
    by_cases h0 : a < 0
    · rw [if_pos h0]
      exact j1_out t a
    · rw [if_neg h0, show decide (a ≥ 65536) = true by simp; omega]
      exact j1_out t a
theorem at_tag (t a : Int) (ht : t = 1 ∨ t = 2 ∨ t = 3 ∨ t = 6) : word_At.f t a = some (if 0 ≤ a ∧ a < 65536 then (a * 8 + t, 0) else (0, 18)) := by
  have e : word_place.f t = some true := by rcases ht with rfl | rfl | rfl | rfl <;> decide
  unfold word_At.f
  rw [e]
  simp only [Option.bind_some, if_true]
  by_cases h0 : a < 0
  · rw [if_pos h0, if_neg (by omega)]
  · rw [if_neg h0]
    by_cases h1 : a ≥ 65536
    · rw [if_pos h1, if_neg (by omega)]
    · rw [if_neg h1, if_pos (by omega)]
      have e1 : IntKind.u64.wrap a = a := by rw [IntKind.wrap_u64]; omega
      have e2 : IntKind.u64.wrap (a * 8) = a * 8 := by rw [IntKind.wrap_u64]; omega
      have e3 : IntKind.u64.wrap t = t := by rw [IntKind.wrap_u64]; omega
      rw [e1, e2, e3, or_3 (a * 8) t (by omega) (by omega) (by omega) (by omega) (by omega)]
theorem at_none (t a : Int) (ht : ¬ (t = 1 ∨ t = 2 ∨ t = 3 ∨ t = 6)) : word_At.f t a = some (0, 1) := by
  have e : word_place.f t = some false := by
    unfold word_place.f
    by_cases h : t ≥ 1
    · rw [if_pos h, if_neg (by omega)]; simp; omega
    · rw [if_neg h]; simp; omega
  unfold word_At.f
  rw [e]
  rfl
end WordPlacesParts
open WordPlacesParts

theorem WordPlaces : morainelaw01_WordPlaces.Pure := by
  intro t a _ _
  refine ⟨99, ?_⟩
  unfold morainelaw01_WordPlaces.f
  by_cases ht : t = 1 ∨ t = 2 ∨ t = 3 ∨ t = 6
  · rw [at_tag t a ht]
    simp only [Option.bind_some]
    have hj := j0_false t a (by omega) _ rfl
    by_cases h1 : t = 1
    · rw [if_pos h1]; exact hj
    · rw [if_neg h1]
      by_cases h2 : t = 2
      · rw [if_pos h2]; exact hj
      · rw [if_neg h2]
        by_cases h3 : t = 3
        · rw [if_pos h3]; exact hj
        · rw [if_neg h3, show (t != 6) = false by simp; omega]
          exact hj
  · rw [at_none t a ht]
    simp only [Option.bind_some]
    rw [if_neg (by omega), if_neg (by omega), if_neg (by omega), show (t != 6) = true by simp; omega, show (99 : Nat) = 98 + 1 from rfl]
    simp only [morainelaw01_WordPlaces.j0]
    simp [awake_true]

end Go.Proofs.Ytijhamhgdnhmgaa.Pure
