/- The word of any fixnum and of any character is the document's, or there is none: the law's plain statement over numbers. No conditions. -/
import Derived.Test.YtijhamhgdnhmgaaPWordFixesx2
import Derived.Test.YtijhamhgdnhmgaaBits
import Derived.OpenShut
namespace Go.Proofs.Ytijhamhgdnhmgaa.Pure
open Go.RowKit Go.Proofs.Ytijhamhgdnhmgaa.PWordFixes Go.Proofs.YtijhamhgdnhmgaaW.PrintWords Go.Proofs.YtijhamhgdnhmgaaW.PrintLast
open Go.Proofs.Ytijhamhgdnhmgaa.Bits

namespace WordFixesParts
theorem awake_true : morainelaw01_awake.f = some true := by decide +kernel
theorem power60 (k : Nat) (h : k = 100 ∨ k = 99) : moraineref01_power.f k 60 = some 1152921504606846976 := by rcases h with rfl | rfl <;> decide +kernel
theorem power61 (k : Nat) (h : k = 100 ∨ k = 99) : moraineref01_power.f k 61 = some 2305843009213693952 := by rcases h with rfl | rfl <;> decide +kernel

theorem j0_true (c : Int) (hc : -2147483648 ≤ c ∧ c ≤ 2147483647) : morainelaw01_WordFixes.j0 100 c = some true := by
  rw [show (100 : Nat) = 99 + 1 from rfl]
  simp only [morainelaw01_WordFixes.j0]
  by_cases h0 : c < 0
  · have e1 : word_Char.f c = some (0, 4) := by unfold word_Char.f; rw [if_pos h0]
    have e2 : moraineref01_Letter.f c = some false := by unfold moraineref01_Letter.f; rw [if_neg (by omega)]
    rw [e1, e2]
    simp [awake_true]
  · have ew : IntKind.u64.wrap c = c := by rw [IntKind.wrap_u64]; omega
    have ew2 : wrap64 c = c := by unfold wrap64; omega
    by_cases hl : c ≤ 1114111 ∧ (c < 55296 ∨ c > 57343)
    · have e0 : word_letter.f c = some true := by
        unfold word_letter.f
        rw [if_pos hl.1]
        by_cases h : c < 55296
        · rw [if_pos h]
        · rw [if_neg h]; rcases hl.2 with h2 | h2
          · exact absurd h2 h
          · simp [h2]
      have e1 : word_Char.f c = some (c * 256 + 60, 0) := by
        unfold word_Char.f
        rw [if_neg h0, ew, e0]
        simp only [Option.bind_some, if_true]
        have e8 : IntKind.u64.wrap (c * 256) = c * 256 := by rw [IntKind.wrap_u64]; omega
        rw [e8, or_8 (c * 256) 56 (by omega) (by omega) (by omega) (by omega) (by omega), or_3 (c * 256 + 56) 4 (by omega) (by omega) (by omega) (by omega) (by omega)]
        rw [show c * 256 + 56 + 4 = c * 256 + 60 by omega]
      have e2 : moraineref01_Letter.f c = some true := by
        unfold moraineref01_Letter.f
        rw [if_pos (by omega), if_pos hl.1]
        by_cases h : c < 55296
        · rw [if_pos h]
        · rw [if_neg h]; rcases hl.2 with h2 | h2
          · exact absurd h2 h
          · simp [h2]
      have e3 : moraineref01_Word.f 99 4 0 (wrap64 c) 0 0 = some (c * 256 + 60) := by
        unfold moraineref01_Word.f
        rw [ew2, if_neg (by decide), if_neg (by decide), if_neg (by decide), if_pos rfl, ew]
        simp only [IntKind.wrap_u64]
        congr 1
        omega
      rw [e1, e2]
      simp [e3, awake_true]
    · have e0 : word_letter.f c = some false := by
        unfold word_letter.f
        by_cases h1 : c ≤ 1114111
        · rw [if_pos h1, if_neg (by omega)]; simp; omega
        · rw [if_neg h1]
      have e1 : word_Char.f c = some (0, 4) := by
        unfold word_Char.f
        rw [if_neg h0, ew, e0]
        rfl
      have e2 : moraineref01_Letter.f c = some false := by
        unfold moraineref01_Letter.f
        rw [if_pos (by omega)]
        by_cases h1 : c ≤ 1114111
        · rw [if_pos h1, if_neg (by omega)]; simp; omega
        · rw [if_neg h1]
      rw [e1, e2]
      simp [awake_true]

theorem fix_in (x : Int) (h : -1152921504606846976 ≤ x ∧ x < 1152921504606846976) :
    word_Fix.f x = some (IntKind.u64.wrap (wrap64 (x * 8)), 0) ∧ moraineref01_Fixes.f 100 x = some true ∧ moraineref01_Word.f 100 1 0 0 x 0 = some (IntKind.u64.wrap (wrap64 (x * 8))) := by
  refine ⟨?_, ?_, ?_⟩
  · unfold word_Fix.f
    rw [if_neg (by omega), if_neg (by omega)]
  · unfold moraineref01_Fixes.f
    rw [power60 100 (.inl rfl)]
    simp only [Option.bind_some]
    rw [if_pos (by unfold wrap64; omega)]
    congr 1
    simp only [decide_eq_true_eq]
    unfold wrap64; omega
  · unfold moraineref01_Word.f
    rw [if_pos rfl, power61 100 (.inl rfl)]
    by_cases h0 : x < 0
    · rw [if_pos h0]
      simp only [Option.bind_some, IntKind.wrap_u64]
      congr 1
      unfold wrap64
      omega
    · rw [if_neg h0]
      simp only [IntKind.wrap_u64]
      congr 1
      unfold wrap64
      omega
theorem fix_out (x : Int) (h : ¬ (-1152921504606846976 ≤ x ∧ x < 1152921504606846976)) : word_Fix.f x = some (0, 4) ∧ moraineref01_Fixes.f 100 x = some false := by
  refine ⟨?_, ?_⟩
  · unfold word_Fix.f
    by_cases h1 : x < -1152921504606846976
    · rw [if_pos h1]
    · rw [if_neg h1, if_pos (by omega)]
  · unfold moraineref01_Fixes.f
    rw [power60 100 (.inl rfl)]
    simp only [Option.bind_some]
    by_cases h1 : x < -1152921504606846976
    · rw [if_neg (by unfold wrap64; omega)]
    · rw [if_pos (by unfold wrap64; omega)]
      congr 1
      simp only [decide_eq_false_iff_not]
      unfold wrap64; omega
end WordFixesParts
open WordFixesParts

theorem WordFixes : morainelaw01_WordFixes.Pure := by
  intro x c wx wc
  have bc := Go.bounds_i32 wc
  refine ⟨100, ?_⟩
  unfold morainelaw01_WordFixes.f
  by_cases h : -1152921504606846976 ≤ x ∧ x < 1152921504606846976
  · obtain ⟨e1, e2, e3⟩ := fix_in x h
    rw [e1, e2]
    simp only [Option.bind_some, if_true]
    rw [e3]
    simp only [Option.bind_some, if_true]
    exact j0_true c bc
  · obtain ⟨e1, e2⟩ := fix_out x h
    rw [e1, e2]
    simp only [Option.bind_some]
    exact j0_true c bc

end Go.Proofs.Ytijhamhgdnhmgaa.Pure
