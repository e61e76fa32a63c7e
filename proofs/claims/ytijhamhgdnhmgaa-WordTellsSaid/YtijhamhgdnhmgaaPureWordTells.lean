/- What any word stands for is what the document says, and nothing else: the law's plain statement over numbers. No conditions. -/
import Derived.Test.YtijhamhgdnhmgaaPWordTellsx3
import Derived.Test.YtijhamhgdnhmgaaBits
import Derived.OpenShut
namespace Go.Proofs.Ytijhamhgdnhmgaa.Pure
set_option linter.unusedVariables false
set_option linter.unusedSimpArgs false
open Go.RowKit Go.Proofs.Ytijhamhgdnhmgaa.PWordTells Go.Proofs.YtijhamhgdnhmgaaW.PrintWords Go.Proofs.YtijhamhgdnhmgaaW.PrintLast
open Go.Proofs.Ytijhamhgdnhmgaa.Bits

namespace WordTellsParts
theorem awake_true : morainelaw01_awake.f = some true := by decide +kernel
theorem power60 : moraineref01_power.f 99 60 = some 1152921504606846976 := by decide +kernel
theorem power61 : moraineref01_power.f 99 61 = some 2305843009213693952 := by decide +kernel

variable (x : Int) (h0 : 0 ≤ x) (h1 : x ≤ 18446744073709551615)
include h0 h1
theorem tag_of : word_Tag.f x = some (x % 8) := by
  unfold word_Tag.f
  rw [and_7 x h0 (by omega)]
  congr 1
  unfold wrap64; omega
theorem parts_of : word_parts.f x = some (x / 8 % 32, x / 256 % 256, x / 65536) := by
  unfold word_parts.f
  rw [if_pos h0, if_pos h1]
omit h0 h1 in
theorem letter_of (c : Int) : word_letter.f c = some (decide (c ≤ 1114111 ∧ (c < 55296 ∨ c > 57343))) := by
  unfold word_letter.f
  by_cases a : c ≤ 1114111
  · rw [if_pos a]
    by_cases b : c < 55296
    · rw [if_pos b]; congr 1; symm; simp only [decide_eq_true_eq]; omega
    · rw [if_neg b]; congr 1; simp only [decide_eq_decide]; omega
  · rw [if_neg a]; congr 1; symm; simp only [decide_eq_false_iff_not]; omega
/-- What May says. -/
def mayB (x : Int) : Bool :=
  if x % 8 = 0 then true else if x % 8 = 1 ∨ x % 8 = 2 ∨ x % 8 = 3 ∨ x % 8 = 6 then decide (x / 8 < 65536)
  else if x % 8 = 4 then (if x / 8 % 32 = 7 then decide (x / 256 ≤ 1114111 ∧ (x / 256 < 55296 ∨ x / 256 > 57343)) else decide (x / 8 ≤ 6))
  else decide (x % 8 = 5 ∧ 1 ≤ x / 8 % 32 ∧ x / 8 % 32 ≤ 13 ∧ x / 256 % 256 ≤ 62)
theorem may_of : word_May.f x = some (mayB x) := by
  unfold word_May.f mayB
  rw [parts_of x h0 h1, tag_of x h0 h1]
  simp only [bsome]
  by_cases t0 : x % 8 = 0
  · rw [if_pos t0, if_pos t0]
  · rw [if_neg t0, if_neg t0]
    by_cases t1 : x % 8 = 1
    · rw [if_pos t1, if_pos (.inl t1)]
    · rw [if_neg t1]
      by_cases t2 : x % 8 = 2
      · rw [if_pos t2, if_pos (.inr (.inl t2))]
      · rw [if_neg t2]
        by_cases t3 : x % 8 = 3
        · rw [if_pos t3, if_pos (.inr (.inr (.inl t3)))]
        · rw [if_neg t3]
          by_cases t6 : x % 8 = 6
          · rw [if_pos t6, if_pos (.inr (.inr (.inr t6)))]
          · have tn : ¬ (x % 8 = 1 ∨ x % 8 = 2 ∨ x % 8 = 3 ∨ x % 8 = 6) := by omega
            rw [if_neg t6, if_neg tn]
            by_cases t4 : x % 8 = 4
            · rw [if_pos t4, if_pos t4]
              by_cases l7 : x / 8 % 32 = 7
              · rw [if_pos l7, if_pos l7, letter_of]
                rfl
              · rw [if_neg l7, if_neg l7]
            · rw [if_neg t4, if_neg t4]
              by_cases t5 : x % 8 = 5
              · rw [if_pos t5]
                by_cases a : x / 8 % 32 ≥ 1
                · rw [if_pos a]
                  by_cases b : x / 8 % 32 ≤ 13
                  · rw [if_pos b]; congr 1; simp only [decide_eq_decide]; omega
                  · rw [if_neg b]; congr 1; symm; simp only [decide_eq_false_iff_not]; omega
                · rw [if_neg a]; congr 1; symm; simp only [decide_eq_false_iff_not]; omega
              · rw [if_neg t5]; congr 1; symm; simp only [decide_eq_false_iff_not]; omega
theorem int_of : word_Int.f x = some (if x % 8 = 0 then (wrap64 x / 8, true) else (0, false)) := by
  unfold word_Int.f
  rw [tag_of x h0 h1]
  simp only [bsome]
  split <;> rfl
theorem rune_of : word_Rune.f x = some (if x % 8 = 4 ∧ x / 8 % 32 = 7 ∧ mayB x = true then (wrap32 (x / 256), true) else (0, false)) := by
  unfold word_Rune.f
  rw [tag_of x h0 h1, parts_of x h0 h1, may_of x h0 h1]
  simp only [bsome]
  by_cases a : x % 8 = 4
  · rw [if_pos a]
    by_cases b : x / 8 % 32 = 7
    · rw [if_pos b]
      by_cases c : mayB x = true
      · rw [if_pos c, if_pos ⟨a, b, c⟩]
      · rw [if_neg c, if_neg (fun h => c h.2.2)]
    · rw [if_neg b, if_neg (fun h => b h.2.1)]
  · rw [if_neg a, if_neg (fun h => a h.1)]
omit h0 h1 in
theorem place_of (t : Int) : word_place.f t = some (decide (t = 1 ∨ t = 2 ∨ t = 3 ∨ t = 6)) := by
  unfold word_place.f
  by_cases a : t ≥ 1
  · rw [if_pos a]
    by_cases b : t ≤ 3
    · rw [if_pos b]; congr 1; symm; simp only [decide_eq_true_eq]; omega
    · rw [if_neg b]; congr 1; rw [Bool.eq_iff_iff]; simp only [beq_iff_eq, decide_eq_true_eq]; omega
  · rw [if_neg a]; congr 1; rw [Bool.eq_iff_iff]; simp only [beq_iff_eq, decide_eq_true_eq]; omega
theorem addr_of : word_Addr.f x = some (if (x % 8 = 1 ∨ x % 8 = 2 ∨ x % 8 = 3 ∨ x % 8 = 6) ∧ mayB x = true then (wrap64 (x / 8), true) else (0, false)) := by
  unfold word_Addr.f
  rw [tag_of x h0 h1]
  simp only [bsome]
  rw [place_of, may_of x h0 h1]
  simp only [Option.bind_some, decide_eq_true_eq]
  by_cases a : x % 8 = 1 ∨ x % 8 = 2 ∨ x % 8 = 3 ∨ x % 8 = 6
  · rw [if_pos a]
    by_cases c : mayB x = true
    · rw [if_pos c, if_pos ⟨a, c⟩]
    · rw [if_neg c, if_neg (fun h => c h.2)]
  · rw [if_neg a, if_neg (fun h => a h.1)]
theorem head_of : word_Head.f x = some (if x % 8 = 5 ∧ mayB x = true then (x / 8 % 32, x / 256 % 256, x / 65536, true) else (0, 0, 0, false)) := by
  unfold word_Head.f
  rw [tag_of x h0 h1, may_of x h0 h1, parts_of x h0 h1]
  simp only [bsome]
  by_cases a : x % 8 = 5
  · rw [if_pos a]
    by_cases c : mayB x = true
    · rw [if_pos c, if_pos ⟨a, c⟩]
    · rw [if_neg c, if_neg (fun h => c h.2)]
  · rw [if_neg a, if_neg (fun h => a h.1)]
omit h0 h1

/-! The law's end, kind by kind. -/
theorem end_0 : morainelaw01_WordTells.j0 99 0 false 0 false 0 false 0 0 0 false false 0 0 0 0 0 = some true := by decide +kernel
theorem end_1 (X : Int) : morainelaw01_WordTells.j0 99 X true 0 false 0 false 0 0 0 false false 1 0 0 X 0 = some true := by
  rw [show (99 : Nat) = 97 + 1 + 1 from rfl, show (97 : Nat) = 96 + 1 from rfl]
  simp [morainelaw01_WordTells.j0, morainelaw01_WordTells.j1, morainelaw01_WordTells.j2, awake_true]
theorem end_2 (T A : Int) : morainelaw01_WordTells.j0 99 0 false 0 false A true 0 0 0 false false 2 T A 0 0 = some true := by
  rw [show (99 : Nat) = 97 + 1 + 1 from rfl, show (97 : Nat) = 96 + 1 from rfl]
  simp [morainelaw01_WordTells.j0, morainelaw01_WordTells.j1, morainelaw01_WordTells.j2, awake_true]
theorem end_3 (A : Int) : morainelaw01_WordTells.j0 99 0 false 0 false 0 false 0 0 0 false false 3 0 A 0 0 = some true := by
  rw [show (99 : Nat) = 97 + 1 + 1 from rfl, show (97 : Nat) = 96 + 1 from rfl]
  simp [morainelaw01_WordTells.j0, morainelaw01_WordTells.j1, morainelaw01_WordTells.j2, awake_true]
theorem end_4 (C A : Int) (h : wrap64 C = A) : morainelaw01_WordTells.j0 99 0 false C true 0 false 0 0 0 false false 4 0 A 0 0 = some true := by
  rw [show (99 : Nat) = 97 + 1 + 1 from rfl, show (97 : Nat) = 96 + 1 from rfl]
  simp [morainelaw01_WordTells.j0, morainelaw01_WordTells.j1, morainelaw01_WordTells.j2, awake_true, h]
theorem end_5 (T A M : Int) : morainelaw01_WordTells.j0 99 0 false 0 false 0 false T A M true false 5 T A 0 M = some true := by
  rw [show (99 : Nat) = 97 + 1 + 1 from rfl, show (97 : Nat) = 96 + 1 from rfl]
  simp [morainelaw01_WordTells.j0, morainelaw01_WordTells.j1, morainelaw01_WordTells.j2, awake_true]

/-- The law's head. -/
theorem law_is (x : Int) (h0 : 0 ≤ x) (h1 : x ≤ 18446744073709551615) (t : Int × Int × Int × Int × Int) (i : Int × Bool) (c : Int × Bool) (a : Int × Bool) (h : Int × Int × Int × Bool) (m : Bool)
    (ht : moraineref01_Of.f 99 x = some t) (hi : word_Int.f x = some i) (hc : word_Rune.f x = some c) (ha : word_Addr.f x = some a) (hh : word_Head.f x = some h) (hm : word_May.f x = some m) (e : m = (t.1 != 0))
    (k : morainelaw01_WordTells.j0 99 i.1 i.2 c.1 c.2 a.1 a.2 h.1 h.2.1 h.2.2.1 h.2.2.2 false t.1 t.2.1 t.2.2.1 t.2.2.2.1 t.2.2.2.2 = some true) : morainelaw01_WordTells.f 99 x = some true := by
  unfold morainelaw01_WordTells.f
  have e1 : wrap64 (Int.tmod x 8) = x % 8 := by rw [Int.tmod_eq_emod_of_nonneg h0]; unfold wrap64; omega
  have e2 : (m != (t.1 != 0)) = false := by rw [e]; simp
  rw [ht, bsome, hi, bsome, hc, bsome, ha, bsome, hh, bsome, hm, bsome, e2, if_neg (by decide), tag_of x h0 h1, bsome, e1, if_pos rfl]
  unfold word_Truth.f
  rw [bsome, show ((x != 4) != (x != 4)) = false by simp]
  exact k

/-- What the document says. -/
theorem of_0 (x : Int) (h0 : 0 ≤ x) (h1 : x ≤ 18446744073709551615) (t : x % 8 = 0) : moraineref01_Of.f 99 x = some (1, 0, 0, wrap64 x / 8, 0) := by
  unfold moraineref01_Of.f
  have e1 : wrap64 (Int.tmod x 8) = x % 8 := by rw [Int.tmod_eq_emod_of_nonneg h0]; unfold wrap64; omega
  have e2 : IntKind.u64.wrap (Int.tdiv x 8) = x / 8 := by rw [Int.tdiv_eq_ediv_of_nonneg h0, IntKind.wrap_u64]; omega
  rw [e1, e2, if_pos t, power60, power61, bsome, bsome]
  by_cases g : x / 8 ≥ 1152921504606846976
  · rw [if_pos g, show wrap64 (-(wrap64 (IntKind.u64.wrap (2305843009213693952 - x / 8)))) = wrap64 x / 8 by rw [IntKind.wrap_u64]; unfold wrap64; omega]
  · rw [if_neg g, show wrap64 (x / 8) = wrap64 x / 8 by unfold wrap64; omega]
/-- The other tags: the switch. -/
theorem of_j0 (x : Int) (h0 : 0 ≤ x) (h1 : x ≤ 18446744073709551615) (t : ¬ x % 8 = 0) : moraineref01_Of.f 99 x = moraineref01_Of.j0 99 (x % 8) (x / 8) (x / 8 % 32) (x / 256) (x % 8) (decide (x % 8 = 1 ∨ x % 8 = 2 ∨ x % 8 = 3 ∨ x % 8 = 6)) := by
  unfold moraineref01_Of.f
  have e1 : wrap64 (Int.tmod x 8) = x % 8 := by rw [Int.tmod_eq_emod_of_nonneg h0]; unfold wrap64; omega
  have e2 : IntKind.u64.wrap (Int.tdiv x 8) = x / 8 := by rw [Int.tdiv_eq_ediv_of_nonneg h0, IntKind.wrap_u64]; omega
  have e3 : wrap64 (Int.tmod (x / 8) 32) = x / 8 % 32 := by rw [Int.tmod_eq_emod_of_nonneg (by omega)]; unfold wrap64; omega
  have e4 : IntKind.u64.wrap (Int.tdiv (x / 8) 32) = x / 256 := by rw [Int.tdiv_eq_ediv_of_nonneg (by omega), IntKind.wrap_u64]; omega
  rw [e1, e2, e3, e4, if_neg t]
  by_cases t1 : x % 8 = 1
  · rw [if_pos t1, show (x % 8 == 1) = decide (x % 8 = 1 ∨ x % 8 = 2 ∨ x % 8 = 3 ∨ x % 8 = 6) by rw [Bool.eq_iff_iff]; simp only [beq_iff_eq, decide_eq_true_eq]; omega]
  · rw [if_neg t1]
    by_cases t2 : x % 8 = 2
    · rw [if_pos t2, show (x % 8 == 2) = decide (x % 8 = 1 ∨ x % 8 = 2 ∨ x % 8 = 3 ∨ x % 8 = 6) by rw [Bool.eq_iff_iff]; simp only [beq_iff_eq, decide_eq_true_eq]; omega]
    · rw [if_neg t2]
      by_cases t3 : x % 8 = 3
      · rw [if_pos t3, show (x % 8 == 3) = decide (x % 8 = 1 ∨ x % 8 = 2 ∨ x % 8 = 3 ∨ x % 8 = 6) by rw [Bool.eq_iff_iff]; simp only [beq_iff_eq, decide_eq_true_eq]; omega]
      · rw [if_neg t3, show (x % 8 == 6) = decide (x % 8 = 1 ∨ x % 8 = 2 ∨ x % 8 = 3 ∨ x % 8 = 6) by rw [Bool.eq_iff_iff]; simp only [beq_iff_eq, decide_eq_true_eq]; omega]
theorem of_2 (x : Int) (h0 : 0 ≤ x) (h1 : x ≤ 18446744073709551615) (t : x % 8 = 1 ∨ x % 8 = 2 ∨ x % 8 = 3 ∨ x % 8 = 6) (l : x / 8 < 65536) : moraineref01_Of.f 99 x = some (2, x % 8, x / 8, 0, 0) := by
  rw [of_j0 x h0 h1 (by omega), decide_eq_true t, show (99 : Nat) = 98 + 1 from rfl]
  simp only [moraineref01_Of.j0]
  rw [if_pos True.intro, if_pos l, show wrap64 (x / 8) = x / 8 by unfold wrap64; omega]
theorem of_2none (x : Int) (h0 : 0 ≤ x) (h1 : x ≤ 18446744073709551615) (t : x % 8 = 1 ∨ x % 8 = 2 ∨ x % 8 = 3 ∨ x % 8 = 6) (l : ¬ x / 8 < 65536) : moraineref01_Of.f 99 x = some (0, 0, 0, 0, 0) := by
  rw [of_j0 x h0 h1 (by omega), decide_eq_true t, show (99 : Nat) = 98 + 1 from rfl]
  simp only [moraineref01_Of.j0]
  rw [if_pos True.intro, if_neg l]
theorem of_4 (x : Int) (h0 : 0 ≤ x) (h1 : x ≤ 18446744073709551615) (t : x % 8 = 4) : moraineref01_Of.f 99 x = moraineref01_Of.j1 98 (x / 8 % 32) (x / 256) (decide (x / 8 ≤ 6)) := by
  rw [of_j0 x h0 h1 (by omega), decide_eq_false (by omega), show (99 : Nat) = 98 + 1 from rfl]
  simp only [moraineref01_Of.j0]
  rw [if_neg (by decide), if_pos t]
  by_cases l : x / 8 % 32 < 7
  · rw [if_pos l, show (x / 256 == 0) = decide (x / 8 ≤ 6) by rw [Bool.eq_iff_iff]; simp only [beq_iff_eq, decide_eq_true_eq]; omega]
  · rw [if_neg l, decide_eq_false (by omega)]
theorem of_3 (x : Int) (h0 : 0 ≤ x) (h1 : x ≤ 18446744073709551615) (t : x % 8 = 4) (l : x / 8 ≤ 6) : moraineref01_Of.f 99 x = some (3, 0, x / 8 % 32, 0, 0) := by
  rw [of_4 x h0 h1 t, decide_eq_true l, show (98 : Nat) = 97 + 1 from rfl]
  simp only [moraineref01_Of.j1]
  rw [if_pos True.intro]
theorem of_c (x : Int) (h0 : 0 ≤ x) (h1 : x ≤ 18446744073709551615) (t : x % 8 = 4) (l : x / 8 % 32 = 7) (c : x / 256 ≤ 1114111 ∧ (x / 256 < 55296 ∨ x / 256 > 57343)) : moraineref01_Of.f 99 x = some (4, 0, x / 256, 0, 0) := by
  rw [of_4 x h0 h1 t, decide_eq_false (by omega), show (98 : Nat) = 97 + 1 from rfl]
  simp only [moraineref01_Of.j1]
  rw [if_neg (by decide), if_pos l, if_pos c.1, show wrap64 (x / 256) = x / 256 by unfold wrap64; omega]
  by_cases d : x / 256 < 55296
  · rw [if_pos d]
  · rw [if_neg d, if_pos (by omega)]
theorem of_4none (x : Int) (h0 : 0 ≤ x) (h1 : x ≤ 18446744073709551615) (t : x % 8 = 4) (l : ¬ x / 8 ≤ 6) (c : ¬ (x / 8 % 32 = 7 ∧ x / 256 ≤ 1114111 ∧ (x / 256 < 55296 ∨ x / 256 > 57343))) : moraineref01_Of.f 99 x = some (0, 0, 0, 0, 0) := by
  rw [of_4 x h0 h1 t, decide_eq_false l, show (98 : Nat) = 97 + 1 from rfl]
  simp only [moraineref01_Of.j1]
  rw [if_neg (by decide)]
  by_cases l7 : x / 8 % 32 = 7
  · rw [if_pos l7]
    by_cases c1 : x / 256 ≤ 1114111
    · have g1 : ¬ x / 256 < 55296 := by omega
      have g2 : ¬ x / 256 > 57343 := by omega
      rw [if_pos c1, if_neg g1, if_neg g2]
    · rw [if_neg c1]
  · rw [if_neg l7]
theorem of_5 (x : Int) (h0 : 0 ≤ x) (h1 : x ≤ 18446744073709551615) (t : x % 8 = 5) : moraineref01_Of.f 99 x = if 1 ≤ x / 8 % 32 ∧ x / 8 % 32 ≤ 13 ∧ x / 256 % 256 ≤ 62 then some (5, x / 8 % 32, x / 256 % 256, 0, x / 65536) else some (0, 0, 0, 0, 0) := by
  have t4 : ¬ x % 8 = 4 := by omega
  have e3 : wrap64 (Int.tmod (x / 256) 256) = x / 256 % 256 := by rw [Int.tmod_eq_emod_of_nonneg (by omega)]; unfold wrap64; omega
  have e4 : IntKind.u64.wrap (Int.tdiv (x / 256) 256) = x / 65536 := by rw [Int.tdiv_eq_ediv_of_nonneg (by omega), IntKind.wrap_u64]; omega
  rw [of_j0 x h0 h1 (by omega), decide_eq_false (by omega), show (99 : Nat) = 98 + 1 from rfl]
  simp only [moraineref01_Of.j0]
  rw [if_neg (by decide), if_neg t4, if_pos t, e3, e4]
  by_cases a : x / 8 % 32 ≥ 1
  · rw [if_pos a]
    by_cases b : x / 8 % 32 ≤ 13
    · rw [if_pos b]
      by_cases c : x / 256 % 256 ≤ 62
      · rw [if_pos c, if_pos ⟨a, b, c⟩]
      · rw [if_neg c, if_neg (fun h => c h.2.2)]
    · rw [if_neg b, if_neg (fun h => b h.2.1)]
  · rw [if_neg a, if_neg (fun h => a h.1)]
theorem of_7 (x : Int) (h0 : 0 ≤ x) (h1 : x ≤ 18446744073709551615) (t : x % 8 = 7) : moraineref01_Of.f 99 x = some (0, 0, 0, 0, 0) := by
  have t4 : ¬ x % 8 = 4 := by omega
  have t5 : ¬ x % 8 = 5 := by omega
  rw [of_j0 x h0 h1 (by omega), decide_eq_false (by omega), show (99 : Nat) = 98 + 1 from rfl]
  simp only [moraineref01_Of.j0]
  rw [if_neg (by decide), if_neg t4, if_neg t5]
/-- None of the four, where it may not be. -/
theorem none_of (x : Int) (h0 : 0 ≤ x) (h1 : x ≤ 18446744073709551615) (t : ¬ x % 8 = 0) (m : mayB x = false) (ht : moraineref01_Of.f 99 x = some (0, 0, 0, 0, 0)) : morainelaw01_WordTells.f 99 x = some true := by
  have m' : ¬ mayB x = true := by rw [m]; decide
  have ei := int_of x h0 h1
  have er := rune_of x h0 h1
  have ea := addr_of x h0 h1
  have eh := head_of x h0 h1
  rw [if_neg t] at ei
  rw [if_neg (fun h => m' h.2.2)] at er
  rw [if_neg (fun h => m' h.2)] at ea
  rw [if_neg (fun h => m' h.2)] at eh
  exact law_is x h0 h1 _ _ _ _ _ _ ht ei er ea eh (may_of x h0 h1) (by rw [m]; rfl) end_0
end WordTellsParts
open WordTellsParts

theorem WordTells : morainelaw01_WordTells.Pure := by
  intro x wx
  obtain ⟨h0, h1⟩ := Go.bounds_u64 wx
  refine ⟨99, ?_⟩
  have ei := int_of x h0 h1
  have er := rune_of x h0 h1
  have ea := addr_of x h0 h1
  have eh := head_of x h0 h1
  by_cases t0 : x % 8 = 0
  · rw [if_pos t0] at ei
    rw [if_neg (by omega)] at er
    rw [if_neg (by omega)] at ea
    rw [if_neg (by omega)] at eh
    exact law_is x h0 h1 _ _ _ _ _ _ (of_0 x h0 h1 t0) ei er ea eh (may_of x h0 h1) (by unfold mayB; rw [if_pos t0]; rfl) (end_1 _)
  · by_cases tn : x % 8 = 1 ∨ x % 8 = 2 ∨ x % 8 = 3 ∨ x % 8 = 6
    · have em : mayB x = decide (x / 8 < 65536) := by unfold mayB; rw [if_neg t0, if_pos tn]
      by_cases l : x / 8 < 65536
      · rw [decide_eq_true l] at em
        rw [if_neg t0] at ei
        rw [if_neg (by omega)] at er
        rw [if_pos ⟨tn, em⟩, show wrap64 (x / 8) = x / 8 by unfold wrap64; omega] at ea
        rw [if_neg (by omega)] at eh
        exact law_is x h0 h1 _ _ _ _ _ _ (of_2 x h0 h1 tn l) ei er ea eh (may_of x h0 h1) (by rw [em]; rfl) (end_2 _ _)
      · exact none_of x h0 h1 t0 (by rw [em, decide_eq_false l]) (of_2none x h0 h1 tn l)
    · by_cases t4 : x % 8 = 4
      · by_cases l7 : x / 8 % 32 = 7
        · have em : mayB x = decide (x / 256 ≤ 1114111 ∧ (x / 256 < 55296 ∨ x / 256 > 57343)) := by unfold mayB; rw [if_neg t0, if_neg tn, if_pos t4, if_pos l7]
          by_cases c : x / 256 ≤ 1114111 ∧ (x / 256 < 55296 ∨ x / 256 > 57343)
          · rw [decide_eq_true c] at em
            rw [if_neg t0] at ei
            rw [if_pos ⟨t4, l7, em⟩] at er
            rw [if_neg (fun h => tn h.1)] at ea
            rw [if_neg (by omega)] at eh
            exact law_is x h0 h1 _ _ _ _ _ _ (of_c x h0 h1 t4 l7 c) ei er ea eh (may_of x h0 h1) (by rw [em]; rfl) (end_4 _ _ (by show wrap64 (wrap32 (x / 256)) = x / 256; unfold wrap64 wrap32; omega))
          · exact none_of x h0 h1 t0 (by rw [em, decide_eq_false c]) (of_4none x h0 h1 t4 (by omega) (fun h => c h.2))
        · have em : mayB x = decide (x / 8 ≤ 6) := by unfold mayB; rw [if_neg t0, if_neg tn, if_pos t4, if_neg l7]
          by_cases c : x / 8 ≤ 6
          · rw [decide_eq_true c] at em
            rw [if_neg t0] at ei
            rw [if_neg (fun h => l7 h.2.1)] at er
            rw [if_neg (fun h => tn h.1)] at ea
            rw [if_neg (by omega)] at eh
            exact law_is x h0 h1 _ _ _ _ _ _ (of_3 x h0 h1 t4 c) ei er ea eh (may_of x h0 h1) (by rw [em]; rfl) (end_3 _)
          · exact none_of x h0 h1 t0 (by rw [em, decide_eq_false c]) (of_4none x h0 h1 t4 c (fun h => l7 h.1))
      · by_cases t5 : x % 8 = 5
        · have em : mayB x = decide (x % 8 = 5 ∧ 1 ≤ x / 8 % 32 ∧ x / 8 % 32 ≤ 13 ∧ x / 256 % 256 ≤ 62) := by unfold mayB; rw [if_neg t0, if_neg tn, if_neg t4]
          have eo := of_5 x h0 h1 t5
          by_cases c : 1 ≤ x / 8 % 32 ∧ x / 8 % 32 ≤ 13 ∧ x / 256 % 256 ≤ 62
          · rw [decide_eq_true ⟨t5, c⟩] at em
            rw [if_pos c] at eo
            rw [if_neg t0] at ei
            rw [if_neg (fun h => t4 h.1)] at er
            rw [if_neg (fun h => tn h.1)] at ea
            rw [if_pos ⟨t5, em⟩] at eh
            exact law_is x h0 h1 _ _ _ _ _ _ eo ei er ea eh (may_of x h0 h1) (by rw [em]; rfl) (end_5 _ _ _)
          · rw [if_neg c] at eo
            exact none_of x h0 h1 t0 (by rw [em, decide_eq_false (fun h => c h.2)]) eo
        · have em : mayB x = decide (x % 8 = 5 ∧ 1 ≤ x / 8 % 32 ∧ x / 8 % 32 ≤ 13 ∧ x / 256 % 256 ≤ 62) := by unfold mayB; rw [if_neg t0, if_neg tn, if_neg t4]
          exact none_of x h0 h1 t0 (by rw [em, decide_eq_false (fun h => t5 h.1)]) (of_7 x h0 h1 (by omega))

end Go.Proofs.Ytijhamhgdnhmgaa.Pure
