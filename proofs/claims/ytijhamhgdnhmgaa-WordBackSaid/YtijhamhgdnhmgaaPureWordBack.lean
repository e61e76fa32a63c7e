/- Each word that may be is just one of a fixnum, a character, an address, a header, or one of the seven constants, and is made anew of what is told of it: the law's plain statement over numbers. No conditions. -/
import Derived.Test.YtijhamhgdnhmgaaPWordBackx2
import Derived.Test.YtijhamhgdnhmgaaBits
import Derived.OpenShut
import Derived.KernelRfl
namespace Go.Proofs.Ytijhamhgdnhmgaa.Pure
set_option linter.unusedVariables false
set_option linter.unusedSimpArgs false
open Go.RowKit Go.Proofs.Ytijhamhgdnhmgaa.PWordBack Go.Proofs.YtijhamhgdnhmgaaW.PrintWords Go.Proofs.YtijhamhgdnhmgaaW.PrintLast
open Go.Proofs.Ytijhamhgdnhmgaa.Bits

namespace WordBackParts
theorem awake_true : morainelaw01_awake.f = some true := by decide +kernel

variable (x : Int) (h0 : 0 ≤ x) (h1 : x ≤ 18446744073709551615)
include h0 h1
theorem tag_of : word_Tag.f x = some (x % 8) := by
  unfold word_Tag.f
  rw [and_7 x h0 (by omega)]
  congr 1
  unfold wrap64; omega
theorem parts_of : word_parts.f x = some (x / 8 % 32, x / 256 % 256, x / 65536) := by
  unfold word_parts.f
  rw [if_pos h0, if_pos h1]
omit h0 h1 in
theorem letter_of (c : Int) : word_letter.f c = some (decide (c ≤ 1114111 ∧ (c < 55296 ∨ c > 57343))) := by
  unfold word_letter.f
  by_cases a : c ≤ 1114111
  · rw [if_pos a]
    by_cases b : c < 55296
    · rw [if_pos b]; congr 1; symm; simp only [decide_eq_true_eq]; omega
    · rw [if_neg b]; congr 1; simp only [decide_eq_decide]; omega
  · rw [if_neg a]; congr 1; symm; simp only [decide_eq_false_iff_not]; omega
/-- What May says. -/
def mayB (x : Int) : Bool :=
  if x % 8 = 0 then true else if x % 8 = 1 ∨ x % 8 = 2 ∨ x % 8 = 3 ∨ x % 8 = 6 then decide (x / 8 < 65536)
  else if x % 8 = 4 then (if x / 8 % 32 = 7 then decide (x / 256 ≤ 1114111 ∧ (x / 256 < 55296 ∨ x / 256 > 57343)) else decide (x / 8 ≤ 6))
  else decide (x % 8 = 5 ∧ 1 ≤ x / 8 % 32 ∧ x / 8 % 32 ≤ 13 ∧ x / 256 % 256 ≤ 62)
theorem may_of : word_May.f x = some (mayB x) := by
  unfold word_May.f mayB
  rw [parts_of x h0 h1, tag_of x h0 h1]
  simp only [bsome]
  by_cases t0 : x % 8 = 0
  · rw [if_pos t0, if_pos t0]
  · rw [if_neg t0, if_neg t0]
    by_cases t1 : x % 8 = 1
    · rw [if_pos t1, if_pos (.inl t1)]
    · rw [if_neg t1]
      by_cases t2 : x % 8 = 2
      · rw [if_pos t2, if_pos (.inr (.inl t2))]
      · rw [if_neg t2]
        by_cases t3 : x % 8 = 3
        · rw [if_pos t3, if_pos (.inr (.inr (.inl t3)))]
        · rw [if_neg t3]
          by_cases t6 : x % 8 = 6
          · rw [if_pos t6, if_pos (.inr (.inr (.inr t6)))]
          · have tn : ¬ (x % 8 = 1 ∨ x % 8 = 2 ∨ x % 8 = 3 ∨ x % 8 = 6) := by omega
            rw [if_neg t6, if_neg tn]
            by_cases t4 : x % 8 = 4
            · rw [if_pos t4, if_pos t4]
              by_cases l7 : x / 8 % 32 = 7
              · rw [if_pos l7, if_pos l7, letter_of]
                rfl
              · rw [if_neg l7, if_neg l7]
            · rw [if_neg t4, if_neg t4]
              by_cases t5 : x % 8 = 5
              · rw [if_pos t5]
                by_cases a : x / 8 % 32 ≥ 1
                · rw [if_pos a]
                  by_cases b : x / 8 % 32 ≤ 13
                  · rw [if_pos b]; congr 1; simp only [decide_eq_decide]; omega
                  · rw [if_neg b]; congr 1; symm; simp only [decide_eq_false_iff_not]; omega
                · rw [if_neg a]; congr 1; symm; simp only [decide_eq_false_iff_not]; omega
              · rw [if_neg t5]; congr 1; symm; simp only [decide_eq_false_iff_not]; omega
theorem int_of : word_Int.f x = some (if x % 8 = 0 then (wrap64 x / 8, true) else (0, false)) := by
  unfold word_Int.f
  rw [tag_of x h0 h1]
  simp only [bsome]
  split <;> rfl
theorem rune_of : word_Rune.f x = some (if x % 8 = 4 ∧ x / 8 % 32 = 7 ∧ mayB x = true then (wrap32 (x / 256), true) else (0, false)) := by
  unfold word_Rune.f
  rw [tag_of x h0 h1, parts_of x h0 h1, may_of x h0 h1]
  simp only [bsome]
  by_cases a : x % 8 = 4
  · rw [if_pos a]
    by_cases b : x / 8 % 32 = 7
    · rw [if_pos b]
      by_cases c : mayB x = true
      · rw [if_pos c, if_pos ⟨a, b, c⟩]
      · rw [if_neg c, if_neg (fun h => c h.2.2)]
    · rw [if_neg b, if_neg (fun h => b h.2.1)]
  · rw [if_neg a, if_neg (fun h => a h.1)]
omit h0 h1 in
theorem place_of (t : Int) : word_place.f t = some (decide (t = 1 ∨ t = 2 ∨ t = 3 ∨ t = 6)) := by
  unfold word_place.f
  by_cases a : t ≥ 1
  · rw [if_pos a]
    by_cases b : t ≤ 3
    · rw [if_pos b]; congr 1; symm; simp only [decide_eq_true_eq]; omega
    · rw [if_neg b]; congr 1; rw [Bool.eq_iff_iff]; simp only [beq_iff_eq, decide_eq_true_eq]; omega
  · rw [if_neg a]; congr 1; rw [Bool.eq_iff_iff]; simp only [beq_iff_eq, decide_eq_true_eq]; omega
theorem addr_of : word_Addr.f x = some (if (x % 8 = 1 ∨ x % 8 = 2 ∨ x % 8 = 3 ∨ x % 8 = 6) ∧ mayB x = true then (wrap64 (x / 8), true) else (0, false)) := by
  unfold word_Addr.f
  rw [tag_of x h0 h1]
  simp only [bsome]
  rw [place_of, may_of x h0 h1]
  simp only [Option.bind_some, decide_eq_true_eq]
  by_cases a : x % 8 = 1 ∨ x % 8 = 2 ∨ x % 8 = 3 ∨ x % 8 = 6
  · rw [if_pos a]
    by_cases c : mayB x = true
    · rw [if_pos c, if_pos ⟨a, c⟩]
    · rw [if_neg c, if_neg (fun h => c h.2)]
  · rw [if_neg a, if_neg (fun h => a h.1)]
theorem head_of : word_Head.f x = some (if x % 8 = 5 ∧ mayB x = true then (x / 8 % 32, x / 256 % 256, x / 65536, true) else (0, 0, 0, false)) := by
  unfold word_Head.f
  rw [tag_of x h0 h1, may_of x h0 h1, parts_of x h0 h1]
  simp only [bsome]
  by_cases a : x % 8 = 5
  · rw [if_pos a]
    by_cases c : mayB x = true
    · rw [if_pos c, if_pos ⟨a, c⟩]
    · rw [if_neg c, if_neg (fun h => c h.2)]
  · rw [if_neg a, if_neg (fun h => a h.1)]
omit h0 h1
/-- The constants. -/
def constB (x : Int) : Bool := decide (x = 4 ∨ x = 12 ∨ x = 20 ∨ x = 28 ∨ x = 36 ∨ x = 44 ∨ x = 52)

theorem run_0 (x0 x3 : Int) (x5 : Int) (x7 : Int) (x9 x10 x11 : Int) : morainelaw01_WordBack.l0 98 x0 x3 false x5 false x7 false x9 x10 x11 false [false, false, false, false, false] 0 0 = (word_May.f x0).bind fun t => morainelaw01_WordBack.j2 92 x0 x3 false x5 false x7 false x9 x10 x11 false (t != ((0 : Int) == 1)) := by kernel_rfl
theorem run_1 (x0 x3 : Int) (x5 : Int) (x7 : Int) (x9 x10 x11 : Int) : morainelaw01_WordBack.l0 98 x0 x3 true x5 false x7 false x9 x10 x11 false [true, false, false, false, false] 0 0 = (word_May.f x0).bind fun t => morainelaw01_WordBack.j2 92 x0 x3 true x5 false x7 false x9 x10 x11 false (t != ((1 : Int) == 1)) := by kernel_rfl
theorem run_2 (x0 x3 : Int) (x5 : Int) (x7 : Int) (x9 x10 x11 : Int) : morainelaw01_WordBack.l0 98 x0 x3 false x5 true x7 false x9 x10 x11 false [false, true, false, false, false] 0 0 = (word_May.f x0).bind fun t => morainelaw01_WordBack.j2 92 x0 x3 false x5 true x7 false x9 x10 x11 false (t != ((1 : Int) == 1)) := by kernel_rfl
theorem run_3 (x0 x3 : Int) (x5 : Int) (x7 : Int) (x9 x10 x11 : Int) : morainelaw01_WordBack.l0 98 x0 x3 false x5 false x7 true x9 x10 x11 false [false, false, true, false, false] 0 0 = (word_May.f x0).bind fun t => morainelaw01_WordBack.j2 92 x0 x3 false x5 false x7 true x9 x10 x11 false (t != ((1 : Int) == 1)) := by kernel_rfl
theorem run_4 (x0 x3 : Int) (x5 : Int) (x7 : Int) (x9 x10 x11 : Int) : morainelaw01_WordBack.l0 98 x0 x3 false x5 false x7 false x9 x10 x11 true [false, false, false, true, false] 0 0 = (word_May.f x0).bind fun t => morainelaw01_WordBack.j2 92 x0 x3 false x5 false x7 false x9 x10 x11 true (t != ((1 : Int) == 1)) := by kernel_rfl
theorem run_5 (x0 x3 : Int) (x5 : Int) (x7 : Int) (x9 x10 x11 : Int) : morainelaw01_WordBack.l0 98 x0 x3 false x5 false x7 false x9 x10 x11 false [false, false, false, false, true] 0 0 = (word_May.f x0).bind fun t => morainelaw01_WordBack.j2 92 x0 x3 false x5 false x7 false x9 x10 x11 false (t != ((1 : Int) == 1)) := by kernel_rfl

/-- The end of the law, the constants told as one Bool. -/
theorem to_j0 (a0 : Int) (x3 : Int) (x4 : Bool) (x5 : Int) (x6 : Bool) (x7 : Int) (x8 : Bool) (x9 x10 x11 : Int) (x12 : Bool) (r : Option Bool)
    (h : morainelaw01_WordBack.j0 99 a0 x3 x4 x5 x6 x7 x8 x9 x10 x11 x12 (constB a0) = r) :
    (if a0 = 4 then (morainelaw01_WordBack.j0 99 a0 x3 x4 x5 x6 x7 x8 x9 x10 x11 x12 true) else (if a0 = 12 then (morainelaw01_WordBack.j0 99 a0 x3 x4 x5 x6 x7 x8 x9 x10 x11 x12 true) else (if a0 = 20 then (morainelaw01_WordBack.j0 99 a0 x3 x4 x5 x6 x7 x8 x9 x10 x11 x12 true) else (if a0 = 28 then (morainelaw01_WordBack.j0 99 a0 x3 x4 x5 x6 x7 x8 x9 x10 x11 x12 true) else (if a0 = 36 then (morainelaw01_WordBack.j0 99 a0 x3 x4 x5 x6 x7 x8 x9 x10 x11 x12 true) else (if a0 = 44 then (morainelaw01_WordBack.j0 99 a0 x3 x4 x5 x6 x7 x8 x9 x10 x11 x12 true) else (morainelaw01_WordBack.j0 99 a0 x3 x4 x5 x6 x7 x8 x9 x10 x11 x12 (a0 == 52)))))))) = r := by
  by_cases c : constB a0 = true
  · rw [c] at h
    unfold constB at c
    simp only [decide_eq_true_eq] at c
    by_cases c1 : a0 = 4
    · rw [if_pos c1]; exact h
    · rw [if_neg c1]
      by_cases c2 : a0 = 12
      · rw [if_pos c2]; exact h
      · rw [if_neg c2]
        by_cases c3 : a0 = 20
        · rw [if_pos c3]; exact h
        · rw [if_neg c3]
          by_cases c4 : a0 = 28
          · rw [if_pos c4]; exact h
          · rw [if_neg c4]
            by_cases c5 : a0 = 36
            · rw [if_pos c5]; exact h
            · rw [if_neg c5]
              by_cases c6 : a0 = 44
              · rw [if_pos c6]; exact h
              · rw [if_neg c6, show (a0 == 52) = true by simp; omega]; exact h
  · rw [Bool.eq_false_iff.mpr c] at h
    unfold constB at c
    simp only [decide_eq_true_eq] at c
    rw [if_neg (by omega), if_neg (by omega), if_neg (by omega), if_neg (by omega), if_neg (by omega), if_neg (by omega), show (a0 == 52) = false by simp; omega]
    exact h
theorem end_true (n : Nat) (x0 x3 : Int) (x4 : Bool) (x5 : Int) (x6 : Bool) (x7 : Int) (x8 : Bool) (x9 x10 x11 : Int) (x12 : Bool) (hn : n = 92)
    (h4 : x4 = true → word_Fix.f x3 = some (x0, 0)) (h6 : x4 = false → x6 = true → word_Char.f x5 = some (x0, 0)) (h8 : x4 = false → x6 = false → x8 = true → (word_Tag.f x0).bind (fun t => word_At.f t x7) = some (x0, 0))
    (h12 : x4 = false → x6 = false → x8 = false → x12 = true → word_Header.f x9 x10 x11 = some (x0, 0)) :
    morainelaw01_WordBack.j2 n x0 x3 x4 x5 x6 x7 x8 x9 x10 x11 x12 false = some true := by
  subst hn
  rw [show (92 : Nat) = 91 + 1 from rfl]
  simp only [morainelaw01_WordBack.j2]
  cases x4 with
  | true => simp [h4 rfl, awake_true]
  | false =>
    cases x6 with
    | true => simp [h6 rfl rfl, awake_true]
    | false =>
      cases x8 with
      | true =>
        have e := h8 rfl rfl rfl
        obtain ⟨t, e1, e2⟩ := Option.bind_eq_some_iff.mp e
        simp [e1, e2, awake_true]
      | false =>
        cases x12 with
        | true => simp [h12 rfl rfl rfl rfl, awake_true]
        | false => simp [awake_true]

theorem case_fix (x : Int) (h0 : 0 ≤ x) (h1 : x ≤ 18446744073709551615) (t0 : x % 8 = 0) : morainelaw01_WordBack.l0 98 x (wrap64 x / 8) true 0 false 0 false 0 0 0 false [true, false, false, false, false] 0 0 = some true := by
  rw [run_1, may_of x h0 h1, show mayB x = true by unfold mayB; rw [if_pos t0]]
  simp only [bsome]
  refine end_true _ _ _ _ _ _ _ _ _ _ _ _ rfl ?_ (by intros; contradiction) (by intros; contradiction) (by intros; contradiction)
  intro _
  unfold word_Fix.f
  rw [if_neg (by unfold wrap64; omega), if_neg (by unfold wrap64; omega)]
  congr 2
  rw [IntKind.wrap_u64]
  unfold wrap64
  omega
theorem case_char (x : Int) (h0 : 0 ≤ x) (h1 : x ≤ 18446744073709551615) (t4 : x % 8 = 4) (l7 : x / 8 % 32 = 7) (m : mayB x = true) : morainelaw01_WordBack.l0 98 x 0 false (wrap32 (x / 256)) true 0 false 0 0 0 false [false, true, false, false, false] 0 0 = some true := by
  rw [run_2, may_of x h0 h1, m]
  simp only [bsome]
  refine end_true _ _ _ _ _ _ _ _ _ _ _ _ rfl (by intros; contradiction) ?_ (by intros; contradiction) (by intros; contradiction)
  intro _ _
  unfold mayB at m
  rw [if_neg (by omega), if_neg (by omega), if_pos t4, if_pos l7] at m
  simp only [decide_eq_true_eq] at m
  have ew : wrap32 (x / 256) = x / 256 := by unfold wrap32; omega
  unfold word_Char.f
  have e0 : IntKind.u64.wrap (x / 256) = x / 256 := by rw [IntKind.wrap_u64]; omega
  have e8 : IntKind.u64.wrap (x / 256 * 256) = x / 256 * 256 := by rw [IntKind.wrap_u64]; omega
  rw [ew, if_neg (by omega), e0, letter_of, show decide (x / 256 ≤ 1114111 ∧ (x / 256 < 55296 ∨ x / 256 > 57343)) = true from decide_eq_true m, e8,
    or_8 (x / 256 * 256) 56 (by omega) (by omega) (by omega) (by omega) (by omega), or_3 (x / 256 * 256 + 56) 4 (by omega) (by omega) (by omega) (by omega) (by omega)]
  simp only [bsome, if_true]
  congr 2
  omega
theorem case_place (x : Int) (h0 : 0 ≤ x) (h1 : x ≤ 18446744073709551615) (tn : x % 8 = 1 ∨ x % 8 = 2 ∨ x % 8 = 3 ∨ x % 8 = 6) (m : mayB x = true) : morainelaw01_WordBack.l0 98 x 0 false 0 false (wrap64 (x / 8)) true 0 0 0 false [false, false, true, false, false] 0 0 = some true := by
  rw [run_3, may_of x h0 h1, m]
  simp only [bsome]
  refine end_true _ _ _ _ _ _ _ _ _ _ _ _ rfl (by intros; contradiction) (by intros; contradiction) ?_ (by intros; contradiction)
  intro _ _ _
  unfold mayB at m
  rw [if_neg (by omega), if_pos tn] at m
  simp only [decide_eq_true_eq] at m
  have ew : wrap64 (x / 8) = x / 8 := by unfold wrap64; omega
  have e1 : IntKind.u64.wrap (x / 8) = x / 8 := by rw [IntKind.wrap_u64]; omega
  have e2 : IntKind.u64.wrap (x / 8 * 8) = x / 8 * 8 := by rw [IntKind.wrap_u64]; omega
  have e3 : IntKind.u64.wrap (x % 8) = x % 8 := by rw [IntKind.wrap_u64]; omega
  rw [tag_of x h0 h1]
  simp only [bsome]
  unfold word_At.f
  rw [ew, place_of, show decide (x % 8 = 1 ∨ x % 8 = 2 ∨ x % 8 = 3 ∨ x % 8 = 6) = true from decide_eq_true tn]
  rw [bsome, if_pos rfl]
  have g1 : ¬ x / 8 < 0 := by omega
  have g2 : ¬ x / 8 ≥ 65536 := by omega
  rw [if_neg g1, if_neg g2, e1, e2, e3, or_3 (x / 8 * 8) (x % 8) (by omega) (by omega) (by omega) (by omega) (by omega)]
  rw [show x / 8 * 8 + x % 8 = x by omega]
theorem case_head (x : Int) (h0 : 0 ≤ x) (h1 : x ≤ 18446744073709551615) (t5 : x % 8 = 5) (m : mayB x = true) : morainelaw01_WordBack.l0 98 x 0 false 0 false 0 false (x / 8 % 32) (x / 256 % 256) (x / 65536) true [false, false, false, true, false] 0 0 = some true := by
  rw [run_4, may_of x h0 h1, m]
  simp only [bsome]
  refine end_true _ _ _ _ _ _ _ _ _ _ _ _ rfl (by intros; contradiction) (by intros; contradiction) (by intros; contradiction) ?_
  intro _ _ _ _
  unfold mayB at m
  rw [if_neg (by omega), if_neg (by omega), if_neg (by omega)] at m
  simp only [decide_eq_true_eq] at m
  unfold word_Header.f
  rw [if_neg (by omega), if_neg (by omega), if_neg (by omega), if_neg (by omega), if_neg (by omega)]
  have e1 : IntKind.u64.wrap (x / 65536 * 65536) = x / 65536 * 65536 := by rw [IntKind.wrap_u64]; omega
  have e2 : IntKind.u64.wrap (x / 256 % 256) = x / 256 % 256 := by rw [IntKind.wrap_u64]; omega
  have e3 : IntKind.u64.wrap (x / 256 % 256 * 256) = x / 256 % 256 * 256 := by rw [IntKind.wrap_u64]; omega
  have e4 : IntKind.u64.wrap (x / 8 % 32) = x / 8 % 32 := by rw [IntKind.wrap_u64]; omega
  have e5 : IntKind.u64.wrap (x / 8 % 32 * 8) = x / 8 % 32 * 8 := by rw [IntKind.wrap_u64]; omega
  rw [e1, e2, e3, e4, e5, or_16 (x / 65536 * 65536) (x / 256 % 256 * 256) (by omega) (by omega) (by omega) (by omega) (by omega), or_8 _ (x / 8 % 32 * 8) (by omega) (by omega) (by omega) (by omega) (by omega),
    or_3 _ 5 (by omega) (by omega) (by omega) (by omega) (by omega)]
  congr 2
  omega
theorem case_const (x : Int) (h0 : 0 ≤ x) (h1 : x ≤ 18446744073709551615) (m : mayB x = true) : morainelaw01_WordBack.l0 98 x 0 false 0 false 0 false 0 0 0 false [false, false, false, false, true] 0 0 = some true := by
  rw [run_5, may_of x h0 h1, m]
  simp only [bsome]
  refine end_true _ _ _ _ _ _ _ _ _ _ _ _ rfl ?_ ?_ ?_ ?_ <;> (intros; contradiction)
theorem case_none (x : Int) (h0 : 0 ≤ x) (h1 : x ≤ 18446744073709551615) (m : mayB x = false) : morainelaw01_WordBack.l0 98 x 0 false 0 false 0 false 0 0 0 false [false, false, false, false, false] 0 0 = some true := by
  rw [run_0, may_of x h0 h1, m]
  simp only [bsome]
  refine end_true _ _ _ _ _ _ _ _ _ _ _ _ rfl ?_ ?_ ?_ ?_ <;> (intros; contradiction)
theorem j0_is (a0 : Int) (x3 : Int) (x4 : Bool) (x5 : Int) (x6 : Bool) (x7 : Int) (x8 : Bool) (x9 x10 x11 : Int) (x12 x13 : Bool) (r : Option Bool)
    (h : morainelaw01_WordBack.l0 98 a0 x3 x4 x5 x6 x7 x8 x9 x10 x11 x12 [x4, x6, x8, x12, x13] 0 0 = r) : morainelaw01_WordBack.j0 99 a0 x3 x4 x5 x6 x7 x8 x9 x10 x11 x12 x13 = r := by
  rw [show (99 : Nat) = 98 + 1 from rfl]
  simp only [morainelaw01_WordBack.j0]
  exact h
/-- The law's head with what the four tell. -/
theorem law_is (x : Int) (i : Int × Bool) (c : Int × Bool) (a : Int × Bool) (h : Int × Int × Int × Bool) (hi : word_Int.f x = some i) (hc : word_Rune.f x = some c) (ha : word_Addr.f x = some a) (hh : word_Head.f x = some h)
    (k : morainelaw01_WordBack.l0 98 x i.1 i.2 c.1 c.2 a.1 a.2 h.1 h.2.1 h.2.2.1 h.2.2.2 [i.2, c.2, a.2, h.2.2.2, constB x] 0 0 = some true) : morainelaw01_WordBack.f 99 x = some true := by
  unfold morainelaw01_WordBack.f
  rw [hi, hc, ha, hh]
  simp only [bsome]
  exact to_j0 _ _ _ _ _ _ _ _ _ _ _ _ (j0_is _ _ _ _ _ _ _ _ _ _ _ _ _ k)
end WordBackParts
open WordBackParts

theorem WordBack : morainelaw01_WordBack.Pure := by
  intro x wx
  obtain ⟨h0, h1⟩ := Go.bounds_u64 wx
  refine ⟨99, law_is x _ _ _ _ (int_of x h0 h1) (rune_of x h0 h1) (addr_of x h0 h1) (head_of x h0 h1) ?_⟩
  by_cases t0 : x % 8 = 0
  · rw [if_pos t0, if_neg (by omega), if_neg (by omega), if_neg (by omega), show constB x = false by unfold constB; simp only [decide_eq_false_iff_not]; omega]
    exact case_fix x h0 h1 t0
  · rw [if_neg t0]
    by_cases m : mayB x = true
    · by_cases t4 : x % 8 = 4
      · by_cases l7 : x / 8 % 32 = 7
        · rw [if_pos ⟨t4, l7, m⟩, if_neg (by omega), if_neg (by omega), show constB x = false by unfold constB; simp only [decide_eq_false_iff_not]; omega]
          exact case_char x h0 h1 t4 l7 m
        · have m' := m
          unfold mayB at m'
          rw [if_neg t0, if_neg (by omega), if_pos t4, if_neg l7] at m'
          simp only [decide_eq_true_eq] at m'
          rw [if_neg (by omega), if_neg (by omega), if_neg (by omega), show constB x = true by unfold constB; simp only [decide_eq_true_eq]; omega]
          exact case_const x h0 h1 m
      · by_cases t5 : x % 8 = 5
        · rw [if_neg (by omega), if_neg (by omega), if_pos ⟨t5, m⟩, show constB x = false by unfold constB; simp only [decide_eq_false_iff_not]; omega]
          exact case_head x h0 h1 t5 m
        · have tn : x % 8 = 1 ∨ x % 8 = 2 ∨ x % 8 = 3 ∨ x % 8 = 6 := by
            by_cases q : x % 8 = 1 ∨ x % 8 = 2 ∨ x % 8 = 3 ∨ x % 8 = 6
            · exact q
            · have m' := m
              unfold mayB at m'
              rw [if_neg t0, if_neg q, if_neg t4] at m'
              simp only [decide_eq_true_eq] at m'
              exact absurd m'.1 t5
          rw [if_neg (by omega), if_pos ⟨tn, m⟩, if_neg (by omega), show constB x = false by unfold constB; simp only [decide_eq_false_iff_not]; omega]
          exact case_place x h0 h1 tn m
    · rw [if_neg (fun h => m h.2.2), if_neg (fun h => m h.2), if_neg (fun h => m h.2)]
      have c : constB x = false := by
        have m' := m
        unfold constB
        simp only [decide_eq_false_iff_not]
        intro c
        apply m'
        unfold mayB
        rw [if_neg t0, if_neg (by omega), if_pos (by omega), if_neg (by omega)]
        simp only [decide_eq_true_eq]
        omega
      rw [c]
      exact case_none x h0 h1 (Bool.eq_false_iff.mpr m)

end Go.Proofs.Ytijhamhgdnhmgaa.Pure
