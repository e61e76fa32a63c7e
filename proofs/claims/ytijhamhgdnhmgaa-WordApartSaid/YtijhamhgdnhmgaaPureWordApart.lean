/- Unlike fixnums, characters, addresses, headers have unlike words; a fixnum is no character, and so on: the law's plain statement over numbers. No conditions. -/
import Derived.Test.YtijhamhgdnhmgaaPWordApartx2
import Derived.Test.YtijhamhgdnhmgaaBits
import Derived.OpenShut
namespace Go.Proofs.Ytijhamhgdnhmgaa.Pure
set_option linter.unusedVariables false
set_option linter.unusedSimpArgs false
open Go.RowKit Go.Proofs.Ytijhamhgdnhmgaa.PWordApart Go.Proofs.YtijhamhgdnhmgaaW.PrintWords Go.Proofs.YtijhamhgdnhmgaaW.PrintLast
open Go.Proofs.Ytijhamhgdnhmgaa.Bits

namespace WordApartParts
theorem awake_true : morainelaw01_awake.f = some true := by decide +kernel

theorem letter_of (c : Int) : word_letter.f c = some (decide (c ≤ 1114111 ∧ (c < 55296 ∨ c > 57343))) := by
  unfold word_letter.f
  by_cases a : c ≤ 1114111
  · rw [if_pos a]
    by_cases b : c < 55296
    · rw [if_pos b]; congr 1; symm; simp only [decide_eq_true_eq]; omega
    · rw [if_neg b]; congr 1; simp only [decide_eq_decide]; omega
  · rw [if_neg a]; congr 1; symm; simp only [decide_eq_false_iff_not]; omega
theorem place_of (t : Int) : word_place.f t = some (decide (t = 1 ∨ t = 2 ∨ t = 3 ∨ t = 6)) := by
  unfold word_place.f
  by_cases a : t ≥ 1
  · rw [if_pos a]
    by_cases b : t ≤ 3
    · rw [if_pos b]; congr 1; symm; simp only [decide_eq_true_eq]; omega
    · rw [if_neg b]; congr 1; rw [Bool.eq_iff_iff]; simp only [beq_iff_eq, decide_eq_true_eq]; omega
  · rw [if_neg a]; congr 1; rw [Bool.eq_iff_iff]; simp only [beq_iff_eq, decide_eq_true_eq]; omega

section
variable (x : Int) (h0 : 0 ≤ x) (h1 : x ≤ 18446744073709551615)
include h0 h1
theorem tag_of : word_Tag.f x = some (x % 8) := by
  unfold word_Tag.f
  rw [and_7 x h0 (by omega)]
  congr 1
  unfold wrap64; omega
theorem parts_of : word_parts.f x = some (x / 8 % 32, x / 256 % 256, x / 65536) := by
  unfold word_parts.f
  rw [if_pos h0, if_pos h1]
theorem may_0 (t : x % 8 = 0) : word_May.f x = some true := by
  unfold word_May.f
  rw [parts_of x h0 h1, tag_of x h0 h1, bsome, bsome, if_pos t]
theorem may_a (t : x % 8 = 1 ∨ x % 8 = 2 ∨ x % 8 = 3 ∨ x % 8 = 6) (l : x / 8 < 65536) : word_May.f x = some true := by
  have e : (some (decide (x / 8 < 65536)) : Option Bool) = some true := by rw [decide_eq_true l]
  unfold word_May.f
  rw [parts_of x h0 h1, tag_of x h0 h1, bsome, bsome, if_neg (by omega), e]
  by_cases t1 : x % 8 = 1
  · rw [if_pos t1]
  · rw [if_neg t1]
    by_cases t2 : x % 8 = 2
    · rw [if_pos t2]
    · rw [if_neg t2]
      by_cases t3 : x % 8 = 3
      · rw [if_pos t3]
      · have t6 : x % 8 = 6 := by omega
        rw [if_neg t3, if_pos t6]
theorem may_c (t : x % 256 = 60) (l : x / 256 ≤ 1114111 ∧ (x / 256 < 55296 ∨ x / 256 > 57343)) : word_May.f x = some true := by
  have g0 : ¬ x % 8 = 0 := by omega
  have g1 : ¬ x % 8 = 1 := by omega
  have g2 : ¬ x % 8 = 2 := by omega
  have g3 : ¬ x % 8 = 3 := by omega
  have g6 : ¬ x % 8 = 6 := by omega
  have g4 : x % 8 = 4 := by omega
  have g7 : x / 8 % 32 = 7 := by omega
  unfold word_May.f
  rw [parts_of x h0 h1, tag_of x h0 h1, bsome, bsome, if_neg g0, if_neg g1, if_neg g2, if_neg g3, if_neg g6, if_pos g4, if_pos g7, letter_of, bsome, decide_eq_true l]
theorem may_h (t : x % 8 = 5) (a : 1 ≤ x / 8 % 32) (b : x / 8 % 32 ≤ 13) (c : x / 256 % 256 ≤ 62) : word_May.f x = some true := by
  have g0 : ¬ x % 8 = 0 := by omega
  have g1 : ¬ x % 8 = 1 := by omega
  have g2 : ¬ x % 8 = 2 := by omega
  have g3 : ¬ x % 8 = 3 := by omega
  have g6 : ¬ x % 8 = 6 := by omega
  have g4 : ¬ x % 8 = 4 := by omega
  unfold word_May.f
  rw [parts_of x h0 h1, tag_of x h0 h1, bsome, bsome, if_neg g0, if_neg g1, if_neg g2, if_neg g3, if_neg g6, if_neg g4, if_pos t, if_pos a, if_pos b, decide_eq_true c]
end

/-- A word that may be, of its kind. -/
def Good (C : Int → Prop) (r : Int × Int) : Prop := r.2 = 0 → word_May.f r.1 = some true ∧ C r.1
def C0 (x : Int) : Prop := x % 8 = 0
def C1 (x : Int) : Prop := x % 256 = 60
def C2 (x : Int) : Prop := x % 8 = 1 ∨ x % 8 = 2 ∨ x % 8 = 3 ∨ x % 8 = 6
def C3 (x : Int) : Prop := x % 8 = 5

/-- What a row of words holds: all may be, all are of the kinds S, none twice; at most n. -/
structure Row (S : Int → Prop) (n : Nat) (l : List Int) : Prop where
  may : ∀ x ∈ l, word_May.f x = some true
  kinds : ∀ x ∈ l, S x
  apart : l.Nodup
  few : l.length ≤ n

theorem good_one {S C : Int → Prop} {n : Nat} {l : List Int} (h : Row S n l) (hn : n ≤ 20) (r : Int × Int) (hr : Good C r) (hd : ∀ x, r.2 = 0 → x = r.1 → ¬ S x) :
    ∃ l', morainelaw01_good.f l r.1 r.2 = some l' ∧ Row (fun x => S x ∨ (r.2 = 0 ∧ x = r.1)) (n + 1) l' := by
  unfold morainelaw01_good.f
  by_cases e : r.2 = 0
  · rw [if_pos e, if_pos (by have := h.few; omega)]
    refine ⟨_, rfl, ?_, ?_, ?_, ?_⟩
    · intro x hx
      rcases List.mem_append.mp hx with hx | hx
      · exact h.may x hx
      · rw [List.mem_singleton] at hx; subst hx; exact (hr e).1
    · intro x hx
      rcases List.mem_append.mp hx with hx | hx
      · exact .inl (h.kinds x hx)
      · rw [List.mem_singleton] at hx; exact .inr ⟨e, hx⟩
    · rw [List.nodup_append]
      refine ⟨h.apart, by simp, ?_⟩
      intro a ha b hb
      rw [List.mem_singleton] at hb
      subst hb
      intro hab
      subst hab
      exact hd _ e rfl (h.kinds _ ha)
    · have := h.few
      simp only [List.length_append, List.length_singleton]
      omega
  · rw [if_neg e]
    exact ⟨l, rfl, h.may, fun x hx => .inl (h.kinds x hx), h.apart, by have := h.few; omega⟩

theorem Row.weaken {S T : Int → Prop} {n m : Nat} {l : List Int} (h : Row S n l) (hs : ∀ x, S x → T x) (hn : n ≤ m) : Row T m l :=
  ⟨h.may, fun x hx => hs x (h.kinds x hx), h.apart, Nat.le_trans h.few hn⟩

/-- One kind, one or two words of it. -/
theorem good_stage {S C : Int → Prop} {n : Nat} {l : List Int} (h : Row S n l) (hn : n ≤ 18) (r s : Int × Int) (same : Bool) (hr : Good C r) (hs : Good C s) (hdis : ∀ x, S x → ¬ C x) (hne : same = false → r.2 = 0 → s.2 = 0 → r.1 ≠ s.1) :
    ∃ l' : List Int, Row (fun x => S x ∨ C x) (n + 2) l' ∧ ∃ l1, morainelaw01_good.f l r.1 r.2 = some l1 ∧ (same = true → l' = l1) ∧ (same = false → morainelaw01_good.f l1 s.1 s.2 = some l') := by
  obtain ⟨l1, e1, h1⟩ := good_one h (by omega) r hr (fun x e ex hx => hdis x hx (by subst ex; exact (hr e).2))
  cases same with
  | true =>
    refine ⟨l1, h1.weaken ?_ (by omega), l1, e1, fun _ => rfl, fun h => by cases h⟩
    rintro x (hx | ⟨e, ex⟩)
    · exact .inl hx
    · subst ex; exact .inr (hr e).2
  | false =>
    obtain ⟨l2, e2, h2⟩ := good_one h1 (by omega) s hs (fun x e ex hx => by
      subst ex
      rcases hx with hx | ⟨e', ex⟩
      · exact hdis _ hx (hs e).2
      · exact hne rfl e' e ex.symm)
    refine ⟨l2, h2.weaken ?_ (by omega), l1, e1, (fun h => by cases h), fun _ => e2⟩
    rintro x ((hx | ⟨e, ex⟩) | ⟨e, ex⟩)
    · exact .inl hx
    · subst ex; exact .inr (hr e).2
    · subst ex; exact .inr (hs e).2

/-! The words of each kind. -/
theorem fix_of (x : Int) (b : -9223372036854775808 ≤ x ∧ x ≤ 9223372036854775807) : ∃ r, word_Fix.f x = some r ∧ Good C0 r ∧ (r.2 = 0 → r.1 = (x * 8) % 18446744073709551616 ∧ -1152921504606846976 ≤ x ∧ x < 1152921504606846976) := by
  unfold word_Fix.f
  by_cases h1 : x < -1152921504606846976
  · rw [if_pos h1]
    exact ⟨_, rfl, fun h => by simp at h, fun h => by simp at h⟩
  · rw [if_neg h1]
    by_cases h2 : x ≥ 1152921504606846976
    · rw [if_pos h2]
      exact ⟨_, rfl, fun h => by simp at h, fun h => by simp at h⟩
    · rw [if_neg h2]
      have e : IntKind.u64.wrap (wrap64 (x * 8)) = (x * 8) % 18446744073709551616 := by rw [IntKind.wrap_u64]; unfold wrap64; omega
      rw [e]
      refine ⟨_, rfl, fun _ => ⟨may_0 _ (by show 0 ≤ (x * 8) % 18446744073709551616; omega) (by show (x * 8) % 18446744073709551616 ≤ _; omega) (by show (x * 8) % 18446744073709551616 % 8 = 0; omega), by show (x * 8) % 18446744073709551616 % 8 = 0; omega⟩, fun _ => ⟨rfl, by omega, by omega⟩⟩
theorem char_of (c : Int) (b : -2147483648 ≤ c ∧ c ≤ 2147483647) : ∃ r, word_Char.f c = some r ∧ Good C1 r ∧ (r.2 = 0 → r.1 = c * 256 + 60) := by
  unfold word_Char.f
  by_cases h1 : c < 0
  · rw [if_pos h1]
    exact ⟨_, rfl, fun h => by simp at h, fun h => by simp at h⟩
  · have e0 : IntKind.u64.wrap c = c := by rw [IntKind.wrap_u64]; omega
    have e8 : IntKind.u64.wrap (c * 256) = c * 256 := by rw [IntKind.wrap_u64]; omega
    rw [if_neg h1, e0, letter_of, bsome]
    by_cases l : c ≤ 1114111 ∧ (c < 55296 ∨ c > 57343)
    · rw [if_pos (decide_eq_true l), e8, or_8 (c * 256) 56 (by omega) (by omega) (by omega) (by omega) (by omega), or_3 (c * 256 + 56) 4 (by omega) (by omega) (by omega) (by omega) (by omega), show c * 256 + 56 + 4 = c * 256 + 60 by omega]
      refine ⟨_, rfl, fun _ => ⟨may_c _ (by show 0 ≤ c * 256 + 60; omega) (by show c * 256 + 60 ≤ _; omega) (by show (c * 256 + 60) % 256 = 60; omega) (by show (c * 256 + 60) / 256 ≤ 1114111 ∧ _; rw [show (c * 256 + 60) / 256 = c by omega]; exact l), by show (c * 256 + 60) % 256 = 60; omega⟩, fun _ => rfl⟩
    · rw [if_neg (by simpa using l)]
      exact ⟨_, rfl, fun h => by simp at h, fun h => by simp at h⟩
theorem at_of (t a : Int) : ∃ r, word_At.f t a = some r ∧ Good C2 r ∧ (r.2 = 0 → r.1 = a * 8 + t) := by
  unfold word_At.f
  rw [place_of, bsome]
  by_cases ht : t = 1 ∨ t = 2 ∨ t = 3 ∨ t = 6
  · rw [if_pos (decide_eq_true ht)]
    by_cases h1 : a < 0
    · rw [if_pos h1]
      exact ⟨_, rfl, fun h => by simp at h, fun h => by simp at h⟩
    · rw [if_neg h1]
      by_cases h2 : a ≥ 65536
      · rw [if_pos h2]
        exact ⟨_, rfl, fun h => by simp at h, fun h => by simp at h⟩
      · have e1 : IntKind.u64.wrap a = a := by rw [IntKind.wrap_u64]; omega
        have e2 : IntKind.u64.wrap (a * 8) = a * 8 := by rw [IntKind.wrap_u64]; omega
        have e3 : IntKind.u64.wrap t = t := by rw [IntKind.wrap_u64]; omega
        rw [if_neg h2, e1, e2, e3, or_3 (a * 8) t (by omega) (by omega) (by omega) (by omega) (by omega)]
        refine ⟨_, rfl, fun _ => ⟨may_a _ (by show 0 ≤ a * 8 + t; omega) (by show a * 8 + t ≤ _; omega) (by show (a * 8 + t) % 8 = 1 ∨ (a * 8 + t) % 8 = 2 ∨ (a * 8 + t) % 8 = 3 ∨ (a * 8 + t) % 8 = 6; omega) (by show (a * 8 + t) / 8 < 65536; omega), by show (a * 8 + t) % 8 = 1 ∨ (a * 8 + t) % 8 = 2 ∨ (a * 8 + t) % 8 = 3 ∨ (a * 8 + t) % 8 = 6; omega⟩, fun _ => rfl⟩
  · rw [if_neg (by simpa using ht)]
    exact ⟨_, rfl, fun h => by simp at h, fun h => by simp at h⟩
theorem head_of (t n m : Int) (bm : 0 ≤ m) : ∃ r, word_Header.f t n m = some r ∧ Good C3 r := by
  by_cases h : t < 1 ∨ t > 13 ∨ n < 0 ∨ n > 62 ∨ m ≥ 281474976710656
  · have e : word_Header.f t n m = some (0, 1) := by
      unfold word_Header.f
      repeat (split; rfl)
      omega
    exact ⟨_, e, fun h => by simp at h⟩
  · have e : word_Header.f t n m = some (m * 65536 + n * 256 + t * 8 + 5, 0) := by
      unfold word_Header.f
      have g1 : ¬ t < 1 := by omega
      have g2 : ¬ t > 13 := by omega
      have g3 : ¬ n < 0 := by omega
      have g4 : ¬ n > 62 := by omega
      have g5 : ¬ m ≥ 281474976710656 := by omega
      rw [if_neg g1, if_neg g2, if_neg g3, if_neg g4, if_neg g5]
      have e1 : IntKind.u64.wrap (m * 65536) = m * 65536 := by rw [IntKind.wrap_u64]; omega
      have e2 : IntKind.u64.wrap n = n := by rw [IntKind.wrap_u64]; omega
      have e3 : IntKind.u64.wrap (n * 256) = n * 256 := by rw [IntKind.wrap_u64]; omega
      have e4 : IntKind.u64.wrap t = t := by rw [IntKind.wrap_u64]; omega
      have e5 : IntKind.u64.wrap (t * 8) = t * 8 := by rw [IntKind.wrap_u64]; omega
      rw [e1, e2, e3, e4, e5, or_16 (m * 65536) (n * 256) (by omega) (by omega) (by omega) (by omega) (by omega), or_8 _ (t * 8) (by omega) (by omega) (by omega) (by omega) (by omega),
        or_3 _ 5 (by omega) (by omega) (by omega) (by omega) (by omega)]
    refine ⟨_, e, fun _ => ⟨may_h _ ?_ ?_ ?_ ?_ ?_ ?_, ?_⟩⟩
    · show 0 ≤ m * 65536 + n * 256 + t * 8 + 5; omega
    · show m * 65536 + n * 256 + t * 8 + 5 ≤ _; omega
    · show (m * 65536 + n * 256 + t * 8 + 5) % 8 = 5; omega
    · show 1 ≤ (m * 65536 + n * 256 + t * 8 + 5) / 8 % 32; omega
    · show (m * 65536 + n * 256 + t * 8 + 5) / 8 % 32 ≤ 13; omega
    · show (m * 65536 + n * 256 + t * 8 + 5) / 256 % 256 ≤ 62; omega
    · show (m * 65536 + n * 256 + t * 8 + 5) % 8 = 5; omega

/-! The two loops over a row. -/
theorem rd_nat (l : List Int) (i : Nat) (h : i < l.length) : rd l (i : Int) = l[i] := by
  unfold rd
  simp [h]
theorem inner (l : List Int) (hd : l.Nodup) (hl : l.length ≤ 16) (i : Nat) (hi : i < l.length) (r : Option Bool) (d : Nat) : ∀ (j k : Nat), j + d = i → morainelaw01_WordApart.l0 k l (i + 1 : Int) = r → morainelaw01_WordApart.l1 (d + 1 + k) l i j = r := by
  induction d with
  | zero =>
    intro j k hj hk
    rw [show 0 + 1 + k = k + 1 by omega]
    simp only [morainelaw01_WordApart.l1]
    rw [if_neg (by omega), show wrap64 ((i : Int) + 1) = i + 1 by unfold wrap64; omega]
    exact hk
  | succ d ih =>
    intro j k hj hk
    rw [show d + 1 + 1 + k = (d + 1 + k) + 1 by omega]
    simp only [morainelaw01_WordApart.l1]
    have ne : ¬ rd l (j : Int) = rd l (i : Int) := by
      rw [rd_nat l j (by omega), rd_nat l i hi]
      intro e
      exact absurd e (List.pairwise_iff_getElem.mp hd j i (by omega) hi (by omega))
    rw [if_pos (by omega), if_pos (by omega), if_pos (by omega), if_pos (by omega), if_pos (by omega), if_neg ne, show wrap64 ((j : Int) + 1) = ((j + 1 : Nat) : Int) by unfold wrap64; omega]
    exact ih (j + 1) k (by omega) hk
theorem outer (l : List Int) (hd : l.Nodup) (hm : ∀ x ∈ l, word_May.f x = some true) (hl : l.length ≤ 16) (d : Nat) : ∀ (i k : Nat), i + d = l.length → d * 20 + 1 ≤ k → morainelaw01_WordApart.l0 k l (i : Int) = some true := by
  induction d with
  | zero =>
    intro i k hi hk
    obtain ⟨k, rfl⟩ : ∃ m, k = m + 1 := ⟨k - 1, by omega⟩
    simp only [morainelaw01_WordApart.l0]
    rw [if_neg (by omega), awake_true, bsome]
  | succ d ih =>
    intro i k hi hk
    obtain ⟨k, rfl⟩ : ∃ m, k = m + 1 := ⟨k - 1, by omega⟩
    simp only [morainelaw01_WordApart.l0]
    have hm' : word_May.f (rd l (i : Int)) = some true := by rw [rd_nat l i (by omega)]; exact hm _ (List.getElem_mem _)
    rw [if_pos (by omega), if_pos (by omega), hm', bsome, if_pos rfl]
    have hin := inner l hd hl i (by omega) (some true) i 0 (k - (i + 1)) (by omega) (by
      have := ih (i + 1) (k - (i + 1)) (by omega) (by omega)
      exact this)
    rw [show i + 1 + (k - (i + 1)) = k by omega] at hin
    exact hin

def Kinds (x : Int) : Prop := ((C0 x ∨ C1 x) ∨ C2 x) ∨ C3 x
theorem j2_true (l : List Int) (h : Row (fun x => (C0 x ∨ C1 x) ∨ C2 x) 6 l) (t n m : Int) (bm : 0 ≤ m) : morainelaw01_WordApart.j2 900 t n m l = some true := by
  obtain ⟨r, er, hr⟩ := head_of t n m bm
  rw [show (900 : Nat) = 899 + 1 from rfl]
  simp only [morainelaw01_WordApart.j2]
  rw [er, bsome]
  have hdis : ∀ x, ((C0 x ∨ C1 x) ∨ C2 x) → ¬ C3 x := by
    intro x hx h3
    unfold C0 C1 C2 at hx
    unfold C3 at h3
    omega
  obtain ⟨l', hl', l1, e1, e2, _⟩ := good_stage h (by omega) r r true hr hr hdis (fun h => by cases h)
  obtain rfl := e2 rfl
  rw [e1, bsome, bsome, if_pos (by have := hl'.few; simp; omega)]
  have hk : ∀ x ∈ l', x % 8 = 0 ∨ x % 256 = 60 ∨ (x % 8 = 1 ∨ x % 8 = 2 ∨ x % 8 = 3 ∨ x % 8 = 6) ∨ x % 8 = 5 := by
    intro x hx
    have := hl'.kinds x hx
    unfold C0 C1 C2 C3 at this
    omega
  have hlen : (l' ++ [4, 12, 20, 28, 36, 44, 52]).length ≤ 16 := by have := hl'.few; simp; omega
  refine outer (l' ++ [4, 12, 20, 28, 36, 44, 52]) ?_ ?_ hlen _ 0 899 (Nat.zero_add _) (by omega)
  · rw [List.nodup_append]
    refine ⟨hl'.apart, by decide, ?_⟩
    intro a ha b hb
    have ka := hk a ha
    simp only [List.mem_cons, List.not_mem_nil, or_false] at hb
    omega
  · intro x hx
    rcases List.mem_append.mp hx with hx | hx
    · exact hl'.may x hx
    · simp only [List.mem_cons, List.not_mem_nil, or_false] at hx
      rcases hx with rfl | rfl | rfl | rfl | rfl | rfl | rfl <;> decide +kernel
theorem j1_true (l : List Int) (h : Row (fun x => C0 x ∨ C1 x) 4 l) (tag addr other t n m : Int) (bm : 0 ≤ m) : morainelaw01_WordApart.j1 901 tag addr other t n m l = some true := by
  obtain ⟨r, er, hr, vr⟩ := at_of tag addr
  obtain ⟨s, es, hs, vs⟩ := at_of tag other
  rw [show (901 : Nat) = 900 + 1 from rfl]
  simp only [morainelaw01_WordApart.j1]
  rw [er, bsome]
  simp only [es, bsome]
  have hdis : ∀ x, (C0 x ∨ C1 x) → ¬ C2 x := by
    intro x hx h3
    unfold C0 C1 at hx
    unfold C2 at h3
    omega
  obtain ⟨l', hl', l1, e1, e2, e3⟩ := good_stage h (by omega) r s (decide (addr = other)) hr hs hdis (fun hne a b => by
    rw [vr a, vs b]
    have := of_decide_eq_false hne
    omega)
  rw [e1, bsome]
  by_cases e : addr = other
  · rw [if_pos e]
    obtain rfl := e2 (decide_eq_true e)
    exact j2_true l' hl' t n m bm
  · rw [if_neg e, e3 (decide_eq_false e), bsome]
    exact j2_true l' hl' t n m bm
theorem j0_true (l : List Int) (h : Row C0 2 l) (c d tag addr other t n m : Int) (bc : -2147483648 ≤ c ∧ c ≤ 2147483647) (bd : -2147483648 ≤ d ∧ d ≤ 2147483647) (bm : 0 ≤ m) : morainelaw01_WordApart.j0 902 c d tag addr other t n m l = some true := by
  obtain ⟨r, er, hr, vr⟩ := char_of c bc
  obtain ⟨s, es, hs, vs⟩ := char_of d bd
  rw [show (902 : Nat) = 901 + 1 from rfl]
  simp only [morainelaw01_WordApart.j0]
  rw [er, bsome]
  simp only [es, bsome]
  have hdis : ∀ x, C0 x → ¬ C1 x := by
    intro x hx h3
    unfold C0 at hx
    unfold C1 at h3
    omega
  obtain ⟨l', hl', l1, e1, e2, e3⟩ := good_stage h (by omega) r s (decide (c = d)) hr hs hdis (fun hne a b => by
    rw [vr a, vs b]
    have := of_decide_eq_false hne
    omega)
  rw [e1, bsome]
  by_cases e : c = d
  · rw [if_pos e]
    obtain rfl := e2 (decide_eq_true e)
    exact j1_true l' hl' tag addr other t n m bm
  · rw [if_neg e, e3 (decide_eq_false e), bsome]
    exact j1_true l' hl' tag addr other t n m bm
end WordApartParts
open WordApartParts

theorem WordApart : morainelaw01_WordApart.Pure := by
  intro x y c d tag addr other t n m wx wy wc wd _ _ _ _ _ wm
  have bx := Go.bounds_i64 wx
  have by' := Go.bounds_i64 wy
  have bc := Go.bounds_i32 wc
  have bd := Go.bounds_i32 wd
  have bm := Go.bounds_u64 wm
  refine ⟨902, ?_⟩
  unfold morainelaw01_WordApart.f
  obtain ⟨r, er, hr, vr⟩ := fix_of x bx
  obtain ⟨s, es, hs, vs⟩ := fix_of y by'
  rw [er, bsome]
  simp only [es, bsome]
  have h : Row (fun _ => False) 0 ([] : List Int) := ⟨fun x hx => absurd hx (List.not_mem_nil), fun x hx => absurd hx (List.not_mem_nil), List.nodup_nil, Nat.le_refl _⟩
  obtain ⟨l', hl', l1, e1, e2, e3⟩ := good_stage h (by omega) r s (decide (x = y)) hr hs (fun _ h => h.elim) (fun hne a b => by
    obtain ⟨e1, l1, u1⟩ := vr a
    obtain ⟨e2, l2, u2⟩ := vs b
    rw [e1, e2]
    have := of_decide_eq_false hne
    omega)
  have hl2 : Row C0 2 l' := hl'.weaken (fun x hx => hx.resolve_left id) (Nat.le_refl _)
  rw [e1, bsome]
  by_cases e : x = y
  · rw [if_pos e]
    obtain rfl := e2 (decide_eq_true e)
    exact j0_true l' hl2 c d tag addr other t n m bc bd bm.1
  · rw [if_neg e, e3 (decide_eq_false e), bsome]
    exact j0_true l' hl2 c d tag addr other t n m bc bd bm.1

end Go.Proofs.Ytijhamhgdnhmgaa.Pure
