/- Of any number: whether it may be, the one that may, its sign, whether it fits, the one with the other sign (law NumMay). Conditions: none. -/
import Derived.Test.YthhpnlbeniihhaaDoorProg
import Derived.Below
import Derived.Deep.Draws
import Derived.Deep.AppendLies
import Derived.Maps.AppendAt
import Derived.OwnWalk
import Derived.Laws.BytesArg
import Derived.Laws.MakeOwn
import Derived.Laws.OwnMore
import Derived.Deep.OwnRows
import Derived.Tactics
import Derived.Lib.ConvBytes
import Derived.Laws.Slices
import Derived.WalkKit
import Derived.KernelRfl
import Derived.RowKit3
import Derived.Deep.LoopGhost
import Derived.Deep.QuietTactic
import Derived.BigQuiet
import Derived.WideLaws
import Derived.Deep.DeepCutAuto
import Derived.Deep.CutBlock
import Derived.Deep.RegionHeld3
import Derived.Laws.Rows
import Derived.Lib.AppendStr
import Derived.ArgAppend
import Derived.Laws.IdiomCopy
import Derived.OrdersHeld
import Derived.Laws.BitsLemmas
import Derived.RowKit
import Derived.Test.YthhpnlbeniihhaaDoorTie
import Derived.ProofKit
import Derived.OpenShut
import Derived.Deep.DeepHandedRow
import Derived.Carry
import Derived.Test.YthhpnlbeniihhaaDoorCNumMay3
namespace Go.Proofs.YthhpnlbeniihhaaDoor.Bit
open Go.Proofs.YthhpnlbeniihhaaDoor.Limb
set_option linter.unusedVariables false
set_option linter.unusedSimpArgs false
/-- The value of a row. -/
def bv : List Int → Nat
  | [] => 0
  | x :: l => x.toNat + 2 * bv l
/-- Each is a limb. -/
def OkB (l : List Int) : Prop := ∀ x ∈ l, 0 ≤ x ∧ x < 2
theorem bv_nil : bv [] = 0 := rfl
theorem bv_cons (x : Int) (l : List Int) : bv (x :: l) = x.toNat + 2 * bv l := rfl
theorem bv_append (l m : List Int) : bv (l ++ m) = bv l + 2 ^ l.length * bv m := by
  induction l with
  | nil => simp [bv]
  | cons x l ih =>
    simp only [List.cons_append, bv_cons, ih, List.length_cons, Nat.pow_succ]
    rw [Nat.mul_add, Nat.add_assoc, Nat.mul_comm (2 ^ l.length) 2, Nat.mul_assoc]
theorem bv_lt {l : List Int} (h : OkB l) : bv l < 2 ^ l.length := by
  induction l with
  | nil => simp [bv]
  | cons x l ih =>
    have hx := h x List.mem_cons_self
    have hl := ih (fun y hy => h y (List.mem_cons_of_mem _ hy))
    rw [bv_cons, List.length_cons, Nat.pow_succ]
    omega
theorem bv_zero {l : List Int} (h : OkB l) : bv l = 0 ↔ tr l = [] := by
  induction l with
  | nil => simp [bv, tr_nil]
  | cons x l ih =>
    have hx := h x List.mem_cons_self
    have ih := ih (fun y hy => h y (List.mem_cons_of_mem _ hy))
    rw [bv_cons, tr_cons]
    by_cases e : tr l = []
    · rw [if_pos e]
      have := ih.mpr e
      by_cases hx0 : x = 0
      · rw [if_pos hx0]; constructor
        · intro _; rfl
        · intro _; omega
      · rw [if_neg hx0]; constructor
        · intro q; omega
        · intro q; simp at q
    · rw [if_neg e]
      have : bv l ≠ 0 := fun q => e (ih.mp q)
      constructor
      · intro q; omega
      · intro q; simp at q
/-- The row of a value. -/
def bits (n : Nat) : List Int := if h : n = 0 then [] else ((n % 2 : Nat) : Int) :: bits (n / 2)
termination_by n
decreasing_by exact Nat.div_lt_self (by omega) (by decide)
theorem bits_zero : bits 0 = [] := by rw [bits]; simp
theorem bits_pos {n : Nat} (h : n ≠ 0) : bits n = ((n % 2 : Nat) : Int) :: bits (n / 2) := by rw [bits, dif_neg h]
theorem bits_nil {n : Nat} : bits n = [] ↔ n = 0 := by
  by_cases h : n = 0
  · subst h; simp [bits_zero]
  · rw [bits_pos h]; simp [h]
theorem bv_bits (n : Nat) : bv (bits n) = n := by
  induction n using Nat.strongRecOn with
  | ind n ih =>
    by_cases h : n = 0
    · subst h; rw [bits_zero]; rfl
    · rw [bits_pos h, bv_cons, ih _ (Nat.div_lt_self (by omega) (by decide))]
      omega
theorem ok_bits (n : Nat) : OkB (bits n) := by
  induction n using Nat.strongRecOn with
  | ind n ih =>
    by_cases h : n = 0
    · subst h; rw [bits_zero]; intro x hx; simp at hx
    · rw [bits_pos h]
      intro x hx
      rcases List.mem_cons.mp hx with rfl | hx
      · omega
      · exact ih _ (Nat.div_lt_self (by omega) (by decide)) x hx
/-- A row, trimmed, is the row of its value. -/
theorem tr_bits {l : List Int} (h : OkB l) : tr l = bits (bv l) := by
  induction l with
  | nil => rw [bv_nil, bits_zero]; rfl
  | cons x l ih =>
    have hx := h x List.mem_cons_self
    have hl : OkB l := fun y hy => h y (List.mem_cons_of_mem _ hy)
    have ih := ih hl
    rw [tr_cons, bv_cons]
    by_cases e : tr l = []
    · have m0 := (bv_zero hl).mpr e
      rw [if_pos e, m0]
      by_cases hx0 : x = 0
      · subst hx0; rw [if_pos rfl]; exact bits_zero.symm
      · rw [if_neg hx0, bits_pos (by omega), show (x.toNat + 2 * 0) / 2 = 0 by omega, bits_zero, show (((x.toNat + 2 * 0) % 2 : Nat) : Int) = x by omega]
    · have m0 : bv l ≠ 0 := fun q => e ((bv_zero hl).mp q)
      rw [if_neg e, bits_pos (by omega), show (x.toNat + 2 * bv l) / 2 = bv l by omega, ← ih, show (((x.toNat + 2 * bv l) % 2 : Nat) : Int) = x by omega]
theorem bits_len (n k : Nat) : (bits n).length ≤ k ↔ n < 2 ^ k := by
  induction k generalizing n with
  | zero =>
    rw [Nat.pow_zero, Nat.le_zero, List.length_eq_zero_iff, bits_nil]
    omega
  | succ k ih =>
    by_cases h : n = 0
    · subst h; simp [bits_zero, Nat.pow_pos]
    · rw [bits_pos h, List.length_cons, Nat.succ_le_succ_iff, ih, Nat.pow_succ]
      exact Nat.div_lt_iff_lt_mul (by decide)
theorem bv_le_len {l m : List Int} (hl : OkB l) (hm : OkB m) (tl : tr l = l) (tm : tr m = m) (h : l.length < m.length) : bv l < bv m := by
  have e1 : l = bits (bv l) := by rw [← tr_bits hl, tl]
  have e2 : m = bits (bv m) := by rw [← tr_bits hm, tm]
  have a := bv_lt hl
  have b : ¬ (bits (bv m)).length ≤ l.length := by rw [← e2]; omega
  rw [bits_len] at b
  omega
theorem bv_take_succ (l : List Int) (n : Nat) (h : n < l.length) : bv (l.take (n + 1)) = bv (l.take n) + 2 ^ n * (l[n]).toNat := by
  rw [take_succ' l n h, bv_append, List.length_take, Nat.min_eq_left (by omega)]
  simp [bv]
theorem bv_take_lt {l : List Int} (h : OkB l) (n : Nat) (hn : n ≤ l.length) : bv (l.take n) < 2 ^ n := by
  have := bv_lt (l := l.take n) (fun x hx => h x (List.mem_of_mem_take hx))
  rwa [List.length_take, Nat.min_eq_left hn] at this
/-- Rows that are the same from place n on: their values compare as what stands below. -/
theorem cmpb_below (a b : List Int) (hl : a.length = b.length) (n : Nat) (h : ∀ j, n ≤ j → (hj : j < a.length) → a[j] = b[j]'(by omega)) : cmpN (bv a) (bv b) = cmpN (bv (a.take n)) (bv (b.take n)) := by
  have hd : a.drop n = b.drop n := by
    apply List.ext_getElem
    · simp [hl]
    · intro i h1 h2
      simp only [List.getElem_drop]
      exact h (n + i) (by omega) (by simp at h1; omega)
  have ea : bv a = bv (a.take n) + 2 ^ (a.take n).length * bv (a.drop n) := by rw [← bv_append, List.take_append_drop]
  have eb : bv b = bv (b.take n) + 2 ^ (b.take n).length * bv (b.drop n) := by rw [← bv_append, List.take_append_drop]
  have el : (a.take n).length = (b.take n).length := by simp [hl]
  rw [ea, eb, hd, el]
  unfold cmpN
  split <;> split <;> (try split) <;> first | rfl | omega
/-- The first place from above where they part decides. -/
theorem cmpb_at (a b : List Int) (ha : OkB a) (hb : OkB b) (hl : a.length = b.length) (n : Nat) (hn : n < a.length) (h : ∀ j, n + 1 ≤ j → (hj : j < a.length) → a[j] = b[j]'(by omega)) (hne : a[n] ≠ b[n]'(by omega)) :
    cmpN (bv a) (bv b) = if a[n] < b[n]'(by omega) then -1 else 1 := by
  rw [cmpb_below a b hl (n + 1) h, bv_take_succ a n hn, bv_take_succ b n (by omega)]
  have la := bv_take_lt ha n (by omega)
  have lb := bv_take_lt hb n (by omega)
  have xa := ha a[n] (List.getElem_mem _)
  have xb := hb (b[n]'(by omega)) (List.getElem_mem _)
  generalize bv (a.take n) = p at *
  generalize bv (b.take n) = q at *
  generalize hu : (a[n]).toNat = u at *
  generalize hv : (b[n]'(by omega)).toNat = v at *
  generalize 2 ^ n = K at *
  by_cases c : a[n] < b[n]'(by omega)
  · rw [if_pos c]
    have huv : u + 1 ≤ v := by omega
    have hm : K * (u + 1) ≤ K * v := Nat.mul_le_mul_left K huv
    rw [Nat.mul_add] at hm
    unfold cmpN
    rw [if_pos (by omega)]
  · rw [if_neg c]
    have huv : v + 1 ≤ u := by omega
    have hm : K * (v + 1) ≤ K * u := Nat.mul_le_mul_left K huv
    rw [Nat.mul_add] at hm
    unfold cmpN
    rw [if_neg (by omega), if_pos (by omega)]
end Go.Proofs.YthhpnlbeniihhaaDoor.Bit
namespace Go.Proofs.YthhpnlbeniihhaaDoor.RefA
open Go.RowKit Go.Proofs.YthhpnlbeniihhaaDoorW.PrintWords Go.Proofs.YthhpnlbeniihhaaDoorW.PrintLast Go.Proofs.YthhpnlbeniihhaaDoorW.PrintMore Go.Proofs.YthhpnlbeniihhaaDoor.Limb Go.Proofs.YthhpnlbeniihhaaDoor.Bit Go.Proofs.YthhpnlbeniihhaaDoor.NumA Go.Proofs.YthhpnlbeniihhaaDoor.NumE Go.Proofs.YthhpnlbeniihhaaDoor.NumG Go.Proofs.YthhpnlbeniihhaaDoor.Quo Go.Proofs.YthhpnlbeniihhaaDoor.PRef
set_option linter.unusedVariables false
set_option linter.unusedSimpArgs false
theorem Ev.rbind {α β : Type} {g : Nat → Option α} {f : Nat → α → Option β} {a : α} {r : β} (h : Ev g a) (k : Ev (fun n => f n a) r) : Ev (fun n => (g n).bind (fun x => f n x)) r := Ev.bind h k
theorem Ev.some' {α : Type} {g : Nat → Option α} {r : α} (h : ∀ k, g k = some r) : Ev g r := ⟨0, fun k _ => h k⟩
theorem w64s {x : Int} (h0 : -9223372036854775808 ≤ x) (h1 : x ≤ 9223372036854775807) : wrap64 x = x := by unfold wrap64; omega
theorem OkB.okL {l : List Int} (h : OkB l) : OkL l := fun x hx => by have := h x hx; omega
theorem nl_le {l : List Int} (h : OkB l) (i : Nat) : nl l i ≤ 1 := by
  unfold nl
  by_cases hi : i < l.length
  · rw [rd_nat l i hi]
    have := h l[i] (List.getElem_mem hi)
    omega
  · rw [rd_out (i : Int) (by omega)]
    decide
theorem okB_nil : OkB [] := by intro x hx; simp at hx
theorem okB_snoc {l : List Int} (h : OkB l) (x : Nat) (hx : x ≤ 1) : OkB (l ++ [(x : Int)]) := by
  intro y hy
  rcases List.mem_append.mp hy with hy | hy
  · exact h y hy
  · rw [List.mem_singleton] at hy; subst hy; omega
theorem bv_take_next (l : List Int) (i : Nat) : bv (l.take (i + 1)) = bv (l.take i) + 2 ^ i * nl l i := by
  by_cases h : i < l.length
  · rw [bv_take_succ l i h]
    unfold nl
    rw [rd_nat l i h]
  · have e : nl l i = 0 := by unfold nl; rw [rd_out (i : Int) (by omega)]; rfl
    rw [e, List.take_of_length_le (by omega), List.take_of_length_le (by omega)]
    omega
theorem bv_snoc (l : List Int) (x : Nat) : bv (l ++ [(x : Int)]) = bv l + 2 ^ l.length * x := by
  rw [bv_append]
  simp [bv]
theorem cut_from (l : List Int) (hl : l.length < 4611686018427387904) (n : Nat) (hn : n ≤ l.length) : Ev (fun k => moraineref02_cut.l0 k l (n : Int)) (tr (l.take n)) := by
  induction n with
  | zero =>
    refine Ev.step (f := fun _ => some (l.take 0)) (fun k => ?_) (by rw [List.take_zero]; exact Ev.now _)
    rw [moraineref02_cut.l0, if_neg (by decide), if_pos (by decide), if_pos (by omega)]
    rfl
  | succ n ih =>
    have hlt : n < l.length := hn
    have e : wrap64 (((n + 1 : Nat) : Int) - 1) = (n : Int) := by rw [w64s (by omega) (by omega)]; omega
    by_cases hz : rd l (n : Int) = 0
    · have h0 : l[n] = 0 := by rw [← rd_nat l n hlt]; exact hz
      have et : tr (l.take (n + 1)) = tr (l.take n) := by rw [take_succ' l n hlt, h0, tr_snoc_zero]
      rw [et]
      refine Ev.step (fun k => ?_) (ih (by omega))
      rw [moraineref02_cut.l0, if_pos (by omega), e, if_pos (by omega), if_pos (by omega), if_pos hz]
    · have h0 : l[n] ≠ 0 := by rw [← rd_nat l n hlt]; exact hz
      have et : tr (l.take (n + 1)) = l.take (n + 1) := by rw [take_succ' l n hlt, tr_snoc_ne _ _ h0]
      rw [et]
      refine Ev.step (f := fun _ => some (l.take (n + 1))) (fun k => ?_) (Ev.now _)
      rw [moraineref02_cut.l0, if_pos (by omega), e, if_pos (by omega), if_pos (by omega), if_neg hz, if_pos (by omega), if_pos (by omega)]
      rfl
theorem cut_ev (l : List Int) (hl : l.length < 4611686018427387904) : Ev (fun k => moraineref02_cut.f k l) (tr l) := by
  have h := cut_from l hl l.length (Nat.le_refl _)
  rw [List.take_length] at h
  exact h
theorem value_ev (neg : Bool) (l : List Int) (hl : l.length < 4611686018427387904) : Ev (fun k => moraineref02_value.f k neg l) (neg && decide (0 < (tr l).length), tr l) := by
  unfold moraineref02_value.f
  refine Ev.rbind (cut_ev l hl) ?_
  cases neg with
  | true => exact Ev.some' (fun k => by rw [if_pos rfl]; rfl)
  | false => exact Ev.some' (fun k => by rw [if_neg (by decide)]; rfl)
theorem w_next (i : Nat) (h : i < 4611686018427387904) : wrap64 ((i : Int) + 1) = ((i + 1 : Nat) : Int) := by rw [w64s (by omega) (by omega)]; omega
theorem less_from (a b : List Int) (oa : OkB a) (ob : OkB b) (hl : a.length = b.length) (ha : a.length < 70368744177664) (n : Nat) (hn : n ≤ a.length) (hs : ∀ j, n ≤ j → (hj : j < a.length) → a[j] = b[j]'(by omega)) :
    Ev (fun k => moraineref02_less.l0 k a b ((n : Int) - 1)) (decide (bv a < bv b)) := by
  induction n with
  | zero =>
    have e : a = b := by
      apply List.ext_getElem hl
      intro j h1 h2
      exact hs j (by omega) h1
    subst e
    rw [show decide (bv a < bv a) = false from decide_eq_false (by omega)]
    exact Ev.step (f := fun _ => some false) (fun k => by rw [moraineref02_less.l0, if_neg (by omega)]) (Ev.now _)
  | succ n ih =>
    have hlt : n < a.length := hn
    have hlb : n < b.length := by omega
    rw [show ((n + 1 : Nat) : Int) - 1 = (n : Int) by omega]
    by_cases e : rd a (n : Int) = rd b (n : Int)
    · have e2 : a[n] = b[n] := by rw [← rd_nat a n hlt, ← rd_nat b n hlb]; exact e
      refine Ev.step (fun k => ?_) (ih (by omega) (fun j h1 h2 => by
        rcases Nat.eq_or_lt_of_le h1 with rfl | h
        · exact e2
        · exact hs j h h2))
      rw [moraineref02_less.l0, if_pos (by omega), if_pos (by omega), if_pos (by omega), if_pos (by omega), if_pos e, w64s (by omega) (by omega)]
    · have e2 : a[n] ≠ b[n] := by rw [← rd_nat a n hlt, ← rd_nat b n hlb]; exact e
      have hc := cmpb_at a b oa ob hl n hlt (fun j h1 h2 => hs j h1 h2) e2
      have hd : decide (bv a < bv b) = decide (rd a (n : Int) < rd b (n : Int)) := by
        rw [rd_nat a n hlt, rd_nat b n hlb]
        unfold cmpN at hc
        by_cases h1 : bv a < bv b
        · rw [if_pos h1] at hc
          by_cases h2 : a[n] < b[n]
          · simp [h1, h2]
          · rw [if_neg h2] at hc; omega
        · rw [if_neg h1] at hc
          by_cases h2 : a[n] < b[n]
          · rw [if_pos h2] at hc
            split at hc <;> omega
          · simp [h1, h2]
      rw [hd]
      exact Ev.step (f := fun _ => some (decide (rd a (n : Int) < rd b (n : Int)))) (fun k => by rw [moraineref02_less.l0, if_pos (by omega), if_pos (by omega), if_pos (by omega), if_pos (by omega), if_neg e]) (Ev.now _)
theorem less_ev (a b : List Int) (oa : OkB a) (ob : OkB b) (ta : tr a = a) (tb : tr b = b) (ha : a.length < 70368744177664) (hb : b.length < 70368744177664) : Ev (fun k => moraineref02_less.f k a b) (decide (bv a < bv b)) := by
  unfold moraineref02_less.f
  by_cases hl : a.length = b.length
  · refine Ev.congr (f := fun k => moraineref02_less.l0 k a b ((a.length : Int) - 1)) (fun k => ?_) (less_from a b oa ob hl ha a.length (Nat.le_refl _) (fun j h1 h2 => by omega))
    rw [if_pos (by omega), w64s (by omega) (by omega)]
  · refine Ev.some' (fun k => ?_)
    rw [if_neg (by omega)]
    congr 1
    by_cases h : a.length < b.length
    · have := bv_le_len oa ob ta tb h
      rw [decide_eq_true (by omega), decide_eq_true this]
    · have := bv_le_len ob oa tb ta (by omega)
      rw [decide_eq_false (by omega), decide_eq_false (by omega)]
end Go.Proofs.YthhpnlbeniihhaaDoor.RefA
namespace Go.Proofs.YthhpnlbeniihhaaDoor.RefB
open Go.RowKit Go.Proofs.YthhpnlbeniihhaaDoorW.PrintWords Go.Proofs.YthhpnlbeniihhaaDoorW.PrintLast Go.Proofs.YthhpnlbeniihhaaDoorW.PrintMore Go.Proofs.YthhpnlbeniihhaaDoor.Limb Go.Proofs.YthhpnlbeniihhaaDoor.Bit Go.Proofs.YthhpnlbeniihhaaDoor.NumA Go.Proofs.YthhpnlbeniihhaaDoor.NumE Go.Proofs.YthhpnlbeniihhaaDoor.NumG Go.Proofs.YthhpnlbeniihhaaDoor.Quo Go.Proofs.YthhpnlbeniihhaaDoor.RefA Go.Proofs.YthhpnlbeniihhaaDoor.PRef
set_option linter.unusedVariables false
set_option linter.unusedSimpArgs false
theorem shr_bit (x t : Nat) (hx : x < 4294967296) (ht : t < 32) : Go.bits .and .u32 (shr .u32 (x : Int) (t : Int)) 1 % 256 = ((x / 2 ^ t % 2 : Nat) : Int) := by
  have h := NumO.bit_and x t hx
  have e : shr .u32 (x : Int) (t : Int) = (x : Int) / 2 ^ t := by
    unfold shr
    rw [Int.toNat_natCast, Nat.min_eq_left (by show t ≤ 32; omega)]
  rw [e, h]
  omega
theorem mod_next (m j : Nat) : m % 2 ^ (j + 1) = m % 2 ^ j + 2 ^ j * (m / 2 ^ j % 2) := by
  rw [Nat.pow_succ, Nat.mod_mul]
theorem value_inner (neg : Bool) (l : List Int) (ok : OkL l) (hl : l.length < 1099511627776) (i : Nat) (hi : i < l.length) (R : Bool × List Int)
    (h : ∀ y : List Int, y.length = 32 * (i + 1) → OkB y → bv y = mag l % 2 ^ (32 * (i + 1)) → Ev (fun k => moraineref02_Value.l0 k y ((i + 1 : Nat) : Int) neg l) R) (e : Nat) :
    ∀ (t : Nat) (x3 : List Int), t + e = 32 → x3.length = 32 * i + t → OkB x3 → bv x3 = mag l % 2 ^ (32 * i + t) → Ev (fun k => moraineref02_Value.l1 k x3 (i : Int) (t : Int) neg l) R := by
  induction e with
  | zero =>
    intro t x3 ht hx ob hv
    obtain rfl : t = 32 := by omega
    refine Ev.step (f := fun k => moraineref02_Value.l0 k x3 ((i + 1 : Nat) : Int) neg l) (fun k => ?_) (h x3 (by omega) ob (by rw [hv]; congr 2))
    rw [moraineref02_Value.l1, if_neg (by decide), w_next i (by omega)]
  | succ e ih =>
    intro t x3 ht hx ob hv
    have ht2 : t < 32 := by omega
    have hn : rd l (i : Int) = ((nl l i : Nat) : Int) := (nl_cast ok i).symm
    have hb : nl l i < 4294967296 := nl_lt ok i
    have hbit := bit_limb ok (32 * i + t)
    rw [show (32 * i + t) / 32 = i by omega, show (32 * i + t) % 32 = t by omega] at hbit
    have hb2 : nl l i / 2 ^ t % 2 ≤ 1 := by omega
    refine Ev.step (f := fun k => moraineref02_Value.l1 k (x3 ++ [((nl l i / 2 ^ t % 2 : Nat) : Int)]) (i : Int) ((t + 1 : Nat) : Int) neg l) (fun k => ?_) ?_
    · rw [moraineref02_Value.l1, if_pos (by omega), if_pos (by omega), if_pos (by omega), if_pos (by omega), if_pos (by omega), hn, shr_bit _ _ hb ht2, w_next t (by omega)]
    · refine ih (t + 1) _ (by omega) (by rw [List.length_append, hx]; rfl) (okB_snoc ob _ hb2) ?_
      rw [bv_snoc, hx, hv, ← hbit, ← Nat.add_assoc, mod_next]
theorem value_outer (neg : Bool) (l : List Int) (ok : OkL l) (hl : l.length < 1099511627776) (d : Nat) :
    ∀ (i : Nat) (x3 : List Int), i + d = l.length → x3.length = 32 * i → OkB x3 → bv x3 = mag l % 2 ^ (32 * i) → Ev (fun k => moraineref02_Value.l0 k x3 (i : Int) neg l) (neg && decide (mag l ≠ 0), Bit.bits (mag l)) := by
  induction d with
  | zero =>
    intro i x3 hi hx ob hv
    obtain rfl : i = l.length := by omega
    have hm : mag l < 2 ^ (32 * l.length) := by
      have := mag_lt ok
      rw [Nat.pow_mul]
      exact this
    rw [Nat.mod_eq_of_lt hm] at hv
    have ht : tr x3 = Bit.bits (mag l) := by rw [tr_bits ob, hv]
    have hlen : decide (0 < (Bit.bits (mag l)).length) = decide (mag l ≠ 0) := by
      rw [decide_eq_decide]
      have := bits_len (mag l) 0
      rw [Nat.pow_zero] at this
      omega
    have hval := value_ev neg x3 (by omega)
    rw [ht, hlen] at hval
    refine Ev.step (f := fun k => (moraineref02_value.f k neg x3).bind fun bt => some (bt.1, bt.2)) (fun k => ?_) ?_
    · rw [moraineref02_Value.l0, if_neg (by omega)]
    · refine Ev.rbind hval ?_
      exact Ev.now _
  | succ d ih =>
    intro i x3 hi hx ob hv
    refine Ev.step (f := fun k => moraineref02_Value.l1 k x3 (i : Int) ((0 : Nat) : Int) neg l) (fun k => ?_) ?_
    · rw [moraineref02_Value.l0, if_pos (by omega)]; rfl
    · exact value_inner neg l ok hl i (by omega) _ (fun y hy oy hvy => ih (i + 1) y (by omega) hy oy hvy) 32 0 x3 (by omega) (by omega) ob hv
/-- Value: the bits of a number; the sign of nought is struck. -/
theorem Value_ev (neg : Bool) (l : List Int) (ok : OkL l) (hl : l.length < 1099511627776) : Ev (fun k => moraineref02_Value.f k neg l) (neg && decide (mag l ≠ 0), Bit.bits (mag l)) :=
  value_outer neg l ok hl l.length 0 [] (by omega) rfl okB_nil (by simp [bv, Nat.mod_one])
end Go.Proofs.YthhpnlbeniihhaaDoor.RefB
-- Printed by a program of this session's (wip/tools/printr.py, over the kit's print program).
namespace Go.Proofs.YthhpnlbeniihhaaDoor.PRef
open Go.RowKit Go.Proofs.YthhpnlbeniihhaaDoorW.PrintWords Go.Proofs.YthhpnlbeniihhaaDoorW.PrintLast Go.Proofs.YthhpnlbeniihhaaDoorW.PrintMore
attribute [local go_sem] max2_int min2_int max_two min_two max_three min_three max_four min_four   -- for this text's walks alone
set_option linter.unusedVariables false
set_option linter.unusedSimpArgs false
def moraineref02_Copy.f (a0_0 : Bool) (l0_1 : List Int) : Option (Bool × List Int) := (some (([] : List Int) : List Int)).bind fun y261 => (if y261.length + l0_1.length < 35184372088832 then (some (a0_0, (y261 ++ l0_1))) else (none))
def moraineref02_Copy.T1 : Bool × List (List Nat × List Nat) := (true, [([], []), ([0], [0]), ([], []), ([], []), ([3], [3]), ([2, 4], [2, 4]), ([1, 5], [1, 5]), ([6, 5, 0, 1, 2, 3, 4, 5, 6], [6])])
def moraineref02_Copy.B1 : List Nat := [0, 1, 0, 0, 8, 28, 63, 127]
theorem moraineref02_Copy.tab1 : rtab .any (opsOf Tryd.f28 1) = moraineref02_Copy.T1 := by kernel_rfl
theorem moraineref02_Copy.bits1 : waitsOk moraineref02_Copy.T1.2 moraineref02_Copy.B1 = true := by kernel_rfl
set_option maxHeartbeats 8000000 in
set_option maxRecDepth 100000 in
theorem moraineref02_Copy.calls (a0_0 : Bool) (A0_1 : Option Addr) (c0_1 : Nat) (l0_1 : List Int) (r1 : Bool) (r2 : List Int) (w : World) (hr0_1 : Kd.C (Kd.int .u32) w A0_1 l0_1.length l0_1) (hc0_1 : l0_1.length ≤ c0_1) (h : moraineref02_Copy.f a0_0 l0_1 = some (r1, r2)) :
  Calls Tryd.prog 28 #[.agg #[.bool a0_0, .slice A0_1 l0_1.length c0_1]] w fun e w' => ∃ v1_ : Value, e = .returned (.agg #[.bool r1, v1_]) ∧ Kd.R (Kd.int .u32) 63 w' w.heap.size (fun _ => True) v1_ r2 ∧ Below w.heap.size w w' := by
 have hu25 := Tryd.underlying25
 have HR0_1 := Aside0.mk hr0_1
 have HC0_1 := Aside0.mk hc0_1
 clear hr0_1 hc0_1
 have HB := Aside0.mk (Below.refl w.heap.size w)
 have H : ((some (([] : List Int) : List Int)).bind fun y261 => (if y261.length + l0_1.length < 35184372088832 then (some (a0_0, (y261 ++ l0_1))) else (none))) = some (r1, r2) := h
 clear h
 obtain ⟨y261, hy261⟩ : ∃ y_ : List Int, y_ = (([] : List Int)) := ⟨_, rfl⟩
 replace H : (if y261.length + l0_1.length < 35184372088832 then (some (a0_0, (y261 ++ l0_1))) else (none)) = some (r1, r2) := by first | (rw [hy261]; with_reducible exact H) | (have H2_ := (Option.bind_some _ _).symm.trans H; rw [hy261]; with_reducible exact H2_) | (have H2_ := (Option.bind_some _ _).symm.trans H; with_reducible exact H2_) | with_reducible exact H | (rw [hy261]; exact H) | exact H
 have Ny261 := Aside0.mk hy261
 clear hy261
 by_cases c2 : y261.length + l0_1.length < 35184372088832
 ·rw [if_pos c2] at H
  have LMc2 := Aside0.mk c2
  clear c2
  obtain ⟨y264, hy264⟩ : ∃ y_ : List Int, y_ = (y261 ++ l0_1) := ⟨_, rfl⟩
  replace H : (some (a0_0, y264)) = some (r1, r2) := by first | (rw [hy264]; with_reducible exact H) | (have H2_ := (Option.bind_some _ _).symm.trans H; rw [hy264]; with_reducible exact H2_) | (have H2_ := (Option.bind_some _ _).symm.trans H; with_reducible exact H2_) | with_reducible exact H | (rw [hy264]; exact H) | exact H
  have Ny264 := Aside0.mk hy264
  clear hy264
  simp only [Option.some.injEq, Prod.mk.injEq] at H
  obtain ⟨rfl, rfl⟩ := H
  go_enter Tryd.func28, Tryd.ntmps28
  try go_wp2_with (first | ((with_reducible refine gate_dst (N := 1) rfl ?_); refine box_event ?hg (N := 1) ?hd (cs := #[.bool a0_0, .slice A0_1 l0_1.length c0_1]) (t := 25) ?hr ?_; (case hd => rfl); (case hg => rfl); (case hr => go_simp <;> rfl); intro gb259 hg w3 hbox hb; have BK259 := Aside0.mk (hbox); have GW259 := qg hg (by repeat (first | (with_reducible first | exact HB.out | apply qx | apply qv | apply qw) | exact HB.out)); have GE259 := GW259; replace HB := Aside0.mk (below_step (by repeat (first | (with_reducible first | exact HB.out | apply qx | apply qv | apply qw) | exact HB.out)) hb); clear hb hbox hg) | ((with_reducible refine gate_dst (N := 2) rfl ?_); refine box_event ?hg (N := 2) ?hd (cs := #[.bool false, .slice none 0 0]) (t := 25) ?hr ?_; (case hd => rfl); (case hg => rfl); (case hr => go_simp <;> rfl); intro gb260 hg w4 hbox hb; have BK260 := Aside0.mk (hbox); have GW260 := qg hg (by repeat (first | (with_reducible first | exact HB.out | apply qx | apply qv | apply qw | refine below_set ?_ GE259.out) | exact HB.out)); have GE260 := GW260; replace HB := Aside0.mk (below_step (by repeat (first | (with_reducible first | exact HB.out | apply qx | apply qv | apply qw | refine below_set ?_ GE259.out) | exact HB.out)) hb); have NB259_260 := qn BK259 hg; have NB260_259 := qm BK259 hg; replace BK259 := qb BK259 hb; clear hb hbox hg))
  replace BK259 := Aside0.mk (blk_drew BK259.out)
  replace BK260 := Aside0.mk (blk_drew BK260.out)
  replace HB := Aside0.mk (below_drew1 HB.out)
  refine start_ (n := 8) (S := fun w' => w'.cell? ⟨gb259, 0, none⟩ = some (.bool a0_0) ∧ w'.cell? ⟨gb259, 1, none⟩ = some (.slice A0_1 l0_1.length c0_1)) (ds := []) #[false, false, false, false, false, false, false, false] (by kernel_rfl) rfl rfl ⟨qc BK259 0, qc BK259 1⟩ (fun hHeld => ?_); refine with_tabW moraineref02_Copy.tab1 moraineref02_Copy.bits1 (fun HT_ HW_ => ?_)
  generalize w4.drew = w5 at BK259 BK260 HB hHeld ⊢
  refine pure_ (i := 0) (N := some 3) (v := ?_) (a' := ?_) #[true, false, false, false, false, false, false, false] rfl rfl (any_of HT_.out (by kernel_rfl)) (fun _ _ _ h => h) (Or.inl ⟨by rfl, ?_⟩) ?_ ?_
  rotate_left
  ·intro w'
   go_simp
   with_reducible rfl
  rotate_left
  ·simp only [Act.put, zA, zB, zC, i64_w, i32_w]
   rfl
  refine pure_ (i := 3) (N := some 6) (v := ?_) (a' := ?_) #[true, false, false, true, false, false, false, false] rfl rfl (any_of HT_.out (by kernel_rfl)) (fun _ _ _ h => h) (Or.inl ⟨by rfl, ?_⟩) ?_ ?_
  rotate_left
  ·intro w'
   go_simp
   with_reducible rfl
  rotate_left
  ·simp only [Act.put, zA, zB, zC, i64_w, i32_w]
   rfl
  refine take_ (i := 1) (N := some 4) (v := ?_) (a' := ?_) #[true, true, false, true, false, false, false, false] rfl rfl (take_ofW HT_.out HW_.out (by kernel_rfl)) (fun _ _ _ h => h) (Or.inl ⟨by rfl, ?_⟩) hHeld ?_ ?_
  rotate_left
  ·rintro w' ⟨s0, s1⟩
   go_simp
   with_reducible rfl
  rotate_left
  ·simp only [Act.put, zA, zB, zC, i64_w, i32_w]
   rfl
  refine take_ (i := 4) (N := some 7) (v := ?_) (a' := ?_) #[true, true, false, true, true, false, false, false] rfl rfl (take_ofW HT_.out HW_.out (by kernel_rfl)) (fun _ _ _ h => h) (Or.inl ⟨by rfl, ?_⟩) hHeld ?_ ?_
  rotate_left
  ·rintro w' ⟨s0, s1⟩
   go_simp
   with_reducible rfl
  rotate_left
  ·simp only [Act.put, zA, zB, zC, i64_w, i32_w]
   rfl
  refine one_ (i := 2) (N := some 5) #[true, true, true, true, true, false, false, false] rfl rfl (one_of HT_.out (by kernel_rfl)) (by decide) (fun K hK => ?_)
  refine Kd.R_lit_step (Kd.int .u32) _ 63 ?hg (N := 5) ?hd (xs := ([] : List Int)) (inner := []) (ok := fun _ => True) (okp := fun _ => True) ?hr ?hp (fun _ hk => hk) trivial (Below.refl _ _) (Nat.le_refl _) (by simp) ?_; (case hd => rfl); (case hg => rfl); (case hr => go_simp <;> rfl); (case hp => exact (Reps.none _ _))
  intro v262 w6 ho7 hb hg_ hnew_
  clear hg_ hnew_
  (first | rw [← Ny261.out] at ho7 | (simp only [Int.reduceToNat] at ho7; rw [← Ny261.out] at ho7))
  have HO263 := Aside0.mk (Kd.R_lower ho7 (below_size (by repeat with_reducible first|exact HB.out|apply qx|apply qv|apply qw|refine qs ?_ (by assumption))))
  replace BK259 := qb BK259 hb
  replace BK260 := qb BK260 hb
  replace HB := Aside0.mk (below_step (by repeat with_reducible first|exact HB.out|apply qx|apply qv|apply qw|refine qs ?_ (by assumption)) hb)
  clear hb ho7
  refine hK.out _ _ ⟨qc BK259 0, qc BK259 1⟩ (fun hHeld => ?_)
  clear hK K
  refine norm_ (a' := ?_) ?_ ?_
  rotate_left
  ·show Act.put _ (some 5) _ = _
   simp only [Act.put, zA, zB, zC, i64_w, i32_w]
   rfl
  refine one_ (i := 5) (N := some 8) #[true, true, true, true, true, true, false, false] rfl rfl (one_of HT_.out (by kernel_rfl)) (by decide) (fun K hK => ?_)
  refine Kd.R_append_rows_step (Kd.int .u32) (w0 := w) w.heap.size (by rfl) (.tmp 5) (.tmp 7) 23 63 (.int .u32 0) 4 rfl Tryd.underlying23 info63 rfl (by decide) (by omega) v262 y261 l0_1 _ _ _ (fun _ => True) (fun _ => False) rfl rfl ?aO ?aR (fun _ _ h => h) (fun _ h => h.elim) ?aF ?aB ?aS ?aL ?_
  (case aR => exact qC HR0_1 HB)
  (case aB => exact (by repeat with_reducible first|exact HB.out|apply qx|apply qv|apply qw|refine qs ?_ (by assumption)))
  (case aF => exact (fun _ _ => trivial))
  (case aO => exact (by (with_reducible repeat first|apply Kd.R_alloc|apply Kd.R_drewN|apply Kd.R_drew); exact HO263.out))
  (case aS => exact (below_size (by repeat with_reducible first|exact HB.out|apply qx|apply qv|apply qw|refine qs ?_ (by assumption))))
  (case aL => have := LMc2.out; omega)
  intro v265 w8 ho hb hg hat
  rw [← Ny264.out] at ho
  have n0_ := Aside0.mk (blk_grown (g := gb259) (o := .cells #[.bool a0_0, .slice A0_1 l0_1.length c0_1] 25 (0, 0)) (by (with_reducible repeat first|refine qN ?_ _|refine qW ?_|refine qA ?_ _); exact BK259.out) hg (Kd.R_ne HO263.out BK259.out (by decide)))
  have n1_ := Aside0.mk (blk_grown (g := gb260) (o := .cells #[.bool false, .slice none 0 0] 25 (0, 0)) (by (with_reducible repeat first|refine qN ?_ _|refine qW ?_|refine qA ?_ _); exact BK260.out) hg (Kd.R_ne HO263.out BK260.out (by decide)))
  have n2_ := Aside0.mk (hb)
  have n3_ := Aside0.mk (ho)
  clear BK259
  clear BK260
  clear HB
  clear HO263
  have BK259 := n0_
  have BK260 := n1_
  have HB := n2_
  have HO266 := n3_
  clear n0_ n1_ n2_ n3_
  clear ho hb hg hat
  obtain ⟨Ao9, co9, eo9⟩ := Kd.R_slice HO266.out
  (first | subst eo9 | (injection eo9 with f1_ f2_ f3_; have f4_ := f1_.symm; have f5_ := f3_.symm; clear f1_ f2_ f3_; subst f4_; subst f5_))
  refine hK.out _ _ ⟨qc BK259 0, qc BK259 1⟩ (fun hHeld => ?_)
  clear hK K
  refine norm_ (a' := ?_) ?_ ?_
  rotate_left
  ·show Act.put _ (some 8) _ = _
   simp only [Act.put, zA, zB, zC, i64_w, i32_w]
   rfl
  refine pure_ (i := 6) (N := some 9) (v := ?_) (a' := ?_) #[true, true, true, true, true, true, true, false] rfl rfl (any_of HT_.out (by kernel_rfl)) (fun _ _ _ h => h) (Or.inl ⟨by rfl, ?_⟩) ?_ ?_
  rotate_left
  ·intro w'
   go_simp
   with_reducible rfl
  rotate_left
  ·simp only [Act.put, zA, zB, zC, i64_w, i32_w]
   rfl
  refine one_ (i := 7) (N := none) #[true, true, true, true, true, true, true, true] rfl rfl (one_of HT_.out (by kernel_rfl)) (by decide) (fun K hK => ?_)
  have hs10 : w8.cell? ⟨gb260, 0, none⟩ = some (.bool false) := qc BK260 0
  have hfs10 := blk_frozen BK260.out 0
  have hns10_0 := NB259_260.out
  have hms10_0 := NB260_259.out
  have hs11 : w8.cell? ⟨gb260, 1, none⟩ = some (.slice none 0 0) := qc BK260 1
  have hfs11 := blk_frozen BK260.out 1
  have hns11_0 := NB259_260.out
  have hms11_0 := NB260_259.out
  refine skip_ (w1 := ?_) (by rfl) rfl ?_ ?_
  rotate_left
  ·go_simp
   rfl
  refine hK.out _ _ ⟨((cell_far (p := ⟨gb260, _, none⟩) NB259_260.out _).trans (((cell_far (p := ⟨gb260, _, none⟩) NB259_260.out _).trans (hHeld.1)))), ((cell_far (p := ⟨gb260, _, none⟩) NB259_260.out _).trans (((cell_far (p := ⟨gb260, _, none⟩) NB259_260.out _).trans (hHeld.2))))⟩ (fun hHeld => ?_)
  clear hK K
  refine done_ (done_of HT_.out (by kernel_rfl)) ?_
  try go_wp2
  refine bodyPost_ret (results_cell_row rfl _ _ gb260 25 #[.bool a0_0, .slice Ao9 y264.length co9] (0, 0) _ rfl (by (with_reducible repeat first|refine qN ?_ _|refine qW ?_|refine qA ?_ _); refine blk_put (cs := #[.bool a0_0, .slice none 0 0]) ?_ 1 _ rfl; (with_reducible repeat first|refine qN ?_ _|refine qW ?_|refine qA ?_ _); refine blk_put (cs := #[.bool false, .slice none 0 0]) ?_ 0 _ rfl; (with_reducible repeat first|refine qN ?_ _|refine qW ?_|refine qA ?_ _); exact BK260.out) Tryd.underlying25 rfl (by kernel_rfl)) rfl ?_
  exact ⟨_, by first | rfl | (simp [errW_none, errW_some] <;> rfl) | (simp [*, errW_none, errW_some] <;> rfl), by (with_reducible repeat first|apply Kd.R_alloc|apply Kd.R_drewN|apply Kd.R_drew); exact Kd.R_mono (qz HO266 BK260 (by decide) (.bool a0_0) (.slice Ao9 y264.length co9)) (fun _ hk => trivial), by repeat (first | (with_reducible first | exact HB.out | apply qx | apply qv | apply qw | refine qs ?_ (by assumption)) | exact HB.out)⟩
 ·rw [if_neg c2] at H
  exact absurd H (by simp)
def moraineref02_Cmp.j0 : Nat → Bool → Bool → Option (Int)
 | 0, _, _ => none
 | k + 1, x5, x6 => if x5 = true then (some (-1)) else (if x6 = true then (some 1) else (some 0))
def moraineref02_Cmp.f (k : Nat) (a0_0 : Bool) (l0_1 : List Int) (a1_0 : Bool) (l1_1 : List Int) : Option (Int) := if (a0_0 != a1_0) = true then (if a0_0 = true then (some (-1)) else (some 1)) else ((moraineref02_less.f k l0_1 l1_1).bind fun t295 => ((moraineref02_less.f k l1_1 l0_1).bind fun t296 => (if a0_0 = true then (moraineref02_Cmp.j0 k t296 t295) else (moraineref02_Cmp.j0 k t295 t296))))
set_option maxHeartbeats 8000000 in
set_option maxRecDepth 100000 in
theorem moraineref02_Cmp.calls (k : Nat) (a0_0 : Bool) (A0_1 : Option Addr) (c0_1 : Nat) (l0_1 : List Int) (a1_0 : Bool) (A1_1 : Option Addr) (c1_1 : Nat) (l1_1 : List Int) (r : Int) (w : World) (hr0_1 : Kd.C (Kd.int .u8) w A0_1 l0_1.length l0_1) (hc0_1 : l0_1.length ≤ c0_1) (hr1_1 : Kd.C (Kd.int .u8) w A1_1 l1_1.length l1_1) (hc1_1 : l1_1.length ≤ c1_1) (h : moraineref02_Cmp.f k a0_0 l0_1 a1_0 l1_1 = some r) :
  Calls Tryd.prog 44 #[.agg #[.bool a0_0, .slice A0_1 l0_1.length c0_1], .agg #[.bool a1_0, .slice A1_1 l1_1.length c1_1]] w fun e w' => e = .returned (.int .i64 r) ∧ Below w.heap.size w w' := by
 have hu34 := Tryd.underlying34
 have HR0_1 := Aside0.mk hr0_1
 have HC0_1 := Aside0.mk hc0_1
 clear hr0_1 hc0_1
 have HR1_1 := Aside0.mk hr1_1
 have HC1_1 := Aside0.mk hc1_1
 clear hr1_1 hc1_1
 have HB := Aside0.mk (Below.refl w.heap.size w)
 have H : (if (a0_0 != a1_0) = true then (if a0_0 = true then (some (-1)) else (some 1)) else ((moraineref02_less.f k l0_1 l1_1).bind fun t295 => ((moraineref02_less.f k l1_1 l0_1).bind fun t296 => (if a0_0 = true then (moraineref02_Cmp.j0 k t296 t295) else (moraineref02_Cmp.j0 k t295 t296))))) = some r := h
 clear h
 by_cases c3 : (a0_0 != a1_0) = true
 ·rw [if_pos c3] at H
  have c3b0 : (a0_0 != a1_0) = true := c3
  (try (have c3b1 : decide (a0_0 = a1_0) = false := by simpa using c3))
  (try (have c3b2 : (a0_0 == a1_0) = false := by simpa using c3))
  (try (have c3b3 : ¬ (a0_0 = a1_0) := by simpa using c3))
  clear c3
  by_cases c4 : a0_0 = true
  ·subst c4
   have H1 : (some (-1)) = some r := by rw [if_pos rfl] at H; exact H
   clear H
   have H := H1
   clear H1
   obtain rfl := Option.some.inj H
   go_enter Tryd.func44, Tryd.ntmps44
   go_wp2_with (first | ((with_reducible refine gate_dst (N := 2) rfl ?_); refine box_event ?hg (N := 2) ?hd (cs := #[.bool true, .slice A0_1 l0_1.length c0_1]) (t := 34) ?hr ?_; (case hd => rfl); (case hg => rfl); (case hr => go_simp <;> rfl); intro gb293 hg w5 hbox hb; have BK293 := Aside0.mk (hbox); have GW293 := qg hg (by repeat (first | (with_reducible first | exact HB.out | apply qx | apply qv | apply qw) | exact HB.out)); have GE293 := GW293; replace HB := Aside0.mk (below_step (by repeat (first | (with_reducible first | exact HB.out | apply qx | apply qv | apply qw) | exact HB.out)) hb); clear hb hbox hg) | ((with_reducible refine gate_dst (N := 3) rfl ?_); refine box_event ?hg (N := 3) ?hd (cs := #[.bool a1_0, .slice A1_1 l1_1.length c1_1]) (t := 34) ?hr ?_; (case hd => rfl); (case hg => rfl); (case hr => go_simp <;> rfl); intro gb294 hg w6 hbox hb; have BK294 := Aside0.mk (hbox); have GW294 := qg hg (by repeat (first | (with_reducible first | exact HB.out | apply qx | apply qv | apply qw | refine below_set ?_ GE293.out) | exact HB.out)); have GE294 := GW294; replace HB := Aside0.mk (below_step (by repeat (first | (with_reducible first | exact HB.out | apply qx | apply qv | apply qw | refine below_set ?_ GE293.out) | exact HB.out)) hb); have NB293_294 := qn BK293 hg; have NB294_293 := qm BK293 hg; replace BK293 := qb BK293 hb; clear hb hbox hg; have hnb7 := NB293_294.out; have hnc7 := NB294_293.out; have hcz8_0 : w6.cell? ⟨gb293, 0, none⟩ = some (.bool true) := qc BK293 0; have hcz8_1 : w6.cell? ⟨gb293, 1, none⟩ = some (.slice A0_1 l0_1.length c0_1) := qc BK293 1; have hfz8_0 := blk_frozen BK293.out 0; have hfz8_1 := blk_frozen BK293.out 1; have hcz9_0 : w6.cell? ⟨gb294, 0, none⟩ = some (.bool a1_0) := qc BK294 0; have hcz9_1 : w6.cell? ⟨gb294, 1, none⟩ = some (.slice A1_1 l1_1.length c1_1) := qc BK294 1; have hfz9_0 := blk_frozen BK294.out 0; have hfz9_1 := blk_frozen BK294.out 1))
   repeat (go_quiet (first | ((with_reducible refine gate_dst (N := 2) rfl ?_); refine box_event ?hg (N := 2) ?hd (cs := #[.bool true, .slice A0_1 l0_1.length c0_1]) (t := 34) ?hr ?_; (case hd => rfl); (case hg => rfl); (case hr => go_simp <;> rfl); intro gb293 hg w5 hbox hb; have BK293 := Aside0.mk (hbox); have GW293 := qg hg (by repeat (first | (with_reducible first | exact HB.out | apply qx | apply qv | apply qw) | exact HB.out)); have GE293 := GW293; replace HB := Aside0.mk (below_step (by repeat (first | (with_reducible first | exact HB.out | apply qx | apply qv | apply qw) | exact HB.out)) hb); clear hb hbox hg) | ((with_reducible refine gate_dst (N := 3) rfl ?_); refine box_event ?hg (N := 3) ?hd (cs := #[.bool a1_0, .slice A1_1 l1_1.length c1_1]) (t := 34) ?hr ?_; (case hd => rfl); (case hg => rfl); (case hr => go_simp <;> rfl); intro gb294 hg w6 hbox hb; have BK294 := Aside0.mk (hbox); have GW294 := qg hg (by repeat (first | (with_reducible first | exact HB.out | apply qx | apply qv | apply qw | refine below_set ?_ GE293.out) | exact HB.out)); have GE294 := GW294; replace HB := Aside0.mk (below_step (by repeat (first | (with_reducible first | exact HB.out | apply qx | apply qv | apply qw | refine below_set ?_ GE293.out) | exact HB.out)) hb); have NB293_294 := qn BK293 hg; have NB294_293 := qm BK293 hg; replace BK293 := qb BK293 hb; clear hb hbox hg; have hnb7 := NB293_294.out; have hnc7 := NB294_293.out; have hcz8_0 : w6.cell? ⟨gb293, 0, none⟩ = some (.bool true) := qc BK293 0; have hcz8_1 : w6.cell? ⟨gb293, 1, none⟩ = some (.slice A0_1 l0_1.length c0_1) := qc BK293 1; have hfz8_0 := blk_frozen BK293.out 0; have hfz8_1 := blk_frozen BK293.out 1; have hcz9_0 : w6.cell? ⟨gb294, 0, none⟩ = some (.bool a1_0) := qc BK294 0; have hcz9_1 : w6.cell? ⟨gb294, 1, none⟩ = some (.slice A1_1 l1_1.length c1_1) := qc BK294 1; have hfz9_0 := blk_frozen BK294.out 0; have hfz9_1 := blk_frozen BK294.out 1)); try go_wp2_with (first | ((with_reducible refine gate_dst (N := 2) rfl ?_); refine box_event ?hg (N := 2) ?hd (cs := #[.bool true, .slice A0_1 l0_1.length c0_1]) (t := 34) ?hr ?_; (case hd => rfl); (case hg => rfl); (case hr => go_simp <;> rfl); intro gb293 hg w5 hbox hb; have BK293 := Aside0.mk (hbox); have GW293 := qg hg (by repeat (first | (with_reducible first | exact HB.out | apply qx | apply qv | apply qw) | exact HB.out)); have GE293 := GW293; replace HB := Aside0.mk (below_step (by repeat (first | (with_reducible first | exact HB.out | apply qx | apply qv | apply qw) | exact HB.out)) hb); clear hb hbox hg) | ((with_reducible refine gate_dst (N := 3) rfl ?_); refine box_event ?hg (N := 3) ?hd (cs := #[.bool a1_0, .slice A1_1 l1_1.length c1_1]) (t := 34) ?hr ?_; (case hd => rfl); (case hg => rfl); (case hr => go_simp <;> rfl); intro gb294 hg w6 hbox hb; have BK294 := Aside0.mk (hbox); have GW294 := qg hg (by repeat (first | (with_reducible first | exact HB.out | apply qx | apply qv | apply qw | refine below_set ?_ GE293.out) | exact HB.out)); have GE294 := GW294; replace HB := Aside0.mk (below_step (by repeat (first | (with_reducible first | exact HB.out | apply qx | apply qv | apply qw | refine below_set ?_ GE293.out) | exact HB.out)) hb); have NB293_294 := qn BK293 hg; have NB294_293 := qm BK293 hg; replace BK293 := qb BK293 hb; clear hb hbox hg; have hnb7 := NB293_294.out; have hnc7 := NB294_293.out; have hcz8_0 : w6.cell? ⟨gb293, 0, none⟩ = some (.bool true) := qc BK293 0; have hcz8_1 : w6.cell? ⟨gb293, 1, none⟩ = some (.slice A0_1 l0_1.length c0_1) := qc BK293 1; have hfz8_0 := blk_frozen BK293.out 0; have hfz8_1 := blk_frozen BK293.out 1; have hcz9_0 : w6.cell? ⟨gb294, 0, none⟩ = some (.bool a1_0) := qc BK294 0; have hcz9_1 : w6.cell? ⟨gb294, 1, none⟩ = some (.slice A1_1 l1_1.length c1_1) := qc BK294 1; have hfz9_0 := blk_frozen BK294.out 0; have hfz9_1 := blk_frozen BK294.out 1)))
   go_ret
   exact ⟨by first | rfl | (simp [errW_none, errW_some] <;> rfl) | (simp [*, errW_none, errW_some] <;> rfl), by repeat (first | (with_reducible first | exact HB.out | apply qx | apply qv | apply qw | refine qs ?_ (by assumption)) | exact HB.out)⟩
  ·replace c4 := Bool.eq_false_iff.mpr c4
   subst c4
   have H1 : (some 1) = some r := by rw [if_neg (show ¬ (false = true) by decide)] at H; exact H
   clear H
   have H := H1
   clear H1
   obtain rfl := Option.some.inj H
   go_enter Tryd.func44, Tryd.ntmps44
   go_wp2_with (first | ((with_reducible refine gate_dst (N := 2) rfl ?_); refine box_event ?hg (N := 2) ?hd (cs := #[.bool false, .slice A0_1 l0_1.length c0_1]) (t := 34) ?hr ?_; (case hd => rfl); (case hg => rfl); (case hr => go_simp <;> rfl); intro gb293 hg w10 hbox hb; have BK293 := Aside0.mk (hbox); have GW293 := qg hg (by repeat (first | (with_reducible first | exact HB.out | apply qx | apply qv | apply qw) | exact HB.out)); have GE293 := GW293; replace HB := Aside0.mk (below_step (by repeat (first | (with_reducible first | exact HB.out | apply qx | apply qv | apply qw) | exact HB.out)) hb); clear hb hbox hg) | ((with_reducible refine gate_dst (N := 3) rfl ?_); refine box_event ?hg (N := 3) ?hd (cs := #[.bool a1_0, .slice A1_1 l1_1.length c1_1]) (t := 34) ?hr ?_; (case hd => rfl); (case hg => rfl); (case hr => go_simp <;> rfl); intro gb294 hg w11 hbox hb; have BK294 := Aside0.mk (hbox); have GW294 := qg hg (by repeat (first | (with_reducible first | exact HB.out | apply qx | apply qv | apply qw | refine below_set ?_ GE293.out) | exact HB.out)); have GE294 := GW294; replace HB := Aside0.mk (below_step (by repeat (first | (with_reducible first | exact HB.out | apply qx | apply qv | apply qw | refine below_set ?_ GE293.out) | exact HB.out)) hb); have NB293_294 := qn BK293 hg; have NB294_293 := qm BK293 hg; replace BK293 := qb BK293 hb; clear hb hbox hg; have hnb12 := NB293_294.out; have hnc12 := NB294_293.out; have hcz13_0 : w11.cell? ⟨gb293, 0, none⟩ = some (.bool false) := qc BK293 0; have hcz13_1 : w11.cell? ⟨gb293, 1, none⟩ = some (.slice A0_1 l0_1.length c0_1) := qc BK293 1; have hfz13_0 := blk_frozen BK293.out 0; have hfz13_1 := blk_frozen BK293.out 1; have hcz14_0 : w11.cell? ⟨gb294, 0, none⟩ = some (.bool a1_0) := qc BK294 0; have hcz14_1 : w11.cell? ⟨gb294, 1, none⟩ = some (.slice A1_1 l1_1.length c1_1) := qc BK294 1; have hfz14_0 := blk_frozen BK294.out 0; have hfz14_1 := blk_frozen BK294.out 1))
   repeat (go_quiet (first | ((with_reducible refine gate_dst (N := 2) rfl ?_); refine box_event ?hg (N := 2) ?hd (cs := #[.bool false, .slice A0_1 l0_1.length c0_1]) (t := 34) ?hr ?_; (case hd => rfl); (case hg => rfl); (case hr => go_simp <;> rfl); intro gb293 hg w10 hbox hb; have BK293 := Aside0.mk (hbox); have GW293 := qg hg (by repeat (first | (with_reducible first | exact HB.out | apply qx | apply qv | apply qw) | exact HB.out)); have GE293 := GW293; replace HB := Aside0.mk (below_step (by repeat (first | (with_reducible first | exact HB.out | apply qx | apply qv | apply qw) | exact HB.out)) hb); clear hb hbox hg) | ((with_reducible refine gate_dst (N := 3) rfl ?_); refine box_event ?hg (N := 3) ?hd (cs := #[.bool a1_0, .slice A1_1 l1_1.length c1_1]) (t := 34) ?hr ?_; (case hd => rfl); (case hg => rfl); (case hr => go_simp <;> rfl); intro gb294 hg w11 hbox hb; have BK294 := Aside0.mk (hbox); have GW294 := qg hg (by repeat (first | (with_reducible first | exact HB.out | apply qx | apply qv | apply qw | refine below_set ?_ GE293.out) | exact HB.out)); have GE294 := GW294; replace HB := Aside0.mk (below_step (by repeat (first | (with_reducible first | exact HB.out | apply qx | apply qv | apply qw | refine below_set ?_ GE293.out) | exact HB.out)) hb); have NB293_294 := qn BK293 hg; have NB294_293 := qm BK293 hg; replace BK293 := qb BK293 hb; clear hb hbox hg; have hnb12 := NB293_294.out; have hnc12 := NB294_293.out; have hcz13_0 : w11.cell? ⟨gb293, 0, none⟩ = some (.bool false) := qc BK293 0; have hcz13_1 : w11.cell? ⟨gb293, 1, none⟩ = some (.slice A0_1 l0_1.length c0_1) := qc BK293 1; have hfz13_0 := blk_frozen BK293.out 0; have hfz13_1 := blk_frozen BK293.out 1; have hcz14_0 : w11.cell? ⟨gb294, 0, none⟩ = some (.bool a1_0) := qc BK294 0; have hcz14_1 : w11.cell? ⟨gb294, 1, none⟩ = some (.slice A1_1 l1_1.length c1_1) := qc BK294 1; have hfz14_0 := blk_frozen BK294.out 0; have hfz14_1 := blk_frozen BK294.out 1)); try go_wp2_with (first | ((with_reducible refine gate_dst (N := 2) rfl ?_); refine box_event ?hg (N := 2) ?hd (cs := #[.bool false, .slice A0_1 l0_1.length c0_1]) (t := 34) ?hr ?_; (case hd => rfl); (case hg => rfl); (case hr => go_simp <;> rfl); intro gb293 hg w10 hbox hb; have BK293 := Aside0.mk (hbox); have GW293 := qg hg (by repeat (first | (with_reducible first | exact HB.out | apply qx | apply qv | apply qw) | exact HB.out)); have GE293 := GW293; replace HB := Aside0.mk (below_step (by repeat (first | (with_reducible first | exact HB.out | apply qx | apply qv | apply qw) | exact HB.out)) hb); clear hb hbox hg) | ((with_reducible refine gate_dst (N := 3) rfl ?_); refine box_event ?hg (N := 3) ?hd (cs := #[.bool a1_0, .slice A1_1 l1_1.length c1_1]) (t := 34) ?hr ?_; (case hd => rfl); (case hg => rfl); (case hr => go_simp <;> rfl); intro gb294 hg w11 hbox hb; have BK294 := Aside0.mk (hbox); have GW294 := qg hg (by repeat (first | (with_reducible first | exact HB.out | apply qx | apply qv | apply qw | refine below_set ?_ GE293.out) | exact HB.out)); have GE294 := GW294; replace HB := Aside0.mk (below_step (by repeat (first | (with_reducible first | exact HB.out | apply qx | apply qv | apply qw | refine below_set ?_ GE293.out) | exact HB.out)) hb); have NB293_294 := qn BK293 hg; have NB294_293 := qm BK293 hg; replace BK293 := qb BK293 hb; clear hb hbox hg; have hnb12 := NB293_294.out; have hnc12 := NB294_293.out; have hcz13_0 : w11.cell? ⟨gb293, 0, none⟩ = some (.bool false) := qc BK293 0; have hcz13_1 : w11.cell? ⟨gb293, 1, none⟩ = some (.slice A0_1 l0_1.length c0_1) := qc BK293 1; have hfz13_0 := blk_frozen BK293.out 0; have hfz13_1 := blk_frozen BK293.out 1; have hcz14_0 : w11.cell? ⟨gb294, 0, none⟩ = some (.bool a1_0) := qc BK294 0; have hcz14_1 : w11.cell? ⟨gb294, 1, none⟩ = some (.slice A1_1 l1_1.length c1_1) := qc BK294 1; have hfz14_0 := blk_frozen BK294.out 0; have hfz14_1 := blk_frozen BK294.out 1)))
   go_ret
   exact ⟨by first | rfl | (simp [errW_none, errW_some] <;> rfl) | (simp [*, errW_none, errW_some] <;> rfl), by repeat (first | (with_reducible first | exact HB.out | apply qx | apply qv | apply qw | refine qs ?_ (by assumption)) | exact HB.out)⟩
 ·rw [if_neg c3] at H
  have c3b0 : (a0_0 != a1_0) = false := by simpa using c3
  (try (have c3b1 : decide (a0_0 = a1_0) = true := by simpa using c3))
  (try (have c3b2 : (a0_0 == a1_0) = true := by simpa using c3))
  clear c3
  replace H := Option.bind_eq_some_iff.mp H
  obtain ⟨t295, A150, H⟩ := H
  replace H : ((moraineref02_less.f k l1_1 l0_1).bind fun t296 => (if a0_0 = true then (moraineref02_Cmp.j0 k t296 t295) else (moraineref02_Cmp.j0 k t295 t296))) = some r := H
  have A15 := Aside0.mk A150
  clear A150
  replace H := Option.bind_eq_some_iff.mp H
  obtain ⟨t296, A160, H⟩ := H
  replace H : (if a0_0 = true then (moraineref02_Cmp.j0 k t296 t295) else (moraineref02_Cmp.j0 k t295 t296)) = some r := H
  have A16 := Aside0.mk A160
  clear A160
  have HC17 := Aside0.mk H
  clear H
  go_enter Tryd.func44, Tryd.ntmps44
  go_upto_if 25 with (first | ((with_reducible refine gate_dst (N := 2) rfl ?_); refine box_event ?hg (N := 2) ?hd (cs := #[.bool a0_0, .slice A0_1 l0_1.length c0_1]) (t := 34) ?hr ?_; (case hd => rfl); (case hg => rfl); (case hr => go_simp <;> rfl); intro gb293 hg w18 hbox hb; have BK293 := Aside0.mk (hbox); have GW293 := qg hg (by repeat (first | (with_reducible first | exact HB.out | apply qx | apply qv | apply qw) | exact HB.out)); have GE293 := GW293; replace HB := Aside0.mk (below_step (by repeat (first | (with_reducible first | exact HB.out | apply qx | apply qv | apply qw) | exact HB.out)) hb); clear hb hbox hg) | ((with_reducible refine gate_dst (N := 3) rfl ?_); refine box_event ?hg (N := 3) ?hd (cs := #[.bool a1_0, .slice A1_1 l1_1.length c1_1]) (t := 34) ?hr ?_; (case hd => rfl); (case hg => rfl); (case hr => go_simp <;> rfl); intro gb294 hg w19 hbox hb; have BK294 := Aside0.mk (hbox); have GW294 := qg hg (by repeat (first | (with_reducible first | exact HB.out | apply qx | apply qv | apply qw | refine below_set ?_ GE293.out) | exact HB.out)); have GE294 := GW294; replace HB := Aside0.mk (below_step (by repeat (first | (with_reducible first | exact HB.out | apply qx | apply qv | apply qw | refine below_set ?_ GE293.out) | exact HB.out)) hb); have NB293_294 := qn BK293 hg; have NB294_293 := qm BK293 hg; replace BK293 := qb BK293 hb; clear hb hbox hg; have hnb20 := NB293_294.out; have hnc20 := NB294_293.out; have hcz21_0 : w19.cell? ⟨gb293, 0, none⟩ = some (.bool a0_0) := qc BK293 0; have hcz21_1 : w19.cell? ⟨gb293, 1, none⟩ = some (.slice A0_1 l0_1.length c0_1) := qc BK293 1; have hfz21_0 := blk_frozen BK293.out 0; have hfz21_1 := blk_frozen BK293.out 1; have hcz22_0 : w19.cell? ⟨gb294, 0, none⟩ = some (.bool a1_0) := qc BK294 0; have hcz22_1 : w19.cell? ⟨gb294, 1, none⟩ = some (.slice A1_1 l1_1.length c1_1) := qc BK294 1; have hfz22_0 := blk_frozen BK294.out 0; have hfz22_1 := blk_frozen BK294.out 1) | (go_at_call 77; (with_reducible refine (moraineref02_less.calls k _ _ l0_1 _ _ l1_1 t295 _ ?side1 ?side2 ?side3 ?side4 A15.out).mono ?_); (case side1 => exact qC HR0_1 HB); (case side2 => exact HC0_1.out); (case side3 => exact qC HR1_1 HB); (case side4 => exact HC1_1.out); rintro e w' ⟨rfl, ⟨nd, rfl⟩⟩; (try first | exact ⟨rfl, _, World.drewN_drewN _ _ _⟩ | exact ⟨rfl, _, Eq.trans (World.drewN_drewN _ _ _) (congrArg (World.drewN _) (Nat.add_assoc _ _ _))⟩)) | (go_at_call 77; (with_reducible refine (moraineref02_less.calls k _ _ l1_1 _ _ l0_1 t296 _ ?side1 ?side2 ?side3 ?side4 A16.out).mono ?_); (case side1 => repeat (first | exact (Kd.C_below HR1_1.out (by repeat with_reducible first|exact HB.out|apply qx|apply qv|apply qw|refine qs ?_ (by assumption))) | (with_reducible first|refine Kd.C_alloc ?_ _|refine Kd.C_drewN ?_ _|refine Kd.C_drew ?_))); (case side2 => exact HC1_1.out); (case side3 => repeat (first | exact (Kd.C_below HR0_1.out (by repeat with_reducible first|exact HB.out|apply qx|apply qv|apply qw|refine qs ?_ (by assumption))) | (with_reducible first|refine Kd.C_alloc ?_ _|refine Kd.C_drewN ?_ _|refine Kd.C_drew ?_))); (case side4 => exact HC0_1.out); rintro e w' ⟨rfl, ⟨nd, rfl⟩⟩; (try first | exact ⟨rfl, _, World.drewN_drewN _ _ _⟩ | exact ⟨rfl, _, Eq.trans (World.drewN_drewN _ _ _) (congrArg (World.drewN _) (Nat.add_assoc _ _ _))⟩)))
  repeat (go_quiet (first | ((with_reducible refine gate_dst (N := 2) rfl ?_); refine box_event ?hg (N := 2) ?hd (cs := #[.bool a0_0, .slice A0_1 l0_1.length c0_1]) (t := 34) ?hr ?_; (case hd => rfl); (case hg => rfl); (case hr => go_simp <;> rfl); intro gb293 hg w18 hbox hb; have BK293 := Aside0.mk (hbox); have GW293 := qg hg (by repeat (first | (with_reducible first | exact HB.out | apply qx | apply qv | apply qw) | exact HB.out)); have GE293 := GW293; replace HB := Aside0.mk (below_step (by repeat (first | (with_reducible first | exact HB.out | apply qx | apply qv | apply qw) | exact HB.out)) hb); clear hb hbox hg) | ((with_reducible refine gate_dst (N := 3) rfl ?_); refine box_event ?hg (N := 3) ?hd (cs := #[.bool a1_0, .slice A1_1 l1_1.length c1_1]) (t := 34) ?hr ?_; (case hd => rfl); (case hg => rfl); (case hr => go_simp <;> rfl); intro gb294 hg w19 hbox hb; have BK294 := Aside0.mk (hbox); have GW294 := qg hg (by repeat (first | (with_reducible first | exact HB.out | apply qx | apply qv | apply qw | refine below_set ?_ GE293.out) | exact HB.out)); have GE294 := GW294; replace HB := Aside0.mk (below_step (by repeat (first | (with_reducible first | exact HB.out | apply qx | apply qv | apply qw | refine below_set ?_ GE293.out) | exact HB.out)) hb); have NB293_294 := qn BK293 hg; have NB294_293 := qm BK293 hg; replace BK293 := qb BK293 hb; clear hb hbox hg; have hnb20 := NB293_294.out; have hnc20 := NB294_293.out; have hcz21_0 : w19.cell? ⟨gb293, 0, none⟩ = some (.bool a0_0) := qc BK293 0; have hcz21_1 : w19.cell? ⟨gb293, 1, none⟩ = some (.slice A0_1 l0_1.length c0_1) := qc BK293 1; have hfz21_0 := blk_frozen BK293.out 0; have hfz21_1 := blk_frozen BK293.out 1; have hcz22_0 : w19.cell? ⟨gb294, 0, none⟩ = some (.bool a1_0) := qc BK294 0; have hcz22_1 : w19.cell? ⟨gb294, 1, none⟩ = some (.slice A1_1 l1_1.length c1_1) := qc BK294 1; have hfz22_0 := blk_frozen BK294.out 0; have hfz22_1 := blk_frozen BK294.out 1) | (go_at_call 77; (with_reducible refine (moraineref02_less.calls k _ _ l0_1 _ _ l1_1 t295 _ ?side1 ?side2 ?side3 ?side4 A15.out).mono ?_); (case side1 => exact qC HR0_1 HB); (case side2 => exact HC0_1.out); (case side3 => exact qC HR1_1 HB); (case side4 => exact HC1_1.out); rintro e w' ⟨rfl, ⟨nd, rfl⟩⟩; (try first | exact ⟨rfl, _, World.drewN_drewN _ _ _⟩ | exact ⟨rfl, _, Eq.trans (World.drewN_drewN _ _ _) (congrArg (World.drewN _) (Nat.add_assoc _ _ _))⟩)) | (go_at_call 77; (with_reducible refine (moraineref02_less.calls k _ _ l1_1 _ _ l0_1 t296 _ ?side1 ?side2 ?side3 ?side4 A16.out).mono ?_); (case side1 => repeat (first | exact (Kd.C_below HR1_1.out (by repeat with_reducible first|exact HB.out|apply qx|apply qv|apply qw|refine qs ?_ (by assumption))) | (with_reducible first|refine Kd.C_alloc ?_ _|refine Kd.C_drewN ?_ _|refine Kd.C_drew ?_))); (case side2 => exact HC1_1.out); (case side3 => repeat (first | exact (Kd.C_below HR0_1.out (by repeat with_reducible first|exact HB.out|apply qx|apply qv|apply qw|refine qs ?_ (by assumption))) | (with_reducible first|refine Kd.C_alloc ?_ _|refine Kd.C_drewN ?_ _|refine Kd.C_drew ?_))); (case side4 => exact HC0_1.out); rintro e w' ⟨rfl, ⟨nd, rfl⟩⟩; (try first | exact ⟨rfl, _, World.drewN_drewN _ _ _⟩ | exact ⟨rfl, _, Eq.trans (World.drewN_drewN _ _ _) (congrArg (World.drewN _) (Nat.add_assoc _ _ _))⟩))); go_upto_if 25 with (first | ((with_reducible refine gate_dst (N := 2) rfl ?_); refine box_event ?hg (N := 2) ?hd (cs := #[.bool a0_0, .slice A0_1 l0_1.length c0_1]) (t := 34) ?hr ?_; (case hd => rfl); (case hg => rfl); (case hr => go_simp <;> rfl); intro gb293 hg w18 hbox hb; have BK293 := Aside0.mk (hbox); have GW293 := qg hg (by repeat (first | (with_reducible first | exact HB.out | apply qx | apply qv | apply qw) | exact HB.out)); have GE293 := GW293; replace HB := Aside0.mk (below_step (by repeat (first | (with_reducible first | exact HB.out | apply qx | apply qv | apply qw) | exact HB.out)) hb); clear hb hbox hg) | ((with_reducible refine gate_dst (N := 3) rfl ?_); refine box_event ?hg (N := 3) ?hd (cs := #[.bool a1_0, .slice A1_1 l1_1.length c1_1]) (t := 34) ?hr ?_; (case hd => rfl); (case hg => rfl); (case hr => go_simp <;> rfl); intro gb294 hg w19 hbox hb; have BK294 := Aside0.mk (hbox); have GW294 := qg hg (by repeat (first | (with_reducible first | exact HB.out | apply qx | apply qv | apply qw | refine below_set ?_ GE293.out) | exact HB.out)); have GE294 := GW294; replace HB := Aside0.mk (below_step (by repeat (first | (with_reducible first | exact HB.out | apply qx | apply qv | apply qw | refine below_set ?_ GE293.out) | exact HB.out)) hb); have NB293_294 := qn BK293 hg; have NB294_293 := qm BK293 hg; replace BK293 := qb BK293 hb; clear hb hbox hg; have hnb20 := NB293_294.out; have hnc20 := NB294_293.out; have hcz21_0 : w19.cell? ⟨gb293, 0, none⟩ = some (.bool a0_0) := qc BK293 0; have hcz21_1 : w19.cell? ⟨gb293, 1, none⟩ = some (.slice A0_1 l0_1.length c0_1) := qc BK293 1; have hfz21_0 := blk_frozen BK293.out 0; have hfz21_1 := blk_frozen BK293.out 1; have hcz22_0 : w19.cell? ⟨gb294, 0, none⟩ = some (.bool a1_0) := qc BK294 0; have hcz22_1 : w19.cell? ⟨gb294, 1, none⟩ = some (.slice A1_1 l1_1.length c1_1) := qc BK294 1; have hfz22_0 := blk_frozen BK294.out 0; have hfz22_1 := blk_frozen BK294.out 1) | (go_at_call 77; (with_reducible refine (moraineref02_less.calls k _ _ l0_1 _ _ l1_1 t295 _ ?side1 ?side2 ?side3 ?side4 A15.out).mono ?_); (case side1 => exact qC HR0_1 HB); (case side2 => exact HC0_1.out); (case side3 => exact qC HR1_1 HB); (case side4 => exact HC1_1.out); rintro e w' ⟨rfl, ⟨nd, rfl⟩⟩; (try first | exact ⟨rfl, _, World.drewN_drewN _ _ _⟩ | exact ⟨rfl, _, Eq.trans (World.drewN_drewN _ _ _) (congrArg (World.drewN _) (Nat.add_assoc _ _ _))⟩)) | (go_at_call 77; (with_reducible refine (moraineref02_less.calls k _ _ l1_1 _ _ l0_1 t296 _ ?side1 ?side2 ?side3 ?side4 A16.out).mono ?_); (case side1 => repeat (first | exact (Kd.C_below HR1_1.out (by repeat with_reducible first|exact HB.out|apply qx|apply qv|apply qw|refine qs ?_ (by assumption))) | (with_reducible first|refine Kd.C_alloc ?_ _|refine Kd.C_drewN ?_ _|refine Kd.C_drew ?_))); (case side2 => exact HC1_1.out); (case side3 => repeat (first | exact (Kd.C_below HR0_1.out (by repeat with_reducible first|exact HB.out|apply qx|apply qv|apply qw|refine qs ?_ (by assumption))) | (with_reducible first|refine Kd.C_alloc ?_ _|refine Kd.C_drewN ?_ _|refine Kd.C_drew ?_))); (case side4 => exact HC0_1.out); rintro e w' ⟨rfl, ⟨nd, rfl⟩⟩; (try first | exact ⟨rfl, _, World.drewN_drewN _ _ _⟩ | exact ⟨rfl, _, Eq.trans (World.drewN_drewN _ _ _) (congrArg (World.drewN _) (Nat.add_assoc _ _ _))⟩))))
  (try simp only [Act.put, zA, zB, zC])
  go_cut [5, 6] (fun v5 v6 wc => ∃ (kq : Nat) (x5_16 : Bool) (x6_16 : Bool), v5 = .bool x5_16 ∧ v6 = .bool x6_16 ∧ Aside0 (moraineref02_Cmp.j0 kq x5_16 x6_16 = some r) ∧ Aside0 (kq ≤ k) ∧ Aside0 (wc.heap[gb293]? = some (.cells #[.bool a0_0, (.slice A0_1 l0_1.length c0_1)] 34 (0, 0))) ∧ Aside0 (wc.heap[gb294]? = some (.cells #[.bool a1_0, (.slice A1_1 l1_1.length c1_1)] 34 (0, 0))) ∧ Aside0 (Below w.heap.size w wc))
  case first =>
   have H := HC17.out
   clear HC17
   by_cases c23 : a0_0 = true
   ·subst c23
    have H1 : (moraineref02_Cmp.j0 k t296 t295) = some r := by rw [if_pos rfl] at H; exact H
    clear H
    have H := H1
    clear H1
    have H' := Aside0.mk H
    clear H
    go_wp2
    repeat (go_quiet (fail); try go_wp2)
    go_meet
    case rel => exact ⟨_, (t296), (t295), (by first | rfl | (simp; done) | (simp [*]; done)), (by first | rfl | (simp; done) | (simp [*]; done)), H', ⟨by first | omega | exact Nat.le_refl _⟩, ⟨qk BK293⟩, ⟨qk BK294⟩, ⟨by repeat (first | (with_reducible first | exact HB.out | apply qx | apply qv | apply qw | refine qs ?_ (by assumption)) | exact HB.out)⟩⟩
   ·replace c23 := Bool.eq_false_iff.mpr c23
    subst c23
    have H1 : (moraineref02_Cmp.j0 k t295 t296) = some r := by rw [if_neg (show ¬ (false = true) by decide)] at H; exact H
    clear H
    have H := H1
    clear H1
    have H' := Aside0.mk H
    clear H
    go_wp2
    repeat (go_quiet (fail); try go_wp2)
    go_meet
    case rel => exact ⟨_, (t295), (t296), (by first | rfl | (simp; done) | (simp [*]; done)), (by first | rfl | (simp; done) | (simp [*]; done)), H', ⟨by first | omega | exact Nat.le_refl _⟩, ⟨qk BK293⟩, ⟨qk BK294⟩, ⟨by repeat (first | (with_reducible first | exact HB.out | apply qx | apply qv | apply qw | refine qs ?_ (by assumption)) | exact HB.out)⟩⟩
  case rest =>
   clear HC17
   try clear c1
   try clear c2
   try clear p2
   try clear c3
   try clear c3b0
   try clear c3b1
   try clear c3b2
   try clear c4
   try clear c7
   try clear c12
   try clear c20
   try clear c23
   try clear hcz13_0
   try clear hcz13_1
   try clear hcz14_0
   try clear hcz14_1
   try clear hcz21_0
   try clear hcz21_1
   try clear hcz22_0
   try clear hcz22_1
   try clear hcz8_0
   try clear hcz8_1
   try clear hcz9_0
   try clear hcz9_1
   try clear hfz13_0
   try clear hfz13_1
   try clear hfz14_0
   try clear hfz14_1
   try clear hfz21_0
   try clear hfz21_1
   try clear hfz22_0
   try clear hfz22_1
   try clear hfz8_0
   try clear hfz8_1
   try clear hfz9_0
   try clear hfz9_1
   obtain ⟨kq, x5_16, x6_16, rfl, rfl, HA, HJ16, BK293, BK294, HB⟩ := hcut
   cases kq with
   | zero => exact absurd HA.out (by simp [moraineref02_Cmp.j0])
   | succ kj16 =>
    have H := HA.out
    clear HA
    simp only [moraineref02_Cmp.j0] at H
    by_cases c24 : x5_16 = true
    ·subst c24
     have H1 : (some (-1)) = some r := by rw [if_pos rfl] at H; exact H
     clear H
     have H := H1
     clear H1
     obtain rfl := Option.some.inj H
     go_wp2
     repeat (go_quiet (fail); try go_wp2)
     go_ret
     exact ⟨by first | rfl | (simp [errW_none, errW_some] <;> rfl) | (simp [*, errW_none, errW_some] <;> rfl), by repeat (first | (with_reducible first | exact HB.out | apply qx | apply qv | apply qw | refine qs ?_ (by assumption)) | exact HB.out)⟩
    ·replace c24 := Bool.eq_false_iff.mpr c24
     subst c24
     have H1 : (if x6_16 = true then (some 1) else (some 0)) = some r := by rw [if_neg (show ¬ (false = true) by decide)] at H; exact H
     clear H
     have H := H1
     clear H1
     by_cases c25 : x6_16 = true
     ·subst c25
      have H1 : (some 1) = some r := by rw [if_pos rfl] at H; exact H
      clear H
      have H := H1
      clear H1
      obtain rfl := Option.some.inj H
      go_wp2
      repeat (go_quiet (fail); try go_wp2)
      go_ret
      exact ⟨by first | rfl | (simp [errW_none, errW_some] <;> rfl) | (simp [*, errW_none, errW_some] <;> rfl), by repeat (first | (with_reducible first | exact HB.out | apply qx | apply qv | apply qw | refine qs ?_ (by assumption)) | exact HB.out)⟩
     ·replace c25 := Bool.eq_false_iff.mpr c25
      subst c25
      have H1 : (some 0) = some r := by rw [if_neg (show ¬ (false = true) by decide)] at H; exact H
      clear H
      have H := H1
      clear H1
      obtain rfl := Option.some.inj H
      go_wp2
      repeat (go_quiet (fail); try go_wp2)
      go_ret
      exact ⟨by first | rfl | (simp [errW_none, errW_some] <;> rfl) | (simp [*, errW_none, errW_some] <;> rfl), by repeat (first | (with_reducible first | exact HB.out | apply qx | apply qv | apply qw | refine qs ?_ (by assumption)) | exact HB.out)⟩
end Go.Proofs.YthhpnlbeniihhaaDoor.PRef
-- Printed by a program of this session's (wip/tools/printr.py, over the kit's print program).
namespace Go.Proofs.YthhpnlbeniihhaaDoor.PRef
open Go.RowKit Go.Proofs.YthhpnlbeniihhaaDoorW.PrintWords Go.Proofs.YthhpnlbeniihhaaDoorW.PrintLast Go.Proofs.YthhpnlbeniihhaaDoorW.PrintMore
attribute [local go_sem] max2_int min2_int max_two min_two max_three min_three max_four min_four   -- for this text's walks alone
set_option linter.unusedVariables false
set_option linter.unusedSimpArgs false
def moraineref02_May.f (k : Nat) (a0_0 : Bool) (l0_1 : List Int) : Option (Bool) := (moraineref02_Value.f k a0_0 l0_1).bind fun bt329 => ((moraineref02_Num.f k bt329.1 bt329.2).bind fun bt333 => (if bt333.2.2 = 0 then ((moraineref02_Same.f k bt333.1 bt333.2.1 a0_0 l0_1).bind fun t339 => (some t339)) else (some false)))
set_option maxHeartbeats 8000000 in
set_option maxRecDepth 100000 in
theorem moraineref02_May.calls (k : Nat) (a0_0 : Bool) (A0_1 : Option Addr) (c0_1 : Nat) (l0_1 : List Int) (r : Bool) (w : World) (hr0_1 : Kd.C (Kd.int .u32) w A0_1 l0_1.length l0_1) (hc0_1 : l0_1.length ≤ c0_1) (h : moraineref02_May.f k a0_0 l0_1 = some r) :
  Calls Tryd.prog 49 #[.agg #[.bool a0_0, .slice A0_1 l0_1.length c0_1]] w fun e w' => e = .returned (.bool r) ∧ Below w.heap.size w w' := by
 have hu25 := Tryd.underlying25
 have HR0_1 := Aside0.mk hr0_1
 have HC0_1 := Aside0.mk hc0_1
 clear hr0_1 hc0_1
 have HB := Aside0.mk (Below.refl w.heap.size w)
 have H : ((moraineref02_Value.f k a0_0 l0_1).bind fun bt329 => ((moraineref02_Num.f k bt329.1 bt329.2).bind fun bt333 => (if bt333.2.2 = 0 then ((moraineref02_Same.f k bt333.1 bt333.2.1 a0_0 l0_1).bind fun t339 => (some t339)) else (some false)))) = some r := h
 clear h
 replace H := Option.bind_eq_some_iff.mp H
 obtain ⟨⟨t329, t330⟩, A20, H⟩ := H
 replace H : ((moraineref02_Num.f k t329 t330).bind fun bt333 => (if bt333.2.2 = 0 then ((moraineref02_Same.f k bt333.1 bt333.2.1 a0_0 l0_1).bind fun t339 => (some t339)) else (some false))) = some r := H
 have A2 := Aside0.mk A20
 clear A20
 replace H := Option.bind_eq_some_iff.mp H
 obtain ⟨⟨t333, t334, t337⟩, A30, H⟩ := H
 replace H : (if t337 = 0 then ((moraineref02_Same.f k t333 t334 a0_0 l0_1).bind fun t339 => (some t339)) else (some false)) = some r := H
 have A3 := Aside0.mk A30
 clear A30
 by_cases c4 : t337 = 0
 ·rw [if_pos c4] at H
  have c4b0 : (t337 == 0) = true := beq_iff_eq.mpr c4
  have c4b1 : (t337 != 0) = false := bne_eq_false_iff_eq.mpr c4
  clear c4
  replace H := Option.bind_eq_some_iff.mp H
  obtain ⟨t339, A50, H⟩ := H
  replace H : (some t339) = some r := H
  have A5 := Aside0.mk A50
  clear A50
  obtain rfl := Option.some.inj H
  go_enter Tryd.func49, Tryd.ntmps49
  go_wp2_with (first | ((with_reducible refine gate_dst (N := 1) rfl ?_); refine box_event ?hg (N := 1) ?hd (cs := #[.bool a0_0, .slice A0_1 l0_1.length c0_1]) (t := 25) ?hr ?_; (case hd => rfl); (case hg => rfl); (case hr => go_simp <;> rfl); intro gb328 hg w6 hbox hb; have BK328 := Aside0.mk (hbox); have GW328 := qg hg (by repeat (first | (with_reducible first | exact HB.out | apply qx | apply qv | apply qw) | exact HB.out)); have GE328 := GW328; replace HB := Aside0.mk (below_step (by repeat (first | (with_reducible first | exact HB.out | apply qx | apply qv | apply qw) | exact HB.out)) hb); clear hb hbox hg; have hcz7_0 : w6.cell? ⟨gb328, 0, none⟩ = some (.bool a0_0) := qc BK328 0; have hcz7_1 : w6.cell? ⟨gb328, 1, none⟩ = some (.slice A0_1 l0_1.length c0_1) := qc BK328 1; have hfz7_0 := blk_frozen BK328.out 0; have hfz7_1 := blk_frozen BK328.out 1) | ((with_reducible refine gate_callee (f := 24) rfl ?_); refine goesL_ (some 7) rfl rfl Tryd.func24 (by kernel_rfl) rfl #[.agg #[.bool a0_0, .slice A0_1 l0_1.length c0_1]] rfl (by (try simp only [zM, zO, zP]); first|done|rfl) ?_; (with_reducible refine (moraineref02_Value.calls k a0_0 _ _ l0_1 t329 t330 _ ?side1 ?side2 A2.out).mono ?_); (case side1 => exact qC HR0_1 HB); (case side2 => exact HC0_1.out); rintro e w8 ⟨v331, rfl, ho0, hb⟩; refine ⟨_, rfl, ?_⟩; have HO332 := Aside0.mk (Kd.R_lower ho0 (below_size (by repeat (first | (with_reducible first | exact HB.out | apply qx | apply qv | apply qw | refine below_set ?_ GE328.out) | exact HB.out)))); replace BK328 := qb BK328 hb; replace HB := Aside0.mk (below_step (by repeat (first | (with_reducible first | exact HB.out | apply qx | apply qv | apply qw | refine below_set ?_ GE328.out) | exact HB.out)) hb); (try clear hb); (try clear hb2); (try clear hk); (try clear hi); (try clear ho0); obtain ⟨Ao9, co9, eo9⟩ := Kd.R_slice HO332.out; subst eo9) | ((with_reducible refine gate_callee (f := 52) rfl ?_); refine goesL_ (some 8) rfl rfl Tryd.func52 (by kernel_rfl) rfl #[.agg #[.bool t329, .slice Ao9 t330.length co9]] rfl (by (try simp only [zM, zO, zP]); first|done|rfl) ?_; (with_reducible refine (moraineref02_Num.calls k t329 _ _ t330 t333 t334 t337 _ ?side1 ?side2 A3.out).mono ?_); (case side1 => repeat (first | exact (Kd.R_reads' HO332.out).2.2 | (with_reducible first|refine Kd.C_alloc ?_ _|refine Kd.C_drewN ?_ _|refine Kd.C_drew ?_))); (case side2 => exact (Kd.R_reads' HO332.out).2.1); rintro e w10 ⟨v335, rfl, ho0, hb⟩; refine ⟨_, rfl, ?_⟩; replace HO332 := qr HO332 hb; have HO336 := Aside0.mk (Kd.R_lower ho0 (below_size (by repeat (first | (with_reducible first | exact HB.out | apply qx | apply qv | apply qw | refine below_set ?_ GE328.out) | exact HB.out)))); replace BK328 := qb BK328 hb; replace HB := Aside0.mk (below_step (by repeat (first | (with_reducible first | exact HB.out | apply qx | apply qv | apply qw | refine below_set ?_ GE328.out) | exact HB.out)) hb); (try clear hb); (try clear hb2); (try clear hk); (try clear hi); (try clear ho0)) | ((with_reducible refine gate_dst (N := 3) rfl ?_); refine box_event ?hg (N := 3) ?hd (cs := #[.bool false, .slice none 0 0]) (t := 25) ?hr ?_; (case hd => rfl); (case hg => rfl); (case hr => go_simp <;> rfl); intro gb338 hg w11 hbox hb; replace HO332 := qr HO332 hb; replace HO336 := qr HO336 hb; have BK338 := Aside0.mk (hbox); have GW338 := qg hg (by repeat (first | (with_reducible first | exact HB.out | apply qx | apply qv | apply qw | refine below_set ?_ GE328.out) | exact HB.out)); have GE338 := GW338; replace HB := Aside0.mk (below_step (by repeat (first | (with_reducible first | exact HB.out | apply qx | apply qv | apply qw | refine below_set ?_ GE328.out) | exact HB.out)) hb); have NB328_338 := qn BK328 hg; have NB338_328 := qm BK328 hg; replace BK328 := qb BK328 hb; clear hb hbox hg; have hnb12 := NB338_328.out; have hnc12 := NB328_338.out; have hcz13_0 : w11.cell? ⟨gb338, 0, none⟩ = some (.bool false) := qc BK338 0; have hcz13_1 : w11.cell? ⟨gb338, 1, none⟩ = some (.slice none 0 0) := qc BK338 1; have hfz13_0 := blk_frozen BK338.out 0; have hfz13_1 := blk_frozen BK338.out 1; obtain ⟨Ao14, co14, eo14⟩ := Kd.R_slice HO336.out; subst eo14; have hcz15_0 : w11.cell? ⟨gb328, 0, none⟩ = some (.bool a0_0) := qc BK328 0; have hcz15_1 : w11.cell? ⟨gb328, 1, none⟩ = some (.slice A0_1 l0_1.length c0_1) := qc BK328 1; have hfz15_0 := blk_frozen BK328.out 0; have hfz15_1 := blk_frozen BK328.out 1) | (go_at_call 17; (with_reducible refine (moraineref02_Same.calls k t333 _ _ t334 a0_0 _ _ l0_1 t339 _ ?side1 ?side2 ?side3 ?side4 A5.out).mono ?_); (case side1 => refine (Kd.R_reads' (e := 63) (base := w.heap.size) (ok := fun k_ => True) (n := t334.length) (c := co14) ?_).2.2; exact (by (with_reducible repeat first|apply Kd.R_alloc|apply Kd.R_drewN|apply Kd.R_drew); exact (Kd.R_mono (qz HO336 BK338 (by decide) (.bool t333) (.slice Ao14 t334.length co14)) (fun _ h_ => h_.1)))); (case side2 => exact (Kd.R_reads' HO336.out).2.1); (case side3 => exact Kd.C_below HR0_1.out (by repeat with_reducible first|exact HB.out|apply qx|apply qv|apply qw|refine qs ?_ (by assumption))); (case side4 => exact HC0_1.out); rintro e w16 ⟨rfl, hb⟩; have n0_ := Aside0.mk (Kd.R_below (by (with_reducible repeat first|apply Kd.R_alloc|apply Kd.R_drewN|apply Kd.R_drew); exact (Kd.R_mono (qz HO332 BK338 (by decide) (.bool t333) (.slice Ao14 t334.length co14)) (fun _ h_ => h_.1))) hb); have n1_ := Aside0.mk (Kd.R_below (by (with_reducible repeat first|apply Kd.R_alloc|apply Kd.R_drewN|apply Kd.R_drew); exact (Kd.R_mono (qz HO336 BK338 (by decide) (.bool t333) (.slice Ao14 t334.length co14)) (fun _ h_ => h_.1))) hb); have n2_ := Aside0.mk (blk_below (g := gb328) (o := .cells #[.bool a0_0, .slice A0_1 l0_1.length c0_1] 25 (0, 0)) (by (with_reducible repeat first|refine qN ?_ _|refine qW ?_|refine qA ?_ _); refine qf ?_ NB328_338; (with_reducible repeat first|refine qN ?_ _|refine qW ?_|refine qA ?_ _); exact BK328.out) hb); have n3_ := Aside0.mk (blk_below (g := gb338) (o := .cells #[.bool t333, .slice Ao14 t334.length co14] 25 (0, 0)) (by (with_reducible repeat first|refine qN ?_ _|refine qW ?_|refine qA ?_ _); refine blk_put (cs := #[.bool t333, .slice none 0 0]) ?_ 1 _ rfl; (with_reducible repeat first|refine qN ?_ _|refine qW ?_|refine qA ?_ _); refine blk_put (cs := #[.bool false, .slice none 0 0]) ?_ 0 _ rfl; (with_reducible repeat first|refine qN ?_ _|refine qW ?_|refine qA ?_ _); exact BK338.out) hb); have n4_ := Aside0.mk (below_step (by repeat with_reducible first|exact HB.out|apply qx|apply qv|apply qw|refine qs ?_ (by assumption)) hb); clear HO332; clear HO336; clear BK328; clear BK338; clear HB; have HO332 := n0_; have HO336 := n1_; have BK328 := n2_; have BK338 := n3_; have HB := n4_; clear n0_ n1_ n2_ n3_ n4_; (try clear hb); (try clear hb2); (try clear hk); (try clear hi)))
  go_ret
  exact ⟨by first | rfl | (simp [errW_none, errW_some] <;> rfl) | (simp [*, errW_none, errW_some] <;> rfl), by repeat (first | (with_reducible first | exact HB.out | apply qx | apply qv | apply qw | refine qs ?_ (by assumption)) | exact HB.out)⟩
 ·rw [if_neg c4] at H
  have c4b0 : (t337 == 0) = false := beq_eq_false_iff_ne.mpr c4
  have c4b1 : (t337 != 0) = true := bne_iff_ne.mpr c4
  obtain rfl := Option.some.inj H
  go_enter Tryd.func49, Tryd.ntmps49
  go_wp2_with (first | ((with_reducible refine gate_dst (N := 1) rfl ?_); refine box_event ?hg (N := 1) ?hd (cs := #[.bool a0_0, .slice A0_1 l0_1.length c0_1]) (t := 25) ?hr ?_; (case hd => rfl); (case hg => rfl); (case hr => go_simp <;> rfl); intro gb328 hg w17 hbox hb; have BK328 := Aside0.mk (hbox); have GW328 := qg hg (by repeat (first | (with_reducible first | exact HB.out | apply qx | apply qv | apply qw) | exact HB.out)); have GE328 := GW328; replace HB := Aside0.mk (below_step (by repeat (first | (with_reducible first | exact HB.out | apply qx | apply qv | apply qw) | exact HB.out)) hb); clear hb hbox hg; have hcz18_0 : w17.cell? ⟨gb328, 0, none⟩ = some (.bool a0_0) := qc BK328 0; have hcz18_1 : w17.cell? ⟨gb328, 1, none⟩ = some (.slice A0_1 l0_1.length c0_1) := qc BK328 1; have hfz18_0 := blk_frozen BK328.out 0; have hfz18_1 := blk_frozen BK328.out 1) | ((with_reducible refine gate_callee (f := 24) rfl ?_); refine goesL_ (some 7) rfl rfl Tryd.func24 (by kernel_rfl) rfl #[.agg #[.bool a0_0, .slice A0_1 l0_1.length c0_1]] rfl (by (try simp only [zM, zO, zP]); first|done|rfl) ?_; (with_reducible refine (moraineref02_Value.calls k a0_0 _ _ l0_1 t329 t330 _ ?side1 ?side2 A2.out).mono ?_); (case side1 => exact qC HR0_1 HB); (case side2 => exact HC0_1.out); rintro e w19 ⟨v331, rfl, ho0, hb⟩; refine ⟨_, rfl, ?_⟩; have HO332 := Aside0.mk (Kd.R_lower ho0 (below_size (by repeat (first | (with_reducible first | exact HB.out | apply qx | apply qv | apply qw | refine below_set ?_ GE328.out) | exact HB.out)))); replace BK328 := qb BK328 hb; replace HB := Aside0.mk (below_step (by repeat (first | (with_reducible first | exact HB.out | apply qx | apply qv | apply qw | refine below_set ?_ GE328.out) | exact HB.out)) hb); (try clear hb); (try clear hb2); (try clear hk); (try clear hi); (try clear ho0); obtain ⟨Ao20, co20, eo20⟩ := Kd.R_slice HO332.out; subst eo20) | ((with_reducible refine gate_callee (f := 52) rfl ?_); refine goesL_ (some 8) rfl rfl Tryd.func52 (by kernel_rfl) rfl #[.agg #[.bool t329, .slice Ao20 t330.length co20]] rfl (by (try simp only [zM, zO, zP]); first|done|rfl) ?_; (with_reducible refine (moraineref02_Num.calls k t329 _ _ t330 t333 t334 t337 _ ?side1 ?side2 A3.out).mono ?_); (case side1 => repeat (first | exact (Kd.R_reads' HO332.out).2.2 | (with_reducible first|refine Kd.C_alloc ?_ _|refine Kd.C_drewN ?_ _|refine Kd.C_drew ?_))); (case side2 => exact (Kd.R_reads' HO332.out).2.1); rintro e w21 ⟨v335, rfl, ho0, hb⟩; refine ⟨_, rfl, ?_⟩; replace HO332 := qr HO332 hb; have HO336 := Aside0.mk (Kd.R_lower ho0 (below_size (by repeat (first | (with_reducible first | exact HB.out | apply qx | apply qv | apply qw | refine below_set ?_ GE328.out) | exact HB.out)))); replace BK328 := qb BK328 hb; replace HB := Aside0.mk (below_step (by repeat (first | (with_reducible first | exact HB.out | apply qx | apply qv | apply qw | refine below_set ?_ GE328.out) | exact HB.out)) hb); (try clear hb); (try clear hb2); (try clear hk); (try clear hi); (try clear ho0)) | ((with_reducible refine gate_dst (N := 3) rfl ?_); refine box_event ?hg (N := 3) ?hd (cs := #[.bool false, .slice none 0 0]) (t := 25) ?hr ?_; (case hd => rfl); (case hg => rfl); (case hr => go_simp <;> rfl); intro gb338 hg w22 hbox hb; replace HO332 := qr HO332 hb; replace HO336 := qr HO336 hb; have BK338 := Aside0.mk (hbox); have GW338 := qg hg (by repeat (first | (with_reducible first | exact HB.out | apply qx | apply qv | apply qw | refine below_set ?_ GE328.out) | exact HB.out)); have GE338 := GW338; replace HB := Aside0.mk (below_step (by repeat (first | (with_reducible first | exact HB.out | apply qx | apply qv | apply qw | refine below_set ?_ GE328.out) | exact HB.out)) hb); have NB328_338 := qn BK328 hg; have NB338_328 := qm BK328 hg; replace BK328 := qb BK328 hb; clear hb hbox hg; have hnb23 := NB338_328.out; have hnc23 := NB328_338.out; have hcz24_0 : w22.cell? ⟨gb338, 0, none⟩ = some (.bool false) := qc BK338 0; have hcz24_1 : w22.cell? ⟨gb338, 1, none⟩ = some (.slice none 0 0) := qc BK338 1; have hfz24_0 := blk_frozen BK338.out 0; have hfz24_1 := blk_frozen BK338.out 1; obtain ⟨Ao25, co25, eo25⟩ := Kd.R_slice HO336.out; subst eo25))
  go_ret
  exact ⟨by first | rfl | (simp [errW_none, errW_some] <;> rfl) | (simp [*, errW_none, errW_some] <;> rfl), by repeat (first | (with_reducible first | exact HB.out | apply qx | apply qv | apply qw | refine qs ?_ (by assumption)) | exact HB.out)⟩

-- NOT PRINTED: function 32 (moraineref02_Divide)

-- NOT PRINTED: function 35 (moraineref02_Gcd)
def morainelaw02_is.f (k : Nat) (a0_0 : Bool) (l0_1 : List Int) (a1 : Int) (a2_0 : Bool) (l2_1 : List Int) : Option (Bool) := (moraineref02_Num.f k a2_0 l2_1).bind fun bt360 => (if a1 = bt360.2.2 then ((moraineref02_Same.f k a0_0 l0_1 bt360.1 bt360.2.1).bind fun t366 => (some t366)) else (some false))
set_option maxHeartbeats 8000000 in
set_option maxRecDepth 100000 in
theorem morainelaw02_is.calls (k : Nat) (a0_0 : Bool) (A0_1 : Option Addr) (c0_1 : Nat) (l0_1 : List Int) (a1 : Int) (a2_0 : Bool) (A2_1 : Option Addr) (c2_1 : Nat) (l2_1 : List Int) (r : Bool) (w : World) (hr0_1 : Kd.C (Kd.int .u32) w A0_1 l0_1.length l0_1) (hc0_1 : l0_1.length ≤ c0_1) (hr2_1 : Kd.C (Kd.int .u8) w A2_1 l2_1.length l2_1) (hc2_1 : l2_1.length ≤ c2_1) (h : morainelaw02_is.f k a0_0 l0_1 a1 a2_0 l2_1 = some r) :
  Calls Tryd.prog 27 #[.agg #[.bool a0_0, .slice A0_1 l0_1.length c0_1], .int .i64 a1, .agg #[.bool a2_0, .slice A2_1 l2_1.length c2_1]] w fun e w' => e = .returned (.bool r) ∧ Below w.heap.size w w' := by
 have hu25 := Tryd.underlying25
 have hu34 := Tryd.underlying34
 have HR0_1 := Aside0.mk hr0_1
 have HC0_1 := Aside0.mk hc0_1
 clear hr0_1 hc0_1
 have HR2_1 := Aside0.mk hr2_1
 have HC2_1 := Aside0.mk hc2_1
 clear hr2_1 hc2_1
 have HB := Aside0.mk (Below.refl w.heap.size w)
 have H : ((moraineref02_Num.f k a2_0 l2_1).bind fun bt360 => (if a1 = bt360.2.2 then ((moraineref02_Same.f k a0_0 l0_1 bt360.1 bt360.2.1).bind fun t366 => (some t366)) else (some false))) = some r := h
 clear h
 replace H := Option.bind_eq_some_iff.mp H
 obtain ⟨⟨t360, t361, t364⟩, A40, H⟩ := H
 replace H : (if a1 = t364 then ((moraineref02_Same.f k a0_0 l0_1 t360 t361).bind fun t366 => (some t366)) else (some false)) = some r := H
 have A4 := Aside0.mk A40
 clear A40
 by_cases c5 : a1 = t364
 ·rw [if_pos c5] at H
  have c5b0 : (a1 == t364) = true := beq_iff_eq.mpr c5
  have c5b1 : (a1 != t364) = false := bne_eq_false_iff_eq.mpr c5
  clear c5
  replace H := Option.bind_eq_some_iff.mp H
  obtain ⟨t366, A60, H⟩ := H
  replace H : (some t366) = some r := H
  have A6 := Aside0.mk A60
  clear A60
  obtain rfl := Option.some.inj H
  go_enter Tryd.func27, Tryd.ntmps27
  go_wp2_with (first | ((with_reducible refine gate_dst (N := 3) rfl ?_); refine box_event ?hg (N := 3) ?hd (cs := #[.bool a0_0, .slice A0_1 l0_1.length c0_1]) (t := 25) ?hr ?_; (case hd => rfl); (case hg => rfl); (case hr => go_simp <;> rfl); intro gb358 hg w7 hbox hb; have BK358 := Aside0.mk (hbox); have GW358 := qg hg (by repeat (first | (with_reducible first | exact HB.out | apply qx | apply qv | apply qw) | exact HB.out)); have GE358 := GW358; replace HB := Aside0.mk (below_step (by repeat (first | (with_reducible first | exact HB.out | apply qx | apply qv | apply qw) | exact HB.out)) hb); clear hb hbox hg) | ((with_reducible refine gate_dst (N := 5) rfl ?_); refine box_event ?hg (N := 5) ?hd (cs := #[.bool a2_0, .slice A2_1 l2_1.length c2_1]) (t := 34) ?hr ?_; (case hd => rfl); (case hg => rfl); (case hr => go_simp <;> rfl); intro gb359 hg w8 hbox hb; have BK359 := Aside0.mk (hbox); have GW359 := qg hg (by repeat (first | (with_reducible first | exact HB.out | apply qx | apply qv | apply qw | refine below_set ?_ GE358.out) | exact HB.out)); have GE359 := GW359; replace HB := Aside0.mk (below_step (by repeat (first | (with_reducible first | exact HB.out | apply qx | apply qv | apply qw | refine below_set ?_ GE358.out) | exact HB.out)) hb); have NB358_359 := qn BK358 hg; have NB359_358 := qm BK358 hg; replace BK358 := qb BK358 hb; clear hb hbox hg; have hnb9 := NB359_358.out; have hnc9 := NB358_359.out; have hcz10_0 : w8.cell? ⟨gb359, 0, none⟩ = some (.bool a2_0) := qc BK359 0; have hcz10_1 : w8.cell? ⟨gb359, 1, none⟩ = some (.slice A2_1 l2_1.length c2_1) := qc BK359 1; have hfz10_0 := blk_frozen BK359.out 0; have hfz10_1 := blk_frozen BK359.out 1) | ((with_reducible refine gate_callee (f := 52) rfl ?_); refine goesL_ (some 11) rfl rfl Tryd.func52 (by kernel_rfl) rfl #[.agg #[.bool a2_0, .slice A2_1 l2_1.length c2_1]] rfl (by (try simp only [zM, zO, zP]); first|done|rfl) ?_; (with_reducible refine (moraineref02_Num.calls k a2_0 _ _ l2_1 t360 t361 t364 _ ?side1 ?side2 A4.out).mono ?_); (case side1 => exact qC HR2_1 HB); (case side2 => exact HC2_1.out); rintro e w11 ⟨v362, rfl, ho0, hb⟩; refine ⟨_, rfl, ?_⟩; have HO363 := Aside0.mk (Kd.R_lower ho0 (below_size (by repeat with_reducible first|exact HB.out|apply qx|apply qv|apply qw|refine qs ?_ (by assumption)))); replace BK358 := qb BK358 hb; replace BK359 := qb BK359 hb; replace HB := Aside0.mk (below_step (by repeat with_reducible first|exact HB.out|apply qx|apply qv|apply qw|refine qs ?_ (by assumption)) hb); (try clear hb); (try clear hb2); (try clear hk); (try clear hi); (try clear ho0)) | ((with_reducible refine gate_dst (N := 7) rfl ?_); refine box_event ?hg (N := 7) ?hd (cs := #[.bool false, .slice none 0 0]) (t := 25) ?hr ?_; (case hd => rfl); (case hg => rfl); (case hr => go_simp <;> rfl); intro gb365 hg w12 hbox hb; replace HO363 := qr HO363 hb; have BK365 := Aside0.mk (hbox); have GW365 := qg hg (by repeat with_reducible first|exact HB.out|apply qx|apply qv|apply qw|refine qs ?_ (by assumption)); have GE365 := GW365; replace HB := Aside0.mk (below_step (by repeat with_reducible first|exact HB.out|apply qx|apply qv|apply qw|refine qs ?_ (by assumption)) hb); have NB358_365 := qn BK358 hg; have NB365_358 := qm BK358 hg; replace BK358 := qb BK358 hb; have NB359_365 := qn BK359 hg; have NB365_359 := qm BK359 hg; replace BK359 := qb BK359 hb; clear hb hbox hg; have hnb13 := NB365_358.out; have hnc13 := NB358_365.out; have hnb14 := NB365_359.out; have hnc14 := NB359_365.out; have hcz15_0 : w12.cell? ⟨gb365, 0, none⟩ = some (.bool false) := qc BK365 0; have hcz15_1 : w12.cell? ⟨gb365, 1, none⟩ = some (.slice none 0 0) := qc BK365 1; have hfz15_0 := blk_frozen BK365.out 0; have hfz15_1 := blk_frozen BK365.out 1; obtain ⟨Ao16, co16, eo16⟩ := Kd.R_slice HO363.out; subst eo16; have hcz17_0 : w12.cell? ⟨gb358, 0, none⟩ = some (.bool a0_0) := qc BK358 0; have hcz17_1 : w12.cell? ⟨gb358, 1, none⟩ = some (.slice A0_1 l0_1.length c0_1) := qc BK358 1; have hfz17_0 := blk_frozen BK358.out 0; have hfz17_1 := blk_frozen BK358.out 1) | (go_at_call 17; (with_reducible refine (moraineref02_Same.calls k a0_0 _ _ l0_1 t360 _ _ t361 t366 _ ?side1 ?side2 ?side3 ?side4 A6.out).mono ?_); (case side1 => exact Kd.C_below HR0_1.out (by repeat with_reducible first|exact HB.out|apply qx|apply qv|apply qw|refine qs ?_ (by assumption))); (case side2 => exact HC0_1.out); (case side3 => refine (Kd.R_reads' (e := 63) (base := w.heap.size) (ok := fun k_ => True) (n := t361.length) (c := co16) ?_).2.2; exact (by (with_reducible repeat first|apply Kd.R_alloc|apply Kd.R_drewN|apply Kd.R_drew); exact (Kd.R_mono (qz HO363 BK365 (by decide) (.bool t360) (.slice Ao16 t361.length co16)) (fun _ h_ => h_.1)))); (case side4 => exact (Kd.R_reads' HO363.out).2.1); rintro e w18 ⟨rfl, hb⟩; have n0_ := Aside0.mk (Kd.R_below (by (with_reducible repeat first|apply Kd.R_alloc|apply Kd.R_drewN|apply Kd.R_drew); exact (Kd.R_mono (qz HO363 BK365 (by decide) (.bool t360) (.slice Ao16 t361.length co16)) (fun _ h_ => h_.1))) hb); have n1_ := Aside0.mk (blk_below (g := gb358) (o := .cells #[.bool a0_0, .slice A0_1 l0_1.length c0_1] 25 (0, 0)) (by (with_reducible repeat first|refine qN ?_ _|refine qW ?_|refine qA ?_ _); refine qf ?_ NB358_365; (with_reducible repeat first|refine qN ?_ _|refine qW ?_|refine qA ?_ _); exact BK358.out) hb); have n2_ := Aside0.mk (blk_below (g := gb359) (o := .cells #[.bool a2_0, .slice A2_1 l2_1.length c2_1] 34 (0, 0)) (by (with_reducible repeat first|refine qN ?_ _|refine qW ?_|refine qA ?_ _); refine qf ?_ NB359_365; (with_reducible repeat first|refine qN ?_ _|refine qW ?_|refine qA ?_ _); exact BK359.out) hb); have n3_ := Aside0.mk (blk_below (g := gb365) (o := .cells #[.bool t360, .slice Ao16 t361.length co16] 25 (0, 0)) (by (with_reducible repeat first|refine qN ?_ _|refine qW ?_|refine qA ?_ _); refine blk_put (cs := #[.bool t360, .slice none 0 0]) ?_ 1 _ rfl; (with_reducible repeat first|refine qN ?_ _|refine qW ?_|refine qA ?_ _); refine blk_put (cs := #[.bool false, .slice none 0 0]) ?_ 0 _ rfl; (with_reducible repeat first|refine qN ?_ _|refine qW ?_|refine qA ?_ _); exact BK365.out) hb); have n4_ := Aside0.mk (below_step (by repeat with_reducible first|exact HB.out|apply qx|apply qv|apply qw|refine qs ?_ (by assumption)) hb); clear HO363; clear BK358; clear BK359; clear BK365; clear HB; have HO363 := n0_; have BK358 := n1_; have BK359 := n2_; have BK365 := n3_; have HB := n4_; clear n0_ n1_ n2_ n3_ n4_; (try clear hb); (try clear hb2); (try clear hk); (try clear hi)))
  go_ret
  exact ⟨by first | rfl | (simp [errW_none, errW_some] <;> rfl) | (simp [*, errW_none, errW_some] <;> rfl), by repeat (first | (with_reducible first | exact HB.out | apply qx | apply qv | apply qw | refine qs ?_ (by assumption)) | exact HB.out)⟩
 ·rw [if_neg c5] at H
  have c5b0 : (a1 == t364) = false := beq_eq_false_iff_ne.mpr c5
  have c5b1 : (a1 != t364) = true := bne_iff_ne.mpr c5
  obtain rfl := Option.some.inj H
  go_enter Tryd.func27, Tryd.ntmps27
  go_wp2_with (first | ((with_reducible refine gate_dst (N := 3) rfl ?_); refine box_event ?hg (N := 3) ?hd (cs := #[.bool a0_0, .slice A0_1 l0_1.length c0_1]) (t := 25) ?hr ?_; (case hd => rfl); (case hg => rfl); (case hr => go_simp <;> rfl); intro gb358 hg w19 hbox hb; have BK358 := Aside0.mk (hbox); have GW358 := qg hg (by repeat (first | (with_reducible first | exact HB.out | apply qx | apply qv | apply qw) | exact HB.out)); have GE358 := GW358; replace HB := Aside0.mk (below_step (by repeat (first | (with_reducible first | exact HB.out | apply qx | apply qv | apply qw) | exact HB.out)) hb); clear hb hbox hg) | ((with_reducible refine gate_dst (N := 5) rfl ?_); refine box_event ?hg (N := 5) ?hd (cs := #[.bool a2_0, .slice A2_1 l2_1.length c2_1]) (t := 34) ?hr ?_; (case hd => rfl); (case hg => rfl); (case hr => go_simp <;> rfl); intro gb359 hg w20 hbox hb; have BK359 := Aside0.mk (hbox); have GW359 := qg hg (by repeat (first | (with_reducible first | exact HB.out | apply qx | apply qv | apply qw | refine below_set ?_ GE358.out) | exact HB.out)); have GE359 := GW359; replace HB := Aside0.mk (below_step (by repeat (first | (with_reducible first | exact HB.out | apply qx | apply qv | apply qw | refine below_set ?_ GE358.out) | exact HB.out)) hb); have NB358_359 := qn BK358 hg; have NB359_358 := qm BK358 hg; replace BK358 := qb BK358 hb; clear hb hbox hg; have hnb21 := NB359_358.out; have hnc21 := NB358_359.out; have hcz22_0 : w20.cell? ⟨gb359, 0, none⟩ = some (.bool a2_0) := qc BK359 0; have hcz22_1 : w20.cell? ⟨gb359, 1, none⟩ = some (.slice A2_1 l2_1.length c2_1) := qc BK359 1; have hfz22_0 := blk_frozen BK359.out 0; have hfz22_1 := blk_frozen BK359.out 1) | ((with_reducible refine gate_callee (f := 52) rfl ?_); refine goesL_ (some 11) rfl rfl Tryd.func52 (by kernel_rfl) rfl #[.agg #[.bool a2_0, .slice A2_1 l2_1.length c2_1]] rfl (by (try simp only [zM, zO, zP]); first|done|rfl) ?_; (with_reducible refine (moraineref02_Num.calls k a2_0 _ _ l2_1 t360 t361 t364 _ ?side1 ?side2 A4.out).mono ?_); (case side1 => exact qC HR2_1 HB); (case side2 => exact HC2_1.out); rintro e w23 ⟨v362, rfl, ho0, hb⟩; refine ⟨_, rfl, ?_⟩; have HO363 := Aside0.mk (Kd.R_lower ho0 (below_size (by repeat with_reducible first|exact HB.out|apply qx|apply qv|apply qw|refine qs ?_ (by assumption)))); replace BK358 := qb BK358 hb; replace BK359 := qb BK359 hb; replace HB := Aside0.mk (below_step (by repeat with_reducible first|exact HB.out|apply qx|apply qv|apply qw|refine qs ?_ (by assumption)) hb); (try clear hb); (try clear hb2); (try clear hk); (try clear hi); (try clear ho0)) | ((with_reducible refine gate_dst (N := 7) rfl ?_); refine box_event ?hg (N := 7) ?hd (cs := #[.bool false, .slice none 0 0]) (t := 25) ?hr ?_; (case hd => rfl); (case hg => rfl); (case hr => go_simp <;> rfl); intro gb365 hg w24 hbox hb; replace HO363 := qr HO363 hb; have BK365 := Aside0.mk (hbox); have GW365 := qg hg (by repeat with_reducible first|exact HB.out|apply qx|apply qv|apply qw|refine qs ?_ (by assumption)); have GE365 := GW365; replace HB := Aside0.mk (below_step (by repeat with_reducible first|exact HB.out|apply qx|apply qv|apply qw|refine qs ?_ (by assumption)) hb); have NB358_365 := qn BK358 hg; have NB365_358 := qm BK358 hg; replace BK358 := qb BK358 hb; have NB359_365 := qn BK359 hg; have NB365_359 := qm BK359 hg; replace BK359 := qb BK359 hb; clear hb hbox hg; have hnb25 := NB365_358.out; have hnc25 := NB358_365.out; have hnb26 := NB365_359.out; have hnc26 := NB359_365.out; have hcz27_0 : w24.cell? ⟨gb365, 0, none⟩ = some (.bool false) := qc BK365 0; have hcz27_1 : w24.cell? ⟨gb365, 1, none⟩ = some (.slice none 0 0) := qc BK365 1; have hfz27_0 := blk_frozen BK365.out 0; have hfz27_1 := blk_frozen BK365.out 1; obtain ⟨Ao28, co28, eo28⟩ := Kd.R_slice HO363.out; subst eo28))
  go_ret
  exact ⟨by first | rfl | (simp [errW_none, errW_some] <;> rfl) | (simp [*, errW_none, errW_some] <;> rfl), by repeat (first | (with_reducible first | exact HB.out | apply qx | apply qv | apply qw | refine qs ?_ (by assumption)) | exact HB.out)⟩
def morainelaw02_long.f (a0_0 : Bool) (l0_1 : List Int) : Option (Bool) := some (decide ((l0_1.length : Int) > 60))
set_option maxHeartbeats 8000000 in
set_option maxRecDepth 100000 in
theorem morainelaw02_long.calls (a0_0 : Bool) (A0_1 : Option Addr) (c0_1 : Nat) (l0_1 : List Int) (r : Bool) (w : World) (hr0_1 : Kd.C (Kd.int .u32) w A0_1 l0_1.length l0_1) (hc0_1 : l0_1.length ≤ c0_1) (h : morainelaw02_long.f a0_0 l0_1 = some r) :
  Calls Tryd.prog 21 #[.agg #[.bool a0_0, .slice A0_1 l0_1.length c0_1]] w fun e w' => e = .returned (.bool r) ∧ Below w.heap.size w w' := by
 have hu25 := Tryd.underlying25
 have HR0_1 := Aside0.mk hr0_1
 have HC0_1 := Aside0.mk hc0_1
 clear hr0_1 hc0_1
 have HB := Aside0.mk (Below.refl w.heap.size w)
 have H : (some (decide ((l0_1.length : Int) > 60))) = some r := h
 clear h
 obtain rfl := Option.some.inj H
 go_enter Tryd.func21, Tryd.ntmps21
 go_wp2_with (first | ((with_reducible refine gate_dst (N := 1) rfl ?_); refine box_event ?hg (N := 1) ?hd (cs := #[.bool a0_0, .slice A0_1 l0_1.length c0_1]) (t := 25) ?hr ?_; (case hd => rfl); (case hg => rfl); (case hr => go_simp <;> rfl); intro gb367 hg w2 hbox hb; have BK367 := Aside0.mk (hbox); have GW367 := qg hg (by repeat (first | (with_reducible first | exact HB.out | apply qx | apply qv | apply qw) | exact HB.out)); have GE367 := GW367; replace HB := Aside0.mk (below_step (by repeat (first | (with_reducible first | exact HB.out | apply qx | apply qv | apply qw) | exact HB.out)) hb); clear hb hbox hg; have hcz3_0 : w2.cell? ⟨gb367, 0, none⟩ = some (.bool a0_0) := qc BK367 0; have hcz3_1 : w2.cell? ⟨gb367, 1, none⟩ = some (.slice A0_1 l0_1.length c0_1) := qc BK367 1; have hfz3_0 := blk_frozen BK367.out 0; have hfz3_1 := blk_frozen BK367.out 1))
 go_ret
 exact ⟨by first | rfl | (simp [errW_none, errW_some] <;> rfl) | (simp [*, errW_none, errW_some] <;> rfl), by repeat (first | (with_reducible first | exact HB.out | apply qx | apply qv | apply qw | refine below_set ?_ GE367.out) | exact HB.out)⟩
end Go.Proofs.YthhpnlbeniihhaaDoor.PRef
namespace Go.Proofs.YthhpnlbeniihhaaDoor.RefC
open Go.RowKit Go.Proofs.YthhpnlbeniihhaaDoorW.PrintWords Go.Proofs.YthhpnlbeniihhaaDoorW.PrintLast Go.Proofs.YthhpnlbeniihhaaDoorW.PrintMore Go.Proofs.YthhpnlbeniihhaaDoor.Limb Go.Proofs.YthhpnlbeniihhaaDoor.Bit Go.Proofs.YthhpnlbeniihhaaDoor.NumA Go.Proofs.YthhpnlbeniihhaaDoor.NumE Go.Proofs.YthhpnlbeniihhaaDoor.NumG Go.Proofs.YthhpnlbeniihhaaDoor.NumJ Go.Proofs.YthhpnlbeniihhaaDoor.RefA Go.Proofs.YthhpnlbeniihhaaDoor.RefB Go.Proofs.YthhpnlbeniihhaaDoor.PRef
set_option linter.unusedVariables false
set_option linter.unusedSimpArgs false
/-- A whole number's sign and bits. -/
def vb (z : Int) : Bool := decide (z < 0)
def vl (z : Int) : List Int := Bit.bits z.natAbs
theorem ok_vl (z : Int) : OkB (vl z) := ok_bits _
theorem tr_vl (z : Int) : tr (vl z) = vl z := by unfold vl; rw [tr_bits (ok_bits _), bv_bits]
theorem bv_vl (z : Int) : bv (vl z) = z.natAbs := bv_bits _
theorem v_mk (b : Bool) (n : Nat) (z : Int) (hn : z.natAbs = n) (hb : n ≠ 0 → b = decide (z < 0)) : (b && decide (n ≠ 0), Bit.bits n) = (vb z, vl z) := by
  subst hn
  unfold vb vl
  by_cases h : z.natAbs = 0
  · have : z = 0 := by omega
    subst this; simp
  · rw [hb h]; simp [h]
theorem Value_at (neg : Bool) (l : List Int) (ok : OkL l) (hl : l.length < 1099511627776) : Ev (fun k => moraineref02_Value.f k neg l) (vb (val neg l), vl (val neg l)) := by
  have h := Value_ev neg l ok hl
  rw [v_mk neg (mag l) (val neg l) (by unfold val; cases neg <;> simp) (fun h => by unfold val; cases neg <;> simp; omega)] at h
  exact h
theorem bits_pos (n : Nat) : decide (0 < (Bit.bits n).length) = decide (n ≠ 0) := by
  rw [decide_eq_decide]
  have := bits_len n 0
  rw [Nat.pow_zero] at this
  omega
theorem Cmp_at (y z : Int) (hy : (vl y).length < 70368744177664) (hz : (vl z).length < 70368744177664) : Ev (fun k => moraineref02_Cmp.f k (vb y) (vl y) (vb z) (vl z)) (cmpI y z) := by
  unfold moraineref02_Cmp.f
  by_cases hs : vb y = vb z
  · simp only [show (vb y != vb z) = false by simp [hs], Bool.false_eq_true, if_false]
    have h1 := less_ev (vl y) (vl z) (ok_vl y) (ok_vl z) (tr_vl y) (tr_vl z) hy hz
    have h2 := less_ev (vl z) (vl y) (ok_vl z) (ok_vl y) (tr_vl z) (tr_vl y) hz hy
    rw [bv_vl, bv_vl] at h1 h2
    have hd : (y < 0) ↔ (z < 0) := by unfold vb at hs; rw [decide_eq_decide] at hs; exact hs
    refine Ev.rbind h1 (Ev.rbind h2 ?_)
    have hj : ∀ s g : Bool, Ev (fun k => moraineref02_Cmp.j0 k s g) (if s = true then -1 else if g = true then 1 else 0) := by
      intro s g
      refine Ev.step (f := fun _ => some (if s = true then -1 else if g = true then 1 else 0)) (fun k => ?_) (Ev.now _)
      rw [moraineref02_Cmp.j0]
      cases s <;> cases g <;> rfl
    by_cases hn : y < 0
    · simp only [show vb y = true from decide_eq_true hn, if_true]
      refine (congrArg (Ev _) ?_).mp (hj (decide (z.natAbs < y.natAbs)) (decide (y.natAbs < z.natAbs)))
      unfold cmpI
      simp only [decide_eq_true_eq]
      split <;> split <;> (try split) <;> omega
    · simp only [show vb y = false from decide_eq_false hn, Bool.false_eq_true, if_false]
      refine (congrArg (Ev _) ?_).mp (hj (decide (y.natAbs < z.natAbs)) (decide (z.natAbs < y.natAbs)))
      unfold cmpI
      simp only [decide_eq_true_eq]
      split <;> split <;> (try split) <;> omega
  · simp only [show (vb y != vb z) = true by simpa using hs, if_true]
    have hd : ¬ ((y < 0) ↔ (z < 0)) := by unfold vb at hs; rw [decide_eq_decide] at hs; exact hs
    by_cases hn : y < 0
    · simp only [show vb y = true from decide_eq_true hn, if_true]
      rw [show cmpI y z = -1 from if_pos (by omega)]
      exact Ev.now _
    · simp only [show vb y = false from decide_eq_false hn, Bool.false_eq_true, if_false]
      rw [show cmpI y z = 1 by unfold cmpI; rw [if_neg (by omega), if_pos (by omega)]]
      exact Ev.now _
end Go.Proofs.YthhpnlbeniihhaaDoor.RefC
namespace Go.Proofs.YthhpnlbeniihhaaDoor.Hand
open Go.RowKit Go.Proofs.YthhpnlbeniihhaaDoorW.PrintWords Go.Proofs.YthhpnlbeniihhaaDoorW.PrintLast Go.Proofs.YthhpnlbeniihhaaDoorW.PrintMore Go.Proofs.YthhpnlbeniihhaaDoor Go.Proofs.YthhpnlbeniihhaaDoor.Limb Go.Proofs.YthhpnlbeniihhaaDoor.Bit Go.Proofs.YthhpnlbeniihhaaDoor.NumA Go.Proofs.YthhpnlbeniihhaaDoor.RefC
set_option linter.unusedVariables false
set_option linter.unusedSimpArgs false
theorem info8 : (Tryd.prog.info? 5).map (fun i => (i.zero, i.size, i.bytes)) = some (some (.int .u8 0), 1, 1) := by kernel_rfl
set_option maxHeartbeats 1000000 in
theorem cut_calls (A : Option Addr) (c : Nat) (l : List Int) (w : World) (hl : Kd.C (Kd.int .u8) w A l.length l) (hc : l.length ≤ c) :
    Calls Tryd.prog 85 #[.slice A l.length c] w fun e w' => e = .returned (.slice A (tr l).length c) ∧ Drawn0 w w' := by
  have HL := Aside0.mk hl
  have HC := Aside0.mk hc
  clear hl hc
  go_enter Tryd.func85, Tryd.ntmps85
  go_wp2
  go_loopw [3] (fun v3 w' => ∃ x : Int, v3 = .int .i64 x ∧ Aside0 (0 ≤ x ∧ TrimAt l x.toNat) ∧ Drawn0 w w') (fun v3 _ => (intOf v3).toNat)
  case atStart => exact ⟨l.length, rfl, ⟨by omega, trim_start l⟩, Drawn0.refl _⟩
  case round =>
    obtain ⟨x, rfl, HT, ⟨q, rfl⟩⟩ := hrel
    by_cases h0 : x = 0
    · subst h0
      go_wp2
      go_ret
      rw [trim_end HT.out.2]
      exact ⟨rfl, ⟨q, rfl⟩⟩
    · obtain ⟨j, hj⟩ : ∃ j : Int, x - 1 = j := ⟨_, rfl⟩
      have hx : TrimAt l (j.toNat + 1) := by have := HT.out; rw [show j.toNat + 1 = x.toNat by omega]; exact this.2
      have hlen := hx.1
      have hL := (HL.out).2.1
      have hx0 := HT.out.1
      have hw : IntKind.i64.wrap (x - 1) = j := by rw [IntKind.wrap_i64]; omega
      have hw2 : wrap64 (x - 1) = j := by unfold wrap64; omega
      have c0 : decide (0 < x) = true := decide_eq_true (by have := HT.out.1; omega)
      have p0 : 0 ≤ j := by have := HT.out.1; omega
      have q0 : j < (l.length : Int) := by omega
      obtain ⟨ad, e0, hcell⟩ := Kd.at_int HL.out j p0 q0
      have HX := Aside0.mk hx
      have HP := Aside0.mk p0
      have HQ := Aside0.mk q0
      have HXJ := Aside0.mk hj
      clear hx hlen hL h0 hj hx0
      cases e0
      replace p0 := eq_true p0
      replace q0 := eq_true q0
      by_cases hz : rd l j = 0
      · have z0 : (rd l j == 0) = true := beq_iff_eq.mpr hz
        have HZ := Aside0.mk hz
        clear hz
        go_wp2
        go_roundw
        case rel => exact ⟨j, rfl, ⟨HP.out, trim_step HX.out (by rw [Int.toNat_of_nonneg HP.out]; exact HZ.out)⟩, ⟨q, rfl⟩⟩
        case measure => have := HXJ.out; have := HP.out; simp [intOf]; omega
      · have z0 : (rd l j == 0) = false := beq_eq_false_iff_ne.mpr hz
        have HZ := Aside0.mk hz
        have hxl : x ≤ (l.length : Int) := by have := HXJ.out; have := HQ.out; omega
        obtain ⟨i0, hi0, _, _, _⟩ := info_parts info8
        have hcut := cut_to (P := Tryd.prog) 32 5 .i64 Tryd.underlying32 hi0 (some ad) l.length c x (by have := HXJ.out; have := HP.out; omega) hxl HC.out
        clear hi0 hz
        have HXL := Aside0.mk hxl
        clear hxl
        go_wp2
        go_ret
        have e : (tr l).length = x.toNat := by
          have h1 := HXJ.out
          have h2 := HP.out
          have h3 := HXL.out
          rw [trim_stop HX.out (by rw [Int.toNat_of_nonneg h2]; exact HZ.out), List.length_take]
          omega
        rw [e]
        exact ⟨rfl, ⟨q, rfl⟩⟩
set_option maxRecDepth 100000 in
set_option maxHeartbeats 4000000 in
theorem value_calls (neg : Bool) (A : Option Addr) (c : Nat) (l : List Int) (w : World) (hl : Kd.C (Kd.int .u8) w A l.length l) (hc : l.length ≤ c) :
    Calls Tryd.prog 62 #[.bool neg, .slice A l.length c] w fun e w' => e = .returned (.agg #[.bool (neg && decide (0 < (tr l).length)), .slice A (tr l).length c]) ∧ Below w.heap.size w w' := by
  have C := cut_calls A c l (w.alloc (.cells #[.bool false, .slice none 0 0] 34 (0, 0))) (Kd.C_alloc hl _) hc
  generalize (tr l).length = n at *
  have S0 := St.start w
  obtain ⟨z0, z1, f0, f1, S1⟩ := S0.put (.bool false) (.slice none 0 0) (.bool (neg && decide (0 < n))) (.slice A n c) 34 (by decide)
  have HS := Aside0.mk S1
  have CC := Lib.hid C
  clear C S0 S1 hl hc
  cases neg with
  | false =>
    go_enter Tryd.func62, Tryd.ntmps62
    go_wp2_with fail
    refine CC.out.mono ?_
    rintro e w' ⟨rfl, ⟨nd, rfl⟩⟩
    go_wp2
    refine bodyPost_ret (results_cell_row rfl _ _ w.heap.size 34 #[.bool (false && decide (0 < n)), .slice A n c] (0, 0) _ rfl (blk_drewN (HS.out.box _ List.mem_cons_self) nd) Tryd.underlying34 rfl (by kernel_rfl)) rfl ?_
    exact ⟨rfl, pw_below_drewN HS.out.below nd⟩
  | true =>
    go_enter Tryd.func62, Tryd.ntmps62
    go_wp2_with fail
    refine CC.out.mono ?_
    rintro e w' ⟨rfl, ⟨nd, rfl⟩⟩
    go_wp2
    refine bodyPost_ret (results_cell_row rfl _ _ w.heap.size 34 #[.bool (true && decide (0 < n)), .slice A n c] (0, 0) _ rfl (blk_drewN (HS.out.box _ List.mem_cons_self) nd) Tryd.underlying34 rfl (by kernel_rfl)) rfl ?_
    exact ⟨rfl, pw_below_drewN HS.out.below nd⟩
set_option maxRecDepth 100000 in
set_option maxHeartbeats 4000000 in
theorem turn_calls (neg : Bool) (A : Option Addr) (c : Nat) (l : List Int) (w : World) (hl : Kd.C (Kd.int .u8) w A l.length l) (hc : l.length ≤ c) :
    Calls Tryd.prog 46 #[.agg #[.bool neg, .slice A l.length c]] w fun e w' => e = .returned (.agg #[.bool (!neg && decide (0 < (tr l).length)), .slice A (tr l).length c]) ∧ Below w.heap.size w w' := by
  have S1 := ((St.start w).boxed #[.bool neg, .slice A l.length c] 34 (by decide)).boxed #[.bool false, .slice none 0 0] 34 (by decide)
  have C := value_calls (!neg) A c l _ (S1.came hl) hc
  rw [World.size_alloc] at S1
  obtain ⟨a0, a1⟩ := S1.cells 1 rfl
  have HS := Aside0.mk S1
  have CC := Lib.hid C
  generalize (tr l).length = n at *
  clear C S1 hl hc
  go_enter Tryd.func46, Tryd.ntmps46
  go_wp2_with fail
  refine CC.out.mono ?_
  rintro e w' ⟨rfl, hb⟩
  have S2 := HS.out.call hb
  obtain ⟨z0, z1⟩ := S2.cells 0 rfl
  have f0 := S2.froz 0 rfl 0
  have f1 := S2.froz 0 rfl 1
  have HT := Aside0.mk ((S2.set0 0 (.bool (!neg && decide (0 < n)))).set0 1 (.slice A n c))
  clear S2 hb a0 a1
  go_wp2
  refine bodyPost_ret (results_cell_row rfl _ _ (w.heap.size + 1) 34 #[.bool (!neg && decide (0 < n)), .slice A n c] (0, 0) _ rfl (HT.out.box _ List.mem_cons_self) Tryd.underlying34 rfl (by kernel_rfl)) rfl ?_
  exact ⟨rfl, HT.out.below⟩
end Go.Proofs.YthhpnlbeniihhaaDoor.Hand
namespace Go.Proofs.YthhpnlbeniihhaaDoor.RefD
end Go.Proofs.YthhpnlbeniihhaaDoor.RefD
namespace Go.Proofs.YthhpnlbeniihhaaDoor.RefE
open Go.RowKit Go.Proofs.YthhpnlbeniihhaaDoorW.PrintWords Go.Proofs.YthhpnlbeniihhaaDoorW.PrintLast Go.Proofs.YthhpnlbeniihhaaDoorW.PrintMore Go.Proofs.YthhpnlbeniihhaaDoor.Limb Go.Proofs.YthhpnlbeniihhaaDoor.Bit Go.Proofs.YthhpnlbeniihhaaDoor.NumA Go.Proofs.YthhpnlbeniihhaaDoor.NumB Go.Proofs.YthhpnlbeniihhaaDoor.NumE Go.Proofs.YthhpnlbeniihhaaDoor.NumG Go.Proofs.YthhpnlbeniihhaaDoor.NumJ Go.Proofs.YthhpnlbeniihhaaDoor.Quo Go.Proofs.YthhpnlbeniihhaaDoor.Plain Go.Proofs.YthhpnlbeniihhaaDoor.RefA Go.Proofs.YthhpnlbeniihhaaDoor.RefB Go.Proofs.YthhpnlbeniihhaaDoor.RefC Go.Proofs.YthhpnlbeniihhaaDoor.RefD Go.Proofs.YthhpnlbeniihhaaDoor.PRef
set_option linter.unusedVariables false
set_option linter.unusedSimpArgs false
theorem or_word (x t : Nat) (hx : x < 2 ^ t) (ht : t < 32) : Go.bits .or .u32 (x : Int) (shl .u32 1 (t : Int)) = ((x + 2 ^ t : Nat) : Int) := by
  have hp : (2 : Nat) ^ t < 2 ^ 32 := Nat.pow_lt_pow_right (by decide) ht
  have e : shl .u32 1 (t : Int) = ((2 ^ t : Nat) : Int) := by
    unfold shl
    rw [Int.toNat_natCast, Nat.min_eq_left (by show t ≤ 32; omega), Int.one_mul, IntKind.wrap_u32]
    have : ((2 : Int) ^ t) = ((2 ^ t : Nat) : Int) := by rw [Int.natCast_pow]; rfl
    rw [this]
    omega
  have hor : x ||| 2 ^ t = x + 2 ^ t := by
    have := Nat.two_pow_add_eq_or_of_lt hx 1
    rw [Nat.mul_one] at this
    rw [Nat.or_comm, ← this, Nat.add_comm]
  have h1 : x < 4294967296 := by omega
  rw [e, u32_or _ _ (by omega) (by omega) (by omega) (by omega), Int.toNat_natCast, Int.toNat_natCast, hor]
theorem num_last (z : Int) (M : List Int) (ok : OkL M) (hl : M.length = ((vl z).length + 31) / 32) (hm : mag M = z.natAbs) : M = sl z := by
  have ht : tr M = sl z := by unfold sl; rw [tr_limbs ok, hm]
  rw [← ht]
  have hle := tr_len_le M
  have hge : M.length ≤ (tr M).length := by
    by_cases h0 : (vl z).length = 0
    · omega
    · have hb : ¬ ((vl z).length ≤ (vl z).length - 1) := by omega
      have hb2 : ¬ (z.natAbs < 2 ^ ((vl z).length - 1)) := fun h => hb ((bits_len z.natAbs _).mpr h)
      have hq : ¬ ((tr M).length ≤ M.length - 1) := by
        intro h
        rw [ht] at h
        unfold sl at h
        rw [limbs_len] at h
        refine hb2 (Nat.lt_of_lt_of_le h ?_)
        rw [show (4294967296 : Nat) = 2 ^ 32 from rfl, ← Nat.pow_mul]
        exact Nat.pow_le_pow_right (by decide) (by omega)
      omega
  rw [← tr_take M, List.take_of_length_le hge]
theorem w_div (i : Nat) (h : i < 4611686018427387904) : wrap64 (Int.tdiv (i : Int) 32) = ((i / 32 : Nat) : Int) := by
  rw [Int.tdiv_eq_ediv_of_nonneg (by omega), w64s (by omega) (by omega)]; omega
theorem t_mod (i : Nat) : Int.tmod (i : Int) 32 = ((i % 32 : Nat) : Int) := by rw [Int.tmod_eq_emod_of_nonneg (by omega)]; omega
theorem okL_app {M : List Int} (h : OkL M) : OkL (M ++ [0]) := by
  intro x hx
  rcases List.mem_append.mp hx with hx | hx
  · exact h x hx
  · obtain rfl : x = 0 := by simpa using hx
    decide
theorem okL_set {M : List Int} (h : OkL M) (q : Nat) {x : Nat} (hx : x < 4294967296) : OkL (M.set q (x : Int)) := by
  intro y hy
  rcases List.mem_or_eq_of_mem_set hy with hy | rfl
  · exact h y hy
  · omega
theorem mag_app (M : List Int) : mag (M ++ [0]) = mag M := by rw [mag_append]; simp [mag]
/-- One bit set into a row of limbs that stands below it. -/
theorem set_up {M : List Int} (ok : OkL M) (i : Nat) (hq : i / 32 < M.length) (hm : mag M < 2 ^ i) :
    nl M (i / 32) < 2 ^ (i % 32) ∧ mag (M.set (i / 32) ((nl M (i / 32) + 2 ^ (i % 32) : Nat) : Int)) = mag M + 2 ^ i := by
  have hp := pow_split i
  have h1 : nl M (i / 32) < 2 ^ (i % 32) := by
    rw [← mag_limb ok]
    refine Nat.lt_of_le_of_lt (Nat.mod_le _ _) ?_
    rw [Nat.div_lt_iff_lt_mul (Nat.pow_pos (by decide)), Nat.mul_comm, ← hp]
    exact hm
  refine ⟨h1, ?_⟩
  have hs := mag_set M (i / 32) ((nl M (i / 32) + 2 ^ (i % 32) : Nat) : Int) hq
  rw [Int.toNat_natCast, Nat.mul_add, ← hp] at hs
  omega
theorem num_step (z : Int) (hz : (vl z).length ≤ 1536) (i k : Nat) (hi : i < (vl z).length) (M : List Int) (hM : M.length = i / 32 + 1) (ok : OkL M) (hm : mag M = bv ((vl z).take i)) (R : Bool × List Int × Int)
    (h : ∀ N : List Int, N.length = i / 32 + 1 → OkL N → mag N = bv ((vl z).take (i + 1)) → moraineref02_Num.l0 k ((i + 1 : Nat) : Int) (vb z) (vl z) (vb z) N = some R) :
    (if (rd (vl z) (i : Int)) = 1 then (if 0 ≤ (wrap64 (Int.tdiv (i : Int) 32)) then (if (wrap64 (Int.tdiv (i : Int) 32)) < (M.length : Int) then (if 0 ≤ (Int.tmod (i : Int) 32) then (moraineref02_Num.l0 k (wrap64 ((i : Int) + 1)) (vb z) (vl z) (vb z) (M.set ((wrap64 (Int.tdiv (i : Int) 32)) : Int).toNat (Go.bits .or .u32 (rd M (wrap64 (Int.tdiv (i : Int) 32))) (shl .u32 1 (Int.tmod (i : Int) 32))))) else (none)) else (none)) else (none)) else (moraineref02_Num.l0 k (wrap64 ((i : Int) + 1)) (vb z) (vl z) (vb z) M)) = some R := by
  have hb := nl_le (ok_vl z) i
  have hrd : rd (vl z) (i : Int) = ((nl (vl z) i : Nat) : Int) := (nl_cast (OkB.okL (ok_vl z)) i).symm
  have hlt := bv_take_lt (ok_vl z) i (by omega)
  have hn := bv_take_next (vl z) i
  rw [w_div i (by omega), t_mod, w_next i (by omega), hrd]
  by_cases h1 : nl (vl z) i = 1
  · obtain ⟨hs1, hs2⟩ := set_up ok i (by omega) (by rw [hm]; exact hlt)
    have hw : nl M (i / 32) + 2 ^ (i % 32) < 4294967296 := by
      have : (2 : Nat) ^ (i % 32) ≤ 2 ^ 31 := Nat.pow_le_pow_right (by decide) (by omega)
      omega
    rw [if_pos (by omega), if_pos (by omega), if_pos (by omega), if_pos (by omega), ← nl_cast ok, or_word _ _ hs1 (by omega), Int.toNat_natCast]
    exact h _ (by rw [List.length_set]; exact hM) (okL_set ok _ hw) (by rw [hs2, hm, hn, h1]; omega)
  · have h0 : nl (vl z) i = 0 := by omega
    rw [if_neg (by omega)]
    exact h M hM ok (by rw [hm, hn, h0]; omega)
theorem num_loop (z : Int) (hz : (vl z).length ≤ 1536) (d : Nat) : ∀ (i k : Nat) (M : List Int), i + d = (vl z).length → d < k → M.length = (i + 31) / 32 → OkL M → mag M = bv ((vl z).take i) →
    moraineref02_Num.l0 k (i : Int) (vb z) (vl z) (vb z) M = some (vb z, sl z, 0) := by
  induction d with
  | zero =>
    intro i k M hi hk hM ok hm
    obtain ⟨k, rfl⟩ : ∃ j, k = j + 1 := ⟨k - 1, by omega⟩
    obtain rfl : i = (vl z).length := by omega
    rw [List.take_length, bv_vl] at hm
    rw [moraineref02_Num.l0, if_neg (by omega), num_last z M ok hM hm]
  | succ d ih =>
    intro i k M hi hk hM ok hm
    obtain ⟨k, rfl⟩ : ∃ j, k = j + 1 := ⟨k - 1, by omega⟩
    have hlt : i < (vl z).length := by omega
    have next : ∀ N : List Int, N.length = i / 32 + 1 → OkL N → mag N = bv ((vl z).take (i + 1)) → moraineref02_Num.l0 k ((i + 1 : Nat) : Int) (vb z) (vl z) (vb z) N = some (vb z, sl z, 0) :=
      fun N hN oN mN => ih (i + 1) k N (by omega) (by omega) (by omega) oN mN
    rw [moraineref02_Num.l0, if_pos (by omega)]
    by_cases h0 : i % 32 = 0
    · rw [if_pos (by rw [t_mod]; omega), if_pos (by omega), bsome, if_pos (by omega)]
      exact num_step z hz i k hlt (M ++ [0]) (by rw [List.length_append, List.length_singleton]; omega) (okL_app ok) (by rw [mag_app]; exact hm) _ next
    · rw [if_neg (by rw [t_mod]; omega), if_pos (by omega)]
      exact num_step z hz i k hlt M (by omega) ok hm _ next
theorem pow_words (n k m : Nat) (h : m = 32 * k) : n < 2 ^ m ↔ n < 4294967296 ^ k := by
  subst h
  rw [Nat.pow_mul]
/-- Num: a number of limbs, or 'too big'. -/
theorem Num_at (z : Int) : moraineref02_Num.f ((vl z).length + 1) (vb z) (vl z) = some (mkI z) := by
  unfold moraineref02_Num.f
  have hlen : (vl z).length ≤ 1536 ↔ Fits z := (bits_len z.natAbs 1536).trans (pow_words z.natAbs 48 1536 rfl)
  by_cases h : (vl z).length ≤ 1536
  · rw [if_neg (by omega), mkI_fits (hlen.mp h)]
    exact num_loop z h (vl z).length 0 _ [] (by omega) (by omega) rfl (fun x hx => by cases hx) (by simp [bv, mag])
  · rw [if_pos (by omega), mkI_big (fun hf => h (hlen.mpr hf))]
end Go.Proofs.YthhpnlbeniihhaaDoor.RefE
namespace Go.Proofs.YthhpnlbeniihhaaDoor
open Go.RowKit Go.Proofs.YthhpnlbeniihhaaDoorW.PrintWords Go.Proofs.YthhpnlbeniihhaaDoorW.PrintLast Go.Proofs.YthhpnlbeniihhaaDoorW.PrintMore Go.Proofs.YthhpnlbeniihhaaDoor.NumG Go.Proofs.YthhpnlbeniihhaaDoor.NumA
set_option linter.unusedVariables false
theorem same_loop (a b : Bool) (l m : List Int) (hl : l.length = m.length) (hb : l.length < 1073741824) : ∀ (d i k : Nat), i + d = l.length → d < k → (l.take i = m.take i) →
    PRef.moraineref02_Same.l0 k (i : Int) a l b m = some (decide (l = m)) := by
  intro d
  induction d with
  | zero =>
    intro i k hi hk ht
    obtain ⟨k, rfl⟩ : ∃ j, k = j + 1 := ⟨k - 1, by omega⟩
    rw [PRef.moraineref02_Same.l0, if_neg (by omega)]
    have : l = m := by
      have e1 : l.take i = l := List.take_of_length_le (by omega)
      have e2 : m.take i = m := List.take_of_length_le (by omega)
      rw [e1, e2] at ht; exact ht
    rw [decide_eq_true this]
  | succ d ih =>
    intro i k hi hk ht
    obtain ⟨k, rfl⟩ : ∃ j, k = j + 1 := ⟨k - 1, by omega⟩
    have h1 : i < l.length := by omega
    have h2 : i < m.length := by omega
    rw [PRef.moraineref02_Same.l0, if_pos (by omega), if_pos (by omega), if_pos (by omega), rd_nat l i h1, rd_nat m i h2]
    by_cases he : l[i] = m[i]
    · rw [if_pos he, show wrap64 ((i : Int) + 1) = ((i + 1 : Nat) : Int) by unfold wrap64; omega]
      refine ih (i + 1) k (by omega) (by omega) ?_
      rw [List.take_succ_eq_append_getElem h1, List.take_succ_eq_append_getElem h2, ht, he]
    · rw [if_neg he, decide_eq_false]
      intro hlm
      subst hlm
      exact he rfl
def moraineref02_Same.f (a0_0 : Bool) (l0_1 : List Int) (a1_0 : Bool) (l1_1 : List Int) : Option Bool := if l0_1.length < 1073741824 then some (decide (a0_0 = a1_0 ∧ l0_1 = l1_1)) else none
theorem same_eq (a b : Bool) (l m : List Int) (hb : l.length < 1073741824) : PRef.moraineref02_Same.f (l.length + 2) a l b m = some (decide (a = b ∧ l = m)) := by
  unfold PRef.moraineref02_Same.f
  by_cases hab : a = b
  · subst hab
    rw [if_neg (by simp)]
    by_cases hl : l.length = m.length
    · rw [show ((l.length : Int) != (m.length : Int)) = false by rw [hl]; simp, PRef.moraineref02_Same.j0, if_neg (by decide)]
      refine (same_loop a a l m hl hb l.length 0 (l.length + 1) (by omega) (by omega) (by simp)).trans ?_
      simp
    · rw [show ((l.length : Int) != (m.length : Int)) = true by rw [bne_iff_ne]; omega, PRef.moraineref02_Same.j0, if_pos rfl, decide_eq_false]
      rintro ⟨-, rfl⟩
      exact hl rfl
  · rw [if_pos (by simpa using hab), PRef.moraineref02_Same.j0, if_pos rfl, decide_eq_false]
    rintro ⟨h, -⟩
    exact hab h
theorem moraineref02_Same.calls (a0_0 : Bool) (A0_1 : Option Addr) (c0_1 : Nat) (l0_1 : List Int) (a1_0 : Bool) (A1_1 : Option Addr) (c1_1 : Nat) (l1_1 : List Int) (r : Bool) (w : World) (hr0_1 : Kd.C (Kd.int .u32) w A0_1 l0_1.length l0_1) (hc0_1 : l0_1.length ≤ c0_1) (hr1_1 : Kd.C (Kd.int .u32) w A1_1 l1_1.length l1_1) (hc1_1 : l1_1.length ≤ c1_1) (h : moraineref02_Same.f a0_0 l0_1 a1_0 l1_1 = some r) :
    Calls Tryd.prog 17 #[.agg #[.bool a0_0, .slice A0_1 l0_1.length c0_1], .agg #[.bool a1_0, .slice A1_1 l1_1.length c1_1]] w fun e w' => e = .returned (.bool r) ∧ Below w.heap.size w w' := by
  unfold moraineref02_Same.f at h
  by_cases hb : l0_1.length < 1073741824
  · rw [if_pos hb] at h
    exact PRef.moraineref02_Same.calls (l0_1.length + 2) a0_0 A0_1 c0_1 l0_1 a1_0 A1_1 c1_1 l1_1 r w hr0_1 hc0_1 hr1_1 hc1_1 ((same_eq _ _ _ _ hb).trans h)
  · rw [if_neg hb] at h; cases h
end Go.Proofs.YthhpnlbeniihhaaDoor
namespace Go.Proofs.YthhpnlbeniihhaaDoor.Raw
open Go.Proofs.YthhpnlbeniihhaaDoor Go.Proofs.YthhpnlbeniihhaaDoor.Limb Go.Proofs.YthhpnlbeniihhaaDoor.NumA Go.Proofs.YthhpnlbeniihhaaDoor.NumB Go.Proofs.YthhpnlbeniihhaaDoor.NumC Go.Proofs.YthhpnlbeniihhaaDoor.NumJ Go.Proofs.YthhpnlbeniihhaaDoor.NumS Go.Proofs.YthhpnlbeniihhaaDoor.NumU Go.Proofs.YthhpnlbeniihhaaDoor.Vals Go.Proofs.YthhpnlbeniihhaaDoor.Plain
section
variable {n : Bool} {l : List Int} (h : okN l)
include h
theorem norm_raw : num_Norm.f n l = some (mkI (val n l)) := by unfold num_Norm.f; rw [if_pos ⟨h.1, by have := h.2; omega⟩]
theorem sign_raw : num_Sign.f n l = some (val n l).sign := by unfold num_Sign.f; rw [if_pos h]
theorem neg_raw : num_Neg.f n l = some (mkI (-val n l)) := by unfold num_Neg.f; rw [if_pos h]
theorem fix_raw : num_Fix.f n l = some (if -1152921504606846976 ≤ val n l ∧ val n l < 1152921504606846976 then (val n l, true) else (0, false)) := by unfold num_Fix.f; rw [if_pos h]
theorem may_raw : num_May.f n l = some (NumQ.mayB n l) := by unfold num_May.f; rw [if_pos h]
end
section
variable {n1 n2 : Bool} {l m : List Int} (h1 : okN l) (h2 : okN m)
include h1 h2
theorem cmp_raw : num_Cmp.f n1 l n2 m = some (cmpI (val n1 l) (val n2 m)) := by unfold num_Cmp.f; rw [if_pos ⟨h1, h2⟩]
end
/-- A row's number is as small as its row is short. -/
theorem val_lt {n : Bool} {l : List Int} (h : OkL l) {k : Nat} (hk : l.length ≤ k) : (val n l).natAbs < 4294967296 ^ k := by
  rw [natAbs_val]
  exact Nat.lt_of_lt_of_le (mag_lt h) (Nat.pow_le_pow_right (by decide) hk)
theorem cmp_self (x : Int) : cmpI x x = 0 := by unfold cmpI; simp
theorem okN_nil : okN [] := ⟨fun x hx => (by cases hx), by decide⟩
/-- mkI's row, whatever the number. -/
theorem okN_mkI (z : Int) : okN (mkI z).2.1 := by
  by_cases h : Fits z
  · rw [mkI_fits h]; exact okN_sl h
  · rw [mkI_big h]; exact okN_nil
end Go.Proofs.YthhpnlbeniihhaaDoor.Raw
-- Printed by a program of this session's (wip/tools/printr.py, over the kit's print program).
namespace Go.Proofs.YthhpnlbeniihhaaDoor.PRef
open Go.RowKit Go.Proofs.YthhpnlbeniihhaaDoorW.PrintWords Go.Proofs.YthhpnlbeniihhaaDoorW.PrintLast Go.Proofs.YthhpnlbeniihhaaDoorW.PrintMore
attribute [local go_sem] max2_int min2_int max_two min_two max_three min_three max_four min_four   -- for this text's walks alone
set_option linter.unusedVariables false
set_option linter.unusedSimpArgs false
def morainelaw02_spoil.l0 : Nat → Int → Bool → List Int → Option (List Int)
 | 0, _, _, _ => none
 | k + 1, x2, x369000, x369001 => if x2 < (x369001.length : Int) then (if 0 ≤ x2 then (morainelaw02_spoil.l0 k (wrap64 (x2 + 1)) x369000 (x369001.set (x2 : Int).toNat (((rd x369001 x2) + 1) % 4294967296))) else (none)) else (some x369001)
def morainelaw02_spoil.f (k : Nat) (a0_0 : Bool) (l0_1 : List Int) : Option (List Int) := morainelaw02_spoil.l0 k 0 a0_0 l0_1
set_option maxHeartbeats 8000000 in
set_option maxRecDepth 100000 in
theorem morainelaw02_spoil.calls (k : Nat) (a0_0 : Bool) (P0_1_ : Nat → Prop) (u9000_ : Value) (l0_1 : List Int) (r : List Int) (w0 w : World) (hB : Below w0.heap.size w0 w) (ho0_1 : Kd.R (Kd.int .u32) 63 w w0.heap.size P0_1_ u9000_ l0_1) (h : morainelaw02_spoil.f k a0_0 l0_1 = some r) :
  Calls Tryd.prog 33 #[.agg #[.bool a0_0, u9000_]] w fun e w' => e = .returned (.tuple #[]) ∧ Kd.R (Kd.int .u32) 63 w' w0.heap.size (fun k_ => (P0_1_ k_ ∨ w.heap.size ≤ k_)) u9000_ r ∧ Below w0.heap.size w0 w' ∧ Kept w w' (fun k_ => P0_1_ k_) := by
 have hu25 := Tryd.underlying25
 have HO0_1 := Aside0.mk (show Kd.R (Kd.int .u32) 63 w w0.heap.size (fun k_ => (P0_1_ k_ ∨ w.heap.size ≤ k_)) u9000_ l0_1 from Kd.R_mono ho0_1 (fun k_ hk => (.inl hk)))
 have HK := Aside0.mk (Kept.refl w (fun k_ => P0_1_ k_))
 have HW0 := Aside0.mk hB.size
 have HB := Aside0.mk hB
 clear hB
 have H : (morainelaw02_spoil.l0 k 0 a0_0 l0_1) = some r := h
 clear h
 have H' := Aside0.mk H
 clear H
 obtain ⟨Ao2, co2, eo2⟩ := Kd.R_slice HO0_1.out
 subst eo2
 go_enter Tryd.func33, Tryd.ntmps33
 go_wp2_with (first | ((with_reducible refine gate_dst (N := 1) rfl ?_); refine box_event ?hg (N := 1) ?hd (cs := #[.bool a0_0, .slice Ao2 l0_1.length co2]) (t := 25) ?hr ?_; (case hd => rfl); (case hg => rfl); (case hr => go_simp <;> rfl); intro gb368 hg w3 hbox hb; have n0_ := qr HO0_1 hb; have n1_ := Aside0.mk (Kept.below (S := (fun k_ => P0_1_ k_)) (by repeat (first | (with_reducible first | exact HK.out | apply Kept.alloc | apply Kept.drewN | apply Kept.drew) | exact HK.out)) hb); have n2_ := Aside0.mk (below_step (by repeat (first | (with_reducible first | exact HB.out | apply qx | apply qv | apply qw) | exact HB.out)) hb); have n3_ := Aside0.mk (hbox); have n4_ := Aside0.mk ((by rw [hg]; exact (by first | exact HK.out.1 | exact (show Kept w _ (fun k_ => P0_1_ k_) from by repeat (first | (with_reducible first | exact HK.out | apply Kept.alloc | apply Kept.drewN | apply Kept.drew) | exact HK.out)).1) : w.heap.size ≤ gb368)); have n5_ := Aside0.mk ((by rw [hg]; exact (below_size (by repeat (first | (with_reducible first | exact HB.out | apply qx | apply qv | apply qw) | exact HB.out))) : w0.heap.size ≤ gb368)); clear HO0_1; clear HK; clear HB; have HO0_1 := n0_; have HK := n1_; have HB := n2_; have BK368 := n3_; have GW368 := n4_; have GE368 := n5_; clear n0_ n1_ n2_ n3_ n4_ n5_; clear hb hbox hg))
 go_loopg [2] k (fun kq v2 w' => ∃ (x2_1 : Int) (x369001_1 : List Int), v2 = .int .i64 x2_1 ∧ Aside0 (morainelaw02_spoil.l0 kq x2_1 a0_0 x369001_1 = some r) ∧ Aside0 (kq ≤ k) ∧ Aside0 (Kd.R (Kd.int .u32) 63 w' w0.heap.size (fun k_ => (P0_1_ k_ ∨ w.heap.size ≤ k_)) (.slice Ao2 l0_1.length co2) x369001_1) ∧ Aside0 (w'.heap[gb368]? = some (.cells #[.bool a0_0, (.slice Ao2 l0_1.length co2)] 25 (0, 0))) ∧ Aside0 (Kept w w' (fun k_ => P0_1_ k_)) ∧ Aside0 (Below w0.heap.size w0 w'))
 case atStart => exact ⟨(0), (l0_1), (by first | rfl | (simp; done) | (simp [*]; done)), H', ⟨Nat.le_refl _⟩, ⟨qq HO0_1⟩, ⟨qk BK368⟩, ⟨by repeat (first | (with_reducible first | exact HK.out | apply Kept.alloc | apply Kept.drewN | apply Kept.drew | refine Kept.setCell ?_ (.inr GW368.out) _) | exact HK.out)⟩, ⟨by repeat (first | (with_reducible first | exact HB.out | apply qx | apply qv | apply qw | refine below_set ?_ GE368.out) | exact HB.out)⟩⟩
 case round =>
  clear H'
  try clear p2
  try clear c3
  obtain ⟨x2_1, x369001_1, rfl, HA, HK1, HO_369001, BK368, HK, HB⟩ := hrel
  have hl369001_1 := (Kd.R_reads' HO_369001.out).1
  rw [hl369001_1] at HO_369001
  (try simp only [hl369001_1])
  (try simp only [hl369001_1] at BK368)
  cases gk with
  | zero => exact absurd HA.out (by simp [morainelaw02_spoil.l0])
  | succ k1 =>
   have H := HA.out
   clear HA
   simp only [morainelaw02_spoil.l0] at H
   by_cases c4 : x2_1 < (x369001_1.length : Int)
   ·rw [if_pos c4] at H
    have c4b0 : decide (x2_1 < (x369001_1.length : Int)) = true := decide_eq_true c4
    clear c4
    by_cases c5 : 0 ≤ x2_1
    ·rw [if_pos c5] at H
     have c5b0 : decide (0 ≤ x2_1) = true := decide_eq_true c5
     clear c5
     obtain ⟨y370, hy370⟩ : ∃ y_ : List Int, y_ = (x369001_1.set (x2_1 : Int).toNat (((rd x369001_1 x2_1) + 1) % 4294967296)) := ⟨_, rfl⟩
     replace H : (morainelaw02_spoil.l0 k1 (wrap64 (x2_1 + 1)) a0_0 y370) = some r := by first | (rw [hy370]; with_reducible exact H) | (have H2_ := (Option.bind_some _ _).symm.trans H; rw [hy370]; with_reducible exact H2_) | (have H2_ := (Option.bind_some _ _).symm.trans H; with_reducible exact H2_) | with_reducible exact H | (rw [hy370]; exact H) | exact H
     have Ny370 := Aside0.mk hy370
     clear hy370
     have H' := Aside0.mk H
     clear H
     have hcz7_0 : wr.cell? ⟨gb368, 0, none⟩ = some (.bool a0_0) := qc BK368 0
     have hcz7_1 : wr.cell? ⟨gb368, 1, none⟩ = some (.slice Ao2 x369001_1.length co2) := qc BK368 1
     have hfz7_0 := blk_frozen BK368.out 0
     have hfz7_1 := blk_frozen BK368.out 1
     have p369 : 0 ≤ (x2_1 : Int) := of_decide_eq_true (by first | (with_reducible assumption) | assumption)
     have q369 : x2_1 < (x369001_1.length : Int) := of_decide_eq_true (by first | (with_reducible assumption) | assumption)
     obtain ⟨ad369, e369, hx369_0⟩ := Kd.at_int (Kd.R_reads' HO_369001.out).2.2 x2_1 p369 q369
     cases e369
     replace p369 := eq_true p369
     replace q369 := eq_true q369
     have p6 : 0 ≤ (x2_1 : Int) := of_decide_eq_true (by first | (with_reducible assumption) | assumption)
     have q6 : (x2_1 : Int) < ((x369001_1.length : Int) : Int) := of_decide_eq_true (by first | (with_reducible assumption) | assumption)
     obtain ⟨go6, co6, eo6, gb6, gl6, cl6, HG6⟩ := Kd.R_form HO_369001.out (by omega)
     (first | cases eo6 | (injection eo6 with ea_ en_ ec_; (first | subst ea_ | (injection ea_ with ea_; subst ea_)); subst ec_; clear en_))
     have GB6 := Aside0.mk gb6
     have GG6 := Aside0.mk HG6
     clear gb6 gl6 HG6
     have HMgo6 := Aside0.mk (show (P0_1_ go6 ∨ w.heap.size ≤ go6) from (HO_369001.out.1 _ rfl))
     (first | simp only [add_plain] at hx369_0 | skip)
     obtain ⟨hx6_0, hf6_0⟩ := Kd.R_celln 0 HO_369001.out (x2_1 : Int) p6 q6
     replace p6 := eq_true p6
     replace q6 := eq_true q6
     have HP8 := Kd.R_putg HO_369001.out (x2_1 : Int) (((rd x369001_1 x2_1) + 1) % 4294967296)
     go_wp2_with (first | ((with_reducible refine gate_store (t := 63) (p := 16) rfl ?_); refine store_event (t := 63) (p := 16) (v := ?vo_w9) (w1 := (wr.setCell ⟨go6, (x2_1 : Int).toNat, none⟩ (.int .u32 (((rd x369001_1 x2_1) + 1) % 4294967296)))) ?hg ?ho ?hn ?hr ?_; (case ho => rfl); (case hg => rfl); (case hn => rfl); (case hr => first | (go_simp; done) | (go_simp; rfl)); intro w9 hw; have hg : wr.grownBy w9 (some go6) := (by rw [hw]; exact HP8.2); have hp_ : Kd.R (Kd.int .u32) 63 w9 w0.heap.size (fun k_ => (P0_1_ k_ ∨ w.heap.size ≤ k_)) (.slice (some ⟨go6, 0, none⟩) x369001_1.length co2) y370 := (by rw [hw, Ny370.out]; exact HP8.1); clear HP8; have n0_ := Aside0.mk (hp_); have n1_ := Aside0.mk (blk_grown (g := gb368) (o := .cells #[.bool a0_0, .slice (some ⟨go6, 0, none⟩) x369001_1.length co2] 25 (0, 0)) (by (with_reducible repeat first|refine qN ?_ _|refine qW ?_|refine qA ?_ _); exact BK368.out) hg (Kd.R_ne HO_369001.out BK368.out (by decide))); have n2_ := Aside0.mk ((by rw [hw]; exact below_set (HB.out) GB6.out : Below w0.heap.size w0 w9)); have n3_ := Aside0.mk (Kept.of_grown (S := (fun k_ => P0_1_ k_)) hg (by repeat (first | (with_reducible first | exact HK.out | apply Kept.alloc | apply Kept.drewN | apply Kept.drew | refine Kept.setCell ?_ (.inr GW368.out) _) | exact HK.out)) (fun k_ e_ => (HO_369001.out.1 k_ e_))); clear HO_369001; clear BK368; clear HB; clear HK; have HO_369001 := n0_; have BK368 := n1_; have HB := n2_; have HK := n3_; clear n0_ n1_ n2_ n3_; clear hg hw hp_))
     (try simp only [← hl369001_1])
     go_roundg k1
     case measure => have := HK1.out; omega
     case rel => exact ⟨(wrap64 (x2_1 + 1)), (y370), (by first | rfl | (simp; done) | (simp [*]; done)), H', ⟨by have := HK1.out; omega⟩, ⟨by (try simp only [hl369001_1]); (with_reducible repeat first|apply Kd.R_alloc|apply Kd.R_drewN|apply Kd.R_drew); exact HO_369001.out⟩, ⟨by (try simp only [hl369001_1]); (with_reducible repeat first|refine qN ?_ _|refine qW ?_|refine qA ?_ _); exact BK368.out⟩, ⟨by repeat (first | (with_reducible first | exact HK.out | apply Kept.alloc | apply Kept.drewN | apply Kept.drew | refine Kept.setCell ?_ (.inr GW368.out) _) | exact HK.out)⟩, ⟨by repeat (first | (with_reducible first | exact HB.out | apply qx | apply qv | apply qw | refine below_set ?_ GE368.out) | exact HB.out)⟩⟩
    ·rw [if_neg c5] at H
     exact absurd H (by simp)
   ·rw [if_neg c4] at H
    have c4b0 : decide (x2_1 < (x369001_1.length : Int)) = false := decide_eq_false c4
    clear c4
    obtain rfl := Option.some.inj H
    have hcz10_0 : wr.cell? ⟨gb368, 0, none⟩ = some (.bool a0_0) := qc BK368 0
    have hcz10_1 : wr.cell? ⟨gb368, 1, none⟩ = some (.slice Ao2 x369001_1.length co2) := qc BK368 1
    have hfz10_0 := blk_frozen BK368.out 0
    have hfz10_1 := blk_frozen BK368.out 1
    go_wp2
    first | go_end0 | ((try simp only [Exit.inBlock, Exit.then]); refine bodyPost_ret (results_none rfl _ _ _) rfl ?_)
    exact ⟨by first | rfl | (simp [errW_none, errW_some] <;> rfl) | (simp [*, errW_none, errW_some] <;> rfl), (by first | exact (by (with_reducible repeat first|apply Kd.R_alloc|apply Kd.R_drewN|apply Kd.R_drew); exact HO_369001.out) | (simp only [hl369001_1]; exact (by (with_reducible repeat first|apply Kd.R_alloc|apply Kd.R_drewN|apply Kd.R_drew); exact HO_369001.out))), by repeat (first | (with_reducible first | exact HB.out | apply qx | apply qv | apply qw | refine below_set ?_ GE368.out) | exact HB.out), by repeat (first | (with_reducible first | exact HK.out | apply Kept.alloc | apply Kept.drewN | apply Kept.drew | refine Kept.setCell ?_ (.inr GW368.out) _) | exact HK.out)⟩
end Go.Proofs.YthhpnlbeniihhaaDoor.PRef
namespace Go.Proofs.YthhpnlbeniihhaaDoor
open Go.RowKit Go.Proofs.YthhpnlbeniihhaaDoorW.PrintWords Go.Proofs.YthhpnlbeniihhaaDoorW.PrintLast Go.Proofs.YthhpnlbeniihhaaDoorW.PrintMore Go.Proofs.YthhpnlbeniihhaaDoor.Limb Go.Proofs.YthhpnlbeniihhaaDoor.Bit Go.Proofs.YthhpnlbeniihhaaDoor.NumA Go.Proofs.YthhpnlbeniihhaaDoor.NumB Go.Proofs.YthhpnlbeniihhaaDoor.NumE Go.Proofs.YthhpnlbeniihhaaDoor.NumG Go.Proofs.YthhpnlbeniihhaaDoor.NumJ Go.Proofs.YthhpnlbeniihhaaDoor.Plain Go.Proofs.YthhpnlbeniihhaaDoor.RefA Go.Proofs.YthhpnlbeniihhaaDoor.RefB Go.Proofs.YthhpnlbeniihhaaDoor.RefC Go.Proofs.YthhpnlbeniihhaaDoor.RefD Go.Proofs.YthhpnlbeniihhaaDoor.RefE
set_option linter.unusedVariables false
set_option linter.unusedSimpArgs false
/-- A sign and bits as a whole number. -/
def bval (b : Bool) (l : List Int) : Int := if b then -(bv l : Int) else (bv l : Int)
/-- Bits without noughts at the end, no sign of nought, few of them. -/
def canV (b : Bool) (l : List Int) : Prop := l.length < 1073741824 ∧ l = Bit.bits (bv l) ∧ (b = true → bv l ≠ 0)
instance instCanV (b : Bool) (l : List Int) : Decidable (canV b l) := by unfold canV; infer_instance
theorem bval_v (z : Int) : bval (vb z) (vl z) = z := by
  unfold bval
  rw [bv_vl]
  unfold vb
  by_cases h : z < 0 <;> simp [h] <;> omega
theorem canV.as_ {b : Bool} {l : List Int} (h : canV b l) : ∃ z, b = vb z ∧ l = vl z ∧ (vl z).length < 1073741824 := by
  refine ⟨bval b l, ?_, ?_, ?_⟩
  · unfold vb bval
    cases b with
    | true => have := h.2.2 rfl; simp; omega
    | false => simp
  · unfold vl bval
    rw [show (if b = true then -(bv l : Int) else (bv l : Int)).natAbs = bv l by cases b <;> simp]
    exact h.2.1
  · unfold vl bval
    rw [show (if b = true then -(bv l : Int) else (bv l : Int)).natAbs = bv l by cases b <;> simp, ← h.2.1]
    exact h.1
theorem canV_v {z : Int} (h : (vl z).length < 1073741824) : canV (vb z) (vl z) := by
  refine ⟨h, by rw [bv_vl]; rfl, fun hb => ?_⟩
  rw [bv_vl]
  unfold vb at hb
  have := of_decide_eq_true hb
  omega
def moraineref02_Value.f (a0_0 : Bool) (l0_1 : List Int) : Option (Bool × List Int) := if okN l0_1 then some (vb (val a0_0 l0_1), vl (val a0_0 l0_1)) else none
theorem moraineref02_Value.calls (a0_0 : Bool) (A0_1 : Option Addr) (c0_1 : Nat) (l0_1 : List Int) (r1 : Bool) (r2 : List Int) (w : World) (hr0_1 : Kd.C (Kd.int .u32) w A0_1 l0_1.length l0_1) (hc0_1 : l0_1.length ≤ c0_1) (h : moraineref02_Value.f a0_0 l0_1 = some (r1, r2)) :
    Calls Tryd.prog 24 #[.agg #[.bool a0_0, .slice A0_1 l0_1.length c0_1]] w fun e w' => ∃ v1_ : Value, e = .returned (.agg #[.bool r1, v1_]) ∧ Kd.R (Kd.int .u8) 5 w' w.heap.size (fun _ => True) v1_ r2 ∧ Below w.heap.size w w' := by
  unfold moraineref02_Value.f at h
  by_cases hg : okN l0_1
  · rw [if_pos hg] at h
    obtain ⟨k, hk⟩ := (Value_at a0_0 l0_1 hg.1 (by have := hg.2; omega)).rounds
    exact PRef.moraineref02_Value.calls k a0_0 A0_1 c0_1 l0_1 r1 r2 w hr0_1 hc0_1 (hk.trans h)
  · rw [if_neg hg] at h; cases h
def moraineref02_Copy.f (a0_0 : Bool) (l0_1 : List Int) : Option (Bool × List Int) := if l0_1.length < 1073741824 then some (a0_0, l0_1) else none
theorem moraineref02_Copy.calls (a0_0 : Bool) (A0_1 : Option Addr) (c0_1 : Nat) (l0_1 : List Int) (r1 : Bool) (r2 : List Int) (w : World) (hr0_1 : Kd.C (Kd.int .u32) w A0_1 l0_1.length l0_1) (hc0_1 : l0_1.length ≤ c0_1) (h : moraineref02_Copy.f a0_0 l0_1 = some (r1, r2)) :
    Calls Tryd.prog 28 #[.agg #[.bool a0_0, .slice A0_1 l0_1.length c0_1]] w fun e w' => ∃ v1_ : Value, e = .returned (.agg #[.bool r1, v1_]) ∧ Kd.R (Kd.int .u32) 63 w' w.heap.size (fun _ => True) v1_ r2 ∧ Below w.heap.size w w' := by
  unfold moraineref02_Copy.f at h
  by_cases hg : l0_1.length < 1073741824
  · rw [if_pos hg] at h
    refine PRef.moraineref02_Copy.calls a0_0 A0_1 c0_1 l0_1 r1 r2 w hr0_1 hc0_1 (Eq.trans ?_ h)
    unfold PRef.moraineref02_Copy.f
    rw [bsome, if_pos (by rw [List.length_nil]; omega)]
    rfl
  · rw [if_neg hg] at h; cases h
def moraineref02_Cmp.f (a0_0 : Bool) (l0_1 : List Int) (a1_0 : Bool) (l1_1 : List Int) : Option Int := if canV a0_0 l0_1 ∧ canV a1_0 l1_1 then some (cmpI (bval a0_0 l0_1) (bval a1_0 l1_1)) else none
theorem moraineref02_Cmp.calls (a0_0 : Bool) (A0_1 : Option Addr) (c0_1 : Nat) (l0_1 : List Int) (a1_0 : Bool) (A1_1 : Option Addr) (c1_1 : Nat) (l1_1 : List Int) (r : Int) (w : World) (hr0_1 : Kd.C (Kd.int .u8) w A0_1 l0_1.length l0_1) (hc0_1 : l0_1.length ≤ c0_1) (hr1_1 : Kd.C (Kd.int .u8) w A1_1 l1_1.length l1_1) (hc1_1 : l1_1.length ≤ c1_1) (h : moraineref02_Cmp.f a0_0 l0_1 a1_0 l1_1 = some r) :
    Calls Tryd.prog 44 #[.agg #[.bool a0_0, .slice A0_1 l0_1.length c0_1], .agg #[.bool a1_0, .slice A1_1 l1_1.length c1_1]] w fun e w' => e = .returned (.int .i64 r) ∧ Below w.heap.size w w' := by
  unfold moraineref02_Cmp.f at h
  by_cases hg : canV a0_0 l0_1 ∧ canV a1_0 l1_1
  · rw [if_pos hg] at h
    obtain ⟨y, rfl, rfl, ly⟩ := hg.1.as_
    obtain ⟨z, rfl, rfl, lz⟩ := hg.2.as_
    rw [bval_v, bval_v] at h
    obtain ⟨k, hk⟩ := (Cmp_at y z (by omega) (by omega)).rounds
    exact PRef.moraineref02_Cmp.calls k _ A0_1 c0_1 _ _ A1_1 c1_1 _ r w hr0_1 hc0_1 hr1_1 hc1_1 (hk.trans h)
  · rw [if_neg hg] at h; cases h
def moraineref02_Num.f (a0_0 : Bool) (l0_1 : List Int) : Option (Bool × List Int × Int) := if canV a0_0 l0_1 then some (mkI (bval a0_0 l0_1)) else none
theorem moraineref02_Num.calls (a0_0 : Bool) (A0_1 : Option Addr) (c0_1 : Nat) (l0_1 : List Int) (r1 : Bool) (r2 : List Int) (r3 : Int) (w : World) (hr0_1 : Kd.C (Kd.int .u8) w A0_1 l0_1.length l0_1) (hc0_1 : l0_1.length ≤ c0_1) (h : moraineref02_Num.f a0_0 l0_1 = some (r1, r2, r3)) :
    Calls Tryd.prog 52 #[.agg #[.bool a0_0, .slice A0_1 l0_1.length c0_1]] w fun e w' => ∃ v1_ : Value, e = .returned (.tuple #[.agg #[.bool r1, v1_], .int .i64 r3]) ∧ Kd.R (Kd.int .u32) 63 w' w.heap.size (fun _ => True) v1_ r2 ∧ Below w.heap.size w w' := by
  unfold moraineref02_Num.f at h
  by_cases hg : canV a0_0 l0_1
  · rw [if_pos hg] at h
    obtain ⟨z, rfl, rfl, lz⟩ := hg.as_
    rw [bval_v] at h
    exact PRef.moraineref02_Num.calls _ _ A0_1 c0_1 _ r1 r2 r3 w hr0_1 hc0_1 ((Num_at z).trans h)
  · rw [if_neg hg] at h; cases h
end Go.Proofs.YthhpnlbeniihhaaDoor
namespace Go.Proofs.YthhpnlbeniihhaaDoor.Ref
open Go.RowKit Go.Proofs.YthhpnlbeniihhaaDoorW.PrintWords Go.Proofs.YthhpnlbeniihhaaDoorW.PrintLast Go.Proofs.YthhpnlbeniihhaaDoorW.PrintMore Go.Proofs.YthhpnlbeniihhaaDoor Go.Proofs.YthhpnlbeniihhaaDoor.Limb Go.Proofs.YthhpnlbeniihhaaDoor.Bit Go.Proofs.YthhpnlbeniihhaaDoor.NumA Go.Proofs.YthhpnlbeniihhaaDoor.NumB Go.Proofs.YthhpnlbeniihhaaDoor.NumG Go.Proofs.YthhpnlbeniihhaaDoor.NumJ Go.Proofs.YthhpnlbeniihhaaDoor.Vals Go.Proofs.YthhpnlbeniihhaaDoor.Plain Go.Proofs.YthhpnlbeniihhaaDoor.Raw Go.Proofs.YthhpnlbeniihhaaDoor.RefC
theorem same_self (a : Bool) (l : List Int) (h : l.length < 1073741824) : moraineref02_Same.f a l a l = some true := by
  unfold moraineref02_Same.f; rw [if_pos h]; simp
theorem value_raw {n : Bool} {l : List Int} (h : okN l) : moraineref02_Value.f n l = some (vb (val n l), vl (val n l)) := by unfold moraineref02_Value.f; rw [if_pos h]
theorem copy_raw {n : Bool} {l : List Int} (h : okN l) : moraineref02_Copy.f n l = some (n, l) := by unfold moraineref02_Copy.f; rw [if_pos h.2]
theorem num_at {z : Int} (h : (vl z).length < 1073741824) : moraineref02_Num.f (vb z) (vl z) = some (mkI z) := by unfold moraineref02_Num.f; rw [if_pos (canV_v h), bval_v]
theorem vlen {z : Int} {k : Nat} (h : z.natAbs < 4294967296 ^ k) : (vl z).length ≤ 32 * k := by
  unfold vl
  rw [bits_len, Nat.pow_mul]
  exact h
section
variable {y z : Int} (hy : (vl y).length < 1073741824) (hz : (vl z).length < 1073741824)
include hy hz
theorem rcmp_at : moraineref02_Cmp.f (vb y) (vl y) (vb z) (vl z) = some (cmpI y z) := by unfold moraineref02_Cmp.f; rw [if_pos ⟨canV_v hy, canV_v hz⟩, bval_v, bval_v]
end
end Go.Proofs.YthhpnlbeniihhaaDoor.Ref
namespace Go.Proofs.YthhpnlbeniihhaaDoor.Digits
open Go.Proofs.YthhpnlbeniihhaaDoor Go.Proofs.YthhpnlbeniihhaaDoor.Limb Go.Proofs.YthhpnlbeniihhaaDoor.NumB Go.Proofs.YthhpnlbeniihhaaDoor.NumJ Go.Proofs.YthhpnlbeniihhaaDoor.NumU Go.Proofs.YthhpnlbeniihhaaDoor.NumW Go.Proofs.YthhpnlbeniihhaaDoor.Text Go.Proofs.YthhpnlbeniihhaaDoor.Vals Go.Lib
theorem decv_snoc (l : List UInt8) (b : UInt8) : decv (l ++ [b]) = 10 * decv l + (b.toNat - 48) := by unfold decv; rw [List.foldl_append]; rfl
end Go.Proofs.YthhpnlbeniihhaaDoor.Digits
namespace Go.Proofs.YthhpnlbeniihhaaDoor.PRef
end Go.Proofs.YthhpnlbeniihhaaDoor.PRef
-- Printed by a program of this session's (wip/tools/printr.py, over the kit's print program).
namespace Go.Proofs.YthhpnlbeniihhaaDoor.PRText
open Go.RowKit Go.Proofs.YthhpnlbeniihhaaDoorW.PrintWords Go.Proofs.YthhpnlbeniihhaaDoorW.PrintLast Go.Proofs.YthhpnlbeniihhaaDoorW.PrintMore
attribute [local go_sem] max2_int min2_int max_two min_two max_three min_three max_four min_four   -- for this text's walks alone
set_option linter.unusedVariables false
set_option linter.unusedSimpArgs false
def errW : Option Int → Value
  | none => .nilIface
  | some c => .iface 0 (.int .i64 c)
theorem errW_none : errW none = .nilIface := rfl
theorem errW_some (c : Int) : errW (some c) = .iface 0 (.int .i64 c) := rfl
theorem info5 : (Tryd.prog.info? 5).map (fun i => (i.zero, i.size, i.bytes)) = some (some (.int .u8 0), 1, 1) := by kernel_rfl
-- the values' own types
end Go.Proofs.YthhpnlbeniihhaaDoor.PRText
namespace Go.Proofs.YthhpnlbeniihhaaDoor.PRText
end Go.Proofs.YthhpnlbeniihhaaDoor.PRText
namespace Go.Proofs.YthhpnlbeniihhaaDoor.RefT
open Go.Proofs.YthhpnlbeniihhaaDoor Go.Proofs.YthhpnlbeniihhaaDoor.Vals Go.RowKit Go.Proofs.YthhpnlbeniihhaaDoorW.PrintWords Go.Proofs.YthhpnlbeniihhaaDoorW.PrintLast Go.Proofs.YthhpnlbeniihhaaDoorW.PrintMore Go.Proofs.YthhpnlbeniihhaaDoor.Limb Go.Proofs.YthhpnlbeniihhaaDoor.Bit Go.Proofs.YthhpnlbeniihhaaDoor.NumA Go.Proofs.YthhpnlbeniihhaaDoor.NumE Go.Proofs.YthhpnlbeniihhaaDoor.NumG Go.Proofs.YthhpnlbeniihhaaDoor.NumJ Go.Proofs.YthhpnlbeniihhaaDoor.NumW Go.Proofs.YthhpnlbeniihhaaDoor.Text Go.Proofs.YthhpnlbeniihhaaDoor.Digits Go.Proofs.YthhpnlbeniihhaaDoor.RefA Go.Proofs.YthhpnlbeniihhaaDoor.RefB Go.Proofs.YthhpnlbeniihhaaDoor.RefC Go.Proofs.YthhpnlbeniihhaaDoor.PRef Go.Lib
set_option linter.unusedVariables false
set_option linter.unusedSimpArgs false
/-- A sign ahead of digits. -/
def sgn (neg : Bool) (l : List UInt8) : List UInt8 := if neg then 45 :: l else l
end Go.Proofs.YthhpnlbeniihhaaDoor.RefT
namespace Go.Proofs.YthhpnlbeniihhaaDoor.RefP
end Go.Proofs.YthhpnlbeniihhaaDoor.RefP
namespace Go.Proofs.YthhpnlbeniihhaaDoor
end Go.Proofs.YthhpnlbeniihhaaDoor
-- Printed by a program of this session's (wip/tools/printr.py, over the kit's print program).
namespace Go.Proofs.YthhpnlbeniihhaaDoor.PNumParses
open Go.RowKit Go.Proofs.YthhpnlbeniihhaaDoorW.PrintWords Go.Proofs.YthhpnlbeniihhaaDoorW.PrintLast Go.Proofs.YthhpnlbeniihhaaDoorW.PrintMore
attribute [local go_sem] max2_int min2_int max_two min_two max_three min_three max_four min_four   -- for this text's walks alone
set_option linter.unusedVariables false
set_option linter.unusedSimpArgs false
def errW : Option Int → Value
  | none => .nilIface
  | some c => .iface 0 (.int .i64 c)
theorem errW_none : errW none = .nilIface := rfl
theorem errW_some (c : Int) : errW (some c) = .iface 0 (.int .i64 c) := rfl

-- the values' own types
end Go.Proofs.YthhpnlbeniihhaaDoor.PNumParses
-- Printed by a program of this session's (wip/tools/printr.py, over the kit's print program).
namespace Go.Proofs.YthhpnlbeniihhaaDoor.PNumParses
open Go.RowKit Go.Proofs.YthhpnlbeniihhaaDoorW.PrintWords Go.Proofs.YthhpnlbeniihhaaDoorW.PrintLast Go.Proofs.YthhpnlbeniihhaaDoorW.PrintMore
attribute [local go_sem] max2_int min2_int max_two min_two max_three min_three max_four min_four   -- for this text's walks alone
set_option linter.unusedVariables false
set_option linter.unusedSimpArgs false
-- given
-- given
-- given
-- given
-- given
def morainelaw02_is.f (a0_0 : Bool) (l0_1 : List Int) (a1 : Int) (a2_0 : Bool) (l2_1 : List Int) : Option (Bool) := (moraineref02_Num.f a2_0 l2_1).bind fun bt103 => (if a1 = bt103.2.2 then ((moraineref02_Same.f a0_0 l0_1 bt103.1 bt103.2.1).bind fun t109 => (some t109)) else (some false))
set_option maxHeartbeats 8000000 in
set_option maxRecDepth 100000 in
theorem morainelaw02_is.calls (a0_0 : Bool) (A0_1 : Option Addr) (c0_1 : Nat) (l0_1 : List Int) (a1 : Int) (a2_0 : Bool) (A2_1 : Option Addr) (c2_1 : Nat) (l2_1 : List Int) (r : Bool) (w : World) (hr0_1 : Kd.C (Kd.int .u32) w A0_1 l0_1.length l0_1) (hc0_1 : l0_1.length ≤ c0_1) (hr2_1 : Kd.C (Kd.int .u8) w A2_1 l2_1.length l2_1) (hc2_1 : l2_1.length ≤ c2_1) (h : morainelaw02_is.f a0_0 l0_1 a1 a2_0 l2_1 = some r) :
    Calls Tryd.prog 27 #[.agg #[.bool a0_0, .slice A0_1 l0_1.length c0_1], .int .i64 a1, .agg #[.bool a2_0, .slice A2_1 l2_1.length c2_1]] w fun e w' => e = .returned (.bool r) ∧ Below w.heap.size w w' := by
  have hu25 := Tryd.underlying25
  have hu34 := Tryd.underlying34
  have HR0_1 := Aside0.mk hr0_1
  have HC0_1 := Aside0.mk hc0_1
  clear hr0_1 hc0_1
  have HR2_1 := Aside0.mk hr2_1
  have HC2_1 := Aside0.mk hc2_1
  clear hr2_1 hc2_1
  have HB := Aside0.mk (Below.refl w.heap.size w)
  have H : ((moraineref02_Num.f a2_0 l2_1).bind fun bt103 => (if a1 = bt103.2.2 then ((moraineref02_Same.f a0_0 l0_1 bt103.1 bt103.2.1).bind fun t109 => (some t109)) else (some false))) = some r := h
  clear h
  replace H := Option.bind_eq_some_iff.mp H
  obtain ⟨⟨t103, t104, t107⟩, A40, H⟩ := H
  replace H : (if a1 = t107 then ((moraineref02_Same.f a0_0 l0_1 t103 t104).bind fun t109 => (some t109)) else (some false)) = some r := H
  have A4 := Aside0.mk A40
  clear A40
  by_cases c5 : a1 = t107
  · rw [if_pos c5] at H
    have c5b0 : (a1 == t107) = true := beq_iff_eq.mpr c5
    have c5b1 : (a1 != t107) = false := bne_eq_false_iff_eq.mpr c5
    clear c5
    replace H := Option.bind_eq_some_iff.mp H
    obtain ⟨t109, A60, H⟩ := H
    replace H : (some t109) = some r := H
    have A6 := Aside0.mk A60
    clear A60
    obtain rfl := Option.some.inj H
    go_enter Tryd.func27, Tryd.ntmps27
    go_wp2_with (first | ((with_reducible refine gate_dst (N := 3) rfl ?_); refine box_event ?hg (N := 3) ?hd (cs := #[.bool a0_0, .slice A0_1 l0_1.length c0_1]) (t := 25) ?hr ?_; (case hd => rfl); (case hg => rfl); (case hr => go_simp <;> rfl); intro gb101 hg w7 hbox hb; have BK101 := Aside0.mk (hbox); have GW101 := qg hg (by repeat (first | (with_reducible first | exact HB.out | apply qx | apply qv | apply qw) | exact HB.out)); have GE101 := GW101; replace HB := Aside0.mk (below_step (by repeat (first | (with_reducible first | exact HB.out | apply qx | apply qv | apply qw) | exact HB.out)) hb); clear hb hbox hg) | ((with_reducible refine gate_dst (N := 5) rfl ?_); refine box_event ?hg (N := 5) ?hd (cs := #[.bool a2_0, .slice A2_1 l2_1.length c2_1]) (t := 34) ?hr ?_; (case hd => rfl); (case hg => rfl); (case hr => go_simp <;> rfl); intro gb102 hg w8 hbox hb; have BK102 := Aside0.mk (hbox); have GW102 := qg hg (by repeat (first | (with_reducible first | exact HB.out | apply qx | apply qv | apply qw | refine below_set ?_ GE101.out) | exact HB.out)); have GE102 := GW102; replace HB := Aside0.mk (below_step (by repeat (first | (with_reducible first | exact HB.out | apply qx | apply qv | apply qw | refine below_set ?_ GE101.out) | exact HB.out)) hb); have NB101_102 := qn BK101 hg; have NB102_101 := qm BK101 hg; replace BK101 := qb BK101 hb; clear hb hbox hg; have hnb9 := NB102_101.out; have hnc9 := NB101_102.out; have hcz10_0 : w8.cell? ⟨gb102, 0, none⟩ = some (.bool a2_0) := qc BK102 0; have hcz10_1 : w8.cell? ⟨gb102, 1, none⟩ = some (.slice A2_1 l2_1.length c2_1) := qc BK102 1; have hfz10_0 := blk_frozen BK102.out 0; have hfz10_1 := blk_frozen BK102.out 1) | ((with_reducible refine gate_callee (f := 52) rfl ?_); refine goesL_ (some 11) rfl rfl Tryd.func52 (by kernel_rfl) rfl #[.agg #[.bool a2_0, .slice A2_1 l2_1.length c2_1]] rfl (by (try simp only [zM, zO, zP]); first|done|rfl) ?_; (with_reducible refine (moraineref02_Num.calls a2_0 _ _ l2_1 t103 t104 t107 _ ?side1 ?side2 A4.out).mono ?_); (case side1 => exact qC HR2_1 HB); (case side2 => exact HC2_1.out); rintro e w11 ⟨v105, rfl, ho0, hb⟩; refine ⟨_, rfl, ?_⟩; have HO106 := Aside0.mk (Kd.R_lower ho0 (below_size (by repeat with_reducible first|exact HB.out|apply qx|apply qv|apply qw|refine qs ?_ (by assumption)))); replace BK101 := qb BK101 hb; replace BK102 := qb BK102 hb; replace HB := Aside0.mk (below_step (by repeat with_reducible first|exact HB.out|apply qx|apply qv|apply qw|refine qs ?_ (by assumption)) hb); (try clear hb); (try clear hb2); (try clear hk); (try clear hi); (try clear ho0)) | ((with_reducible refine gate_dst (N := 7) rfl ?_); refine box_event ?hg (N := 7) ?hd (cs := #[.bool false, .slice none 0 0]) (t := 25) ?hr ?_; (case hd => rfl); (case hg => rfl); (case hr => go_simp <;> rfl); intro gb108 hg w12 hbox hb; replace HO106 := qr HO106 hb; have BK108 := Aside0.mk (hbox); have GW108 := qg hg (by repeat with_reducible first|exact HB.out|apply qx|apply qv|apply qw|refine qs ?_ (by assumption)); have GE108 := GW108; replace HB := Aside0.mk (below_step (by repeat with_reducible first|exact HB.out|apply qx|apply qv|apply qw|refine qs ?_ (by assumption)) hb); have NB101_108 := qn BK101 hg; have NB108_101 := qm BK101 hg; replace BK101 := qb BK101 hb; have NB102_108 := qn BK102 hg; have NB108_102 := qm BK102 hg; replace BK102 := qb BK102 hb; clear hb hbox hg; have hnb13 := NB108_101.out; have hnc13 := NB101_108.out; have hnb14 := NB108_102.out; have hnc14 := NB102_108.out; have hcz15_0 : w12.cell? ⟨gb108, 0, none⟩ = some (.bool false) := qc BK108 0; have hcz15_1 : w12.cell? ⟨gb108, 1, none⟩ = some (.slice none 0 0) := qc BK108 1; have hfz15_0 := blk_frozen BK108.out 0; have hfz15_1 := blk_frozen BK108.out 1; obtain ⟨Ao16, co16, eo16⟩ := Kd.R_slice HO106.out; subst eo16; have hcz17_0 : w12.cell? ⟨gb101, 0, none⟩ = some (.bool a0_0) := qc BK101 0; have hcz17_1 : w12.cell? ⟨gb101, 1, none⟩ = some (.slice A0_1 l0_1.length c0_1) := qc BK101 1; have hfz17_0 := blk_frozen BK101.out 0; have hfz17_1 := blk_frozen BK101.out 1) | (go_at_call 17; (with_reducible refine (moraineref02_Same.calls a0_0 _ _ l0_1 t103 _ _ t104 t109 _ ?side1 ?side2 ?side3 ?side4 A6.out).mono ?_); (case side1 => exact Kd.C_below HR0_1.out (by repeat with_reducible first|exact HB.out|apply qx|apply qv|apply qw|refine qs ?_ (by assumption))); (case side2 => exact HC0_1.out); (case side3 => refine (Kd.R_reads' (e := 63) (base := w.heap.size) (ok := fun k_ => True) (n := t104.length) (c := co16) ?_).2.2; exact (by (with_reducible repeat first|apply Kd.R_alloc|apply Kd.R_drewN|apply Kd.R_drew); exact (Kd.R_mono (qz HO106 BK108 (by decide) (.bool t103) (.slice Ao16 t104.length co16)) (fun _ h_ => h_.1)))); (case side4 => exact (Kd.R_reads' HO106.out).2.1); rintro e w18 ⟨rfl, hb⟩; have n0_ := Aside0.mk (Kd.R_below (by (with_reducible repeat first|apply Kd.R_alloc|apply Kd.R_drewN|apply Kd.R_drew); exact (Kd.R_mono (qz HO106 BK108 (by decide) (.bool t103) (.slice Ao16 t104.length co16)) (fun _ h_ => h_.1))) hb); have n1_ := Aside0.mk (blk_below (g := gb101) (o := .cells #[.bool a0_0, .slice A0_1 l0_1.length c0_1] 25 (0, 0)) (by (with_reducible repeat first|refine qN ?_ _|refine qW ?_|refine qA ?_ _); refine qf ?_ NB101_108; (with_reducible repeat first|refine qN ?_ _|refine qW ?_|refine qA ?_ _); exact BK101.out) hb); have n2_ := Aside0.mk (blk_below (g := gb102) (o := .cells #[.bool a2_0, .slice A2_1 l2_1.length c2_1] 34 (0, 0)) (by (with_reducible repeat first|refine qN ?_ _|refine qW ?_|refine qA ?_ _); refine qf ?_ NB102_108; (with_reducible repeat first|refine qN ?_ _|refine qW ?_|refine qA ?_ _); exact BK102.out) hb); have n3_ := Aside0.mk (blk_below (g := gb108) (o := .cells #[.bool t103, .slice Ao16 t104.length co16] 25 (0, 0)) (by (with_reducible repeat first|refine qN ?_ _|refine qW ?_|refine qA ?_ _); refine blk_put (cs := #[.bool t103, .slice none 0 0]) ?_ 1 _ rfl; (with_reducible repeat first|refine qN ?_ _|refine qW ?_|refine qA ?_ _); refine blk_put (cs := #[.bool false, .slice none 0 0]) ?_ 0 _ rfl; (with_reducible repeat first|refine qN ?_ _|refine qW ?_|refine qA ?_ _); exact BK108.out) hb); have n4_ := Aside0.mk (below_step (by repeat with_reducible first|exact HB.out|apply qx|apply qv|apply qw|refine qs ?_ (by assumption)) hb); clear HO106; clear BK101; clear BK102; clear BK108; clear HB; have HO106 := n0_; have BK101 := n1_; have BK102 := n2_; have BK108 := n3_; have HB := n4_; clear n0_ n1_ n2_ n3_ n4_; (try clear hb); (try clear hb2); (try clear hk); (try clear hi)))
    go_ret
    exact ⟨by first | rfl | (simp [errW_none, errW_some] <;> rfl) | (simp [*, errW_none, errW_some] <;> rfl), by repeat (first | (with_reducible first | exact HB.out | apply qx | apply qv | apply qw | refine qs ?_ (by assumption)) | exact HB.out)⟩
  · rw [if_neg c5] at H
    have c5b0 : (a1 == t107) = false := beq_eq_false_iff_ne.mpr c5
    have c5b1 : (a1 != t107) = true := bne_iff_ne.mpr c5
    obtain rfl := Option.some.inj H
    go_enter Tryd.func27, Tryd.ntmps27
    go_wp2_with (first | ((with_reducible refine gate_dst (N := 3) rfl ?_); refine box_event ?hg (N := 3) ?hd (cs := #[.bool a0_0, .slice A0_1 l0_1.length c0_1]) (t := 25) ?hr ?_; (case hd => rfl); (case hg => rfl); (case hr => go_simp <;> rfl); intro gb101 hg w19 hbox hb; have BK101 := Aside0.mk (hbox); have GW101 := qg hg (by repeat (first | (with_reducible first | exact HB.out | apply qx | apply qv | apply qw) | exact HB.out)); have GE101 := GW101; replace HB := Aside0.mk (below_step (by repeat (first | (with_reducible first | exact HB.out | apply qx | apply qv | apply qw) | exact HB.out)) hb); clear hb hbox hg) | ((with_reducible refine gate_dst (N := 5) rfl ?_); refine box_event ?hg (N := 5) ?hd (cs := #[.bool a2_0, .slice A2_1 l2_1.length c2_1]) (t := 34) ?hr ?_; (case hd => rfl); (case hg => rfl); (case hr => go_simp <;> rfl); intro gb102 hg w20 hbox hb; have BK102 := Aside0.mk (hbox); have GW102 := qg hg (by repeat (first | (with_reducible first | exact HB.out | apply qx | apply qv | apply qw | refine below_set ?_ GE101.out) | exact HB.out)); have GE102 := GW102; replace HB := Aside0.mk (below_step (by repeat (first | (with_reducible first | exact HB.out | apply qx | apply qv | apply qw | refine below_set ?_ GE101.out) | exact HB.out)) hb); have NB101_102 := qn BK101 hg; have NB102_101 := qm BK101 hg; replace BK101 := qb BK101 hb; clear hb hbox hg; have hnb21 := NB102_101.out; have hnc21 := NB101_102.out; have hcz22_0 : w20.cell? ⟨gb102, 0, none⟩ = some (.bool a2_0) := qc BK102 0; have hcz22_1 : w20.cell? ⟨gb102, 1, none⟩ = some (.slice A2_1 l2_1.length c2_1) := qc BK102 1; have hfz22_0 := blk_frozen BK102.out 0; have hfz22_1 := blk_frozen BK102.out 1) | ((with_reducible refine gate_callee (f := 52) rfl ?_); refine goesL_ (some 11) rfl rfl Tryd.func52 (by kernel_rfl) rfl #[.agg #[.bool a2_0, .slice A2_1 l2_1.length c2_1]] rfl (by (try simp only [zM, zO, zP]); first|done|rfl) ?_; (with_reducible refine (moraineref02_Num.calls a2_0 _ _ l2_1 t103 t104 t107 _ ?side1 ?side2 A4.out).mono ?_); (case side1 => exact qC HR2_1 HB); (case side2 => exact HC2_1.out); rintro e w23 ⟨v105, rfl, ho0, hb⟩; refine ⟨_, rfl, ?_⟩; have HO106 := Aside0.mk (Kd.R_lower ho0 (below_size (by repeat with_reducible first|exact HB.out|apply qx|apply qv|apply qw|refine qs ?_ (by assumption)))); replace BK101 := qb BK101 hb; replace BK102 := qb BK102 hb; replace HB := Aside0.mk (below_step (by repeat with_reducible first|exact HB.out|apply qx|apply qv|apply qw|refine qs ?_ (by assumption)) hb); (try clear hb); (try clear hb2); (try clear hk); (try clear hi); (try clear ho0)) | ((with_reducible refine gate_dst (N := 7) rfl ?_); refine box_event ?hg (N := 7) ?hd (cs := #[.bool false, .slice none 0 0]) (t := 25) ?hr ?_; (case hd => rfl); (case hg => rfl); (case hr => go_simp <;> rfl); intro gb108 hg w24 hbox hb; replace HO106 := qr HO106 hb; have BK108 := Aside0.mk (hbox); have GW108 := qg hg (by repeat with_reducible first|exact HB.out|apply qx|apply qv|apply qw|refine qs ?_ (by assumption)); have GE108 := GW108; replace HB := Aside0.mk (below_step (by repeat with_reducible first|exact HB.out|apply qx|apply qv|apply qw|refine qs ?_ (by assumption)) hb); have NB101_108 := qn BK101 hg; have NB108_101 := qm BK101 hg; replace BK101 := qb BK101 hb; have NB102_108 := qn BK102 hg; have NB108_102 := qm BK102 hg; replace BK102 := qb BK102 hb; clear hb hbox hg; have hnb25 := NB108_101.out; have hnc25 := NB101_108.out; have hnb26 := NB108_102.out; have hnc26 := NB102_108.out; have hcz27_0 : w24.cell? ⟨gb108, 0, none⟩ = some (.bool false) := qc BK108 0; have hcz27_1 : w24.cell? ⟨gb108, 1, none⟩ = some (.slice none 0 0) := qc BK108 1; have hfz27_0 := blk_frozen BK108.out 0; have hfz27_1 := blk_frozen BK108.out 1; obtain ⟨Ao28, co28, eo28⟩ := Kd.R_slice HO106.out; subst eo28))
    go_ret
    exact ⟨by first | rfl | (simp [errW_none, errW_some] <;> rfl) | (simp [*, errW_none, errW_some] <;> rfl), by repeat (first | (with_reducible first | exact HB.out | apply qx | apply qv | apply qw | refine qs ?_ (by assumption)) | exact HB.out)⟩
end Go.Proofs.YthhpnlbeniihhaaDoor.PNumParses
namespace Go.Proofs.YthhpnlbeniihhaaDoor.LawKit
open Go.RowKit Go.Proofs.YthhpnlbeniihhaaDoorW.PrintWords Go.Proofs.YthhpnlbeniihhaaDoorW.PrintLast Go.Proofs.YthhpnlbeniihhaaDoorW.PrintMore Go.Proofs.YthhpnlbeniihhaaDoor Go.Proofs.YthhpnlbeniihhaaDoor.Limb Go.Proofs.YthhpnlbeniihhaaDoor.Bit Go.Proofs.YthhpnlbeniihhaaDoor.NumA Go.Proofs.YthhpnlbeniihhaaDoor.NumB Go.Proofs.YthhpnlbeniihhaaDoor.NumG Go.Proofs.YthhpnlbeniihhaaDoor.NumJ Go.Proofs.YthhpnlbeniihhaaDoor.Vals Go.Proofs.YthhpnlbeniihhaaDoor.Plain Go.Proofs.YthhpnlbeniihhaaDoor.Raw Go.Proofs.YthhpnlbeniihhaaDoor.Ref Go.Proofs.YthhpnlbeniihhaaDoor.RefC
set_option linter.unusedVariables false
set_option linter.unusedSimpArgs false
theorem spoil_from (a : Bool) (d : Nat) : ∀ (i k : Nat) (l : List Int), i + d = l.length → d < k → l.length < 1073741824 → ∃ r, PRef.morainelaw02_spoil.l0 k (i : Int) a l = some r := by
  induction d with
  | zero =>
    intro i k l hi hk hl
    obtain ⟨k, rfl⟩ : ∃ j, k = j + 1 := ⟨k - 1, by omega⟩
    rw [PRef.morainelaw02_spoil.l0, if_neg (by omega)]
    exact ⟨_, rfl⟩
  | succ d ih =>
    intro i k l hi hk hl
    obtain ⟨k, rfl⟩ : ∃ j, k = j + 1 := ⟨k - 1, by omega⟩
    rw [PRef.morainelaw02_spoil.l0, if_pos (by omega), if_pos (by omega), show wrap64 ((i : Int) + 1) = ((i + 1 : Nat) : Int) by unfold wrap64; omega]
    exact ih (i + 1) k _ (by rw [List.length_set]; omega) (by omega) (by rw [List.length_set]; exact hl)
/-- One row of limbs is written over. -/
theorem spoil_calls {w0 W : World} {B : List (Nat × Array Value × Nat)} {R8 R32 : List (Value × List Int)} (S : St w0 W B R8 R32) (i : Nat) {A : Option Addr} {n c : Nat} {l : List Int} (h : R32[i]? = some (.slice A n c, l)) (a : Bool) (hl : l.length < 1073741824) :
    Calls Tryd.prog 33 #[.agg #[.bool a, .slice A n c]] W fun e w' => e = .returned (.tuple #[]) ∧ St w0 w' B R8 (R32.eraseIdx i) := by
  obtain ⟨r, hr⟩ := spoil_from a l.length 0 (l.length + 1) l (by omega) (by omega) hl
  have hv := S.r32 _ (List.mem_of_getElem? h)
  have hown : Kd.R (Kd.int .u32) 63 W w0.heap.size (fun k => (Value.slice A n c).ownBlock = some k) (.slice A n c) l := ⟨fun k hk => hk, hv.2.imp_ (fun _ _ hp => hp)⟩
  refine (PRef.morainelaw02_spoil.calls (l.length + 1) a _ _ l r w0 W S.below hown hr).mono ?_
  rintro e w' ⟨rfl, _, hB, hk⟩
  exact ⟨rfl, S.spoilt i h hB hk⟩
/-- An answer is that of a value. -/
theorem is_calls (z : Int) (hz : (vl z).length < 1073741824) (A : Option Addr) (c : Nat) (A2 : Option Addr) (c2 : Nat) (w : World) (h1 : Kd.C (Kd.int .u32) w A (mkI z).2.1.length (mkI z).2.1) (hc : (mkI z).2.1.length ≤ c) (h2 : Kd.C (Kd.int .u8) w A2 (vl z).length (vl z)) (hc2 : (vl z).length ≤ c2) :
    Calls Tryd.prog 27 #[.agg #[.bool (mkI z).1, .slice A (mkI z).2.1.length c], .int .i64 (mkI z).2.2, .agg #[.bool (vb z), .slice A2 (vl z).length c2]] w fun e w' => e = .returned (.bool true) ∧ Below w.heap.size w w' := by
  refine PNumParses.morainelaw02_is.calls _ A c _ _ _ A2 c2 _ true w h1 hc h2 hc2 ?_
  unfold PNumParses.morainelaw02_is.f
  rw [num_at hz, bsome, if_pos rfl, same_self _ _ (okN_mkI z).2, bsome]
theorem same_calls (n : Bool) (l : List Int) (hl : l.length < 1073741824) (A : Option Addr) (c : Nat) (B : Option Addr) (d : Nat) (w : World) (h1 : Kd.C (Kd.int .u32) w A l.length l) (hc : l.length ≤ c) (h2 : Kd.C (Kd.int .u32) w B l.length l) (hd : l.length ≤ d) :
    Calls Tryd.prog 17 #[.agg #[.bool n, .slice A l.length c], .agg #[.bool n, .slice B l.length d]] w fun e w' => e = .returned (.bool true) ∧ Below w.heap.size w w' :=
  moraineref02_Same.calls n A c l n B d l true w h1 hc h2 hd (same_self n l hl)
theorem long_calls (n : Bool) (l : List Int) (A : Option Addr) (c : Nat) (b : Bool) (hb : decide ((l.length : Int) > 60) = b) (w : World) (h1 : Kd.C (Kd.int .u32) w A l.length l) (hc : l.length ≤ c) :
    Calls Tryd.prog 21 #[.agg #[.bool n, .slice A l.length c]] w fun e w' => e = .returned (.bool b) ∧ Below w.heap.size w w' :=
  (PRef.morainelaw02_long.calls n A c l b w h1 hc (congrArg some hb)).mono fun e w' h => ⟨h.1, by first | exact h.2 | (obtain ⟨_, hd⟩ := h; first | exact hd.below | (obtain ⟨q, rfl⟩ := hd; exact pw_below_drewN (Below.refl _ _) q))⟩
theorem awake_calls (w : World) (ht : NumV.Tab w) : Calls Tryd.prog 20 #[] w fun e w' => e = .returned (.bool true) ∧ Below w.heap.size w w' :=
  morainelaw02_awake.calls true w rfl ht
end Go.Proofs.YthhpnlbeniihhaaDoor.LawKit
namespace Go.Proofs.YthhpnlbeniihhaaDoor.LawKit
open Go.RowKit Go.Proofs.YthhpnlbeniihhaaDoorW.PrintWords Go.Proofs.YthhpnlbeniihhaaDoorW.PrintLast Go.Proofs.YthhpnlbeniihhaaDoorW.PrintMore Go.Proofs.YthhpnlbeniihhaaDoor Go.Proofs.YthhpnlbeniihhaaDoor.Limb Go.Proofs.YthhpnlbeniihhaaDoor.NumS
set_option linter.unusedVariables false
/-- A literal of two limbs. -/
theorem _root_.Go.Proofs.YthhpnlbeniihhaaDoor.St.pairs {w0 W : World} {B : List (Nat × Array Value × Nat)} {R8 R32 : List (Value × List Int)} (S : St w0 W B R8 R32) (x y : Int) : Kd.C (Kd.int .u32) (W.alloc (.cells #[.int .u32 x, .int .u32 y] 63 (0, 0))) (some ⟨W.heap.size, 0, none⟩) 2 [x, y] :=
  (Kd.R_reads' (NumM.New.pair W x y)).2.2
end Go.Proofs.YthhpnlbeniihhaaDoor.LawKit
namespace Go.Proofs.YthhpnlbeniihhaaDoor.WalkMay
open Go.RowKit Go.Proofs.YthhpnlbeniihhaaDoorW.PrintWords Go.Proofs.YthhpnlbeniihhaaDoorW.PrintLast Go.Proofs.YthhpnlbeniihhaaDoorW.PrintMore Go.Proofs.YthhpnlbeniihhaaDoor Go.Proofs.YthhpnlbeniihhaaDoor.Limb Go.Proofs.YthhpnlbeniihhaaDoor.Bit Go.Proofs.YthhpnlbeniihhaaDoor.NumA Go.Proofs.YthhpnlbeniihhaaDoor.NumB Go.Proofs.YthhpnlbeniihhaaDoor.NumG Go.Proofs.YthhpnlbeniihhaaDoor.NumJ Go.Proofs.YthhpnlbeniihhaaDoor.Vals Go.Proofs.YthhpnlbeniihhaaDoor.Plain Go.Proofs.YthhpnlbeniihhaaDoor.Raw Go.Proofs.YthhpnlbeniihhaaDoor.Ref Go.Proofs.YthhpnlbeniihhaaDoor.RefC Go.Proofs.YthhpnlbeniihhaaDoor.LawKit
set_option linter.unusedVariables false
set_option linter.unusedSimpArgs false
theorem take_tr (l : List Int) (h : (tr l).length = l.length) : tr l = l := by
  have h1 := tr_take l
  rw [h, List.take_length] at h1
  exact h1.symm
theorem may_eq (n : Bool) (l : List Int) (ok : OkL l) : (if Fits (val n l) then decide (sb (val n l) = n ∧ sl (val n l) = l) else false) = NumQ.mayB n l := by
  have e1 : sl (val n l) = tr l := by unfold sl; rw [natAbs_val, tr_limbs ok]
  have e2 : Fits (val n l) ↔ (tr l).length ≤ 48 := by unfold Fits; rw [natAbs_val]; exact (tr_len_48 ok).symm
  have e3 : (0 < (tr l).length) ↔ mag l ≠ 0 := by
    have := tr_len_pos ok
    rw [decide_eq_decide] at this
    exact this
  unfold NumQ.mayB
  rw [e1]
  by_cases ht : (tr l).length = l.length
  · have e4 := take_tr l ht
    by_cases hf : l.length ≤ 48
    · rw [if_pos (e2.mpr (by omega)), decide_eq_true hf, decide_eq_true ht]
      have e5 : (sb (val n l) = n ∧ tr l = l) ↔ (n = false ∨ 0 < l.length) := by
        rw [← ht, e3]
        unfold sb val
        constructor
        · rintro ⟨h, -⟩
          cases n with
          | false => exact .inl rfl
          | true => refine .inr (fun h0 => ?_); rw [h0] at h; simp at h
        · intro h
          refine ⟨?_, e4⟩
          cases n with
          | false => simp
          | true =>
            have h0 : mag l ≠ 0 := by rcases h with h | h; cases h; exact h
            simp; omega
      rw [show decide (sb (val n l) = n ∧ tr l = l) = decide (n = false ∨ 0 < l.length) from decide_eq_decide.mpr e5]
      cases n <;> simp
    · rw [if_neg (fun h => hf (by have := e2.mp h; omega)), decide_eq_false hf]; rfl
  · have e5 : ¬ (sb (val n l) = n ∧ tr l = l) := fun h => ht (congrArg List.length h.2)
    rw [decide_eq_false e5, decide_eq_false ht]
    by_cases hf : Fits (val n l)
    · rw [if_pos hf]; simp
    · rw [if_neg hf]; simp
theorem refmay_ev (n : Bool) (l : List Int) (ok : OkL l) (hl : l.length < 1073741824) : ∃ k, PRef.moraineref02_May.f k n l = some (NumQ.mayB n l) := by
  have hv := Value_at n l ok (by omega)
  have hn : Ev (fun k => PRef.moraineref02_Num.f k (vb (val n l)) (vl (val n l))) (mkI (val n l)) := Ev.of (fun k => PRef.moraineref02_Num.mono _ _ k) (RefE.Num_at (val n l))
  rw [← may_eq n l ok]
  refine Ev.rounds (g := fun k => PRef.moraineref02_May.f k n l) ?_
  unfold PRef.moraineref02_May.f
  refine Ev.bind hv (Ev.bind hn ?_)
  by_cases hf : Fits (val n l)
  · rw [mkI_fits hf, if_pos hf]
    have hs : Ev (fun k => PRef.moraineref02_Same.f k (sb (val n l)) (sl (val n l)) n l) (decide (sb (val n l) = n ∧ sl (val n l) = l)) := Ev.of (fun k => PRef.moraineref02_Same.mono _ _ _ _ k) (same_eq _ _ _ _ (okN_sl hf).2)
    refine Ev.congr (fun k => ?_) (Ev.bind hs (f := fun _ t => some t) (Ev.now _))
    rw [if_pos rfl]
  · rw [mkI_big hf, if_neg hf]
    refine Ev.congr (fun k => ?_) (Ev.now false)
    rw [if_neg (by decide)]
theorem refmay_calls (n : Bool) (l : List Int) (ok : OkL l) (hl : l.length < 1073741824) (A : Option Addr) (c : Nat) (w : World) (h1 : Kd.C (Kd.int .u32) w A l.length l) (hc : l.length ≤ c) :
    Calls Tryd.prog 49 #[.agg #[.bool n, .slice A l.length c]] w fun e w' => e = .returned (.bool (NumQ.mayB n l)) ∧ Below w.heap.size w w' := by
  obtain ⟨k, hk⟩ := refmay_ev n l ok hl
  exact PRef.moraineref02_May.calls k n A c l _ w h1 hc hk
theorem cmp0_calls (z : Int) (hz : (vl z).length < 1073741824) (A : Option Addr) (c : Nat) (w : World) (h1 : Kd.C (Kd.int .u8) w A (vl z).length (vl z)) (hc : (vl z).length ≤ c) :
    Calls Tryd.prog 44 #[.agg #[.bool (vb z), .slice A (vl z).length c], .agg #[.bool false, .slice none 0 0]] w fun e w' => e = .returned (.int .i64 z.sign) ∧ Below w.heap.size w w' := by
  have e0 : vl 0 = [] := bits_zero
  have e1 : vb 0 = false := rfl
  have h := rcmp_at (y := z) (z := 0) hz (by rw [e0]; decide)
  rw [e0, e1, show cmpI z 0 = z.sign by
    unfold cmpI
    rcases Int.lt_trichotomy z 0 with h | h | h
    · rw [if_pos h, Int.sign_eq_neg_one_of_neg h]
    · rw [h]; rfl
    · rw [if_neg (by omega), if_pos h, Int.sign_eq_one_of_pos h]] at h
  exact moraineref02_Cmp.calls (vb z) A c (vl z) false none 0 [] z.sign w h1 hc (Kd.C_nil _ _) (Nat.le_refl _) h
theorem isfits_calls (z : Int) (hf : Fits z) (b : Bool) (hb : vb z = b) (A : Option Addr) (c : Nat) (A2 : Option Addr) (c2 : Nat) (w : World) (h1 : Kd.C (Kd.int .u32) w A (sl z).length (sl z)) (hc : (sl z).length ≤ c) (h2 : Kd.C (Kd.int .u8) w A2 (vl z).length (vl z)) (hc2 : (vl z).length ≤ c2) :
    Calls Tryd.prog 27 #[.agg #[.bool (sb z), .slice A (sl z).length c], .int .i64 0, .agg #[.bool b, .slice A2 (vl z).length c2]] w fun e w' => e = .returned (.bool true) ∧ Below w.heap.size w w' := by
  subst hb
  have h := is_calls z (by have := vlen (z := z) hf; omega) A c A2 c2 w
  rw [mkI_fits hf] at h
  exact h h1 hc h2 hc2
theorem turnv_calls (z : Int) (A : Option Addr) (c : Nat) (w : World) (h1 : Kd.C (Kd.int .u8) w A (vl z).length (vl z)) (hc : (vl z).length ≤ c) :
    Calls Tryd.prog 46 #[.agg #[.bool (vb z), .slice A (vl z).length c]] w fun e w' => e = .returned (.agg #[.bool (vb (-z)), .slice A (vl (-z)).length c]) ∧ Below w.heap.size w w' := by
  have h := Hand.turn_calls (vb z) A c (vl z) w h1 hc
  rw [tr_vl] at h
  have e1 : vl (-z) = vl z := by unfold vl; rw [Int.natAbs_neg]
  have e2 : (!vb z && decide (0 < (vl z).length)) = vb (-z) := by
    have := congrArg Prod.fst (v_mk (!vb z) z.natAbs (-z) (by omega) (fun h0 => by unfold vb; rw [← decide_not, decide_eq_decide]; omega))
    rw [← RefC.bits_pos] at this
    exact this
  rw [e1, ← e2]
  exact h
theorem vl_neg (z : Int) : vl (-z) = vl z := by unfold vl; rw [Int.natAbs_neg]
theorem pair_val : val true [0, 268435456] = -1152921504606846976 := by decide
theorem pair_okN : okN [0, 268435456] := by decide
set_option maxRecDepth 100000 in
set_option maxHeartbeats 16000000 in
theorem walk (n0 : Bool) (A0 : Option Addr) (c0 : Nat) (l0 : List Int) (w : World) (hr0 : Kd.C (Kd.int .u32) w A0 l0.length l0) (hc0 : l0.length ≤ c0) (ok0 : OkL l0) (ht : NumV.Tab w) :
    Calls Tryd.prog 13 #[.agg #[.bool n0, .slice A0 l0.length c0]] w fun e w' => e = .returned (.bool true) ∧ Below w.heap.size w w' := by
  have HT := Aside0.mk ht
  have HR0 := Aside0.mk hr0
  have HC0 := Aside0.mk hc0
  have S1 := (St.start w).boxed #[.bool n0, .slice A0 l0.length c0] 25 (by decide)
  have HS := Aside0.mk S1
  clear S1 hr0 hc0 ht
  by_cases h1 : (l0.length : Int) > 60
  · skip
    have ha := decide_eq_true h1
    clear h1
    go_enter Tryd.func13, Tryd.ntmps13
    obtain ⟨un0, un1⟩ := HS.out.cells 0 rfl
    go_wp2_with fail
    refine (long_calls n0 l0 A0 c0 true ha _ (HS.out.came HR0.out) HC0.out).mono ?_
    rintro e w1_ ⟨rfl, hb⟩
    clear un0 un1
    have HN := Aside0.mk (HS.out.call hb)
    clear HS
    have HS := HN
    clear HN
    clear hb
    go_wp2_with fail
    refine (awake_calls _ (NumV.Tab.below HT.out HS.out.below)).mono ?_
    rintro e w2_ ⟨rfl, hb⟩
    have HN := Aside0.mk (HS.out.call hb)
    clear HS
    have HS := HN
    clear HN
    clear hb
    go_wp2
    go_ret
    exact ⟨rfl, HS.out.below⟩
  · skip
    have ha := decide_eq_false h1
    have kl : okN l0 := ⟨ok0, by omega⟩
    have hz := val_lt (n := n0) ok0 (k := 60) (by omega)
    have hv1 : (vl (val n0 l0)).length ≤ 32 * 60 := vlen hz
    have hcp := copy_raw (n := n0) kl
    have hva := value_raw (n := n0) kl
    have hno := norm_raw (n := n0) kl
    have hne := neg_raw (n := n0) kl
    have hmy := may_raw (n := n0) kl
    have hsg := sign_raw (n := n0) kl
    have hfx := fix_raw (n := n0) kl
    have hcm := cmp_raw (n1 := n0) (n2 := true) kl pair_okN
    rw [pair_val] at hcm
    have H0 := Aside0.mk hcp
    have H1 := Aside0.mk hva
    have H2 := Aside0.mk hno
    have H3 := Aside0.mk hne
    have H4 := Aside0.mk hmy
    have HRM := Lib.hid (fun (W : World) => refmay_calls n0 l0 ok0 kl.2)
    have HKL := Aside0.mk (show l0.length < 1073741824 from kl.2)
    generalize val n0 l0 = z at *
    generalize NumQ.mayB n0 l0 = mb at *
    have HV1 := Aside0.mk hv1
    have HV2 := Aside0.mk (show (vl (-z)).length < 1073741824 by rw [vl_neg]; omega)
    have HC0V := Lib.hid (fun (W : World) (A : Option Addr) (c : Nat) => cmp0_calls z (by omega) A c W)
    have len60 : (vl z).length ≤ 60 ↔ z.natAbs < 1152921504606846976 := bits_len z.natAbs 60
    generalize z.sign = sg at *
    have H5 := Aside0.mk hsg
    have HFX := Aside0.mk hfx
    have HCM := Aside0.mk hcm
    have HL60 := Aside0.mk len60
    clear h1 ok0 kl hz hv1 hcp hva hno hne hmy hsg hfx hcm len60
    go_enter Tryd.func13, Tryd.ntmps13
    obtain ⟨un0, un1⟩ := HS.out.cells 0 rfl
    go_wp2_with fail
    refine (long_calls n0 l0 A0 c0 false ha _ (HS.out.came HR0.out) HC0.out).mono ?_
    rintro e w1_ ⟨rfl, hb⟩
    clear un0 un1
    have HN := Aside0.mk (HS.out.call hb)
    clear HS
    have HS := HN
    clear HN
    clear hb
    obtain ⟨un0, un1⟩ := HS.out.cells 0 rfl
    go_wp2_with fail
    refine (moraineref02_Copy.calls n0 A0 c0 l0 n0 l0 _ (HS.out.came HR0.out) HC0.out H0.out).mono ?_
    rintro e w2_ ⟨v, rfl, hR, hb⟩
    clear un0 un1
    obtain ⟨Aw, cw, rfl⟩ := Kd.R_slice hR
    have HN := Aside0.mk (HS.out.call32 hb hR)
    clear HS
    have HS := HN
    clear HN
    clear hb hR
    have HN := Aside0.mk (HS.out.boxed #[.bool n0, .slice Aw l0.length cw] 25 (by decide))
    clear HS
    have HS := HN
    clear HN
    obtain ⟨uw0, uw1⟩ := HS.out.cells 0 rfl
    go_wp2_with fail
    refine (moraineref02_Value.calls n0 Aw cw l0 (vb z) (vl z) _ (HS.out.limbs 0 rfl).2.2 (HS.out.limbs 0 rfl).2.1 H1.out).mono ?_
    rintro e w3_ ⟨v, rfl, hR, hb⟩
    clear uw0 uw1
    obtain ⟨Av, cv, rfl⟩ := Kd.R_slice hR
    have HN := Aside0.mk (HS.out.call8 hb hR)
    clear HS
    have HS := HN
    clear HN
    clear hb hR
    have HN := Aside0.mk (HS.out.boxed #[.bool (vb z), .slice Av (vl z).length cv] 34 (by decide))
    clear HS
    have HS := HN
    clear HN
    obtain ⟨un0, un1⟩ := HS.out.cells 2 rfl
    go_wp2_with fail
    refine (num_Norm.calls n0 A0 c0 l0 (mkI z).1 (mkI z).2.1 (mkI z).2.2 _ (HS.out.came HR0.out) HC0.out H2.out).mono ?_
    rintro e w4_ ⟨v, rfl, hR, hb⟩
    clear un0 un1
    obtain ⟨Aa, ca, rfl⟩ := Kd.R_slice hR
    have HN := Aside0.mk (HS.out.call32 hb hR)
    clear HS
    have HS := HN
    clear HN
    clear hb hR
    have HN := Aside0.mk (HS.out.boxed #[.bool (mkI z).1, .slice Aa (mkI z).2.1.length ca] 25 (by decide))
    clear HS
    have HS := HN
    clear HN
    obtain ⟨un0, un1⟩ := HS.out.cells 3 rfl
    go_wp2_with fail
    refine (num_Neg.calls n0 A0 c0 l0 (mkI (-z)).1 (mkI (-z)).2.1 (mkI (-z)).2.2 _ (HS.out.came HR0.out) HC0.out H3.out).mono ?_
    rintro e w5_ ⟨v, rfl, hR, hb⟩
    clear un0 un1
    obtain ⟨Ab, cb, rfl⟩ := Kd.R_slice hR
    have HN := Aside0.mk (HS.out.call32 hb hR)
    clear HS
    have HS := HN
    clear HN
    clear hb hR
    have HN := Aside0.mk (HS.out.boxed #[.bool (mkI (-z)).1, .slice Ab (mkI (-z)).2.1.length cb] 25 (by decide))
    clear HS
    have HS := HN
    clear HN
    go_wp2
    have HN := Aside0.mk (HS.out.drew)
    clear HS
    have HS := HN
    clear HN
    refine start_ (n := 28) (S := fun w' => w'.cell? ⟨w.heap.size, 0, none⟩ = some (.bool n0) ∧ w'.cell? ⟨w.heap.size, 1, none⟩ = some (.slice A0 l0.length c0) ∧ w'.cell? ⟨w2_.heap.size, 0, none⟩ = some (.bool n0) ∧ w'.cell? ⟨w2_.heap.size, 1, none⟩ = some (.slice Aw l0.length cw) ∧ w'.cell? ⟨w4_.heap.size, 0, none⟩ = some (.bool (mkI z).1) ∧ w'.cell? ⟨w4_.heap.size, 1, none⟩ = some (.slice Aa (mkI z).2.1.length ca) ∧ w'.cell? ⟨w3_.heap.size, 0, none⟩ = some (.bool (vb z)) ∧ w'.cell? ⟨w3_.heap.size, 1, none⟩ = some (.slice Av (vl z).length cv) ∧ w'.cell? ⟨w5_.heap.size, 0, none⟩ = some (.bool (mkI (-z)).1) ∧ w'.cell? ⟨w5_.heap.size, 1, none⟩ = some (.slice Ab (mkI (-z)).2.1.length cb)) (ds := []) #[false, false, false, false, false, false, false, false, false, false, false, false, false, false, false, false, false, false, false, false, false, false, false, false, false, false, false, false] (by kernel_rfl) rfl rfl ⟨(HS.out.cells 4 rfl).1, (HS.out.cells 4 rfl).2, (HS.out.cells 3 rfl).1, (HS.out.cells 3 rfl).2, (HS.out.cells 1 rfl).1, (HS.out.cells 1 rfl).2, (HS.out.cells 2 rfl).1, (HS.out.cells 2 rfl).2, (HS.out.cells 0 rfl).1, (HS.out.cells 0 rfl).2⟩ (fun hHeld => ?_)
    refine take_ (i := 0) (N := some 29) (v := ?_) (a' := ?_) #[true, false, false, false, false, false, false, false, false, false, false, false, false, false, false, false, false, false, false, false, false, false, false, false, false, false, false, false] rfl rfl (by kernel_rfl) (fun _ _ _ h => h) (Or.inl ⟨by rfl, ?_⟩) hHeld ?_ ?_
    rotate_left
    · rintro w' ⟨s0, s1, s2, s3, s4, s5, s6, s7, s8, s9⟩
      go_simp
      with_reducible rfl
    rotate_left
    · simp only [Act.put, List.setIfInBounds_toArray, List.set_cons_zero, List.set_cons_succ, i64_w, i32_w]
      rfl
    refine take_ (i := 2) (N := some 31) (v := ?_) (a' := ?_) #[true, false, true, false, false, false, false, false, false, false, false, false, false, false, false, false, false, false, false, false, false, false, false, false, false, false, false, false] rfl rfl (by kernel_rfl) (fun _ _ _ h => h) (Or.inl ⟨by rfl, ?_⟩) hHeld ?_ ?_
    rotate_left
    · rintro w' ⟨s0, s1, s2, s3, s4, s5, s6, s7, s8, s9⟩
      go_simp
      with_reducible rfl
    rotate_left
    · simp only [Act.put, List.setIfInBounds_toArray, List.set_cons_zero, List.set_cons_succ, i64_w, i32_w]
      rfl
    refine one_ (i := 1) (N := some 30) #[true, true, true, false, false, false, false, false, false, false, false, false, false, false, false, false, false, false, false, false, false, false, false, false, false, false, false, false] rfl rfl (by kernel_rfl) (by decide) (fun K hK => ?_)
    refine goes_ Tryd.func48 (by kernel_rfl) rfl #[.agg #[.bool n0, .slice A0 l0.length c0]] (by rfl) rfl rfl (by simp only [List.map_toArray, List.map_cons, List.map_nil]; rfl) ?_
    with_reducible refine (num_May.calls n0 A0 c0 l0 mb _ (HS.out.came HR0.out) HC0.out H4.out).mono ?_
    rintro e w3 ⟨rfl, hb⟩
    refine ⟨_, rfl, ?_⟩
    have HN := Aside0.mk (HS.out.call hb)
    clear HS
    have HS := HN
    clear HN
    refine hK.out _ _ ⟨(HS.out.cells 4 rfl).1, (HS.out.cells 4 rfl).2, (HS.out.cells 3 rfl).1, (HS.out.cells 3 rfl).2, (HS.out.cells 1 rfl).1, (HS.out.cells 1 rfl).2, (HS.out.cells 2 rfl).1, (HS.out.cells 2 rfl).2, (HS.out.cells 0 rfl).1, (HS.out.cells 0 rfl).2⟩ (fun hHeld => ?_)
    clear hK K
    refine norm_ (a' := ?_) ?_ ?_
    rotate_left
    · show Act.put _ (some 30) _ = _
      simp only [Act.put, List.setIfInBounds_toArray, List.set_cons_zero, List.set_cons_succ, i64_w, i32_w]
      rfl
    refine one_ (i := 3) (N := some 32) #[true, true, true, true, false, false, false, false, false, false, false, false, false, false, false, false, false, false, false, false, false, false, false, false, false, false, false, false] rfl rfl (by kernel_rfl) (by decide) (fun K hK => ?_)
    refine goes_ Tryd.func49 (by kernel_rfl) rfl #[.agg #[.bool n0, .slice Aw l0.length cw]] (by rfl) rfl rfl (by simp only [List.map_toArray, List.map_cons, List.map_nil]; rfl) ?_
    with_reducible refine (HRM.out w Aw cw _ (HS.out.limbs 2 rfl).2.2 (HS.out.limbs 2 rfl).2.1).mono ?_
    rintro e w3 ⟨rfl, hb⟩
    refine ⟨_, rfl, ?_⟩
    have HN := Aside0.mk (HS.out.call hb)
    clear HS
    have HS := HN
    clear HN
    refine hK.out _ _ ⟨(HS.out.cells 4 rfl).1, (HS.out.cells 4 rfl).2, (HS.out.cells 3 rfl).1, (HS.out.cells 3 rfl).2, (HS.out.cells 1 rfl).1, (HS.out.cells 1 rfl).2, (HS.out.cells 2 rfl).1, (HS.out.cells 2 rfl).2, (HS.out.cells 0 rfl).1, (HS.out.cells 0 rfl).2⟩ (fun hHeld => ?_)
    clear hK K
    refine norm_ (a' := ?_) ?_ ?_
    rotate_left
    · show Act.put _ (some 32) _ = _
      simp only [Act.put, List.setIfInBounds_toArray, List.set_cons_zero, List.set_cons_succ, i64_w, i32_w]
      rfl
    refine pure_ (i := 4) (N := some 33) (v := ?_) (a' := ?_) #[true, true, true, true, true, false, false, false, false, false, false, false, false, false, false, false, false, false, false, false, false, false, false, false, false, false, false, false] rfl rfl (by kernel_rfl) (fun _ _ _ h => h) (Or.inl ⟨by rfl, ?_⟩) ?_ ?_
    rotate_left
    · intro w'
      go_simp
      with_reducible rfl
    rotate_left
    · simp only [Act.put, List.setIfInBounds_toArray, List.set_cons_zero, List.set_cons_succ, i64_w, i32_w]
      rfl
    refine pure_ (i := 5) (N := some 34) (v := ?_) (a' := ?_) #[true, true, true, true, true, true, false, false, false, false, false, false, false, false, false, false, false, false, false, false, false, false, false, false, false, false, false, false] rfl rfl (by kernel_rfl) (fun _ _ _ h => h) (Or.inl ⟨by rfl, ?_⟩) ?_ ?_
    rotate_left
    · intro w'
      go_simp
      with_reducible rfl
    rotate_left
    · simp only [Act.put, List.setIfInBounds_toArray, List.set_cons_zero, List.set_cons_succ, i64_w, i32_w]
      rfl
    refine pure_ (i := 7) (N := some 36) (v := ?_) (a' := ?_) #[true, true, true, true, true, true, false, true, false, false, false, false, false, false, false, false, false, false, false, false, false, false, false, false, false, false, false, false] rfl rfl (by kernel_rfl) (fun _ _ _ h => h) (Or.inl ⟨by rfl, ?_⟩) ?_ ?_
    rotate_left
    · intro w'
      go_simp
      with_reducible rfl
    rotate_left
    · simp only [Act.put, List.setIfInBounds_toArray, List.set_cons_zero, List.set_cons_succ, i64_w, i32_w]
      rfl
    refine take_ (i := 6) (N := some 35) (v := ?_) (a' := ?_) #[true, true, true, true, true, true, true, true, false, false, false, false, false, false, false, false, false, false, false, false, false, false, false, false, false, false, false, false] rfl rfl (by kernel_rfl) (fun _ _ _ h => h) (Or.inl ⟨by rfl, ?_⟩) hHeld ?_ ?_
    rotate_left
    · rintro w' ⟨s0, s1, s2, s3, s4, s5, s6, s7, s8, s9⟩
      go_simp
      with_reducible rfl
    rotate_left
    · simp only [Act.put, List.setIfInBounds_toArray, List.set_cons_zero, List.set_cons_succ, i64_w, i32_w]
      rfl
    refine take_ (i := 8) (N := some 37) (v := ?_) (a' := ?_) #[true, true, true, true, true, true, true, true, true, false, false, false, false, false, false, false, false, false, false, false, false, false, false, false, false, false, false, false] rfl rfl (by kernel_rfl) (fun _ _ _ h => h) (Or.inl ⟨by rfl, ?_⟩) hHeld ?_ ?_
    rotate_left
    · rintro w' ⟨s0, s1, s2, s3, s4, s5, s6, s7, s8, s9⟩
      go_simp
      with_reducible rfl
    rotate_left
    · simp only [Act.put, List.setIfInBounds_toArray, List.set_cons_zero, List.set_cons_succ, i64_w, i32_w]
      rfl
    refine one_ (i := 9) (N := some 38) #[true, true, true, true, true, true, true, true, true, true, false, false, false, false, false, false, false, false, false, false, false, false, false, false, false, false, false, false] rfl rfl (by kernel_rfl) (by decide) (fun K hK => ?_)
    refine goes_ Tryd.func27 (by kernel_rfl) rfl #[.agg #[.bool (mkI z).1, .slice Aa (mkI z).2.1.length ca], .int .i64 (mkI z).2.2, .agg #[.bool (vb z), .slice Av (vl z).length cv]] (by rfl) rfl rfl (by simp only [List.map_toArray, List.map_cons, List.map_nil]; rfl) ?_
    with_reducible refine (is_calls z (by have := HV1.out; omega) Aa ca Av cv _ (HS.out.limbs 1 rfl).2.2 (HS.out.limbs 1 rfl).2.1 (HS.out.bits 0 rfl).2.2 (HS.out.bits 0 rfl).2.1).mono ?_
    rintro e w3 ⟨rfl, hb⟩
    refine ⟨_, rfl, ?_⟩
    have HN := Aside0.mk (HS.out.call hb)
    clear HS
    have HS := HN
    clear HN
    refine hK.out _ _ ⟨(HS.out.cells 4 rfl).1, (HS.out.cells 4 rfl).2, (HS.out.cells 3 rfl).1, (HS.out.cells 3 rfl).2, (HS.out.cells 1 rfl).1, (HS.out.cells 1 rfl).2, (HS.out.cells 2 rfl).1, (HS.out.cells 2 rfl).2, (HS.out.cells 0 rfl).1, (HS.out.cells 0 rfl).2⟩ (fun hHeld => ?_)
    clear hK K
    refine norm_ (a' := ?_) ?_ ?_
    rotate_left
    · show Act.put _ (some 38) _ = _
      simp only [Act.put, List.setIfInBounds_toArray, List.set_cons_zero, List.set_cons_succ, i64_w, i32_w]
      rfl
    refine pure_ (i := 10) (N := some 39) (v := ?_) (a' := ?_) #[true, true, true, true, true, true, true, true, true, true, true, false, false, false, false, false, false, false, false, false, false, false, false, false, false, false, false, false] rfl rfl (by kernel_rfl) (fun _ _ _ h => h) (Or.inl ⟨by rfl, ?_⟩) ?_ ?_
    rotate_left
    · intro w'
      go_simp
      with_reducible rfl
    rotate_left
    · simp only [Act.put, List.setIfInBounds_toArray, List.set_cons_zero, List.set_cons_succ, i64_w, i32_w]
      rfl
    refine pure_ (i := 11) (N := some 40) (v := ?_) (a' := ?_) #[true, true, true, true, true, true, true, true, true, true, true, true, false, false, false, false, false, false, false, false, false, false, false, false, false, false, false, false] rfl rfl (by kernel_rfl) (fun _ _ _ h => h) (Or.inl ⟨by rfl, ?_⟩) ?_ ?_
    rotate_left
    · intro w'
      go_simp
      with_reducible rfl
    rotate_left
    · simp only [Act.put, List.setIfInBounds_toArray, List.set_cons_zero, List.set_cons_succ, i64_w, i32_w]
      rfl
    refine pure_ (i := 12) (N := some 41) (v := ?_) (a' := ?_) #[true, true, true, true, true, true, true, true, true, true, true, true, true, false, false, false, false, false, false, false, false, false, false, false, false, false, false, false] rfl rfl (by kernel_rfl) (fun _ _ _ h => h) (Or.inl ⟨by rfl, ?_⟩) ?_ ?_
    rotate_left
    · intro w'
      go_simp
      with_reducible rfl
    rotate_left
    · simp only [Act.put, List.setIfInBounds_toArray, List.set_cons_zero, List.set_cons_succ, i64_w, i32_w]
      rfl
    refine pure_ (i := 14) (N := some 43) (v := ?_) (a' := ?_) #[true, true, true, true, true, true, true, true, true, true, true, true, true, false, true, false, false, false, false, false, false, false, false, false, false, false, false, false] rfl rfl (by kernel_rfl) (fun _ _ _ h => h) (Or.inl ⟨by rfl, ?_⟩) ?_ ?_
    rotate_left
    · intro w'
      go_simp
      with_reducible rfl
    rotate_left
    · simp only [Act.put, List.setIfInBounds_toArray, List.set_cons_zero, List.set_cons_succ, i64_w, i32_w]
      rfl
    refine take_ (i := 13) (N := some 42) (v := ?_) (a' := ?_) #[true, true, true, true, true, true, true, true, true, true, true, true, true, true, true, false, false, false, false, false, false, false, false, false, false, false, false, false] rfl rfl (by kernel_rfl) (fun _ _ _ h => h) (Or.inl ⟨by rfl, ?_⟩) hHeld ?_ ?_
    rotate_left
    · rintro w' ⟨s0, s1, s2, s3, s4, s5, s6, s7, s8, s9⟩
      go_simp
      with_reducible rfl
    rotate_left
    · simp only [Act.put, List.setIfInBounds_toArray, List.set_cons_zero, List.set_cons_succ, i64_w, i32_w]
      rfl
    refine take_ (i := 15) (N := some 44) (v := ?_) (a' := ?_) #[true, true, true, true, true, true, true, true, true, true, true, true, true, true, true, true, false, false, false, false, false, false, false, false, false, false, false, false] rfl rfl (by kernel_rfl) (fun _ _ _ h => h) (Or.inl ⟨by rfl, ?_⟩) hHeld ?_ ?_
    rotate_left
    · rintro w' ⟨s0, s1, s2, s3, s4, s5, s6, s7, s8, s9⟩
      go_simp
      with_reducible rfl
    rotate_left
    · simp only [Act.put, List.setIfInBounds_toArray, List.set_cons_zero, List.set_cons_succ, i64_w, i32_w]
      rfl
    refine one_ (i := 16) (N := some 45) #[true, true, true, true, true, true, true, true, true, true, true, true, true, true, true, true, true, false, false, false, false, false, false, false, false, false, false, false] rfl rfl (by kernel_rfl) (by decide) (fun K hK => ?_)
    refine goes_ Tryd.func46 (by kernel_rfl) rfl #[.agg #[.bool (vb z), .slice Av (vl z).length cv]] (by rfl) rfl rfl (by simp only [List.map_toArray, List.map_cons, List.map_nil]; rfl) ?_
    with_reducible refine (turnv_calls z Av cv _ (HS.out.bits 0 rfl).2.2 (HS.out.bits 0 rfl).2.1).mono ?_
    rintro e w3 ⟨rfl, hb⟩
    refine ⟨_, rfl, ?_⟩
    have HN := Aside0.mk (HS.out.call hb)
    clear HS
    have HS := HN
    clear HN
    refine hK.out _ _ ⟨(HS.out.cells 4 rfl).1, (HS.out.cells 4 rfl).2, (HS.out.cells 3 rfl).1, (HS.out.cells 3 rfl).2, (HS.out.cells 1 rfl).1, (HS.out.cells 1 rfl).2, (HS.out.cells 2 rfl).1, (HS.out.cells 2 rfl).2, (HS.out.cells 0 rfl).1, (HS.out.cells 0 rfl).2⟩ (fun hHeld => ?_)
    clear hK K
    refine norm_ (a' := ?_) ?_ ?_
    rotate_left
    · show Act.put _ (some 45) _ = _
      simp only [Act.put, List.setIfInBounds_toArray, List.set_cons_zero, List.set_cons_succ, i64_w, i32_w]
      rfl
    refine one_ (i := 17) (N := some 46) #[true, true, true, true, true, true, true, true, true, true, true, true, true, true, true, true, true, true, false, false, false, false, false, false, false, false, false, false] rfl rfl (by kernel_rfl) (by decide) (fun K hK => ?_)
    refine goes_ Tryd.func27 (by kernel_rfl) rfl #[.agg #[.bool (mkI (-z)).1, .slice Ab (mkI (-z)).2.1.length cb], .int .i64 (mkI (-z)).2.2, .agg #[.bool (vb (-z)), .slice Av (vl (-z)).length cv]] (by rfl) rfl rfl (by simp only [List.map_toArray, List.map_cons, List.map_nil]; rfl) ?_
    with_reducible refine (is_calls (-z) HV2.out Ab cb Av cv _ (HS.out.limbs 0 rfl).2.2 (HS.out.limbs 0 rfl).2.1 (by rw [vl_neg]; exact (HS.out.bits 0 rfl).2.2) (by rw [vl_neg]; exact (HS.out.bits 0 rfl).2.1)).mono ?_
    rintro e w3 ⟨rfl, hb⟩
    refine ⟨_, rfl, ?_⟩
    have HN := Aside0.mk (HS.out.call hb)
    clear HS
    have HS := HN
    clear HN
    refine hK.out _ _ ⟨(HS.out.cells 4 rfl).1, (HS.out.cells 4 rfl).2, (HS.out.cells 3 rfl).1, (HS.out.cells 3 rfl).2, (HS.out.cells 1 rfl).1, (HS.out.cells 1 rfl).2, (HS.out.cells 2 rfl).1, (HS.out.cells 2 rfl).2, (HS.out.cells 0 rfl).1, (HS.out.cells 0 rfl).2⟩ (fun hHeld => ?_)
    clear hK K
    refine norm_ (a' := ?_) ?_ ?_
    rotate_left
    · show Act.put _ (some 46) _ = _
      simp only [Act.put, List.setIfInBounds_toArray, List.set_cons_zero, List.set_cons_succ, i64_w, i32_w]
      rfl
    refine pure_ (i := 18) (N := some 47) (v := ?_) (a' := ?_) #[true, true, true, true, true, true, true, true, true, true, true, true, true, true, true, true, true, true, true, false, false, false, false, false, false, false, false, false] rfl rfl (by kernel_rfl) (fun _ _ _ h => h) (Or.inl ⟨by rfl, ?_⟩) ?_ ?_
    rotate_left
    · intro w'
      go_simp
      with_reducible rfl
    rotate_left
    · simp only [Act.put, List.setIfInBounds_toArray, List.set_cons_zero, List.set_cons_succ, i64_w, i32_w]
      rfl
    refine pure_ (i := 19) (N := some 48) (v := ?_) (a' := ?_) #[true, true, true, true, true, true, true, true, true, true, true, true, true, true, true, true, true, true, true, true, false, false, false, false, false, false, false, false] rfl rfl (by kernel_rfl) (fun _ _ _ h => h) (Or.inl ⟨by rfl, ?_⟩) ?_ ?_
    rotate_left
    · intro w'
      go_simp
      with_reducible rfl
    rotate_left
    · simp only [Act.put, List.setIfInBounds_toArray, List.set_cons_zero, List.set_cons_succ, i64_w, i32_w]
      rfl
    refine pure_ (i := 20) (N := some 49) (v := ?_) (a' := ?_) #[true, true, true, true, true, true, true, true, true, true, true, true, true, true, true, true, true, true, true, true, true, false, false, false, false, false, false, false] rfl rfl (by kernel_rfl) (fun _ _ _ h => h) (Or.inl ⟨by rfl, ?_⟩) ?_ ?_
    rotate_left
    · intro w'
      go_simp
      with_reducible rfl
    rotate_left
    · simp only [Act.put, List.setIfInBounds_toArray, List.set_cons_zero, List.set_cons_succ, i64_w, i32_w]
      rfl
    refine pure_ (i := 24) (N := some 53) (v := ?_) (a' := ?_) #[true, true, true, true, true, true, true, true, true, true, true, true, true, true, true, true, true, true, true, true, true, false, false, false, true, false, false, false] rfl rfl (by kernel_rfl) (fun _ _ _ h => h) (Or.inl ⟨by rfl, ?_⟩) ?_ ?_
    rotate_left
    · intro w'
      go_simp
      with_reducible rfl
    rotate_left
    · simp only [Act.put, List.setIfInBounds_toArray, List.set_cons_zero, List.set_cons_succ, i64_w, i32_w]
      rfl
    refine take_ (i := 21) (N := some 50) (v := ?_) (a' := ?_) #[true, true, true, true, true, true, true, true, true, true, true, true, true, true, true, true, true, true, true, true, true, true, false, false, true, false, false, false] rfl rfl (by kernel_rfl) (fun _ _ _ h => h) (Or.inl ⟨by rfl, ?_⟩) hHeld ?_ ?_
    rotate_left
    · rintro w' ⟨s0, s1, s2, s3, s4, s5, s6, s7, s8, s9⟩
      go_simp
      with_reducible rfl
    rotate_left
    · simp only [Act.put, List.setIfInBounds_toArray, List.set_cons_zero, List.set_cons_succ, i64_w, i32_w]
      rfl
    refine take_ (i := 23) (N := some 52) (v := ?_) (a' := ?_) #[true, true, true, true, true, true, true, true, true, true, true, true, true, true, true, true, true, true, true, true, true, true, false, true, true, false, false, false] rfl rfl (by kernel_rfl) (fun _ _ _ h => h) (Or.inl ⟨by rfl, ?_⟩) hHeld ?_ ?_
    rotate_left
    · rintro w' ⟨s0, s1, s2, s3, s4, s5, s6, s7, s8, s9⟩
      go_simp
      with_reducible rfl
    rotate_left
    · simp only [Act.put, List.setIfInBounds_toArray, List.set_cons_zero, List.set_cons_succ, i64_w, i32_w]
      rfl
    refine one_ (i := 22) (N := some 51) #[true, true, true, true, true, true, true, true, true, true, true, true, true, true, true, true, true, true, true, true, true, true, true, true, true, false, false, false] rfl rfl (by kernel_rfl) (by decide) (fun K hK => ?_)
    refine goes_ Tryd.func39 (by kernel_rfl) rfl #[.agg #[.bool n0, .slice A0 l0.length c0]] (by rfl) rfl rfl (by simp only [List.map_toArray, List.map_cons, List.map_nil]; rfl) ?_
    with_reducible refine (num_Sign.calls n0 A0 c0 l0 sg _ (HS.out.came HR0.out) HC0.out H5.out).mono ?_
    rintro e w3 ⟨rfl, hb⟩
    refine ⟨_, rfl, ?_⟩
    have HN := Aside0.mk (HS.out.call hb)
    clear HS
    have HS := HN
    clear HN
    refine hK.out _ _ ⟨(HS.out.cells 4 rfl).1, (HS.out.cells 4 rfl).2, (HS.out.cells 3 rfl).1, (HS.out.cells 3 rfl).2, (HS.out.cells 1 rfl).1, (HS.out.cells 1 rfl).2, (HS.out.cells 2 rfl).1, (HS.out.cells 2 rfl).2, (HS.out.cells 0 rfl).1, (HS.out.cells 0 rfl).2⟩ (fun hHeld => ?_)
    clear hK K
    refine norm_ (a' := ?_) ?_ ?_
    rotate_left
    · show Act.put _ (some 51) _ = _
      simp only [Act.put, List.setIfInBounds_toArray, List.set_cons_zero, List.set_cons_succ, i64_w, i32_w]
      rfl
    refine one_ (i := 25) (N := some 54) #[true, true, true, true, true, true, true, true, true, true, true, true, true, true, true, true, true, true, true, true, true, true, true, true, true, true, false, false] rfl rfl (by kernel_rfl) (by decide) (fun K hK => ?_)
    refine goes_ Tryd.func44 (by kernel_rfl) rfl #[.agg #[.bool (vb z), .slice Av (vl z).length cv], .agg #[.bool false, .slice none 0 0]] (by rfl) rfl rfl (by simp only [List.map_toArray, List.map_cons, List.map_nil]; rfl) ?_
    with_reducible refine (HC0V.out _ Av cv (HS.out.bits 0 rfl).2.2 (HS.out.bits 0 rfl).2.1).mono ?_
    rintro e w3 ⟨rfl, hb⟩
    refine ⟨_, rfl, ?_⟩
    have HN := Aside0.mk (HS.out.call hb)
    clear HS
    have HS := HN
    clear HN
    refine hK.out _ _ ⟨(HS.out.cells 4 rfl).1, (HS.out.cells 4 rfl).2, (HS.out.cells 3 rfl).1, (HS.out.cells 3 rfl).2, (HS.out.cells 1 rfl).1, (HS.out.cells 1 rfl).2, (HS.out.cells 2 rfl).1, (HS.out.cells 2 rfl).2, (HS.out.cells 0 rfl).1, (HS.out.cells 0 rfl).2⟩ (fun hHeld => ?_)
    clear hK K
    refine norm_ (a' := ?_) ?_ ?_
    rotate_left
    · show Act.put _ (some 54) _ = _
      simp only [Act.put, List.setIfInBounds_toArray, List.set_cons_zero, List.set_cons_succ, i64_w, i32_w]
      rfl
    refine pure_ (i := 26) (N := some 55) (v := ?_) (a' := ?_) #[true, true, true, true, true, true, true, true, true, true, true, true, true, true, true, true, true, true, true, true, true, true, true, true, true, true, true, false] rfl rfl (by kernel_rfl) (fun _ _ _ h => h) (Or.inl ⟨by rfl, ?_⟩) ?_ ?_
    rotate_left
    · intro w'
      go_simp
      with_reducible rfl
    rotate_left
    · simp only [Act.put, List.setIfInBounds_toArray, List.set_cons_zero, List.set_cons_succ, i64_w, i32_w]
      rfl
    refine pure_ (i := 27) (N := some 56) (v := ?_) (a' := ?_) #[true, true, true, true, true, true, true, true, true, true, true, true, true, true, true, true, true, true, true, true, true, true, true, true, true, true, true, true] rfl rfl (by kernel_rfl) (fun _ _ _ h => h) (Or.inl ⟨by rfl, ?_⟩) ?_ ?_
    rotate_left
    · intro w'
      go_simp
      with_reducible rfl
    rotate_left
    · simp only [Act.put, List.setIfInBounds_toArray, List.set_cons_zero, List.set_cons_succ, i64_w, i32_w]
      rfl
    refine done_ (by kernel_rfl) ?_
    obtain ⟨ua0, ua1⟩ := HS.out.cells 1 rfl
    go_wp2_with fail
    refine (spoil_calls HS.out 1 rfl (mkI (z)).1 (okN_mkI _).2).mono ?_
    rintro e w6_ ⟨rfl, hN⟩
    clear ua0 ua1
    clear HS
    have HS := Aside0.mk hN
    clear hN
    obtain ⟨ub0, ub1⟩ := HS.out.cells 0 rfl
    go_wp2_with fail
    refine (spoil_calls HS.out 0 rfl (mkI (-z)).1 (okN_mkI _).2).mono ?_
    rintro e w7_ ⟨rfl, hN⟩
    clear ub0 ub1
    clear HS
    have HS := Aside0.mk hN
    clear hN
    by_cases hin : -1152921504606846976 ≤ z ∧ z < 1152921504606846976
    · skip
      have HFQ := Aside0.mk (show num_Fix.f n0 l0 = some (z, true) by rw [HFX.out, if_pos hin])
      have HFT := Aside0.mk (show Fits z from Nat.lt_of_lt_of_le (show z.natAbs < 4294967296 ^ 2 by omega) (Nat.pow_le_pow_right (by decide) (by decide)))
      have HOF := Aside0.mk (of_at (z := z) (by omega))
      by_cases hm : z = -1152921504606846976
      · skip
        have q1 : decide ((vl z).length ≤ 60) = false := decide_eq_false (fun h => absurd (HL60.out.mp h) (by omega))
        have q2 : decide (((vl z).length : Int) ≤ 60) = false := by rw [← q1, decide_eq_decide]; omega
        have vz : vb z = true := decide_eq_true (by omega)
        have HCQ := Aside0.mk (show num_Cmp.f n0 l0 true [0, 268435456] = some 0 by rw [HCM.out, hm, cmp_self])
        clear hin hm HFX HCM HL60
        rw [vz] at HS
        have HVZ := Aside0.mk vz
        clear vz
        obtain ⟨un0, un1⟩ := HS.out.cells 4 rfl
        go_wp2_with fail
        refine (num_Fix.calls n0 A0 c0 l0 z true _ (HS.out.came HR0.out) HC0.out HFQ.out).mono ?_
        rintro e w8_ ⟨rfl, hb⟩
        clear un0 un1
        have HN := Aside0.mk (HS.out.call hb)
        clear HS
        have HS := HN
        clear HN
        clear hb
        obtain ⟨uv0, uv1⟩ := HS.out.cells 2 rfl
        obtain ⟨un0, un1⟩ := HS.out.cells 4 rfl
        go_wp2_with fail
        clear uv0 uv1 un0 un1
        have hg := HS.out.pairs 0 268435456
        try simp only [World.size_alloc] at hg
        refine (num_Cmp.calls n0 A0 c0 l0 true _ 2 [0, 268435456] 0 _ ((HS.out.alloc _).came HR0.out) HC0.out hg (Nat.le_refl 2) HCQ.out).mono ?_
        rintro e w9_ ⟨rfl, hb⟩
        have HN := Aside0.mk ((HS.out.alloc (.cells #[.int .u32 0, .int .u32 268435456] 63 (0, 0))).call hb)
        clear HS
        have HS := HN
        clear HN
        clear hb hg
        go_wp2
        have HN := Aside0.mk (HS.out.drew)
        clear HS
        have HS := HN
        clear HN
        refine start_ (n := 17) (S := fun w' => w'.cell? ⟨w3_.heap.size, 0, none⟩ = some (.bool true) ∧ w'.cell? ⟨w3_.heap.size, 1, none⟩ = some (.slice Av (vl z).length cv) ∧ w'.cell? ⟨w.heap.size, 0, none⟩ = some (.bool n0) ∧ w'.cell? ⟨w.heap.size, 1, none⟩ = some (.slice A0 l0.length c0) ∧ w'.cell? ⟨w2_.heap.size, 0, none⟩ = some (.bool n0) ∧ w'.cell? ⟨w2_.heap.size, 1, none⟩ = some (.slice Aw l0.length cw)) (ds := []) #[false, false, false, false, false, false, false, false, false, false, false, false, false, false, false, false, false] (by kernel_rfl) rfl rfl ⟨(HS.out.cells 2 rfl).1, (HS.out.cells 2 rfl).2, (HS.out.cells 4 rfl).1, (HS.out.cells 4 rfl).2, (HS.out.cells 3 rfl).1, (HS.out.cells 3 rfl).2⟩ (fun hHeld => ?_)
        refine pure_ (i := 0) (N := some 92) (v := ?_) (a' := ?_) #[true, false, false, false, false, false, false, false, false, false, false, false, false, false, false, false, false] rfl rfl (by kernel_rfl) (fun _ _ _ h => h) (Or.inl ⟨by rfl, ?_⟩) ?_ ?_
        rotate_left
        · intro w'
          go_simp
          with_reducible rfl
        rotate_left
        · simp only [Act.put, List.setIfInBounds_toArray, List.set_cons_zero, List.set_cons_succ, i64_w, i32_w]
          rfl
        refine pure_ (i := 1) (N := some 93) (v := ?_) (a' := ?_) #[true, true, false, false, false, false, false, false, false, false, false, false, false, false, false, false, false] rfl rfl (by kernel_rfl) (fun _ _ _ h => h) (Or.inl ⟨by rfl, ?_⟩) ?_ ?_
        rotate_left
        · intro w'
          go_simp
          with_reducible rfl
        rotate_left
        · simp only [Act.put, List.setIfInBounds_toArray, List.set_cons_zero, List.set_cons_succ, i64_w, i32_w]
          rfl
        refine pure_ (i := 2) (N := some 94) (v := ?_) (a' := ?_) #[true, true, true, false, false, false, false, false, false, false, false, false, false, false, false, false, false] rfl rfl (by kernel_rfl) (fun _ _ _ h => h) (Or.inl ⟨by rfl, ?_⟩) ?_ ?_
        rotate_left
        · intro w'
          go_simp
          with_reducible rfl
        rotate_left
        · simp only [Act.put, List.setIfInBounds_toArray, List.set_cons_zero, List.set_cons_succ, i64_w, i32_w]
          rfl
        refine pure_ (i := 3) (N := some 95) (v := ?_) (a' := ?_) #[true, true, true, true, false, false, false, false, false, false, false, false, false, false, false, false, false] rfl rfl (by kernel_rfl) (fun _ _ _ h => h) (Or.inl ⟨by rfl, ?_⟩) ?_ ?_
        rotate_left
        · intro w'
          go_simp
          with_reducible rfl
        rotate_left
        · simp only [Act.put, List.setIfInBounds_toArray, List.set_cons_zero, List.set_cons_succ, i64_w, i32_w]
          rfl
        refine take_ (i := 5) (N := some 97) (v := ?_) (a' := ?_) #[true, true, true, true, false, true, false, false, false, false, false, false, false, false, false, false, false] rfl rfl (by kernel_rfl) (fun _ _ _ h => h) (Or.inl ⟨by rfl, ?_⟩) hHeld ?_ ?_
        rotate_left
        · rintro w' ⟨s0, s1, s2, s3, s4, s5⟩
          go_simp
          with_reducible rfl
        rotate_left
        · simp only [Act.put, List.setIfInBounds_toArray, List.set_cons_zero, List.set_cons_succ, i64_w, i32_w]
          rfl
        refine one_ (i := 4) (N := some 96) #[true, true, true, true, true, true, false, false, false, false, false, false, false, false, false, false, false] rfl rfl (by kernel_rfl) (by decide) (fun K hK => ?_)
        refine goes_ Tryd.func18 (by kernel_rfl) rfl #[.int .i64 z] (by rfl) rfl rfl (by simp only [List.map_toArray, List.map_cons, List.map_nil]; rfl) ?_
        with_reducible refine (num_Of.calls z (sb z) (sl z) _ HOF.out).mono ?_
        rintro e w3 ⟨v, rfl, hR, hb⟩
        refine ⟨_, rfl, ?_⟩
        obtain ⟨Af, cf, rfl⟩ := Kd.R_slice hR
        have HN := Aside0.mk (HS.out.call32 hb hR)
        clear HS
        have HS := HN
        clear HN
        refine hK.out _ _ ⟨(HS.out.cells 2 rfl).1, (HS.out.cells 2 rfl).2, (HS.out.cells 4 rfl).1, (HS.out.cells 4 rfl).2, (HS.out.cells 3 rfl).1, (HS.out.cells 3 rfl).2⟩ (fun hHeld => ?_)
        clear hK K
        refine norm_ (a' := ?_) ?_ ?_
        rotate_left
        · show Act.put _ (some 96) _ = _
          simp only [Act.put, List.setIfInBounds_toArray, List.set_cons_zero, List.set_cons_succ, i64_w, i32_w]
          rfl
        refine one_ (i := 6) (N := some 98) #[true, true, true, true, true, true, true, false, false, false, false, false, false, false, false, false, false] rfl rfl (by kernel_rfl) (by decide) (fun K hK => ?_)
        refine goes_ Tryd.func27 (by kernel_rfl) rfl #[.agg #[.bool (sb z), .slice Af (sl z).length cf], .int .i64 0, .agg #[.bool true, .slice Av (vl z).length cv]] (by rfl) rfl rfl (by simp only [List.map_toArray, List.map_cons, List.map_nil]; rfl) ?_
        with_reducible refine (isfits_calls z HFT.out true HVZ.out Af cf Av cv _ (HS.out.limbs 0 rfl).2.2 (HS.out.limbs 0 rfl).2.1 (HS.out.bits 0 rfl).2.2 (HS.out.bits 0 rfl).2.1).mono ?_
        rintro e w3 ⟨rfl, hb⟩
        refine ⟨_, rfl, ?_⟩
        have HN := Aside0.mk (HS.out.call hb)
        clear HS
        have HS := HN
        clear HN
        refine hK.out _ _ ⟨(HS.out.cells 2 rfl).1, (HS.out.cells 2 rfl).2, (HS.out.cells 4 rfl).1, (HS.out.cells 4 rfl).2, (HS.out.cells 3 rfl).1, (HS.out.cells 3 rfl).2⟩ (fun hHeld => ?_)
        clear hK K
        refine norm_ (a' := ?_) ?_ ?_
        rotate_left
        · show Act.put _ (some 98) _ = _
          simp only [Act.put, List.setIfInBounds_toArray, List.set_cons_zero, List.set_cons_succ, i64_w, i32_w]
          rfl
        refine pure_ (i := 7) (N := some 99) (v := ?_) (a' := ?_) #[true, true, true, true, true, true, true, true, false, false, false, false, false, false, false, false, false] rfl rfl (by kernel_rfl) (fun _ _ _ h => h) (Or.inl ⟨by rfl, ?_⟩) ?_ ?_
        rotate_left
        · intro w'
          go_simp
          with_reducible rfl
        rotate_left
        · simp only [Act.put, List.setIfInBounds_toArray, List.set_cons_zero, List.set_cons_succ, i64_w, i32_w]
          rfl
        refine pure_ (i := 8) (N := some 100) (v := ?_) (a' := ?_) #[true, true, true, true, true, true, true, true, true, false, false, false, false, false, false, false, false] rfl rfl (by kernel_rfl) (fun _ _ _ h => h) (Or.inl ⟨by rfl, ?_⟩) ?_ ?_
        rotate_left
        · intro w'
          go_simp
          with_reducible rfl
        rotate_left
        · simp only [Act.put, List.setIfInBounds_toArray, List.set_cons_zero, List.set_cons_succ, i64_w, i32_w]
          rfl
        refine take_ (i := 9) (N := some 101) (v := ?_) (a' := ?_) #[true, true, true, true, true, true, true, true, true, true, false, false, false, false, false, false, false] rfl rfl (by kernel_rfl) (fun _ _ _ h => h) (Or.inl ⟨by rfl, ?_⟩) hHeld ?_ ?_
        rotate_left
        · rintro w' ⟨s0, s1, s2, s3, s4, s5⟩
          go_simp
          with_reducible rfl
        rotate_left
        · simp only [Act.put, List.setIfInBounds_toArray, List.set_cons_zero, List.set_cons_succ, i64_w, i32_w]
          rfl
        refine take_ (i := 10) (N := some 102) (v := ?_) (a' := ?_) #[true, true, true, true, true, true, true, true, true, true, true, false, false, false, false, false, false] rfl rfl (by kernel_rfl) (fun _ _ _ h => h) (Or.inl ⟨by rfl, ?_⟩) hHeld ?_ ?_
        rotate_left
        · rintro w' ⟨s0, s1, s2, s3, s4, s5⟩
          go_simp
          with_reducible rfl
        rotate_left
        · simp only [Act.put, List.setIfInBounds_toArray, List.set_cons_zero, List.set_cons_succ, i64_w, i32_w]
          rfl
        refine one_ (i := 11) (N := some 103) #[true, true, true, true, true, true, true, true, true, true, true, true, false, false, false, false, false] rfl rfl (by kernel_rfl) (by decide) (fun K hK => ?_)
        refine goes_ Tryd.func17 (by kernel_rfl) rfl #[.agg #[.bool n0, .slice A0 l0.length c0], .agg #[.bool n0, .slice Aw l0.length cw]] (by rfl) rfl rfl (by simp only [List.map_toArray, List.map_cons, List.map_nil]; rfl) ?_
        with_reducible refine (same_calls n0 l0 HKL.out A0 c0 Aw cw _ (HS.out.came HR0.out) HC0.out (HS.out.limbs 1 rfl).2.2 (HS.out.limbs 1 rfl).2.1).mono ?_
        rintro e w3 ⟨rfl, hb⟩
        refine ⟨_, rfl, ?_⟩
        have HN := Aside0.mk (HS.out.call hb)
        clear HS
        have HS := HN
        clear HN
        refine hK.out _ _ ⟨(HS.out.cells 2 rfl).1, (HS.out.cells 2 rfl).2, (HS.out.cells 4 rfl).1, (HS.out.cells 4 rfl).2, (HS.out.cells 3 rfl).1, (HS.out.cells 3 rfl).2⟩ (fun hHeld => ?_)
        clear hK K
        refine norm_ (a' := ?_) ?_ ?_
        rotate_left
        · show Act.put _ (some 103) _ = _
          simp only [Act.put, List.setIfInBounds_toArray, List.set_cons_zero, List.set_cons_succ, i64_w, i32_w]
          rfl
        refine pure_ (i := 12) (N := some 104) (v := ?_) (a' := ?_) #[true, true, true, true, true, true, true, true, true, true, true, true, true, false, false, false, false] rfl rfl (by kernel_rfl) (fun _ _ _ h => h) (Or.inl ⟨by rfl, ?_⟩) ?_ ?_
        rotate_left
        · intro w'
          go_simp
          with_reducible rfl
        rotate_left
        · simp only [Act.put, List.setIfInBounds_toArray, List.set_cons_zero, List.set_cons_succ, i64_w, i32_w]
          rfl
        refine pure_ (i := 13) (N := some 105) (v := ?_) (a' := ?_) #[true, true, true, true, true, true, true, true, true, true, true, true, true, true, false, false, false] rfl rfl (by kernel_rfl) (fun _ _ _ h => h) (Or.inl ⟨by rfl, ?_⟩) ?_ ?_
        rotate_left
        · intro w'
          go_simp
          with_reducible rfl
        rotate_left
        · simp only [Act.put, List.setIfInBounds_toArray, List.set_cons_zero, List.set_cons_succ, i64_w, i32_w]
          rfl
        refine one_ (i := 14) (N := some 106) #[true, true, true, true, true, true, true, true, true, true, true, true, true, true, true, false, false] rfl rfl (by kernel_rfl) (by decide) (fun K hK => ?_)
        refine goes_ Tryd.func20 (by kernel_rfl) rfl #[] (by rfl) rfl rfl (by simp only [List.map_toArray, List.map_cons, List.map_nil]) ?_
        with_reducible refine (awake_calls _ (NumV.Tab.below HT.out HS.out.below)).mono ?_
        rintro e w3 ⟨rfl, hb⟩
        refine ⟨_, rfl, ?_⟩
        have HN := Aside0.mk (HS.out.call hb)
        clear HS
        have HS := HN
        clear HN
        refine hK.out _ _ ⟨(HS.out.cells 2 rfl).1, (HS.out.cells 2 rfl).2, (HS.out.cells 4 rfl).1, (HS.out.cells 4 rfl).2, (HS.out.cells 3 rfl).1, (HS.out.cells 3 rfl).2⟩ (fun hHeld => ?_)
        clear hK K
        refine norm_ (a' := ?_) ?_ ?_
        rotate_left
        · show Act.put _ (some 106) _ = _
          simp only [Act.put, List.setIfInBounds_toArray, List.set_cons_zero, List.set_cons_succ, i64_w, i32_w]
          rfl
        refine pure_ (i := 15) (N := some 107) (v := ?_) (a' := ?_) #[true, true, true, true, true, true, true, true, true, true, true, true, true, true, true, true, false] rfl rfl (by kernel_rfl) (fun _ _ _ h => h) (Or.inl ⟨by rfl, ?_⟩) ?_ ?_
        rotate_left
        · intro w'
          go_simp
          with_reducible rfl
        rotate_left
        · simp only [Act.put, List.setIfInBounds_toArray, List.set_cons_zero, List.set_cons_succ, i64_w, i32_w]
          rfl
        refine pure_ (i := 16) (N := some 2) (v := ?_) (a' := ?_) #[true, true, true, true, true, true, true, true, true, true, true, true, true, true, true, true, true] rfl rfl (by kernel_rfl) (fun _ _ _ h => h) (Or.inl ⟨by rfl, ?_⟩) ?_ ?_
        rotate_left
        · intro w'
          go_simp
          with_reducible rfl
        rotate_left
        · simp only [Act.put, List.setIfInBounds_toArray, List.set_cons_zero, List.set_cons_succ, i64_w, i32_w]
          rfl
        refine done_ (by kernel_rfl) ?_
        go_wp2
        go_ret
        exact ⟨rfl, HS.out.below⟩
      · skip
        have q1 : decide ((vl z).length ≤ 60) = true := decide_eq_true (HL60.out.mpr (by omega))
        have q2 : decide (((vl z).length : Int) ≤ 60) = true := by rw [← q1, decide_eq_decide]; omega
        clear hin hm HFX HCM HL60
        obtain ⟨un0, un1⟩ := HS.out.cells 4 rfl
        go_wp2_with fail
        refine (num_Fix.calls n0 A0 c0 l0 z true _ (HS.out.came HR0.out) HC0.out HFQ.out).mono ?_
        rintro e w8_ ⟨rfl, hb⟩
        clear un0 un1
        have HN := Aside0.mk (HS.out.call hb)
        clear HS
        have HS := HN
        clear HN
        clear hb
        obtain ⟨uv0, uv1⟩ := HS.out.cells 2 rfl
        go_wp2
        have HN := Aside0.mk (HS.out.drew)
        clear HS
        have HS := HN
        clear HN
        refine start_ (n := 17) (S := fun w' => w'.cell? ⟨w3_.heap.size, 0, none⟩ = some (.bool (vb z)) ∧ w'.cell? ⟨w3_.heap.size, 1, none⟩ = some (.slice Av (vl z).length cv) ∧ w'.cell? ⟨w.heap.size, 0, none⟩ = some (.bool n0) ∧ w'.cell? ⟨w.heap.size, 1, none⟩ = some (.slice A0 l0.length c0) ∧ w'.cell? ⟨w2_.heap.size, 0, none⟩ = some (.bool n0) ∧ w'.cell? ⟨w2_.heap.size, 1, none⟩ = some (.slice Aw l0.length cw)) (ds := []) #[false, false, false, false, false, false, false, false, false, false, false, false, false, false, false, false, false] (by kernel_rfl) rfl rfl ⟨(HS.out.cells 2 rfl).1, (HS.out.cells 2 rfl).2, (HS.out.cells 4 rfl).1, (HS.out.cells 4 rfl).2, (HS.out.cells 3 rfl).1, (HS.out.cells 3 rfl).2⟩ (fun hHeld => ?_)
        refine pure_ (i := 0) (N := some 92) (v := ?_) (a' := ?_) #[true, false, false, false, false, false, false, false, false, false, false, false, false, false, false, false, false] rfl rfl (by kernel_rfl) (fun _ _ _ h => h) (Or.inl ⟨by rfl, ?_⟩) ?_ ?_
        rotate_left
        · intro w'
          go_simp
          with_reducible rfl
        rotate_left
        · simp only [Act.put, List.setIfInBounds_toArray, List.set_cons_zero, List.set_cons_succ, i64_w, i32_w]
          rfl
        refine pure_ (i := 1) (N := some 93) (v := ?_) (a' := ?_) #[true, true, false, false, false, false, false, false, false, false, false, false, false, false, false, false, false] rfl rfl (by kernel_rfl) (fun _ _ _ h => h) (Or.inl ⟨by rfl, ?_⟩) ?_ ?_
        rotate_left
        · intro w'
          go_simp
          with_reducible rfl
        rotate_left
        · simp only [Act.put, List.setIfInBounds_toArray, List.set_cons_zero, List.set_cons_succ, i64_w, i32_w]
          rfl
        refine pure_ (i := 2) (N := some 94) (v := ?_) (a' := ?_) #[true, true, true, false, false, false, false, false, false, false, false, false, false, false, false, false, false] rfl rfl (by kernel_rfl) (fun _ _ _ h => h) (Or.inl ⟨by rfl, ?_⟩) ?_ ?_
        rotate_left
        · intro w'
          go_simp
          with_reducible rfl
        rotate_left
        · simp only [Act.put, List.setIfInBounds_toArray, List.set_cons_zero, List.set_cons_succ, i64_w, i32_w]
          rfl
        refine pure_ (i := 3) (N := some 95) (v := ?_) (a' := ?_) #[true, true, true, true, false, false, false, false, false, false, false, false, false, false, false, false, false] rfl rfl (by kernel_rfl) (fun _ _ _ h => h) (Or.inl ⟨by rfl, ?_⟩) ?_ ?_
        rotate_left
        · intro w'
          go_simp
          with_reducible rfl
        rotate_left
        · simp only [Act.put, List.setIfInBounds_toArray, List.set_cons_zero, List.set_cons_succ, i64_w, i32_w]
          rfl
        refine take_ (i := 5) (N := some 97) (v := ?_) (a' := ?_) #[true, true, true, true, false, true, false, false, false, false, false, false, false, false, false, false, false] rfl rfl (by kernel_rfl) (fun _ _ _ h => h) (Or.inl ⟨by rfl, ?_⟩) hHeld ?_ ?_
        rotate_left
        · rintro w' ⟨s0, s1, s2, s3, s4, s5⟩
          go_simp
          with_reducible rfl
        rotate_left
        · simp only [Act.put, List.setIfInBounds_toArray, List.set_cons_zero, List.set_cons_succ, i64_w, i32_w]
          rfl
        refine one_ (i := 4) (N := some 96) #[true, true, true, true, true, true, false, false, false, false, false, false, false, false, false, false, false] rfl rfl (by kernel_rfl) (by decide) (fun K hK => ?_)
        refine goes_ Tryd.func18 (by kernel_rfl) rfl #[.int .i64 z] (by rfl) rfl rfl (by simp only [List.map_toArray, List.map_cons, List.map_nil]; rfl) ?_
        with_reducible refine (num_Of.calls z (sb z) (sl z) _ HOF.out).mono ?_
        rintro e w3 ⟨v, rfl, hR, hb⟩
        refine ⟨_, rfl, ?_⟩
        obtain ⟨Af, cf, rfl⟩ := Kd.R_slice hR
        have HN := Aside0.mk (HS.out.call32 hb hR)
        clear HS
        have HS := HN
        clear HN
        refine hK.out _ _ ⟨(HS.out.cells 2 rfl).1, (HS.out.cells 2 rfl).2, (HS.out.cells 4 rfl).1, (HS.out.cells 4 rfl).2, (HS.out.cells 3 rfl).1, (HS.out.cells 3 rfl).2⟩ (fun hHeld => ?_)
        clear hK K
        refine norm_ (a' := ?_) ?_ ?_
        rotate_left
        · show Act.put _ (some 96) _ = _
          simp only [Act.put, List.setIfInBounds_toArray, List.set_cons_zero, List.set_cons_succ, i64_w, i32_w]
          rfl
        refine one_ (i := 6) (N := some 98) #[true, true, true, true, true, true, true, false, false, false, false, false, false, false, false, false, false] rfl rfl (by kernel_rfl) (by decide) (fun K hK => ?_)
        refine goes_ Tryd.func27 (by kernel_rfl) rfl #[.agg #[.bool (sb z), .slice Af (sl z).length cf], .int .i64 0, .agg #[.bool (vb z), .slice Av (vl z).length cv]] (by rfl) rfl rfl (by simp only [List.map_toArray, List.map_cons, List.map_nil]; rfl) ?_
        with_reducible refine (isfits_calls z HFT.out (vb z) rfl Af cf Av cv _ (HS.out.limbs 0 rfl).2.2 (HS.out.limbs 0 rfl).2.1 (HS.out.bits 0 rfl).2.2 (HS.out.bits 0 rfl).2.1).mono ?_
        rintro e w3 ⟨rfl, hb⟩
        refine ⟨_, rfl, ?_⟩
        have HN := Aside0.mk (HS.out.call hb)
        clear HS
        have HS := HN
        clear HN
        refine hK.out _ _ ⟨(HS.out.cells 2 rfl).1, (HS.out.cells 2 rfl).2, (HS.out.cells 4 rfl).1, (HS.out.cells 4 rfl).2, (HS.out.cells 3 rfl).1, (HS.out.cells 3 rfl).2⟩ (fun hHeld => ?_)
        clear hK K
        refine norm_ (a' := ?_) ?_ ?_
        rotate_left
        · show Act.put _ (some 98) _ = _
          simp only [Act.put, List.setIfInBounds_toArray, List.set_cons_zero, List.set_cons_succ, i64_w, i32_w]
          rfl
        refine pure_ (i := 7) (N := some 99) (v := ?_) (a' := ?_) #[true, true, true, true, true, true, true, true, false, false, false, false, false, false, false, false, false] rfl rfl (by kernel_rfl) (fun _ _ _ h => h) (Or.inl ⟨by rfl, ?_⟩) ?_ ?_
        rotate_left
        · intro w'
          go_simp
          with_reducible rfl
        rotate_left
        · simp only [Act.put, List.setIfInBounds_toArray, List.set_cons_zero, List.set_cons_succ, i64_w, i32_w]
          rfl
        refine pure_ (i := 8) (N := some 100) (v := ?_) (a' := ?_) #[true, true, true, true, true, true, true, true, true, false, false, false, false, false, false, false, false] rfl rfl (by kernel_rfl) (fun _ _ _ h => h) (Or.inl ⟨by rfl, ?_⟩) ?_ ?_
        rotate_left
        · intro w'
          go_simp
          with_reducible rfl
        rotate_left
        · simp only [Act.put, List.setIfInBounds_toArray, List.set_cons_zero, List.set_cons_succ, i64_w, i32_w]
          rfl
        refine take_ (i := 9) (N := some 101) (v := ?_) (a' := ?_) #[true, true, true, true, true, true, true, true, true, true, false, false, false, false, false, false, false] rfl rfl (by kernel_rfl) (fun _ _ _ h => h) (Or.inl ⟨by rfl, ?_⟩) hHeld ?_ ?_
        rotate_left
        · rintro w' ⟨s0, s1, s2, s3, s4, s5⟩
          go_simp
          with_reducible rfl
        rotate_left
        · simp only [Act.put, List.setIfInBounds_toArray, List.set_cons_zero, List.set_cons_succ, i64_w, i32_w]
          rfl
        refine take_ (i := 10) (N := some 102) (v := ?_) (a' := ?_) #[true, true, true, true, true, true, true, true, true, true, true, false, false, false, false, false, false] rfl rfl (by kernel_rfl) (fun _ _ _ h => h) (Or.inl ⟨by rfl, ?_⟩) hHeld ?_ ?_
        rotate_left
        · rintro w' ⟨s0, s1, s2, s3, s4, s5⟩
          go_simp
          with_reducible rfl
        rotate_left
        · simp only [Act.put, List.setIfInBounds_toArray, List.set_cons_zero, List.set_cons_succ, i64_w, i32_w]
          rfl
        refine one_ (i := 11) (N := some 103) #[true, true, true, true, true, true, true, true, true, true, true, true, false, false, false, false, false] rfl rfl (by kernel_rfl) (by decide) (fun K hK => ?_)
        refine goes_ Tryd.func17 (by kernel_rfl) rfl #[.agg #[.bool n0, .slice A0 l0.length c0], .agg #[.bool n0, .slice Aw l0.length cw]] (by rfl) rfl rfl (by simp only [List.map_toArray, List.map_cons, List.map_nil]; rfl) ?_
        with_reducible refine (same_calls n0 l0 HKL.out A0 c0 Aw cw _ (HS.out.came HR0.out) HC0.out (HS.out.limbs 1 rfl).2.2 (HS.out.limbs 1 rfl).2.1).mono ?_
        rintro e w3 ⟨rfl, hb⟩
        refine ⟨_, rfl, ?_⟩
        have HN := Aside0.mk (HS.out.call hb)
        clear HS
        have HS := HN
        clear HN
        refine hK.out _ _ ⟨(HS.out.cells 2 rfl).1, (HS.out.cells 2 rfl).2, (HS.out.cells 4 rfl).1, (HS.out.cells 4 rfl).2, (HS.out.cells 3 rfl).1, (HS.out.cells 3 rfl).2⟩ (fun hHeld => ?_)
        clear hK K
        refine norm_ (a' := ?_) ?_ ?_
        rotate_left
        · show Act.put _ (some 103) _ = _
          simp only [Act.put, List.setIfInBounds_toArray, List.set_cons_zero, List.set_cons_succ, i64_w, i32_w]
          rfl
        refine pure_ (i := 12) (N := some 104) (v := ?_) (a' := ?_) #[true, true, true, true, true, true, true, true, true, true, true, true, true, false, false, false, false] rfl rfl (by kernel_rfl) (fun _ _ _ h => h) (Or.inl ⟨by rfl, ?_⟩) ?_ ?_
        rotate_left
        · intro w'
          go_simp
          with_reducible rfl
        rotate_left
        · simp only [Act.put, List.setIfInBounds_toArray, List.set_cons_zero, List.set_cons_succ, i64_w, i32_w]
          rfl
        refine pure_ (i := 13) (N := some 105) (v := ?_) (a' := ?_) #[true, true, true, true, true, true, true, true, true, true, true, true, true, true, false, false, false] rfl rfl (by kernel_rfl) (fun _ _ _ h => h) (Or.inl ⟨by rfl, ?_⟩) ?_ ?_
        rotate_left
        · intro w'
          go_simp
          with_reducible rfl
        rotate_left
        · simp only [Act.put, List.setIfInBounds_toArray, List.set_cons_zero, List.set_cons_succ, i64_w, i32_w]
          rfl
        refine one_ (i := 14) (N := some 106) #[true, true, true, true, true, true, true, true, true, true, true, true, true, true, true, false, false] rfl rfl (by kernel_rfl) (by decide) (fun K hK => ?_)
        refine goes_ Tryd.func20 (by kernel_rfl) rfl #[] (by rfl) rfl rfl (by simp only [List.map_toArray, List.map_cons, List.map_nil]) ?_
        with_reducible refine (awake_calls _ (NumV.Tab.below HT.out HS.out.below)).mono ?_
        rintro e w3 ⟨rfl, hb⟩
        refine ⟨_, rfl, ?_⟩
        have HN := Aside0.mk (HS.out.call hb)
        clear HS
        have HS := HN
        clear HN
        refine hK.out _ _ ⟨(HS.out.cells 2 rfl).1, (HS.out.cells 2 rfl).2, (HS.out.cells 4 rfl).1, (HS.out.cells 4 rfl).2, (HS.out.cells 3 rfl).1, (HS.out.cells 3 rfl).2⟩ (fun hHeld => ?_)
        clear hK K
        refine norm_ (a' := ?_) ?_ ?_
        rotate_left
        · show Act.put _ (some 106) _ = _
          simp only [Act.put, List.setIfInBounds_toArray, List.set_cons_zero, List.set_cons_succ, i64_w, i32_w]
          rfl
        refine pure_ (i := 15) (N := some 107) (v := ?_) (a' := ?_) #[true, true, true, true, true, true, true, true, true, true, true, true, true, true, true, true, false] rfl rfl (by kernel_rfl) (fun _ _ _ h => h) (Or.inl ⟨by rfl, ?_⟩) ?_ ?_
        rotate_left
        · intro w'
          go_simp
          with_reducible rfl
        rotate_left
        · simp only [Act.put, List.setIfInBounds_toArray, List.set_cons_zero, List.set_cons_succ, i64_w, i32_w]
          rfl
        refine pure_ (i := 16) (N := some 2) (v := ?_) (a' := ?_) #[true, true, true, true, true, true, true, true, true, true, true, true, true, true, true, true, true] rfl rfl (by kernel_rfl) (fun _ _ _ h => h) (Or.inl ⟨by rfl, ?_⟩) ?_ ?_
        rotate_left
        · intro w'
          go_simp
          with_reducible rfl
        rotate_left
        · simp only [Act.put, List.setIfInBounds_toArray, List.set_cons_zero, List.set_cons_succ, i64_w, i32_w]
          rfl
        refine done_ (by kernel_rfl) ?_
        go_wp2
        go_ret
        exact ⟨rfl, HS.out.below⟩
    · skip
      have HFQ := Aside0.mk (show num_Fix.f n0 l0 = some (0, false) by rw [HFX.out, if_neg hin])
      by_cases hm : z < 0
      · skip
        have q1 : decide ((vl z).length ≤ 60) = false := decide_eq_false (fun h => absurd (HL60.out.mp h) (by omega))
        have q2 : decide (((vl z).length : Int) ≤ 60) = false := by rw [← q1, decide_eq_decide]; omega
        have vz : vb z = true := decide_eq_true hm
        have HCQ := Aside0.mk (show num_Cmp.f n0 l0 true [0, 268435456] = some (-1) by rw [HCM.out]; unfold cmpI; rw [if_pos (by omega)])
        clear hin hm HFX HCM HL60
        rw [vz] at HS
        have HVZ := Aside0.mk vz
        clear vz
        obtain ⟨un0, un1⟩ := HS.out.cells 4 rfl
        go_wp2_with fail
        refine (num_Fix.calls n0 A0 c0 l0 0 false _ (HS.out.came HR0.out) HC0.out HFQ.out).mono ?_
        rintro e w8_ ⟨rfl, hb⟩
        clear un0 un1
        have HN := Aside0.mk (HS.out.call hb)
        clear HS
        have HS := HN
        clear HN
        clear hb
        obtain ⟨uv0, uv1⟩ := HS.out.cells 2 rfl
        obtain ⟨un0, un1⟩ := HS.out.cells 4 rfl
        go_wp2_with fail
        clear uv0 uv1 un0 un1
        have hg := HS.out.pairs 0 268435456
        try simp only [World.size_alloc] at hg
        refine (num_Cmp.calls n0 A0 c0 l0 true _ 2 [0, 268435456] (-1) _ ((HS.out.alloc _).came HR0.out) HC0.out hg (Nat.le_refl 2) HCQ.out).mono ?_
        rintro e w9_ ⟨rfl, hb⟩
        have HN := Aside0.mk ((HS.out.alloc (.cells #[.int .u32 0, .int .u32 268435456] 63 (0, 0))).call hb)
        clear HS
        have HS := HN
        clear HN
        clear hb hg
        go_wp2
        have HN := Aside0.mk (HS.out.drew)
        clear HS
        have HS := HN
        clear HN
        refine start_ (n := 17) (S := fun w' => w'.cell? ⟨w3_.heap.size, 0, none⟩ = some (.bool true) ∧ w'.cell? ⟨w3_.heap.size, 1, none⟩ = some (.slice Av (vl z).length cv) ∧ w'.cell? ⟨w.heap.size, 0, none⟩ = some (.bool n0) ∧ w'.cell? ⟨w.heap.size, 1, none⟩ = some (.slice A0 l0.length c0) ∧ w'.cell? ⟨w2_.heap.size, 0, none⟩ = some (.bool n0) ∧ w'.cell? ⟨w2_.heap.size, 1, none⟩ = some (.slice Aw l0.length cw)) (ds := []) #[false, false, false, false, false, false, false, false, false, false, false, false, false, false, false, false, false] (by kernel_rfl) rfl rfl ⟨(HS.out.cells 2 rfl).1, (HS.out.cells 2 rfl).2, (HS.out.cells 4 rfl).1, (HS.out.cells 4 rfl).2, (HS.out.cells 3 rfl).1, (HS.out.cells 3 rfl).2⟩ (fun hHeld => ?_)
        refine pure_ (i := 0) (N := some 92) (v := ?_) (a' := ?_) #[true, false, false, false, false, false, false, false, false, false, false, false, false, false, false, false, false] rfl rfl (by kernel_rfl) (fun _ _ _ h => h) (Or.inl ⟨by rfl, ?_⟩) ?_ ?_
        rotate_left
        · intro w'
          go_simp
          with_reducible rfl
        rotate_left
        · simp only [Act.put, List.setIfInBounds_toArray, List.set_cons_zero, List.set_cons_succ, i64_w, i32_w]
          rfl
        refine pure_ (i := 1) (N := some 93) (v := ?_) (a' := ?_) #[true, true, false, false, false, false, false, false, false, false, false, false, false, false, false, false, false] rfl rfl (by kernel_rfl) (fun _ _ _ h => h) (Or.inl ⟨by rfl, ?_⟩) ?_ ?_
        rotate_left
        · intro w'
          go_simp
          with_reducible rfl
        rotate_left
        · simp only [Act.put, List.setIfInBounds_toArray, List.set_cons_zero, List.set_cons_succ, i64_w, i32_w]
          rfl
        refine pure_ (i := 2) (N := some 94) (v := ?_) (a' := ?_) #[true, true, true, false, false, false, false, false, false, false, false, false, false, false, false, false, false] rfl rfl (by kernel_rfl) (fun _ _ _ h => h) (Or.inl ⟨by rfl, ?_⟩) ?_ ?_
        rotate_left
        · intro w'
          go_simp
          with_reducible rfl
        rotate_left
        · simp only [Act.put, List.setIfInBounds_toArray, List.set_cons_zero, List.set_cons_succ, i64_w, i32_w]
          rfl
        refine pure_ (i := 3) (N := some 95) (v := undef) (a' := ?_) #[true, true, true, true, false, false, false, false, false, false, false, false, false, false, false, false, false] rfl rfl (by kernel_rfl) (fun _ _ _ h => h) (Or.inr ⟨by rfl, rfl⟩) ?_ ?_
        rotate_left
        · simp only [Act.put, List.setIfInBounds_toArray, List.set_cons_zero, List.set_cons_succ, i64_w, i32_w]
          rfl
        refine pure_ (i := 4) (N := some 96) (v := undef) (a' := ?_) #[true, true, true, true, true, false, false, false, false, false, false, false, false, false, false, false, false] rfl rfl (by kernel_rfl) (fun _ _ _ h => h) (Or.inr ⟨by rfl, rfl⟩) ?_ ?_
        rotate_left
        · simp only [Act.put, List.setIfInBounds_toArray, List.set_cons_zero, List.set_cons_succ, i64_w, i32_w]
          rfl
        refine pure_ (i := 5) (N := some 97) (v := undef) (a' := ?_) #[true, true, true, true, true, true, false, false, false, false, false, false, false, false, false, false, false] rfl rfl (by kernel_rfl) (fun _ _ _ h => h) (Or.inr ⟨by rfl, rfl⟩) ?_ ?_
        rotate_left
        · simp only [Act.put, List.setIfInBounds_toArray, List.set_cons_zero, List.set_cons_succ, i64_w, i32_w]
          rfl
        refine pure_ (i := 6) (N := some 98) (v := undef) (a' := ?_) #[true, true, true, true, true, true, true, false, false, false, false, false, false, false, false, false, false] rfl rfl (by kernel_rfl) (fun _ _ _ h => h) (Or.inr ⟨by rfl, rfl⟩) ?_ ?_
        rotate_left
        · simp only [Act.put, List.setIfInBounds_toArray, List.set_cons_zero, List.set_cons_succ, i64_w, i32_w]
          rfl
        refine pure_ (i := 7) (N := some 99) (v := ?_) (a' := ?_) #[true, true, true, true, true, true, true, true, false, false, false, false, false, false, false, false, false] rfl rfl (by kernel_rfl) (fun _ _ _ h => h) (Or.inl ⟨by rfl, ?_⟩) ?_ ?_
        rotate_left
        · intro w'
          go_simp
          with_reducible rfl
        rotate_left
        · simp only [Act.put, List.setIfInBounds_toArray, List.set_cons_zero, List.set_cons_succ, i64_w, i32_w]
          rfl
        refine pure_ (i := 8) (N := some 100) (v := ?_) (a' := ?_) #[true, true, true, true, true, true, true, true, true, false, false, false, false, false, false, false, false] rfl rfl (by kernel_rfl) (fun _ _ _ h => h) (Or.inl ⟨by rfl, ?_⟩) ?_ ?_
        rotate_left
        · intro w'
          go_simp
          with_reducible rfl
        rotate_left
        · simp only [Act.put, List.setIfInBounds_toArray, List.set_cons_zero, List.set_cons_succ, i64_w, i32_w]
          rfl
        refine take_ (i := 9) (N := some 101) (v := ?_) (a' := ?_) #[true, true, true, true, true, true, true, true, true, true, false, false, false, false, false, false, false] rfl rfl (by kernel_rfl) (fun _ _ _ h => h) (Or.inl ⟨by rfl, ?_⟩) hHeld ?_ ?_
        rotate_left
        · rintro w' ⟨s0, s1, s2, s3, s4, s5⟩
          go_simp
          with_reducible rfl
        rotate_left
        · simp only [Act.put, List.setIfInBounds_toArray, List.set_cons_zero, List.set_cons_succ, i64_w, i32_w]
          rfl
        refine take_ (i := 10) (N := some 102) (v := ?_) (a' := ?_) #[true, true, true, true, true, true, true, true, true, true, true, false, false, false, false, false, false] rfl rfl (by kernel_rfl) (fun _ _ _ h => h) (Or.inl ⟨by rfl, ?_⟩) hHeld ?_ ?_
        rotate_left
        · rintro w' ⟨s0, s1, s2, s3, s4, s5⟩
          go_simp
          with_reducible rfl
        rotate_left
        · simp only [Act.put, List.setIfInBounds_toArray, List.set_cons_zero, List.set_cons_succ, i64_w, i32_w]
          rfl
        refine one_ (i := 11) (N := some 103) #[true, true, true, true, true, true, true, true, true, true, true, true, false, false, false, false, false] rfl rfl (by kernel_rfl) (by decide) (fun K hK => ?_)
        refine goes_ Tryd.func17 (by kernel_rfl) rfl #[.agg #[.bool n0, .slice A0 l0.length c0], .agg #[.bool n0, .slice Aw l0.length cw]] (by rfl) rfl rfl (by simp only [List.map_toArray, List.map_cons, List.map_nil]; rfl) ?_
        with_reducible refine (same_calls n0 l0 HKL.out A0 c0 Aw cw _ (HS.out.came HR0.out) HC0.out (HS.out.limbs 0 rfl).2.2 (HS.out.limbs 0 rfl).2.1).mono ?_
        rintro e w3 ⟨rfl, hb⟩
        refine ⟨_, rfl, ?_⟩
        have HN := Aside0.mk (HS.out.call hb)
        clear HS
        have HS := HN
        clear HN
        refine hK.out _ _ ⟨(HS.out.cells 2 rfl).1, (HS.out.cells 2 rfl).2, (HS.out.cells 4 rfl).1, (HS.out.cells 4 rfl).2, (HS.out.cells 3 rfl).1, (HS.out.cells 3 rfl).2⟩ (fun hHeld => ?_)
        clear hK K
        refine norm_ (a' := ?_) ?_ ?_
        rotate_left
        · show Act.put _ (some 103) _ = _
          simp only [Act.put, List.setIfInBounds_toArray, List.set_cons_zero, List.set_cons_succ, i64_w, i32_w]
          rfl
        refine pure_ (i := 12) (N := some 104) (v := ?_) (a' := ?_) #[true, true, true, true, true, true, true, true, true, true, true, true, true, false, false, false, false] rfl rfl (by kernel_rfl) (fun _ _ _ h => h) (Or.inl ⟨by rfl, ?_⟩) ?_ ?_
        rotate_left
        · intro w'
          go_simp
          with_reducible rfl
        rotate_left
        · simp only [Act.put, List.setIfInBounds_toArray, List.set_cons_zero, List.set_cons_succ, i64_w, i32_w]
          rfl
        refine pure_ (i := 13) (N := some 105) (v := ?_) (a' := ?_) #[true, true, true, true, true, true, true, true, true, true, true, true, true, true, false, false, false] rfl rfl (by kernel_rfl) (fun _ _ _ h => h) (Or.inl ⟨by rfl, ?_⟩) ?_ ?_
        rotate_left
        · intro w'
          go_simp
          with_reducible rfl
        rotate_left
        · simp only [Act.put, List.setIfInBounds_toArray, List.set_cons_zero, List.set_cons_succ, i64_w, i32_w]
          rfl
        refine one_ (i := 14) (N := some 106) #[true, true, true, true, true, true, true, true, true, true, true, true, true, true, true, false, false] rfl rfl (by kernel_rfl) (by decide) (fun K hK => ?_)
        refine goes_ Tryd.func20 (by kernel_rfl) rfl #[] (by rfl) rfl rfl (by simp only [List.map_toArray, List.map_cons, List.map_nil]) ?_
        with_reducible refine (awake_calls _ (NumV.Tab.below HT.out HS.out.below)).mono ?_
        rintro e w3 ⟨rfl, hb⟩
        refine ⟨_, rfl, ?_⟩
        have HN := Aside0.mk (HS.out.call hb)
        clear HS
        have HS := HN
        clear HN
        refine hK.out _ _ ⟨(HS.out.cells 2 rfl).1, (HS.out.cells 2 rfl).2, (HS.out.cells 4 rfl).1, (HS.out.cells 4 rfl).2, (HS.out.cells 3 rfl).1, (HS.out.cells 3 rfl).2⟩ (fun hHeld => ?_)
        clear hK K
        refine norm_ (a' := ?_) ?_ ?_
        rotate_left
        · show Act.put _ (some 106) _ = _
          simp only [Act.put, List.setIfInBounds_toArray, List.set_cons_zero, List.set_cons_succ, i64_w, i32_w]
          rfl
        refine pure_ (i := 15) (N := some 107) (v := ?_) (a' := ?_) #[true, true, true, true, true, true, true, true, true, true, true, true, true, true, true, true, false] rfl rfl (by kernel_rfl) (fun _ _ _ h => h) (Or.inl ⟨by rfl, ?_⟩) ?_ ?_
        rotate_left
        · intro w'
          go_simp
          with_reducible rfl
        rotate_left
        · simp only [Act.put, List.setIfInBounds_toArray, List.set_cons_zero, List.set_cons_succ, i64_w, i32_w]
          rfl
        refine pure_ (i := 16) (N := some 2) (v := ?_) (a' := ?_) #[true, true, true, true, true, true, true, true, true, true, true, true, true, true, true, true, true] rfl rfl (by kernel_rfl) (fun _ _ _ h => h) (Or.inl ⟨by rfl, ?_⟩) ?_ ?_
        rotate_left
        · intro w'
          go_simp
          with_reducible rfl
        rotate_left
        · simp only [Act.put, List.setIfInBounds_toArray, List.set_cons_zero, List.set_cons_succ, i64_w, i32_w]
          rfl
        refine done_ (by kernel_rfl) ?_
        go_wp2
        go_ret
        exact ⟨rfl, HS.out.below⟩
      · skip
        have q1 : decide ((vl z).length ≤ 60) = false := decide_eq_false (fun h => absurd (HL60.out.mp h) (by omega))
        have q2 : decide (((vl z).length : Int) ≤ 60) = false := by rw [← q1, decide_eq_decide]; omega
        have vz : vb z = false := decide_eq_false hm
        clear hin hm HFX HCM HL60
        rw [vz] at HS
        have HVZ := Aside0.mk vz
        clear vz
        obtain ⟨un0, un1⟩ := HS.out.cells 4 rfl
        go_wp2_with fail
        refine (num_Fix.calls n0 A0 c0 l0 0 false _ (HS.out.came HR0.out) HC0.out HFQ.out).mono ?_
        rintro e w8_ ⟨rfl, hb⟩
        clear un0 un1
        have HN := Aside0.mk (HS.out.call hb)
        clear HS
        have HS := HN
        clear HN
        clear hb
        obtain ⟨uv0, uv1⟩ := HS.out.cells 2 rfl
        go_wp2
        have HN := Aside0.mk (HS.out.drew)
        clear HS
        have HS := HN
        clear HN
        refine start_ (n := 17) (S := fun w' => w'.cell? ⟨w3_.heap.size, 0, none⟩ = some (.bool false) ∧ w'.cell? ⟨w3_.heap.size, 1, none⟩ = some (.slice Av (vl z).length cv) ∧ w'.cell? ⟨w.heap.size, 0, none⟩ = some (.bool n0) ∧ w'.cell? ⟨w.heap.size, 1, none⟩ = some (.slice A0 l0.length c0) ∧ w'.cell? ⟨w2_.heap.size, 0, none⟩ = some (.bool n0) ∧ w'.cell? ⟨w2_.heap.size, 1, none⟩ = some (.slice Aw l0.length cw)) (ds := []) #[false, false, false, false, false, false, false, false, false, false, false, false, false, false, false, false, false] (by kernel_rfl) rfl rfl ⟨(HS.out.cells 2 rfl).1, (HS.out.cells 2 rfl).2, (HS.out.cells 4 rfl).1, (HS.out.cells 4 rfl).2, (HS.out.cells 3 rfl).1, (HS.out.cells 3 rfl).2⟩ (fun hHeld => ?_)
        refine pure_ (i := 0) (N := some 92) (v := ?_) (a' := ?_) #[true, false, false, false, false, false, false, false, false, false, false, false, false, false, false, false, false] rfl rfl (by kernel_rfl) (fun _ _ _ h => h) (Or.inl ⟨by rfl, ?_⟩) ?_ ?_
        rotate_left
        · intro w'
          go_simp
          with_reducible rfl
        rotate_left
        · simp only [Act.put, List.setIfInBounds_toArray, List.set_cons_zero, List.set_cons_succ, i64_w, i32_w]
          rfl
        refine pure_ (i := 1) (N := some 93) (v := ?_) (a' := ?_) #[true, true, false, false, false, false, false, false, false, false, false, false, false, false, false, false, false] rfl rfl (by kernel_rfl) (fun _ _ _ h => h) (Or.inl ⟨by rfl, ?_⟩) ?_ ?_
        rotate_left
        · intro w'
          go_simp
          with_reducible rfl
        rotate_left
        · simp only [Act.put, List.setIfInBounds_toArray, List.set_cons_zero, List.set_cons_succ, i64_w, i32_w]
          rfl
        refine pure_ (i := 2) (N := some 94) (v := ?_) (a' := ?_) #[true, true, true, false, false, false, false, false, false, false, false, false, false, false, false, false, false] rfl rfl (by kernel_rfl) (fun _ _ _ h => h) (Or.inl ⟨by rfl, ?_⟩) ?_ ?_
        rotate_left
        · intro w'
          go_simp
          with_reducible rfl
        rotate_left
        · simp only [Act.put, List.setIfInBounds_toArray, List.set_cons_zero, List.set_cons_succ, i64_w, i32_w]
          rfl
        refine pure_ (i := 3) (N := some 95) (v := undef) (a' := ?_) #[true, true, true, true, false, false, false, false, false, false, false, false, false, false, false, false, false] rfl rfl (by kernel_rfl) (fun _ _ _ h => h) (Or.inr ⟨by rfl, rfl⟩) ?_ ?_
        rotate_left
        · simp only [Act.put, List.setIfInBounds_toArray, List.set_cons_zero, List.set_cons_succ, i64_w, i32_w]
          rfl
        refine pure_ (i := 4) (N := some 96) (v := undef) (a' := ?_) #[true, true, true, true, true, false, false, false, false, false, false, false, false, false, false, false, false] rfl rfl (by kernel_rfl) (fun _ _ _ h => h) (Or.inr ⟨by rfl, rfl⟩) ?_ ?_
        rotate_left
        · simp only [Act.put, List.setIfInBounds_toArray, List.set_cons_zero, List.set_cons_succ, i64_w, i32_w]
          rfl
        refine pure_ (i := 5) (N := some 97) (v := undef) (a' := ?_) #[true, true, true, true, true, true, false, false, false, false, false, false, false, false, false, false, false] rfl rfl (by kernel_rfl) (fun _ _ _ h => h) (Or.inr ⟨by rfl, rfl⟩) ?_ ?_
        rotate_left
        · simp only [Act.put, List.setIfInBounds_toArray, List.set_cons_zero, List.set_cons_succ, i64_w, i32_w]
          rfl
        refine pure_ (i := 6) (N := some 98) (v := undef) (a' := ?_) #[true, true, true, true, true, true, true, false, false, false, false, false, false, false, false, false, false] rfl rfl (by kernel_rfl) (fun _ _ _ h => h) (Or.inr ⟨by rfl, rfl⟩) ?_ ?_
        rotate_left
        · simp only [Act.put, List.setIfInBounds_toArray, List.set_cons_zero, List.set_cons_succ, i64_w, i32_w]
          rfl
        refine pure_ (i := 7) (N := some 99) (v := ?_) (a' := ?_) #[true, true, true, true, true, true, true, true, false, false, false, false, false, false, false, false, false] rfl rfl (by kernel_rfl) (fun _ _ _ h => h) (Or.inl ⟨by rfl, ?_⟩) ?_ ?_
        rotate_left
        · intro w'
          go_simp
          with_reducible rfl
        rotate_left
        · simp only [Act.put, List.setIfInBounds_toArray, List.set_cons_zero, List.set_cons_succ, i64_w, i32_w]
          rfl
        refine pure_ (i := 8) (N := some 100) (v := ?_) (a' := ?_) #[true, true, true, true, true, true, true, true, true, false, false, false, false, false, false, false, false] rfl rfl (by kernel_rfl) (fun _ _ _ h => h) (Or.inl ⟨by rfl, ?_⟩) ?_ ?_
        rotate_left
        · intro w'
          go_simp
          with_reducible rfl
        rotate_left
        · simp only [Act.put, List.setIfInBounds_toArray, List.set_cons_zero, List.set_cons_succ, i64_w, i32_w]
          rfl
        refine take_ (i := 9) (N := some 101) (v := ?_) (a' := ?_) #[true, true, true, true, true, true, true, true, true, true, false, false, false, false, false, false, false] rfl rfl (by kernel_rfl) (fun _ _ _ h => h) (Or.inl ⟨by rfl, ?_⟩) hHeld ?_ ?_
        rotate_left
        · rintro w' ⟨s0, s1, s2, s3, s4, s5⟩
          go_simp
          with_reducible rfl
        rotate_left
        · simp only [Act.put, List.setIfInBounds_toArray, List.set_cons_zero, List.set_cons_succ, i64_w, i32_w]
          rfl
        refine take_ (i := 10) (N := some 102) (v := ?_) (a' := ?_) #[true, true, true, true, true, true, true, true, true, true, true, false, false, false, false, false, false] rfl rfl (by kernel_rfl) (fun _ _ _ h => h) (Or.inl ⟨by rfl, ?_⟩) hHeld ?_ ?_
        rotate_left
        · rintro w' ⟨s0, s1, s2, s3, s4, s5⟩
          go_simp
          with_reducible rfl
        rotate_left
        · simp only [Act.put, List.setIfInBounds_toArray, List.set_cons_zero, List.set_cons_succ, i64_w, i32_w]
          rfl
        refine one_ (i := 11) (N := some 103) #[true, true, true, true, true, true, true, true, true, true, true, true, false, false, false, false, false] rfl rfl (by kernel_rfl) (by decide) (fun K hK => ?_)
        refine goes_ Tryd.func17 (by kernel_rfl) rfl #[.agg #[.bool n0, .slice A0 l0.length c0], .agg #[.bool n0, .slice Aw l0.length cw]] (by rfl) rfl rfl (by simp only [List.map_toArray, List.map_cons, List.map_nil]; rfl) ?_
        with_reducible refine (same_calls n0 l0 HKL.out A0 c0 Aw cw _ (HS.out.came HR0.out) HC0.out (HS.out.limbs 0 rfl).2.2 (HS.out.limbs 0 rfl).2.1).mono ?_
        rintro e w3 ⟨rfl, hb⟩
        refine ⟨_, rfl, ?_⟩
        have HN := Aside0.mk (HS.out.call hb)
        clear HS
        have HS := HN
        clear HN
        refine hK.out _ _ ⟨(HS.out.cells 2 rfl).1, (HS.out.cells 2 rfl).2, (HS.out.cells 4 rfl).1, (HS.out.cells 4 rfl).2, (HS.out.cells 3 rfl).1, (HS.out.cells 3 rfl).2⟩ (fun hHeld => ?_)
        clear hK K
        refine norm_ (a' := ?_) ?_ ?_
        rotate_left
        · show Act.put _ (some 103) _ = _
          simp only [Act.put, List.setIfInBounds_toArray, List.set_cons_zero, List.set_cons_succ, i64_w, i32_w]
          rfl
        refine pure_ (i := 12) (N := some 104) (v := ?_) (a' := ?_) #[true, true, true, true, true, true, true, true, true, true, true, true, true, false, false, false, false] rfl rfl (by kernel_rfl) (fun _ _ _ h => h) (Or.inl ⟨by rfl, ?_⟩) ?_ ?_
        rotate_left
        · intro w'
          go_simp
          with_reducible rfl
        rotate_left
        · simp only [Act.put, List.setIfInBounds_toArray, List.set_cons_zero, List.set_cons_succ, i64_w, i32_w]
          rfl
        refine pure_ (i := 13) (N := some 105) (v := ?_) (a' := ?_) #[true, true, true, true, true, true, true, true, true, true, true, true, true, true, false, false, false] rfl rfl (by kernel_rfl) (fun _ _ _ h => h) (Or.inl ⟨by rfl, ?_⟩) ?_ ?_
        rotate_left
        · intro w'
          go_simp
          with_reducible rfl
        rotate_left
        · simp only [Act.put, List.setIfInBounds_toArray, List.set_cons_zero, List.set_cons_succ, i64_w, i32_w]
          rfl
        refine one_ (i := 14) (N := some 106) #[true, true, true, true, true, true, true, true, true, true, true, true, true, true, true, false, false] rfl rfl (by kernel_rfl) (by decide) (fun K hK => ?_)
        refine goes_ Tryd.func20 (by kernel_rfl) rfl #[] (by rfl) rfl rfl (by simp only [List.map_toArray, List.map_cons, List.map_nil]) ?_
        with_reducible refine (awake_calls _ (NumV.Tab.below HT.out HS.out.below)).mono ?_
        rintro e w3 ⟨rfl, hb⟩
        refine ⟨_, rfl, ?_⟩
        have HN := Aside0.mk (HS.out.call hb)
        clear HS
        have HS := HN
        clear HN
        refine hK.out _ _ ⟨(HS.out.cells 2 rfl).1, (HS.out.cells 2 rfl).2, (HS.out.cells 4 rfl).1, (HS.out.cells 4 rfl).2, (HS.out.cells 3 rfl).1, (HS.out.cells 3 rfl).2⟩ (fun hHeld => ?_)
        clear hK K
        refine norm_ (a' := ?_) ?_ ?_
        rotate_left
        · show Act.put _ (some 106) _ = _
          simp only [Act.put, List.setIfInBounds_toArray, List.set_cons_zero, List.set_cons_succ, i64_w, i32_w]
          rfl
        refine pure_ (i := 15) (N := some 107) (v := ?_) (a' := ?_) #[true, true, true, true, true, true, true, true, true, true, true, true, true, true, true, true, false] rfl rfl (by kernel_rfl) (fun _ _ _ h => h) (Or.inl ⟨by rfl, ?_⟩) ?_ ?_
        rotate_left
        · intro w'
          go_simp
          with_reducible rfl
        rotate_left
        · simp only [Act.put, List.setIfInBounds_toArray, List.set_cons_zero, List.set_cons_succ, i64_w, i32_w]
          rfl
        refine pure_ (i := 16) (N := some 2) (v := ?_) (a' := ?_) #[true, true, true, true, true, true, true, true, true, true, true, true, true, true, true, true, true] rfl rfl (by kernel_rfl) (fun _ _ _ h => h) (Or.inl ⟨by rfl, ?_⟩) ?_ ?_
        rotate_left
        · intro w'
          go_simp
          with_reducible rfl
        rotate_left
        · simp only [Act.put, List.setIfInBounds_toArray, List.set_cons_zero, List.set_cons_succ, i64_w, i32_w]
          rfl
        refine done_ (by kernel_rfl) ?_
        go_wp2
        go_ret
        exact ⟨rfl, HS.out.below⟩
end Go.Proofs.YthhpnlbeniihhaaDoor.WalkMay
namespace Go.Proofs.YthhpnlbeniihhaaDoor.numMay
open Go.ChangeShapes Go.WideShapes Go.ChangeAt Go.RowKit Go.Proofs.YthhpnlbeniihhaaDoor.Limb Go.Proofs.YthhpnlbeniihhaaDoor.Row
open Go.ChangeMaps (open_string shut_string)
set_option linter.unusedVariables false
theorem own : ownKnob Tryd.prog.godebug = none := by kernel_rfl
set_option maxRecDepth 100000 in
theorem contract (H : Type) (enc : TypeId × Value → H) (W : World) (base : Nat) (args : Array Value) (ds gs : List (DataW H)) (before : List MemPlace)
    (hval : ∀ (j : Nat) t v, Tryd.f13.params[j]? = some t → args[j]? = some v → Value.okWide Tryd.prog W .any base t v)
    (hW : DataW.Whole enc Tryd.prog Tryd.f13.params.toList Rows.numMaySpec.vars false W args.toList ds gs before)
    (hsz0 : (DataW.weightsEach Tryd.prog (Tryd.f13.params.toList ++ Rows.numMaySpec.plain.varTypes Tryd.prog) (ds ++ gs)).all (· ≤ reachBytes) = true) (hL : laidMetH Tryd.prog Rows.numMayRow.laid W) :
    Calls Tryd.prog 13 args W fun e W' => ∃ v, e = .returned v ∧ Rows.numMaySpec.post enc Tryd.prog Tryd.f13 false true false false W args v W' := by
  have ht : NumV.Tab W := tab hL
  have hsz : (DataW.weightsEach Tryd.prog (Tryd.f13.params.toList ++ Rows.numMaySpec.plain.varTypes Tryd.prog) (ds ++ gs)).all (· ≤ reachBytes) = true := hsz0
  have hW' := hW
  obtain ⟨p, q, hA0, hV, rfl, hfz, hnd⟩ := hW
  have hA : DataW.TrodAll enc Tryd.prog W 0 (fun _ => true) true Tryd.f13.params.toList args.toList ds p := hA0
  rw [Tryd.params13] at hA hval hsz
  obtain ⟨v0, vs0, d0, ds0, p0, q0, hargs, rfl, rfl, h0, r0⟩ := trodAll_cons hA
  obtain ⟨rfl, rfl, rfl⟩ := trodAll_nil r0
  obtain rfl : args = #[v0] := by cases args; simp_all
  obtain ⟨rfl, rfl⟩ := trodVars_none hV
  have k0 := h0
  have lt0 : ∀ x ∈ p0, x.block < W.heap.size := by obtain ⟨m, hm⟩ := k0; exact DataW.trod_lt m _ _ _ hm
  obtain ⟨n0, A0, c0, l0, rfl, ok0, hc0, hr0, bg0⟩ := open_num (hval 0 25 v0 rfl rfl) h0
  refine (WalkMay.walk n0 A0 c0 l0 W hr0 hc0 ok0 ht).mono fun e W' ⟨he, bel⟩ => ?_
  subst he
  exact ⟨_, rfl, _, _, _, [], _, [], hW', trodAll_mk1 (shut_bool Tryd.underlying4 _), (trodAll_cons_mk (Below.trod laidOut (by kernel_rfl) (of_decide_eq_true (by kernel_rfl)) k0 bel lt0) trodAll_mk0), rfl, bel.frame _, fun h => by cases h⟩
theorem reads (os : Os) {H : Type} (enc : TypeId × Value → H) : ∃ places, DataW.whole enc Tryd.prog ((laidWorld os).forCall (fun _ _ => 0) ⟨#[], #[.agg #[.bool false, .slice none 0 0]], []⟩).memory Tryd.f13.params.toList Rows.numMaySpec.vars false (#[.agg #[.bool false, .slice none 0 0]] : Array Value).toList 8 = some ([.agg [.lit (.bool false), .nil]], [], places) :=
  ⟨[], by kernel_rfl⟩
set_option maxRecDepth 100000 in
theorem lifted (os : Os) (started : os.Started) (H : Type) (enc : TypeId × Value → H) (F : Stop.Interp) :
    ReturnsInHanded {} Tryd.checked os 13 .any ((OpenSpec.ofChange Rows.numMaySpec).preRow enc Tryd.prog Tryd.f13 Rows.numMayRow.domain false Rows.numMayRow.laid) (((OpenSpec.ofChange Rows.numMaySpec).at F).post enc Tryd.prog Tryd.f13 false true false false) := by
  obtain ⟨places, hx⟩ := reads os enc
  refine returnsInHanded_of_row (C := Tryd.checked) (s := OpenSpec.ofChange Rows.numMaySpec) own started (by kernel_rfl) Tryd.func13
    (witness_row_at (enc := enc) (C := Tryd.checked) false (laidWorld os) #[.agg #[.bool false, .slice none 0 0]] rfl (by kernel_rfl) (by kernel_rfl) (by kernel_rfl)
      (OpenSpec.preRow_of_cond 8 hx (by kernel_rfl) (fun k hk => by cases hk) (by kernel_rfl) (laid_met os _))) ?_
  intro W base args ds gs before hval hW _ _ hsz hL _ _
  exact contract H enc W base args ds gs before hval hW hsz hL
theorem said : Rows.NumMaySaid :=
  OpenClaim.holds_of_cond 13 Tryd.f13 rfl rfl rfl rfl rfl rfl rfl ⟨rfl, rfl, rfl, rfl, rfl⟩ rfl rfl rfl rfl rfl (by kernel_rfl) Tryd.func13 (by kernel_rfl)
    (of_decide_eq_true (by kernel_rfl)) (by unfold Func.isWrapper; first | (rw [if_pos (by decide +kernel)]; kernel_rfl) | (rw [if_neg (by decide +kernel)]; exact ⟨rfl, rfl⟩))
    (fun os started H enc _ F => by rw [OpenClaim.pre_eq_preRow]; exact lifted os started H enc F)
theorem plain (f : FuncId) (fn : Func) (hf : Tryd.pinned.checked.prog.funcNamed "moraine/morainelaw02.NumMay" = some f) (hfn : Tryd.pinned.checked.prog.funcs[f]? = some fn) :
    false = Tryd.pinned.checked.prog.looks [] ∧ ∀ (j : Nat) t, fn.params[j]? = some t → Tryd.pinned.checked.prog.wantsStandIn t = false := by
  obtain rfl : f = 13 := Option.some.inj ((show Tryd.prog.funcNamed "moraine/morainelaw02.NumMay" = some 13 by kernel_rfl).symm.trans hf) |>.symm
  obtain rfl : fn = Tryd.f13 := (Option.some.inj (Tryd.func13.symm.trans hfn)).symm
  refine ⟨by kernel_rfl, fun j t ht => ?_⟩
  rw [Tryd.params13] at ht
  have hm : t ∈ (#[25] : Array TypeId) := Array.mem_of_getElem? ht
  obtain rfl : t = 25 := by simpa using hm
  exact (show Tryd.prog.wantsStandIn 25 = false by kernel_rfl)
/-- The tied card. -/
theorem card : Rows.NumMayCardSaid :=
  Claim7.holds_tied_plain_at .later [] _ _ _ _ said (fun _ h => by cases h) (by kernel_rfl) (fun _ h => by cases h) numMay_row_tie rfl ⟨rfl, rfl⟩ (by kernel_rfl) rfl plain (by kernel_rfl)
end Go.Proofs.YthhpnlbeniihhaaDoor.numMay
namespace Go.Proofs.YthhpnlbeniihhaaDoor
/-- Of any number: whether it may be, the one that may, its sign, whether it fits, the one with the other sign (law NumMay). -/
theorem numMay_holds : Rows.NumMayCardSaid := numMay.card
end Go.Proofs.YthhpnlbeniihhaaDoor
