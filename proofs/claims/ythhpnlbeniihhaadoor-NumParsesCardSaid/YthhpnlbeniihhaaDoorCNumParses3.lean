/- Contracts and plain laws that the row's proof uses (part 3). Conditions: those that each states. -/
import Derived.Test.YthhpnlbeniihhaaDoorProg
import Derived.Below
import Derived.Deep.Draws
import Derived.Deep.AppendLies
import Derived.Maps.AppendAt
import Derived.OwnWalk
import Derived.Laws.BytesArg
import Derived.Laws.MakeOwn
import Derived.Laws.OwnMore
import Derived.Deep.OwnRows
import Derived.Tactics
import Derived.Lib.ConvBytes
import Derived.Laws.Slices
import Derived.WalkKit
import Derived.KernelRfl
import Derived.RowKit3
import Derived.Deep.LoopGhost
import Derived.Deep.QuietTactic
import Derived.BigQuiet
import Derived.WideLaws
import Derived.Deep.DeepCutAuto
import Derived.Deep.CutBlock
import Derived.Deep.RegionHeld3
import Derived.Laws.Rows
import Derived.Lib.AppendStr
import Derived.ArgAppend
import Derived.Laws.IdiomCopy
import Derived.OrdersHeld
import Derived.Laws.BitsLemmas
import Derived.RowKit
import Derived.Test.YthhpnlbeniihhaaDoorCNumParses2
-- Printed by a program of this session's (wip/tools/printr.py, over the kit's print program).
namespace Go.Proofs.YthhpnlbeniihhaaDoor.PRef
open Go.RowKit Go.Proofs.YthhpnlbeniihhaaDoorW.PrintWords Go.Proofs.YthhpnlbeniihhaaDoorW.PrintLast Go.Proofs.YthhpnlbeniihhaaDoorW.PrintMore
attribute [local go_sem] max2_int min2_int max_two min_two max_three min_three max_four min_four   -- for this text's walks alone
set_option linter.unusedVariables false
set_option linter.unusedSimpArgs false
mutual
def moraineref02_Same.j0 : Nat → Bool → Bool → List Int → Bool → List Int → Option (Bool)
 | 0, _, _, _, _, _ => none
 | k + 1, x19, x102000, x102001, x103000, x103001 => if x19 = true then (some false) else (moraineref02_Same.l0 k 0 x102000 x102001 x103000 x103001)
def moraineref02_Same.l0 : Nat → Int → Bool → List Int → Bool → List Int → Option (Bool)
 | 0, _, _, _, _, _ => none
 | k + 1, x5, x102000, x102001, x103000, x103001 => if x5 < (x102001.length : Int) then (if 0 ≤ x5 then (if x5 < (x103001.length : Int) then (if (rd x102001 x5) = (rd x103001 x5) then (moraineref02_Same.l0 k (wrap64 (x5 + 1)) x102000 x102001 x103000 x103001) else (some false)) else (none)) else (none)) else (some true)
end
def moraineref02_Same.f (k : Nat) (a0_0 : Bool) (l0_1 : List Int) (a1_0 : Bool) (l1_1 : List Int) : Option (Bool) := if (a0_0 != a1_0) = true then (moraineref02_Same.j0 k true a0_0 l0_1 a1_0 l1_1) else (moraineref02_Same.j0 k ((l0_1.length : Int) != (l1_1.length : Int)) a0_0 l0_1 a1_0 l1_1)
set_option maxHeartbeats 8000000 in
set_option maxRecDepth 100000 in
theorem moraineref02_Same.calls (k : Nat) (a0_0 : Bool) (A0_1 : Option Addr) (c0_1 : Nat) (l0_1 : List Int) (a1_0 : Bool) (A1_1 : Option Addr) (c1_1 : Nat) (l1_1 : List Int) (r : Bool) (w : World) (hr0_1 : Kd.C (Kd.int .u32) w A0_1 l0_1.length l0_1) (hc0_1 : l0_1.length ≤ c0_1) (hr1_1 : Kd.C (Kd.int .u32) w A1_1 l1_1.length l1_1) (hc1_1 : l1_1.length ≤ c1_1) (h : moraineref02_Same.f k a0_0 l0_1 a1_0 l1_1 = some r) :
  Calls Tryd.prog 17 #[.agg #[.bool a0_0, .slice A0_1 l0_1.length c0_1], .agg #[.bool a1_0, .slice A1_1 l1_1.length c1_1]] w fun e w' => e = .returned (.bool r) ∧ Below w.heap.size w w' := by
 have hu25 := Tryd.underlying25
 have HR0_1 := Aside0.mk hr0_1
 have HC0_1 := Aside0.mk hc0_1
 clear hr0_1 hc0_1
 have HR1_1 := Aside0.mk hr1_1
 have HC1_1 := Aside0.mk hc1_1
 clear hr1_1 hc1_1
 have HB := Aside0.mk (Below.refl w.heap.size w)
 have H : (if (a0_0 != a1_0) = true then (moraineref02_Same.j0 k true a0_0 l0_1 a1_0 l1_1) else (moraineref02_Same.j0 k ((l0_1.length : Int) != (l1_1.length : Int)) a0_0 l0_1 a1_0 l1_1)) = some r := h
 clear h
 have HC3 := Aside0.mk H
 clear H
 go_enter Tryd.func17, Tryd.ntmps17
 go_upto_region 1 with (first | ((with_reducible refine gate_dst (N := 2) rfl ?_); (try (refine gate_guard (by rfl) ?_; dsimp only)); refine box_event ?hg (N := 2) ?hd (cs := #[.bool a0_0, .slice A0_1 l0_1.length c0_1]) (t := 25) ?hr ?_; (case hd => rfl); (case hg => rfl); (case hr => go_simp <;> rfl); intro gb101 hg w4 hbox hb; have BK101 := Aside0.mk (hbox); have GW101 := qg hg (by repeat (first | (with_reducible first | exact HB.out | apply qx | apply qv | apply qw) | exact HB.out)); have GE101 := GW101; replace HB := Aside0.mk (below_step (by repeat (first | (with_reducible first | exact HB.out | apply qx | apply qv | apply qw) | exact HB.out)) hb); clear hb hbox hg) | ((with_reducible refine gate_dst (N := 3) rfl ?_); (try (refine gate_guard (by rfl) ?_; dsimp only)); refine box_event ?hg (N := 3) ?hd (cs := #[.bool a1_0, .slice A1_1 l1_1.length c1_1]) (t := 25) ?hr ?_; (case hd => rfl); (case hg => rfl); (case hr => go_simp <;> rfl); intro gb102 hg w5 hbox hb; have BK102 := Aside0.mk (hbox); have GW102 := qg hg (by repeat (first | (with_reducible first | exact HB.out | apply qx | apply qv | apply qw | refine below_set ?_ GE101.out) | exact HB.out)); have GE102 := GW102; replace HB := Aside0.mk (below_step (by repeat (first | (with_reducible first | exact HB.out | apply qx | apply qv | apply qw | refine below_set ?_ GE101.out) | exact HB.out)) hb); have NB101_102 := qn BK101 hg; have NB102_101 := qm BK101 hg; replace BK101 := qb BK101 hb; clear hb hbox hg))
 repeat (go_quiet (first | ((with_reducible refine gate_dst (N := 2) rfl ?_); (try (refine gate_guard (by rfl) ?_; dsimp only)); refine box_event ?hg (N := 2) ?hd (cs := #[.bool a0_0, .slice A0_1 l0_1.length c0_1]) (t := 25) ?hr ?_; (case hd => rfl); (case hg => rfl); (case hr => go_simp <;> rfl); intro gb101 hg w4 hbox hb; have BK101 := Aside0.mk (hbox); have GW101 := qg hg (by repeat (first | (with_reducible first | exact HB.out | apply qx | apply qv | apply qw) | exact HB.out)); have GE101 := GW101; replace HB := Aside0.mk (below_step (by repeat (first | (with_reducible first | exact HB.out | apply qx | apply qv | apply qw) | exact HB.out)) hb); clear hb hbox hg) | ((with_reducible refine gate_dst (N := 3) rfl ?_); (try (refine gate_guard (by rfl) ?_; dsimp only)); refine box_event ?hg (N := 3) ?hd (cs := #[.bool a1_0, .slice A1_1 l1_1.length c1_1]) (t := 25) ?hr ?_; (case hd => rfl); (case hg => rfl); (case hr => go_simp <;> rfl); intro gb102 hg w5 hbox hb; have BK102 := Aside0.mk (hbox); have GW102 := qg hg (by repeat (first | (with_reducible first | exact HB.out | apply qx | apply qv | apply qw | refine below_set ?_ GE101.out) | exact HB.out)); have GE102 := GW102; replace HB := Aside0.mk (below_step (by repeat (first | (with_reducible first | exact HB.out | apply qx | apply qv | apply qw | refine below_set ?_ GE101.out) | exact HB.out)) hb); have NB101_102 := qn BK101 hg; have NB102_101 := qm BK101 hg; replace BK101 := qb BK101 hb; clear hb hbox hg)); go_upto_region 1 with (first | ((with_reducible refine gate_dst (N := 2) rfl ?_); (try (refine gate_guard (by rfl) ?_; dsimp only)); refine box_event ?hg (N := 2) ?hd (cs := #[.bool a0_0, .slice A0_1 l0_1.length c0_1]) (t := 25) ?hr ?_; (case hd => rfl); (case hg => rfl); (case hr => go_simp <;> rfl); intro gb101 hg w4 hbox hb; have BK101 := Aside0.mk (hbox); have GW101 := qg hg (by repeat (first | (with_reducible first | exact HB.out | apply qx | apply qv | apply qw) | exact HB.out)); have GE101 := GW101; replace HB := Aside0.mk (below_step (by repeat (first | (with_reducible first | exact HB.out | apply qx | apply qv | apply qw) | exact HB.out)) hb); clear hb hbox hg) | ((with_reducible refine gate_dst (N := 3) rfl ?_); (try (refine gate_guard (by rfl) ?_; dsimp only)); refine box_event ?hg (N := 3) ?hd (cs := #[.bool a1_0, .slice A1_1 l1_1.length c1_1]) (t := 25) ?hr ?_; (case hd => rfl); (case hg => rfl); (case hr => go_simp <;> rfl); intro gb102 hg w5 hbox hb; have BK102 := Aside0.mk (hbox); have GW102 := qg hg (by repeat (first | (with_reducible first | exact HB.out | apply qx | apply qv | apply qw | refine below_set ?_ GE101.out) | exact HB.out)); have GE102 := GW102; replace HB := Aside0.mk (below_step (by repeat (first | (with_reducible first | exact HB.out | apply qx | apply qv | apply qw | refine below_set ?_ GE101.out) | exact HB.out)) hb); have NB101_102 := qn BK101 hg; have NB102_101 := qm BK101 hg; replace BK101 := qb BK101 hb; clear hb hbox hg)))
 (try simp only [Act.put, zA, zB, zC])
 go_cut [19] (fun v19 wc => ∃ (kq : Nat) (x19_2 : Bool), v19 = .bool x19_2 ∧ Aside0 (moraineref02_Same.j0 kq x19_2 a0_0 l0_1 a1_0 l1_1 = some r) ∧ Aside0 (kq ≤ k) ∧ Aside0 (wc.heap[gb101]? = some (.cells #[.bool a0_0, (.slice A0_1 l0_1.length c0_1)] 25 (0, 0))) ∧ Aside0 (wc.heap[gb102]? = some (.cells #[.bool a1_0, (.slice A1_1 l1_1.length c1_1)] 25 (0, 0))) ∧ Aside0 (Below w.heap.size w wc))
 case first =>
  have H := HC3.out
  clear HC3
  by_cases c6 : (a0_0 != a1_0) = true
  ·rw [if_pos c6] at H
   have c6b0 : (a0_0 != a1_0) = true := c6
   (try (have c6b1 : decide (a0_0 = a1_0) = false := by simpa using c6))
   (try (have c6b2 : (a0_0 == a1_0) = false := by simpa using c6))
   (try (have c6b3 : ¬ (a0_0 = a1_0) := by simpa using c6))
   clear c6
   (first | rw [c6b0] | (simp only [i64_w, i32_w]; rw [c6b0]) | skip)
   have H' := Aside0.mk H
   clear H
   have hnb7 := NB101_102.out
   have hnc7 := NB102_101.out
   have hcz8_0 : w5.cell? ⟨gb101, 0, none⟩ = some (.bool a0_0) := qc BK101 0
   have hcz8_1 : w5.cell? ⟨gb101, 1, none⟩ = some (.slice A0_1 l0_1.length c0_1) := qc BK101 1
   have hfz8_0 := blk_frozen BK101.out 0
   have hfz8_1 := blk_frozen BK101.out 1
   have hcz9_0 : w5.cell? ⟨gb102, 0, none⟩ = some (.bool a1_0) := qc BK102 0
   have hcz9_1 : w5.cell? ⟨gb102, 1, none⟩ = some (.slice A1_1 l1_1.length c1_1) := qc BK102 1
   have hfz9_0 := blk_frozen BK102.out 0
   have hfz9_1 := blk_frozen BK102.out 1
   go_wp2
   repeat (go_quiet (fail); try go_wp2)
   go_meet
   case rel => exact ⟨_, (true), (by first | rfl | (simp; done) | (simp [*]; done)), H', ⟨by first | omega | exact Nat.le_refl _⟩, ⟨qk BK101⟩, ⟨qk BK102⟩, ⟨by repeat (first | (with_reducible first | exact HB.out | apply qx | apply qv | apply qw | refine qs ?_ (by assumption)) | exact HB.out)⟩⟩
  ·rw [if_neg c6] at H
   have c6b0 : (a0_0 != a1_0) = false := by simpa using c6
   (try (have c6b1 : decide (a0_0 = a1_0) = true := by simpa using c6))
   (try (have c6b2 : (a0_0 == a1_0) = true := by simpa using c6))
   clear c6
   (first | rw [c6b0] | (simp only [i64_w, i32_w]; rw [c6b0]) | skip)
   have H' := Aside0.mk H
   clear H
   have hnb10 := NB101_102.out
   have hnc10 := NB102_101.out
   have hcz11_0 : w5.cell? ⟨gb101, 0, none⟩ = some (.bool a0_0) := qc BK101 0
   have hcz11_1 : w5.cell? ⟨gb101, 1, none⟩ = some (.slice A0_1 l0_1.length c0_1) := qc BK101 1
   have hfz11_0 := blk_frozen BK101.out 0
   have hfz11_1 := blk_frozen BK101.out 1
   have hcz12_0 : w5.cell? ⟨gb102, 0, none⟩ = some (.bool a1_0) := qc BK102 0
   have hcz12_1 : w5.cell? ⟨gb102, 1, none⟩ = some (.slice A1_1 l1_1.length c1_1) := qc BK102 1
   have hfz12_0 := blk_frozen BK102.out 0
   have hfz12_1 := blk_frozen BK102.out 1
   go_wp2
   repeat (go_quiet (fail); try go_wp2)
   go_meet
   case rel => exact ⟨_, (((l0_1.length : Int) != (l1_1.length : Int))), (by first | rfl | (simp; done) | (simp [*]; done)), H', ⟨by first | omega | exact Nat.le_refl _⟩, ⟨qk BK101⟩, ⟨qk BK102⟩, ⟨by repeat (first | (with_reducible first | exact HB.out | apply qx | apply qv | apply qw | refine qs ?_ (by assumption)) | exact HB.out)⟩⟩
 case rest =>
  clear HC3
  try clear c1
  try clear p2
  try clear c6
  try clear c6b0
  try clear c6b1
  try clear c6b2
  try clear c7
  try clear c10
  try clear hcz11_0
  try clear hcz11_1
  try clear hcz12_0
  try clear hcz12_1
  try clear hcz8_0
  try clear hcz8_1
  try clear hcz9_0
  try clear hcz9_1
  try clear hfz11_0
  try clear hfz11_1
  try clear hfz12_0
  try clear hfz12_1
  try clear hfz8_0
  try clear hfz8_1
  try clear hfz9_0
  try clear hfz9_1
  obtain ⟨kq, x19_2, rfl, HA, HJ2, BK101, BK102, HB⟩ := hcut
  cases kq with
  | zero => exact absurd HA.out (by simp [moraineref02_Same.j0])
  | succ kj2 =>
   have H := HA.out
   clear HA
   simp only [moraineref02_Same.j0] at H
   by_cases c13 : x19_2 = true
   ·subst c13
    have H1 : (some false) = some r := by rw [if_pos rfl] at H; exact H
    clear H
    have H := H1
    clear H1
    obtain rfl := Option.some.inj H
    go_wp2
    repeat (go_quiet (fail); try go_wp2)
    go_ret
    exact ⟨by first | rfl | (simp [errW_none, errW_some] <;> rfl) | (simp [*, errW_none, errW_some] <;> rfl), by repeat (first | (with_reducible first | exact HB.out | apply qx | apply qv | apply qw | refine qs ?_ (by assumption)) | exact HB.out)⟩
   ·replace c13 := Bool.eq_false_iff.mpr c13
    subst c13
    have H1 : (moraineref02_Same.l0 kj2 0 a0_0 l0_1 a1_0 l1_1) = some r := by rw [if_neg (show ¬ (false = true) by decide)] at H; exact H
    clear H
    have H := H1
    clear H1
    have H' := Aside0.mk H
    clear H
    go_wp2
    repeat (go_quiet (fail); try go_wp2)
    go_loopg [5] kj2 (fun kq v5 w' => ∃ (x5_2 : Int), v5 = .int .i64 x5_2 ∧ Aside0 (moraineref02_Same.l0 kq x5_2 a0_0 l0_1 a1_0 l1_1 = some r) ∧ Aside0 (kq ≤ kj2) ∧ Aside0 (w'.heap[gb101]? = some (.cells #[.bool a0_0, (.slice A0_1 l0_1.length c0_1)] 25 (0, 0))) ∧ Aside0 (w'.heap[gb102]? = some (.cells #[.bool a1_0, (.slice A1_1 l1_1.length c1_1)] 25 (0, 0))) ∧ Aside0 (Below w.heap.size w w'))
    case atStart => exact ⟨(0), (by first | rfl | (simp; done) | (simp [*]; done)), H', ⟨Nat.le_refl _⟩, ⟨qk BK101⟩, ⟨qk BK102⟩, ⟨by repeat (first | (with_reducible first | exact HB.out | apply qx | apply qv | apply qw | refine qs ?_ (by assumption)) | exact HB.out)⟩⟩
    case round =>
     clear H'
     try clear c1
     try clear p2
     try clear c6
     try clear c6b0
     try clear c6b1
     try clear c6b2
     try clear c7
     try clear c10
     try clear c13
     try clear hcz11_0
     try clear hcz11_1
     try clear hcz12_0
     try clear hcz12_1
     try clear hcz8_0
     try clear hcz8_1
     try clear hcz9_0
     try clear hcz9_1
     try clear hfz11_0
     try clear hfz11_1
     try clear hfz12_0
     try clear hfz12_1
     try clear hfz8_0
     try clear hfz8_1
     try clear hfz9_0
     try clear hfz9_1
     try clear p2
     obtain ⟨x5_2, rfl, HA, HK2, BK101, BK102, HB⟩ := hrel
     cases gk with
     | zero => exact absurd HA.out (by simp [moraineref02_Same.l0])
     | succ k2 =>
      have H := HA.out
      clear HA
      simp only [moraineref02_Same.l0] at H
      by_cases c14 : x5_2 < (l0_1.length : Int)
      ·rw [if_pos c14] at H
       have c14b0 : decide (x5_2 < (l0_1.length : Int)) = true := decide_eq_true c14
       clear c14
       by_cases c15 : 0 ≤ x5_2
       ·rw [if_pos c15] at H
        have c15b0 : decide (0 ≤ x5_2) = true := decide_eq_true c15
        clear c15
        by_cases c16 : x5_2 < (l1_1.length : Int)
        ·rw [if_pos c16] at H
         have c16b0 : decide (x5_2 < (l1_1.length : Int)) = true := decide_eq_true c16
         clear c16
         by_cases c17 : (rd l0_1 x5_2) = (rd l1_1 x5_2)
         ·rw [if_pos c17] at H
          have c17b0 : ((rd l0_1 x5_2) == (rd l1_1 x5_2)) = true := beq_iff_eq.mpr c17
          have c17b1 : ((rd l0_1 x5_2) != (rd l1_1 x5_2)) = false := bne_eq_false_iff_eq.mpr c17
          clear c17
          have H' := Aside0.mk H
          clear H
          have hnb18 := NB101_102.out
          have hnc18 := NB102_101.out
          have hcz19_0 : wr.cell? ⟨gb101, 0, none⟩ = some (.bool a0_0) := qc BK101 0
          have hcz19_1 : wr.cell? ⟨gb101, 1, none⟩ = some (.slice A0_1 l0_1.length c0_1) := qc BK101 1
          have hfz19_0 := blk_frozen BK101.out 0
          have hfz19_1 := blk_frozen BK101.out 1
          have p103 : 0 ≤ (x5_2 : Int) := of_decide_eq_true (by first | (with_reducible assumption) | assumption)
          have q103 : x5_2 < (l0_1.length : Int) := of_decide_eq_true (by first | (with_reducible assumption) | assumption)
          obtain ⟨ad103, e103, hx103_0⟩ := Kd.at_int HR0_1.out x5_2 p103 q103
          cases e103
          replace hx103_0 := (HB.out.cell (World.block_lt_of_cell? w _ hx103_0)).trans hx103_0
          replace p103 := eq_true p103
          replace q103 := eq_true q103
          have hcz20_0 : wr.cell? ⟨gb102, 0, none⟩ = some (.bool a1_0) := qc BK102 0
          have hcz20_1 : wr.cell? ⟨gb102, 1, none⟩ = some (.slice A1_1 l1_1.length c1_1) := qc BK102 1
          have hfz20_0 := blk_frozen BK102.out 0
          have hfz20_1 := blk_frozen BK102.out 1
          have p104 : 0 ≤ (x5_2 : Int) := of_decide_eq_true (by first | (with_reducible assumption) | assumption)
          have q104 : x5_2 < (l1_1.length : Int) := of_decide_eq_true (by first | (with_reducible assumption) | assumption)
          obtain ⟨ad104, e104, hx104_0⟩ := Kd.at_int HR1_1.out x5_2 p104 q104
          cases e104
          replace hx104_0 := (HB.out.cell (World.block_lt_of_cell? w _ hx104_0)).trans hx104_0
          replace p104 := eq_true p104
          replace q104 := eq_true q104
          go_wp2
          repeat (go_quiet (fail); try go_wp2)
          go_roundg k2
          case measure => have := HJ2.out; have := HK2.out; omega
          case rel => exact ⟨(wrap64 (x5_2 + 1)), (by first | rfl | (simp; done) | (simp [*]; done)), H', ⟨by have := HJ2.out; have := HK2.out; omega⟩, ⟨qk BK101⟩, ⟨qk BK102⟩, ⟨by repeat (first | (with_reducible first | exact HB.out | apply qx | apply qv | apply qw | refine qs ?_ (by assumption)) | exact HB.out)⟩⟩
         ·rw [if_neg c17] at H
          have c17b0 : ((rd l0_1 x5_2) == (rd l1_1 x5_2)) = false := beq_eq_false_iff_ne.mpr c17
          have c17b1 : ((rd l0_1 x5_2) != (rd l1_1 x5_2)) = true := bne_iff_ne.mpr c17
          obtain rfl := Option.some.inj H
          have hnb21 := NB101_102.out
          have hnc21 := NB102_101.out
          have hcz22_0 : wr.cell? ⟨gb101, 0, none⟩ = some (.bool a0_0) := qc BK101 0
          have hcz22_1 : wr.cell? ⟨gb101, 1, none⟩ = some (.slice A0_1 l0_1.length c0_1) := qc BK101 1
          have hfz22_0 := blk_frozen BK101.out 0
          have hfz22_1 := blk_frozen BK101.out 1
          have p103 : 0 ≤ (x5_2 : Int) := of_decide_eq_true (by first | (with_reducible assumption) | assumption)
          have q103 : x5_2 < (l0_1.length : Int) := of_decide_eq_true (by first | (with_reducible assumption) | assumption)
          obtain ⟨ad103, e103, hx103_0⟩ := Kd.at_int HR0_1.out x5_2 p103 q103
          cases e103
          replace hx103_0 := (HB.out.cell (World.block_lt_of_cell? w _ hx103_0)).trans hx103_0
          replace p103 := eq_true p103
          replace q103 := eq_true q103
          have hcz23_0 : wr.cell? ⟨gb102, 0, none⟩ = some (.bool a1_0) := qc BK102 0
          have hcz23_1 : wr.cell? ⟨gb102, 1, none⟩ = some (.slice A1_1 l1_1.length c1_1) := qc BK102 1
          have hfz23_0 := blk_frozen BK102.out 0
          have hfz23_1 := blk_frozen BK102.out 1
          have p104 : 0 ≤ (x5_2 : Int) := of_decide_eq_true (by first | (with_reducible assumption) | assumption)
          have q104 : x5_2 < (l1_1.length : Int) := of_decide_eq_true (by first | (with_reducible assumption) | assumption)
          obtain ⟨ad104, e104, hx104_0⟩ := Kd.at_int HR1_1.out x5_2 p104 q104
          cases e104
          replace hx104_0 := (HB.out.cell (World.block_lt_of_cell? w _ hx104_0)).trans hx104_0
          replace p104 := eq_true p104
          replace q104 := eq_true q104
          go_wp2
          repeat (go_quiet (fail); try go_wp2)
          go_ret
          exact ⟨by first | rfl | (simp [errW_none, errW_some] <;> rfl) | (simp [*, errW_none, errW_some] <;> rfl), by repeat (first | (with_reducible first | exact HB.out | apply qx | apply qv | apply qw | refine qs ?_ (by assumption)) | exact HB.out)⟩
        ·rw [if_neg c16] at H
         exact absurd H (by simp)
       ·rw [if_neg c15] at H
        exact absurd H (by simp)
      ·rw [if_neg c14] at H
       have c14b0 : decide (x5_2 < (l0_1.length : Int)) = false := decide_eq_false c14
       clear c14
       obtain rfl := Option.some.inj H
       have hnb24 := NB101_102.out
       have hnc24 := NB102_101.out
       have hcz25_0 : wr.cell? ⟨gb101, 0, none⟩ = some (.bool a0_0) := qc BK101 0
       have hcz25_1 : wr.cell? ⟨gb101, 1, none⟩ = some (.slice A0_1 l0_1.length c0_1) := qc BK101 1
       have hfz25_0 := blk_frozen BK101.out 0
       have hfz25_1 := blk_frozen BK101.out 1
       go_wp2
       repeat (go_quiet (fail); try go_wp2)
       go_ret
       exact ⟨by first | rfl | (simp [errW_none, errW_some] <;> rfl) | (simp [*, errW_none, errW_some] <;> rfl), by repeat (first | (with_reducible first | exact HB.out | apply qx | apply qv | apply qw | refine qs ?_ (by assumption)) | exact HB.out)⟩
def moraineref02_cut.l0 : Nat → List Int → Int → Option (List Int)
 | 0, _, _ => none
 | k + 1, x0, x3 => if x3 > 0 then (if 0 ≤ (wrap64 (x3 - 1)) then (if (wrap64 (x3 - 1)) < (x0.length : Int) then (if (rd x0 (wrap64 (x3 - 1))) = 0 then (moraineref02_cut.l0 k x0 (wrap64 (x3 - 1))) else (if 0 ≤ x3 then (if x3 ≤ (x0.length : Int) then (some (x0.take (x3 : Int).toNat)) else (none)) else (none))) else (none)) else (none)) else (if 0 ≤ x3 then (if x3 ≤ (x0.length : Int) then (some (x0.take (x3 : Int).toNat)) else (none)) else (none))
def moraineref02_cut.f (k : Nat) (l0 : List Int) : Option (List Int) := moraineref02_cut.l0 k l0 (l0.length : Int)
set_option maxHeartbeats 8000000 in
set_option maxRecDepth 100000 in
theorem moraineref02_cut.calls (k : Nat) (P0_ : Nat → Prop) (u9000_ : Value) (l0 : List Int) (r : List Int) (w0 w : World) (hB : Below w0.heap.size w0 w) (ho0 : Kd.R (Kd.int .u8) 5 w w0.heap.size P0_ u9000_ l0) (h : moraineref02_cut.f k l0 = some r) :
  Calls Tryd.prog 85 #[u9000_] w fun e w' => ∃ v0_ : Value, e = .returned (v0_) ∧ Kd.R (Kd.int .u8) 5 w' w0.heap.size (fun k_ => (P0_ k_ ∨ w.heap.size ≤ k_)) v0_ r ∧ Below w0.heap.size w0 w' ∧ Kept w w' (fun k_ => P0_ k_) := by
 have HO0 := Aside0.mk (show Kd.R (Kd.int .u8) 5 w w0.heap.size (fun k_ => (P0_ k_ ∨ w.heap.size ≤ k_)) u9000_ l0 from Kd.R_mono ho0 (fun k_ hk => (.inl hk)))
 have HK := Aside0.mk (Kept.refl w (fun k_ => P0_ k_))
 have HW0 := Aside0.mk hB.size
 have HB := Aside0.mk hB
 clear hB
 have H : (moraineref02_cut.l0 k l0 (l0.length : Int)) = some r := h
 clear h
 have H' := Aside0.mk H
 clear H
 obtain ⟨Ao2, co2, eo2⟩ := Kd.R_slice HO0.out
 subst eo2
 go_enter Tryd.func85, Tryd.ntmps85
 go_wp2
 go_loopg [3] k (fun kq v3 w' => ∃ (x3_1 : Int), v3 = .int .i64 x3_1 ∧ Aside0 (moraineref02_cut.l0 kq l0 x3_1 = some r) ∧ Aside0 (kq ≤ k) ∧ Aside0 (Kd.R (Kd.int .u8) 5 w' w0.heap.size (fun k_ => (P0_ k_ ∨ w.heap.size ≤ k_)) (.slice Ao2 l0.length co2) l0) ∧ Aside0 (Kept w w' (fun k_ => P0_ k_)) ∧ Aside0 (Below w0.heap.size w0 w'))
 case atStart => exact ⟨((l0.length : Int)), (by first | rfl | (simp; done) | (simp [*]; done)), H', ⟨Nat.le_refl _⟩, ⟨qq HO0⟩, ⟨by repeat (first | (with_reducible first | exact HK.out | apply Kept.alloc | apply Kept.drewN | apply Kept.drew) | exact HK.out)⟩, ⟨by repeat (first | (with_reducible first | exact HB.out | apply qx | apply qv | apply qw) | exact HB.out)⟩⟩
 case round =>
  clear H'
  try clear p2
  obtain ⟨x3_1, rfl, HA, HK1, HO_0, HK, HB⟩ := hrel
  cases gk with
  | zero => exact absurd HA.out (by simp [moraineref02_cut.l0])
  | succ k1 =>
   have H := HA.out
   clear HA
   simp only [moraineref02_cut.l0] at H
   by_cases c3 : x3_1 > 0
   ·rw [if_pos c3] at H
    have c3b0 : decide (0 < x3_1) = true := decide_eq_true c3
    clear c3
    obtain ⟨ji4, hji4⟩ : ∃ j_ : Int, (wrap64 (x3_1 - 1)) = j_ := ⟨_, rfl⟩
    replace H : (if 0 ≤ (ji4) then (if (ji4) < (l0.length : Int) then (if (rd l0 (ji4)) = 0 then (moraineref02_cut.l0 k1 l0 ji4) else (if 0 ≤ x3_1 then (if x3_1 ≤ (l0.length : Int) then (some (l0.take (x3_1 : Int).toNat)) else (none)) else (none))) else (none)) else (none)) = some r := by first | (rw [hji4] at H; exact H) | (simp only [hji4] at H ⊢; exact H)
    have hji4w : (IntKind.i64.wrap (x3_1 - 1)) = ji4 := (i64_w _).trans hji4
    by_cases c5 : 0 ≤ (ji4)
    ·rw [if_pos c5] at H
     have c5b0 : decide (0 ≤ (ji4)) = true := decide_eq_true c5
     clear c5
     by_cases c6 : (ji4) < (l0.length : Int)
     ·rw [if_pos c6] at H
      have c6b0 : decide ((ji4) < (l0.length : Int)) = true := decide_eq_true c6
      clear c6
      by_cases c7 : (rd l0 (ji4)) = 0
      ·rw [if_pos c7] at H
       have c7b0 : ((rd l0 (ji4)) == 0) = true := beq_iff_eq.mpr c7
       have c7b1 : ((rd l0 (ji4)) != 0) = false := bne_eq_false_iff_eq.mpr c7
       clear c7
       have H' := Aside0.mk H
       clear H
       have p105 : 0 ≤ ((ji4) : Int) := of_decide_eq_true (by first | (with_reducible assumption) | assumption)
       have q105 : (ji4) < (l0.length : Int) := of_decide_eq_true (by first | (with_reducible assumption) | assumption)
       obtain ⟨ad105, e105, hx105_0⟩ := Kd.at_int (Kd.R_reads' HO_0.out).2.2 (ji4) p105 q105
       cases e105
       replace p105 := eq_true p105
       replace q105 := eq_true q105
       go_wp2
       go_roundg k1
       case measure => have := HK1.out; omega
       case rel => exact ⟨(ji4), (by first | rfl | (simp; done) | (simp only [← hji4] <;> (first | rfl | simp)) | (simp [*]; done)), H', ⟨by have := HK1.out; omega⟩, ⟨qq HO_0⟩, ⟨by repeat (first | (with_reducible first | exact HK.out | apply Kept.alloc | apply Kept.drewN | apply Kept.drew) | exact HK.out)⟩, ⟨by repeat (first | (with_reducible first | exact HB.out | apply qx | apply qv | apply qw) | exact HB.out)⟩⟩
      ·rw [if_neg c7] at H
       have c7b0 : ((rd l0 (ji4)) == 0) = false := beq_eq_false_iff_ne.mpr c7
       have c7b1 : ((rd l0 (ji4)) != 0) = true := bne_iff_ne.mpr c7
       by_cases c8 : 0 ≤ x3_1
       ·rw [if_pos c8] at H
        have c8b0 := eq_true c8
        have c8b1 : decide (0 ≤ x3_1) = true := decide_eq_true c8
        clear c8
        by_cases c9 : x3_1 ≤ (l0.length : Int)
        ·rw [if_pos c9] at H
         have c9b0 := eq_true c9
         have c9b1 : decide (x3_1 ≤ (l0.length : Int)) = true := decide_eq_true c9
         clear c9
         obtain ⟨y106, hy106⟩ : ∃ y_ : List Int, y_ = (l0.take (x3_1 : Int).toNat) := ⟨_, rfl⟩
         replace H : (some y106) = some r := by first | (rw [hy106]; with_reducible exact H) | (have H2_ := (Option.bind_some _ _).symm.trans H; rw [hy106]; with_reducible exact H2_) | (have H2_ := (Option.bind_some _ _).symm.trans H; with_reducible exact H2_) | with_reducible exact H | (rw [hy106]; exact H) | exact H
         have Ny106 := Aside0.mk hy106
         clear hy106
         obtain rfl := Option.some.inj H
         have p105 : 0 ≤ ((ji4) : Int) := of_decide_eq_true (by first | (with_reducible assumption) | assumption)
         have q105 : (ji4) < (l0.length : Int) := of_decide_eq_true (by first | (with_reducible assumption) | assumption)
         obtain ⟨ad105, e105, hx105_0⟩ := Kd.at_int (Kd.R_reads' HO_0.out).2.2 (ji4) p105 q105
         cases e105
         replace p105 := eq_true p105
         replace q105 := eq_true q105
         have q10 : (x3_1 : Int) ≤ ((l0.length : Int) : Int) := of_decide_eq_true (by first | (with_reducible assumption) | assumption)
         obtain ⟨i010, hi010, _, hsz10, _⟩ := info_parts info5
         have hcut10 := cut_to (P := Tryd.prog) 32 5 .i64 Tryd.underlying32 hi010 (some ad105) l0.length co2 x3_1 (of_decide_eq_true (by first | (with_reducible assumption) | assumption)) q10 (Kd.R_reads' HO_0.out).2.1
         have hr10 := Kd.R_take (m := (x3_1 : Int).toNat) HO_0.out (by omega)
         have hy10 : y106.length = (x3_1 : Int).toNat := (by rw [Ny106.out, List.length_take]; omega)
         rw [← Ny106.out] at hr10
         rw [← hy10] at hr10 hcut10
         clear hy10 hi010 hsz10 HO_0
         have HO108 := Aside0.mk hr10
         clear hr10
         replace q10 := eq_true q10
         go_wp2
         go_ret
         exact ⟨_, by first | rfl | (simp [errW_none, errW_some] <;> rfl) | (simp only [← hji4]; first | rfl | (simp [errW_none, errW_some] <;> rfl)) | (simp [*, errW_none, errW_some] <;> rfl), by (with_reducible repeat first|apply Kd.R_alloc|apply Kd.R_drewN|apply Kd.R_drew); exact HO108.out, by repeat (first | (with_reducible first | exact HB.out | apply qx | apply qv | apply qw) | exact HB.out), by repeat (first | (with_reducible first | exact HK.out | apply Kept.alloc | apply Kept.drewN | apply Kept.drew) | exact HK.out)⟩
        ·rw [if_neg c9] at H
         exact absurd H (by simp)
       ·rw [if_neg c8] at H
        exact absurd H (by simp)
     ·rw [if_neg c6] at H
      exact absurd H (by simp)
    ·rw [if_neg c5] at H
     exact absurd H (by simp)
   ·rw [if_neg c3] at H
    have c3b0 : decide (0 < x3_1) = false := decide_eq_false c3
    clear c3
    by_cases c11 : 0 ≤ x3_1
    ·rw [if_pos c11] at H
     have c11b0 := eq_true c11
     have c11b1 : decide (0 ≤ x3_1) = true := decide_eq_true c11
     clear c11
     by_cases c12 : x3_1 ≤ (l0.length : Int)
     ·rw [if_pos c12] at H
      have c12b0 := eq_true c12
      have c12b1 : decide (x3_1 ≤ (l0.length : Int)) = true := decide_eq_true c12
      clear c12
      obtain ⟨y109, hy109⟩ : ∃ y_ : List Int, y_ = (l0.take (x3_1 : Int).toNat) := ⟨_, rfl⟩
      replace H : (some y109) = some r := by first | (rw [hy109]; with_reducible exact H) | (have H2_ := (Option.bind_some _ _).symm.trans H; rw [hy109]; with_reducible exact H2_) | (have H2_ := (Option.bind_some _ _).symm.trans H; with_reducible exact H2_) | with_reducible exact H | (rw [hy109]; exact H) | exact H
      have Ny109 := Aside0.mk hy109
      clear hy109
      obtain rfl := Option.some.inj H
      have q13 : (x3_1 : Int) ≤ ((l0.length : Int) : Int) := of_decide_eq_true (by first | (with_reducible assumption) | assumption)
      obtain ⟨i013, hi013, _, hsz13, _⟩ := info_parts info5
      have hcut13 := cut_to (P := Tryd.prog) 32 5 .i64 Tryd.underlying32 hi013 Ao2 l0.length co2 x3_1 (of_decide_eq_true (by first | (with_reducible assumption) | assumption)) q13 (Kd.R_reads' HO_0.out).2.1
      have hr13 := Kd.R_take (m := (x3_1 : Int).toNat) HO_0.out (by omega)
      have hy13 : y109.length = (x3_1 : Int).toNat := (by rw [Ny109.out, List.length_take]; omega)
      rw [← Ny109.out] at hr13
      rw [← hy13] at hr13 hcut13
      clear hy13 hi013 hsz13 HO_0
      have HO111 := Aside0.mk hr13
      clear hr13
      replace q13 := eq_true q13
      go_wp2
      go_ret
      exact ⟨_, by first | rfl | (simp [errW_none, errW_some] <;> rfl) | (simp [*, errW_none, errW_some] <;> rfl), by (with_reducible repeat first|apply Kd.R_alloc|apply Kd.R_drewN|apply Kd.R_drew); exact HO111.out, by repeat (first | (with_reducible first | exact HB.out | apply qx | apply qv | apply qw) | exact HB.out), by repeat (first | (with_reducible first | exact HK.out | apply Kept.alloc | apply Kept.drewN | apply Kept.drew) | exact HK.out)⟩
     ·rw [if_neg c12] at H
      exact absurd H (by simp)
    ·rw [if_neg c11] at H
     exact absurd H (by simp)
def moraineref02_value.f (k : Nat) (a0 : Bool) (l1 : List Int) : Option (Bool × List Int) := (moraineref02_cut.f k l1).bind fun t113 => (if a0 = true then (some (decide (0 < t113.length), t113)) else (some (false, t113)))
set_option maxHeartbeats 8000000 in
set_option maxRecDepth 100000 in
theorem moraineref02_value.calls (k : Nat) (a0 : Bool) (P1_ : Nat → Prop) (u9000_ : Value) (l1 : List Int) (r1 : Bool) (r2 : List Int) (w0 w : World) (hB : Below w0.heap.size w0 w) (ho1 : Kd.R (Kd.int .u8) 5 w w0.heap.size P1_ u9000_ l1) (h : moraineref02_value.f k a0 l1 = some (r1, r2)) :
  Calls Tryd.prog 62 #[.bool a0, u9000_] w fun e w' => ∃ v1_ : Value, e = .returned (.agg #[.bool r1, v1_]) ∧ Kd.R (Kd.int .u8) 5 w' w0.heap.size (fun k_ => (P1_ k_ ∨ w.heap.size ≤ k_)) v1_ r2 ∧ Below w0.heap.size w0 w' ∧ Kept w w' (fun k_ => P1_ k_) := by
 have hu34 := Tryd.underlying34
 have HO1 := Aside0.mk (show Kd.R (Kd.int .u8) 5 w w0.heap.size (fun k_ => (P1_ k_ ∨ w.heap.size ≤ k_)) u9000_ l1 from Kd.R_mono ho1 (fun k_ hk => (.inl hk)))
 have HK := Aside0.mk (Kept.refl w (fun k_ => P1_ k_))
 have HW0 := Aside0.mk hB.size
 have HB := Aside0.mk hB
 clear hB
 have H : ((moraineref02_cut.f k l1).bind fun t113 => (if a0 = true then (some (decide (0 < t113.length), t113)) else (some (false, t113)))) = some (r1, r2) := h
 clear h
 replace H := Option.bind_eq_some_iff.mp H
 obtain ⟨t113, A30, H⟩ := H
 replace H : (if a0 = true then (some (decide (0 < t113.length), t113)) else (some (false, t113))) = some (r1, r2) := H
 have A3 := Aside0.mk A30
 clear A30
 by_cases c4 : a0 = true
 ·subst c4
  have H1 : (some (decide (0 < t113.length), t113)) = some (r1, r2) := by rw [if_pos rfl] at H; exact H
  clear H
  have H := H1
  clear H1
  simp only [Option.some.injEq, Prod.mk.injEq] at H
  obtain ⟨rfl, rfl⟩ := H
  go_enter Tryd.func62, Tryd.ntmps62
  go_wp2_with (first | ((with_reducible refine gate_dst (N := 4) rfl ?_); (try (refine gate_guard (by rfl) ?_; dsimp only)); refine box_event ?hg (N := 4) ?hd (cs := #[.bool false, .slice none 0 0]) (t := 34) ?hr ?_; (case hd => rfl); (case hg => rfl); (case hr => go_simp <;> rfl); intro gb112 hg w5 hbox hb; have n0_ := qr HO1 hb; have n1_ := Aside0.mk (Kept.below (S := (fun k_ => P1_ k_)) (by repeat (first | (with_reducible first | exact HK.out | apply Kept.alloc | apply Kept.drewN | apply Kept.drew) | exact HK.out)) hb); have n2_ := Aside0.mk (below_step (by repeat (first | (with_reducible first | exact HB.out | apply qx | apply qv | apply qw) | exact HB.out)) hb); have n3_ := Aside0.mk (hbox); have n4_ := Aside0.mk ((by rw [hg]; exact (by first | exact HK.out.1 | exact (show Kept w _ (fun k_ => P1_ k_) from by repeat (first | (with_reducible first | exact HK.out | apply Kept.alloc | apply Kept.drewN | apply Kept.drew) | exact HK.out)).1) : w.heap.size ≤ gb112)); have n5_ := Aside0.mk ((by rw [hg]; exact (below_size (by repeat (first | (with_reducible first | exact HB.out | apply qx | apply qv | apply qw) | exact HB.out))) : w0.heap.size ≤ gb112)); clear HO1; clear HK; clear HB; have HO1 := n0_; have HK := n1_; have HB := n2_; have BK112 := n3_; have GW112 := n4_; have GE112 := n5_; clear n0_ n1_ n2_ n3_ n4_ n5_; clear hb hbox hg; obtain ⟨Ao6, co6, eo6⟩ := Kd.R_slice HO1.out; subst eo6) | ((with_reducible refine gate_callee (f := 85) rfl ?_); refine goesL_ (some 6) rfl rfl Tryd.func85 (by kernel_rfl) rfl #[.slice Ao6 l1.length co6] rfl (by (try simp only [zM, zO, zP]); first|done|rfl) ?_; (with_reducible refine (moraineref02_cut.calls k (fun k_ => some k_ = (.slice Ao6 l1.length co6 : Value).ownBlock) (.slice Ao6 l1.length co6) l1 t113 w0 _ ?side1 ?side2 A3.out).mono ?_); (case side1 => repeat (first | (with_reducible first | exact HB.out | apply qx | apply qv | apply qw | refine below_set ?_ GE112.out) | exact HB.out)); (case side2 => exact Kd.R_tight rfl HO1.out); rintro e w7 ⟨v114, rfl, ho0, hb, hkp⟩; refine ⟨_, rfl, ?_⟩; have n0_ := Aside0.mk (blk_kept (by (with_reducible repeat first|refine qN ?_ _|refine qW ?_|refine qA ?_ _); exact BK112.out) hkp (fun hs_ => (fun e_ => (Kd.R_ne HO1.out BK112.out (by decide)) e_) hs_)); have n1_ := Aside0.mk (Kd.R_mono (ok' := fun k_ => (P1_ k_ ∨ w.heap.size ≤ k_)) ho0 (fun k_ hk_ => Or.elim hk_ (fun hs_ => (HO1.out.1 k_ (hs_).symm)) (fun hn_ => (.inr (Nat.le_trans (by first | exact HK.out.1 | exact (show Kept w _ (fun k_ => P1_ k_) from by repeat (first | (with_reducible first | exact HK.out | apply Kept.alloc | apply Kept.drewN | apply Kept.drew | refine Kept.setCell ?_ (.inr GW112.out) _) | exact HK.out)).1) hn_))))); have n2_ := Aside0.mk (Kept.then_ (S := (fun k_ => P1_ k_)) (by repeat (first | (with_reducible first | exact HK.out | apply Kept.alloc | apply Kept.drewN | apply Kept.drew | refine Kept.setCell ?_ (.inr GW112.out) _) | exact HK.out)) hkp (fun k_ hs_ => (fun e_ => (HO1.out.1 k_ e_.symm)) hs_)); have n3_ := Aside0.mk (hb); clear BK112; clear HK; clear HB; clear HO1; have BK112 := n0_; have HO115 := n1_; have HK := n2_; have HB := n3_; clear n0_ n1_ n2_ n3_; (try clear hb); (try clear hkp); (try clear ho0); obtain ⟨Ao8, co8, eo8⟩ := Kd.R_slice HO115.out; subst eo8; have hcz9_0 : w7.cell? ⟨gb112, 0, none⟩ = some (.bool false) := qc BK112 0; have hcz9_1 : w7.cell? ⟨gb112, 1, none⟩ = some (.slice none 0 0) := qc BK112 1; have hfz9_0 := blk_frozen BK112.out 0; have hfz9_1 := blk_frozen BK112.out 1))
  refine bodyPost_ret (results_cell_row rfl _ _ gb112 34 #[.bool (decide (0 < t113.length)), .slice Ao8 t113.length co8] (0, 0) _ rfl (by (with_reducible repeat first|refine qN ?_ _|refine qW ?_|refine qA ?_ _); refine blk_put (cs := #[.bool (decide (0 < t113.length)), .slice none 0 0]) ?_ 1 _ rfl; (with_reducible repeat first|refine qN ?_ _|refine qW ?_|refine qA ?_ _); refine blk_put (cs := #[.bool false, .slice none 0 0]) ?_ 0 _ rfl; (with_reducible repeat first|refine qN ?_ _|refine qW ?_|refine qA ?_ _); exact BK112.out) Tryd.underlying34 rfl (by kernel_rfl)) rfl ?_
  exact ⟨_, by first | rfl | (simp [errW_none, errW_some] <;> rfl) | (simp [*, errW_none, errW_some] <;> rfl), by (with_reducible repeat first|apply Kd.R_alloc|apply Kd.R_drewN|apply Kd.R_drew); exact Kd.R_mono (Kd.R_far (p := ⟨gb112, 1, none⟩) (Kd.R_far (p := ⟨gb112, 0, none⟩) (Kd.R_types HO115.out BK112.out (by decide)) (fun _ hk => hk.2) (.bool (decide (0 < t113.length)))) (fun _ hk => hk.2) (.slice Ao8 t113.length co8)) (fun _ hk => hk.1), by repeat (first | (with_reducible first | exact HB.out | apply qx | apply qv | apply qw | refine below_set ?_ GE112.out) | exact HB.out), by repeat (first | (with_reducible first | exact HK.out | apply Kept.alloc | apply Kept.drewN | apply Kept.drew | refine Kept.setCell ?_ (.inr GW112.out) _) | exact HK.out)⟩
 ·replace c4 := Bool.eq_false_iff.mpr c4
  subst c4
  have H1 : (some (false, t113)) = some (r1, r2) := by rw [if_neg (show ¬ (false = true) by decide)] at H; exact H
  clear H
  have H := H1
  clear H1
  simp only [Option.some.injEq, Prod.mk.injEq] at H
  obtain ⟨rfl, rfl⟩ := H
  go_enter Tryd.func62, Tryd.ntmps62
  go_wp2_with (first | ((with_reducible refine gate_dst (N := 4) rfl ?_); (try (refine gate_guard (by rfl) ?_; dsimp only)); refine box_event ?hg (N := 4) ?hd (cs := #[.bool false, .slice none 0 0]) (t := 34) ?hr ?_; (case hd => rfl); (case hg => rfl); (case hr => go_simp <;> rfl); intro gb112 hg w10 hbox hb; have n0_ := qr HO1 hb; have n1_ := Aside0.mk (Kept.below (S := (fun k_ => P1_ k_)) (by repeat (first | (with_reducible first | exact HK.out | apply Kept.alloc | apply Kept.drewN | apply Kept.drew) | exact HK.out)) hb); have n2_ := Aside0.mk (below_step (by repeat (first | (with_reducible first | exact HB.out | apply qx | apply qv | apply qw) | exact HB.out)) hb); have n3_ := Aside0.mk (hbox); have n4_ := Aside0.mk ((by rw [hg]; exact (by first | exact HK.out.1 | exact (show Kept w _ (fun k_ => P1_ k_) from by repeat (first | (with_reducible first | exact HK.out | apply Kept.alloc | apply Kept.drewN | apply Kept.drew) | exact HK.out)).1) : w.heap.size ≤ gb112)); have n5_ := Aside0.mk ((by rw [hg]; exact (below_size (by repeat (first | (with_reducible first | exact HB.out | apply qx | apply qv | apply qw) | exact HB.out))) : w0.heap.size ≤ gb112)); clear HO1; clear HK; clear HB; have HO1 := n0_; have HK := n1_; have HB := n2_; have BK112 := n3_; have GW112 := n4_; have GE112 := n5_; clear n0_ n1_ n2_ n3_ n4_ n5_; clear hb hbox hg; obtain ⟨Ao11, co11, eo11⟩ := Kd.R_slice HO1.out; subst eo11) | ((with_reducible refine gate_callee (f := 85) rfl ?_); refine goesL_ (some 6) rfl rfl Tryd.func85 (by kernel_rfl) rfl #[.slice Ao11 l1.length co11] rfl (by (try simp only [zM, zO, zP]); first|done|rfl) ?_; (with_reducible refine (moraineref02_cut.calls k (fun k_ => some k_ = (.slice Ao11 l1.length co11 : Value).ownBlock) (.slice Ao11 l1.length co11) l1 t113 w0 _ ?side1 ?side2 A3.out).mono ?_); (case side1 => repeat (first | (with_reducible first | exact HB.out | apply qx | apply qv | apply qw | refine below_set ?_ GE112.out) | exact HB.out)); (case side2 => exact Kd.R_tight rfl HO1.out); rintro e w12 ⟨v114, rfl, ho0, hb, hkp⟩; refine ⟨_, rfl, ?_⟩; have n0_ := Aside0.mk (blk_kept (by (with_reducible repeat first|refine qN ?_ _|refine qW ?_|refine qA ?_ _); exact BK112.out) hkp (fun hs_ => (fun e_ => (Kd.R_ne HO1.out BK112.out (by decide)) e_) hs_)); have n1_ := Aside0.mk (Kd.R_mono (ok' := fun k_ => (P1_ k_ ∨ w.heap.size ≤ k_)) ho0 (fun k_ hk_ => Or.elim hk_ (fun hs_ => (HO1.out.1 k_ (hs_).symm)) (fun hn_ => (.inr (Nat.le_trans (by first | exact HK.out.1 | exact (show Kept w _ (fun k_ => P1_ k_) from by repeat (first | (with_reducible first | exact HK.out | apply Kept.alloc | apply Kept.drewN | apply Kept.drew | refine Kept.setCell ?_ (.inr GW112.out) _) | exact HK.out)).1) hn_))))); have n2_ := Aside0.mk (Kept.then_ (S := (fun k_ => P1_ k_)) (by repeat (first | (with_reducible first | exact HK.out | apply Kept.alloc | apply Kept.drewN | apply Kept.drew | refine Kept.setCell ?_ (.inr GW112.out) _) | exact HK.out)) hkp (fun k_ hs_ => (fun e_ => (HO1.out.1 k_ e_.symm)) hs_)); have n3_ := Aside0.mk (hb); clear BK112; clear HK; clear HB; clear HO1; have BK112 := n0_; have HO115 := n1_; have HK := n2_; have HB := n3_; clear n0_ n1_ n2_ n3_; (try clear hb); (try clear hkp); (try clear ho0); obtain ⟨Ao13, co13, eo13⟩ := Kd.R_slice HO115.out; subst eo13; have hcz14_0 : w12.cell? ⟨gb112, 0, none⟩ = some (.bool false) := qc BK112 0; have hcz14_1 : w12.cell? ⟨gb112, 1, none⟩ = some (.slice none 0 0) := qc BK112 1; have hfz14_0 := blk_frozen BK112.out 0; have hfz14_1 := blk_frozen BK112.out 1))
  refine bodyPost_ret (results_cell_row rfl _ _ gb112 34 #[.bool false, .slice Ao13 t113.length co13] (0, 0) _ rfl (by (with_reducible repeat first|refine qN ?_ _|refine qW ?_|refine qA ?_ _); refine blk_put (cs := #[.bool false, .slice none 0 0]) ?_ 1 _ rfl; (with_reducible repeat first|refine qN ?_ _|refine qW ?_|refine qA ?_ _); refine blk_put (cs := #[.bool false, .slice none 0 0]) ?_ 0 _ rfl; (with_reducible repeat first|refine qN ?_ _|refine qW ?_|refine qA ?_ _); exact BK112.out) Tryd.underlying34 rfl (by kernel_rfl)) rfl ?_
  exact ⟨_, by first | rfl | (simp [errW_none, errW_some] <;> rfl) | (simp [*, errW_none, errW_some] <;> rfl), by (with_reducible repeat first|apply Kd.R_alloc|apply Kd.R_drewN|apply Kd.R_drew); exact Kd.R_mono (qz HO115 BK112 (by decide) (.bool false) (.slice Ao13 t113.length co13)) (fun _ hk => hk.1), by repeat (first | (with_reducible first | exact HB.out | apply qx | apply qv | apply qw | refine below_set ?_ GE112.out) | exact HB.out), by repeat (first | (with_reducible first | exact HK.out | apply Kept.alloc | apply Kept.drewN | apply Kept.drew | refine Kept.setCell ?_ (.inr GW112.out) _) | exact HK.out)⟩
end Go.Proofs.YthhpnlbeniihhaaDoor.PRef
-- Printed by a program of this session's (wip/tools/printr.py, over the kit's print program).
namespace Go.Proofs.YthhpnlbeniihhaaDoor.PRef
open Go.RowKit Go.Proofs.YthhpnlbeniihhaaDoorW.PrintWords Go.Proofs.YthhpnlbeniihhaaDoorW.PrintLast Go.Proofs.YthhpnlbeniihhaaDoorW.PrintMore
attribute [local go_sem] max2_int min2_int max_two min_two max_three min_three max_four min_four   -- for this text's walks alone
set_option linter.unusedVariables false
set_option linter.unusedSimpArgs false
def moraineref02_bit.f (l0 : List Int) (a1 : Int) : Option (Int) := if a1 < (l0.length : Int) then (if 0 ≤ a1 then (some (wrap64 (rd l0 a1))) else (none)) else (some 0)
set_option maxHeartbeats 8000000 in
set_option maxRecDepth 100000 in
theorem moraineref02_bit.calls (A0 : Option Addr) (c0 : Nat) (l0 : List Int) (a1 : Int) (r : Int) (w : World) (hr0 : Kd.C (Kd.int .u8) w A0 l0.length l0) (hc0 : l0.length ≤ c0) (h : moraineref02_bit.f l0 a1 = some r) :
  Calls Tryd.prog 61 #[.slice A0 l0.length c0, .int .i64 a1] w fun e w' => e = .returned (.int .i64 r) ∧ Drawn0 w w' := by
 have HR0 := Aside0.mk hr0
 have HC0 := Aside0.mk hc0
 clear hr0 hc0
 have H : (if a1 < (l0.length : Int) then (if 0 ≤ a1 then (some (wrap64 (rd l0 a1))) else (none)) else (some 0)) = some r := h
 clear h
 by_cases c3 : a1 < (l0.length : Int)
 ·rw [if_pos c3] at H
  have c3b0 : decide (a1 < (l0.length : Int)) = true := decide_eq_true c3
  clear c3
  by_cases c4 : 0 ≤ a1
  ·rw [if_pos c4] at H
   have c4b0 : decide (0 ≤ a1) = true := decide_eq_true c4
   clear c4
   obtain rfl := Option.some.inj H
   have p169 : 0 ≤ (a1 : Int) := of_decide_eq_true (by first | (with_reducible assumption) | assumption)
   have q169 : a1 < (l0.length : Int) := of_decide_eq_true (by first | (with_reducible assumption) | assumption)
   obtain ⟨ad169, e169, hx169_0⟩ := Kd.at_int HR0.out a1 p169 q169
   cases e169
   replace p169 := eq_true p169
   replace q169 := eq_true q169
   go_enter Tryd.func61, Tryd.ntmps61
   go_wp2
   go_ret
   exact ⟨by first | rfl | (simp; done) | (simp [*]; done), by repeat (first | exact Drawn0.refl _ | apply Drawn0.step)⟩
  ·rw [if_neg c4] at H
   exact absurd H (by simp)
 ·rw [if_neg c3] at H
  have c3b0 : decide (a1 < (l0.length : Int)) = false := decide_eq_false c3
  clear c3
  obtain rfl := Option.some.inj H
  go_enter Tryd.func61, Tryd.ntmps61
  go_wp2
  go_ret
  exact ⟨by first | rfl | (simp; done) | (simp [*]; done), by repeat (first | exact Drawn0.refl _ | apply Drawn0.step)⟩
def moraineref02_small.l0 : Nat → Int → List Int → Option (List Int)
 | 0, _, _ => none
 | k + 1, x0, x3 => if x0 > 0 then (if x3.length < 140737488355328 then (moraineref02_small.l0 k (wrap64 (Int.tdiv x0 2)) (x3 ++ [(Int.tmod x0 2) % 256])) else (none)) else (some x3)
def moraineref02_small.f (k : Nat) (a0 : Int) : Option (List Int) := moraineref02_small.l0 k a0 ([] : List Int)
set_option maxHeartbeats 8000000 in
set_option maxRecDepth 100000 in
theorem moraineref02_small.calls (k : Nat) (a0 : Int) (r : List Int) (w : World) (h : moraineref02_small.f k a0 = some r) :
  Calls Tryd.prog 60 #[.int .i64 a0] w fun e w' => ∃ v0_ : Value, e = .returned (v0_) ∧ Kd.R (Kd.int .u8) 5 w' w.heap.size (fun _ => True) v0_ r ∧ Below w.heap.size w w' := by
 have HB := Aside0.mk (Below.refl w.heap.size w)
 have H : (moraineref02_small.l0 k a0 ([] : List Int)) = some r := h
 clear h
 have H' := Aside0.mk H
 clear H
 go_enter Tryd.func60, Tryd.ntmps60
 go_wp2
 go_loopg [0, 3] k (fun kq v0 v3 w' => ∃ (x0_1 : Int) (x3_1 : List Int), v0 = .int .i64 x0_1 ∧ Aside0 (moraineref02_small.l0 kq x0_1 x3_1 = some r) ∧ Aside0 (kq ≤ k) ∧ Aside0 (Kd.R (Kd.int .u8) 5 w' w.heap.size (fun _ => True) v3 x3_1) ∧ Aside0 (Below w.heap.size w w'))
 case atStart => exact ⟨(a0), (([] : List Int)), (by first | rfl | (simp; done) | (simp [*]; done)), H', ⟨Nat.le_refl _⟩, ⟨by first | exact Kd.R_nil _ _ _ _ _ | exact Kd.N_nil _ _ _ _ _ | exact Kd.V_nil _ _ _ _ _ | exact Kd.Q_nil _ _ _ _ _ | exact Kd.S_nil _ _ _ _ _⟩, ⟨by repeat (first | (with_reducible first | exact HB.out | apply qx | apply qv | apply qw) | exact HB.out)⟩⟩
 case round =>
  clear H'
  obtain ⟨x0_1, x3_1, rfl, HA, HK1, HO_3, HB⟩ := hrel
  cases gk with
  | zero => exact absurd HA.out (by simp [moraineref02_small.l0])
  | succ k1 =>
   have H := HA.out
   clear HA
   simp only [moraineref02_small.l0] at H
   by_cases c2 : x0_1 > 0
   ·rw [if_pos c2] at H
    have c2b0 : decide (0 < x0_1) = true := decide_eq_true c2
    clear c2
    by_cases c3 : x3_1.length < 140737488355328
    ·rw [if_pos c3] at H
     have LMc3 := Aside0.mk c3
     clear c3
     obtain ⟨y202, hy202⟩ : ∃ y_ : List Int, y_ = (x3_1 ++ [(Int.tmod x0_1 2) % 256]) := ⟨_, rfl⟩
     replace H : (moraineref02_small.l0 k1 (wrap64 (Int.tdiv x0_1 2)) y202) = some r := by first | (rw [hy202]; with_reducible exact H) | (have H2_ := (Option.bind_some _ _).symm.trans H; rw [hy202]; with_reducible exact H2_) | (have H2_ := (Option.bind_some _ _).symm.trans H; with_reducible exact H2_) | with_reducible exact H | (rw [hy202]; exact H) | exact H
     have Ny202 := Aside0.mk hy202
     clear hy202
     have H' := Aside0.mk H
     clear H
     go_wp2_with (first | ((with_reducible refine gate_builtin (b := .append) (xs := #[.tmp 6, .tmp 10]) rfl ?_); at_builtin; refine Kd.R_append (Kd.int .u8) (w0 := w) w.heap.size rfl (.tmp 6) (.tmp 10) 32 5 (.int .u8 0) 1 rfl Tryd.underlying32 info5 rfl (by decide) (by omega) u3 x3_1 ((Int.tmod x0_1 2) % 256) [.int .u8 ((Int.tmod x0_1 2) % 256)] (fun _ => True) (fun _ => False) rfl rfl ?aP (fun _ hk => hk.elim) ?aF ?aO ?aB ?aS ?aL ?_; (case aP => exact rfl); (case aB => exact (by repeat (first | (with_reducible first | exact HB.out | apply qx | apply qv | apply qw) | exact HB.out))); (case aF => exact (fun _ _ => trivial)); (case aO => exact (by (with_reducible repeat first|apply Kd.R_alloc|apply Kd.R_drewN|apply Kd.R_drew); exact HO_3.out)); (case aS => exact (below_size (by repeat (first | (with_reducible first | exact HB.out | apply qx | apply qv | apply qw) | exact HB.out)))); (case aL => have := LMc3.out; omega); intro v203 w4 ho hb hg hat; rw [← Ny202.out] at ho; replace HB := Aside0.mk (hb); have HO204 := Aside0.mk (ho); clear HO_3; clear ho hb hg hat))
     go_roundg k1
     case measure => have := HK1.out; omega
     case rel => exact ⟨(wrap64 (Int.tdiv x0_1 2)), (y202), (by first | rfl | (simp; done) | (simp [*]; done)), H', ⟨by have := HK1.out; omega⟩, ⟨qq HO204⟩, ⟨by repeat (first | (with_reducible first | exact HB.out | apply qx | apply qv | apply qw) | exact HB.out)⟩⟩
    ·rw [if_neg c3] at H
     exact absurd H (by simp)
   ·rw [if_neg c2] at H
    have c2b0 : decide (0 < x0_1) = false := decide_eq_false c2
    clear c2
    obtain rfl := Option.some.inj H
    go_wp2
    go_ret
    exact ⟨_, by first | rfl | (simp [errW_none, errW_some] <;> rfl) | (simp [*, errW_none, errW_some] <;> rfl), by (with_reducible repeat first|apply Kd.R_alloc|apply Kd.R_drewN|apply Kd.R_drew); exact HO_3.out, by repeat (first | (with_reducible first | exact HB.out | apply qx | apply qv | apply qw) | exact HB.out)⟩
end Go.Proofs.YthhpnlbeniihhaaDoor.PRef
-- Printed by a program of this session's (wip/tools/printr.py, over the kit's print program).
namespace Go.Proofs.YthhpnlbeniihhaaDoor.PRef
open Go.RowKit Go.Proofs.YthhpnlbeniihhaaDoorW.PrintWords Go.Proofs.YthhpnlbeniihhaaDoorW.PrintLast Go.Proofs.YthhpnlbeniihhaaDoorW.PrintMore
attribute [local go_sem] max2_int min2_int max_two min_two max_three min_three max_four min_four   -- for this text's walks alone
set_option linter.unusedVariables false
set_option linter.unusedSimpArgs false
mutual
def moraineref02_plus.l0 : Nat → List Int → List Int → List Int → Int → Int → Option (List Int)
 | 0, _, _, _, _, _ => none
 | k + 1, x0, x1, x5, x6, x7 => if x7 ≤ (x0.length : Int) then (moraineref02_plus.j1 k x0 x1 x5 x6 x7 true) else (moraineref02_plus.j1 k x0 x1 x5 x6 x7 (decide (x7 ≤ (x1.length : Int))))
def moraineref02_plus.j1 : Nat → List Int → List Int → List Int → Int → Int → Bool → Option (List Int)
 | 0, _, _, _, _, _, _ => none
 | k + 1, x0, x1, x5, x6, x7, x18 => if x18 = true then ((moraineref02_bit.f x0 x7).bind fun t225 => ((moraineref02_bit.f x1 x7).bind fun t226 => (if x5.length < 140737488355328 then (moraineref02_plus.l0 k x0 x1 (x5 ++ [(Int.tmod (wrap64 ((wrap64 (t225 + t226)) + x6)) 2) % 256]) (wrap64 (Int.tdiv (wrap64 ((wrap64 (t225 + t226)) + x6)) 2)) (wrap64 (x7 + 1))) else (none)))) else ((moraineref02_cut.f k x5).bind fun t230 => (some t230))
end
def moraineref02_plus.f (k : Nat) (l0 : List Int) (l1 : List Int) : Option (List Int) := moraineref02_plus.l0 k l0 l1 ([] : List Int) 0 0
set_option maxHeartbeats 8000000 in
set_option maxRecDepth 100000 in
theorem moraineref02_plus.calls (k : Nat) (A0 : Option Addr) (c0 : Nat) (l0 : List Int) (A1 : Option Addr) (c1 : Nat) (l1 : List Int) (r : List Int) (w : World) (hr0 : Kd.C (Kd.int .u8) w A0 l0.length l0) (hc0 : l0.length ≤ c0) (hr1 : Kd.C (Kd.int .u8) w A1 l1.length l1) (hc1 : l1.length ≤ c1) (h : moraineref02_plus.f k l0 l1 = some r) :
  Calls Tryd.prog 68 #[.slice A0 l0.length c0, .slice A1 l1.length c1] w fun e w' => ∃ v0_ : Value, e = .returned (v0_) ∧ Kd.R (Kd.int .u8) 5 w' w.heap.size (fun _ => True) v0_ r ∧ Below w.heap.size w w' := by
 have HR0 := Aside0.mk hr0
 have HC0 := Aside0.mk hc0
 clear hr0 hc0
 have HR1 := Aside0.mk hr1
 have HC1 := Aside0.mk hc1
 clear hr1 hc1
 have HB := Aside0.mk (Below.refl w.heap.size w)
 have H : (moraineref02_plus.l0 k l0 l1 ([] : List Int) 0 0) = some r := h
 clear h
 have H' := Aside0.mk H
 clear H
 go_enter Tryd.func68, Tryd.ntmps68
 go_wp2
 go_loopg [5, 6, 7] k (fun kq v5 v6 v7 w' => ∃ (x5_1 : List Int) (x6_1 : Int) (x7_1 : Int), v6 = .int .i64 x6_1 ∧ v7 = .int .i64 x7_1 ∧ Aside0 (moraineref02_plus.l0 kq l0 l1 x5_1 x6_1 x7_1 = some r) ∧ Aside0 (kq ≤ k) ∧ Aside0 (Kd.R (Kd.int .u8) 5 w' w.heap.size (fun _ => True) v5 x5_1) ∧ Aside0 (Below w.heap.size w w'))
 case atStart => exact ⟨(([] : List Int)), (0), (0), (by first | rfl | (simp; done) | (simp [*]; done)), (by first | rfl | (simp; done) | (simp [*]; done)), H', ⟨Nat.le_refl _⟩, ⟨by first | exact Kd.R_nil _ _ _ _ _ | exact Kd.N_nil _ _ _ _ _ | exact Kd.V_nil _ _ _ _ _ | exact Kd.Q_nil _ _ _ _ _ | exact Kd.S_nil _ _ _ _ _⟩, ⟨by repeat (first | (with_reducible first | exact HB.out | apply qx | apply qv | apply qw) | exact HB.out)⟩⟩
 case round =>
  clear H'
  try clear c1
  try clear p2
  obtain ⟨x5_1, x6_1, x7_1, rfl, rfl, HA, HK1, HO_5, HB⟩ := hrel
  cases gk with
  | zero => exact absurd HA.out (by simp [moraineref02_plus.l0])
  | succ k1 =>
   have H := HA.out
   clear HA
   simp only [moraineref02_plus.l0] at H
   have HC3 := Aside0.mk H
   clear H
   go_upto_region 4 with (fail)
   go_cut [18] (fun v18 wc => ∃ (kq : Nat) (x18_2 : Bool), v18 = .bool x18_2 ∧ Aside0 (moraineref02_plus.j1 kq l0 l1 x5_1 x6_1 x7_1 x18_2 = some r) ∧ Aside0 (kq ≤ k1) ∧ Aside0 (Kd.R (Kd.int .u8) 5 wc w.heap.size (fun _ => True) u5 x5_1) ∧ Aside0 (Below w.heap.size w wc))
   case first =>
    have H := HC3.out
    clear HC3
    by_cases c4 : x7_1 ≤ (l0.length : Int)
    ·rw [if_pos c4] at H
     have c4b0 : decide (x7_1 ≤ (l0.length : Int)) = true := decide_eq_true c4
     clear c4
     (first | rw [c4b0] | (simp only [i64_w, i32_w]; rw [c4b0]) | skip)
     have H' := Aside0.mk H
     clear H
     go_wp2
     go_meet
     case rel => exact ⟨_, (true), (by first | rfl | (simp; done) | (simp [*]; done)), H', ⟨by have := HK1.out; first | omega | exact Nat.le_refl _⟩, ⟨qq HO_5⟩, ⟨by repeat (first | (with_reducible first | exact HB.out | apply qx | apply qv | apply qw) | exact HB.out)⟩⟩
    ·rw [if_neg c4] at H
     have c4b0 : decide (x7_1 ≤ (l0.length : Int)) = false := decide_eq_false c4
     clear c4
     (first | rw [c4b0] | (simp only [i64_w, i32_w]; rw [c4b0]) | skip)
     have H' := Aside0.mk H
     clear H
     go_wp2
     go_meet
     case rel => exact ⟨_, (decide (x7_1 ≤ (l1.length : Int))), (by first | rfl | (simp; done) | (simp [*]; done)), H', ⟨by have := HK1.out; first | omega | exact Nat.le_refl _⟩, ⟨qq HO_5⟩, ⟨by repeat (first | (with_reducible first | exact HB.out | apply qx | apply qv | apply qw) | exact HB.out)⟩⟩
   case rest =>
    clear HC3
    try clear c1
    try clear p2
    try clear c4
    try clear c4b0
    try clear p2
    obtain ⟨kq, x18_2, rfl, HA, HJ2, HO_5, HB⟩ := hcut
    cases kq with
    | zero => exact absurd HA.out (by simp [moraineref02_plus.j1])
    | succ kj2 =>
     have H := HA.out
     clear HA
     simp only [moraineref02_plus.j1] at H
     by_cases c5 : x18_2 = true
     ·subst c5
      have H1 : ((moraineref02_bit.f l0 x7_1).bind fun t225 => ((moraineref02_bit.f l1 x7_1).bind fun t226 => (if x5_1.length < 140737488355328 then (moraineref02_plus.l0 kj2 l0 l1 (x5_1 ++ [(Int.tmod (wrap64 ((wrap64 (t225 + t226)) + x6_1)) 2) % 256]) (wrap64 (Int.tdiv (wrap64 ((wrap64 (t225 + t226)) + x6_1)) 2)) (wrap64 (x7_1 + 1))) else (none)))) = some r := by rw [if_pos rfl] at H; exact H
      clear H
      have H := H1
      clear H1
      replace H := Option.bind_eq_some_iff.mp H
      obtain ⟨t225, A60, H⟩ := H
      replace H : ((moraineref02_bit.f l1 x7_1).bind fun t226 => (if x5_1.length < 140737488355328 then (moraineref02_plus.l0 kj2 l0 l1 (x5_1 ++ [(Int.tmod (wrap64 ((wrap64 (t225 + t226)) + x6_1)) 2) % 256]) (wrap64 (Int.tdiv (wrap64 ((wrap64 (t225 + t226)) + x6_1)) 2)) (wrap64 (x7_1 + 1))) else (none))) = some r := H
      have A6 := Aside0.mk A60
      clear A60
      replace H := Option.bind_eq_some_iff.mp H
      obtain ⟨t226, A70, H⟩ := H
      replace H : (if x5_1.length < 140737488355328 then (moraineref02_plus.l0 kj2 l0 l1 (x5_1 ++ [(Int.tmod (wrap64 ((wrap64 (t225 + t226)) + x6_1)) 2) % 256]) (wrap64 (Int.tdiv (wrap64 ((wrap64 (t225 + t226)) + x6_1)) 2)) (wrap64 (x7_1 + 1))) else (none)) = some r := H
      have A7 := Aside0.mk A70
      clear A70
      by_cases c8 : x5_1.length < 140737488355328
      ·rw [if_pos c8] at H
       have LMc8 := Aside0.mk c8
       clear c8
       obtain ⟨y227, hy227⟩ : ∃ y_ : List Int, y_ = (x5_1 ++ [(Int.tmod (wrap64 ((wrap64 (t225 + t226)) + x6_1)) 2) % 256]) := ⟨_, rfl⟩
       replace H : (moraineref02_plus.l0 kj2 l0 l1 y227 (wrap64 (Int.tdiv (wrap64 ((wrap64 (t225 + t226)) + x6_1)) 2)) (wrap64 (x7_1 + 1))) = some r := by first | (rw [hy227]; with_reducible exact H) | (have H2_ := (Option.bind_some _ _).symm.trans H; rw [hy227]; with_reducible exact H2_) | (have H2_ := (Option.bind_some _ _).symm.trans H; with_reducible exact H2_) | with_reducible exact H | (rw [hy227]; exact H) | exact H
       have Ny227 := Aside0.mk hy227
       clear hy227
       have H' := Aside0.mk H
       clear H
       go_wp2_with (first | ((with_reducible refine gate_callee (f := 61) rfl ?_); refine goesL_ (some 23) rfl rfl Tryd.func61 (by kernel_rfl) rfl #[.slice A0 l0.length c0, .int .i64 x7_1] rfl (by (try simp only [zM, zO, zP]); first|done|rfl) ?_; (with_reducible refine (moraineref02_bit.calls _ _ l0 x7_1 t225 _ ?side1 ?side2 A6.out).mono ?_); (case side1 => exact qC HR0 HB); (case side2 => exact HC0.out); rintro e w' ⟨rfl, ⟨nd, rfl⟩⟩; refine ⟨_, rfl, ?_⟩) | ((with_reducible refine gate_callee (f := 61) rfl ?_); refine goesL_ (some 26) rfl rfl Tryd.func61 (by kernel_rfl) rfl #[.slice A1 l1.length c1, .int .i64 x7_1] rfl (by (try simp only [zM, zO, zP]); first|done|rfl) ?_; (with_reducible refine (moraineref02_bit.calls _ _ l1 x7_1 t226 _ ?side1 ?side2 A7.out).mono ?_); (case side1 => repeat (first | exact (Kd.C_below HR1.out (by repeat (first | (with_reducible first | exact HB.out | apply qx | apply qv | apply qw) | exact HB.out))) | (with_reducible first|refine Kd.C_alloc ?_ _|refine Kd.C_drewN ?_ _|refine Kd.C_drew ?_))); (case side2 => exact HC1.out); rintro e w' ⟨rfl, ⟨nd, rfl⟩⟩; refine ⟨_, rfl, ?_⟩) | ((with_reducible refine gate_builtin (b := .append) (xs := #[.tmp 30, .tmp 34]) rfl ?_); (try (refine gate_guard (by rfl) ?_; dsimp only)); at_builtin; refine Kd.R_append (Kd.int .u8) (w0 := w) w.heap.size rfl (.tmp 30) (.tmp 34) 32 5 (.int .u8 0) 1 rfl Tryd.underlying32 info5 rfl (by decide) (by omega) u5 x5_1 ((Int.tmod (wrap64 ((wrap64 (t225 + t226)) + x6_1)) 2) % 256) [.int .u8 ((Int.tmod (wrap64 ((wrap64 (t225 + t226)) + x6_1)) 2) % 256)] (fun _ => True) (fun _ => False) rfl rfl ?aP (fun _ hk => hk.elim) ?aF ?aO ?aB ?aS ?aL ?_; (case aP => exact rfl); (case aB => exact (by repeat (first | (with_reducible first | exact HB.out | apply qx | apply qv | apply qw) | exact HB.out))); (case aF => exact (fun _ _ => trivial)); (case aO => exact (by (with_reducible repeat first|apply Kd.R_alloc|apply Kd.R_drewN|apply Kd.R_drew); exact HO_5.out)); (case aS => exact (below_size (by repeat (first | (with_reducible first | exact HB.out | apply qx | apply qv | apply qw) | exact HB.out)))); (case aL => have := LMc8.out; omega); intro v228 w9 ho hb hg hat; rw [← Ny227.out] at ho; replace HB := Aside0.mk (hb); have HO229 := Aside0.mk (ho); clear HO_5; clear ho hb hg hat))
       go_roundg kj2
       case measure => have := HK1.out; have := HJ2.out; omega
       case rel => exact ⟨(y227), (wrap64 (Int.tdiv (wrap64 ((wrap64 (t225 + t226)) + x6_1)) 2)), (wrap64 (x7_1 + 1)), (by first | rfl | (simp; done) | (simp [*]; done)), (by first | rfl | (simp; done) | (simp [*]; done)), H', ⟨by have := HK1.out; have := HJ2.out; omega⟩, ⟨qq HO229⟩, ⟨by repeat (first | (with_reducible first | exact HB.out | apply qx | apply qv | apply qw) | exact HB.out)⟩⟩
      ·rw [if_neg c8] at H
       exact absurd H (by simp)
     ·replace c5 := Bool.eq_false_iff.mpr c5
      subst c5
      have H1 : ((moraineref02_cut.f kj2 x5_1).bind fun t230 => (some t230)) = some r := by rw [if_neg (show ¬ (false = true) by decide)] at H; exact H
      clear H
      have H := H1
      clear H1
      replace H := Option.bind_eq_some_iff.mp H
      obtain ⟨t230, A100, H⟩ := H
      replace H : (some t230) = some r := H
      have A10 := Aside0.mk A100
      clear A100
      obtain rfl := Option.some.inj H
      obtain ⟨Ao11, co11, eo11⟩ := Kd.R_slice HO_5.out
      subst eo11
      go_wp2_with (first | ((with_reducible refine gate_callee (f := 85) rfl ?_); refine goesL_ (some 39) rfl rfl Tryd.func85 (by kernel_rfl) rfl #[.slice Ao11 x5_1.length co11] rfl (by (try simp only [zM, zO, zP]); first|done|rfl) ?_; (with_reducible refine (moraineref02_cut.calls kj2 (fun k_ => some k_ = (.slice Ao11 x5_1.length co11 : Value).ownBlock) (.slice Ao11 x5_1.length co11) x5_1 t230 w _ ?side1 ?side2 A10.out).mono ?_); (case side1 => repeat (first | (with_reducible first | exact HB.out | apply qx | apply qv | apply qw) | exact HB.out)); (case side2 => exact Kd.R_tight rfl HO_5.out); rintro e w12 ⟨v231, rfl, ho0, hb, hkp⟩; refine ⟨_, rfl, ?_⟩; have HO232 := Aside0.mk (Kd.R_mono (ok' := fun k_ => True) ho0 (fun k_ hk_ => trivial)); replace HB := Aside0.mk (hb); clear HO_5; (try clear hb); (try clear hkp); (try clear ho0)))
      go_ret
      exact ⟨_, by first | rfl | (simp [errW_none, errW_some] <;> rfl) | (simp [*, errW_none, errW_some] <;> rfl), by (with_reducible repeat first|apply Kd.R_alloc|apply Kd.R_drewN|apply Kd.R_drew); exact HO232.out, by repeat (first | (with_reducible first | exact HB.out | apply qx | apply qv | apply qw) | exact HB.out)⟩
end Go.Proofs.YthhpnlbeniihhaaDoor.PRef
-- Printed by a program of this session's (wip/tools/printr.py, over the kit's print program).
namespace Go.Proofs.YthhpnlbeniihhaaDoor.PRef
open Go.RowKit Go.Proofs.YthhpnlbeniihhaaDoorW.PrintWords Go.Proofs.YthhpnlbeniihhaaDoorW.PrintLast Go.Proofs.YthhpnlbeniihhaaDoorW.PrintMore
attribute [local go_sem] max2_int min2_int max_two min_two max_three min_three max_four min_four   -- for this text's walks alone
set_option linter.unusedVariables false
set_option linter.unusedSimpArgs false
def moraineref02_Num.l0 : Nat → Int → Bool → List Int → Bool → List Int → Option (Bool × List Int × Int)
 | 0, _, _, _, _, _ => none
 | k + 1, x5, x127000, x127001, x129000, x129001 => if x5 < (x127001.length : Int) then (if (Int.tmod x5 32) = 0 then (if x129001.length < 35184372088832 then ((some (x129001 ++ [0] : List Int)).bind fun y129 => (if 0 ≤ x5 then (if (rd x127001 x5) = 1 then (if 0 ≤ (wrap64 (Int.tdiv x5 32)) then (if (wrap64 (Int.tdiv x5 32)) < (y129.length : Int) then (if 0 ≤ (Int.tmod x5 32) then (moraineref02_Num.l0 k (wrap64 (x5 + 1)) x127000 x127001 x129000 (y129.set ((wrap64 (Int.tdiv x5 32)) : Int).toNat (Go.bits .or .u32 (rd y129 (wrap64 (Int.tdiv x5 32))) (shl .u32 1 (Int.tmod x5 32))))) else (none)) else (none)) else (none)) else (moraineref02_Num.l0 k (wrap64 (x5 + 1)) x127000 x127001 x129000 y129)) else (none))) else (none)) else (if 0 ≤ x5 then (if (rd x127001 x5) = 1 then (if 0 ≤ (wrap64 (Int.tdiv x5 32)) then (if (wrap64 (Int.tdiv x5 32)) < (x129001.length : Int) then (if 0 ≤ (Int.tmod x5 32) then (moraineref02_Num.l0 k (wrap64 (x5 + 1)) x127000 x127001 x129000 (x129001.set ((wrap64 (Int.tdiv x5 32)) : Int).toNat (Go.bits .or .u32 (rd x129001 (wrap64 (Int.tdiv x5 32))) (shl .u32 1 (Int.tmod x5 32))))) else (none)) else (none)) else (none)) else (moraineref02_Num.l0 k (wrap64 (x5 + 1)) x127000 x127001 x129000 x129001)) else (none))) else (some (x129000, x129001, 0))
def moraineref02_Num.f (k : Nat) (a0_0 : Bool) (l0_1 : List Int) : Option (Bool × List Int × Int) := if (l0_1.length : Int) > 1536 then (some (false, ([] : List Int), 6)) else (moraineref02_Num.l0 k 0 a0_0 l0_1 a0_0 ([] : List Int))
def moraineref02_Num.T10 : Bool × List (List Nat × List Nat) := (true, [([], []), ([0], [0]), ([], []), ([2], [2]), ([], []), ([4], [4]), ([], []), ([6], [6]), ([5, 7], [5, 7]), ([8], [8]), ([], []), ([10], [10]), ([11], [11]), ([9, 12], [9, 12]), ([1, 3, 0, 1, 2, 3, 4, 5, 6, 7, 8, 9, 10, 11, 12, 13], [1, 3]), ([14, 13, 0, 1, 2, 3, 4, 5, 6, 7, 8, 9, 10, 11, 12, 13], [13, 14])])
def moraineref02_Num.B10 : List Nat := [0, 1, 0, 4, 0, 16, 0, 64, 240, 496, 0, 1024, 3072, 8176, 16383, 32767]
theorem moraineref02_Num.tab10 : rtab .any (opsOf Tryd.f52 10) = moraineref02_Num.T10 := by kernel_rfl
theorem moraineref02_Num.bits10 : waitsOk moraineref02_Num.T10.2 moraineref02_Num.B10 = true := by kernel_rfl
set_option maxHeartbeats 8000000 in
set_option maxRecDepth 100000 in
theorem moraineref02_Num.calls (k : Nat) (a0_0 : Bool) (A0_1 : Option Addr) (c0_1 : Nat) (l0_1 : List Int) (r1 : Bool) (r2 : List Int) (r3 : Int) (w : World) (hr0_1 : Kd.C (Kd.int .u8) w A0_1 l0_1.length l0_1) (hc0_1 : l0_1.length ≤ c0_1) (h : moraineref02_Num.f k a0_0 l0_1 = some (r1, r2, r3)) :
  Calls Tryd.prog 52 #[.agg #[.bool a0_0, .slice A0_1 l0_1.length c0_1]] w fun e w' => ∃ v1_ : Value, e = .returned (.tuple #[.agg #[.bool r1, v1_], .int .i64 r3]) ∧ Kd.R (Kd.int .u32) 63 w' w.heap.size (fun _ => True) v1_ r2 ∧ Below w.heap.size w w' := by
 have hu34 := Tryd.underlying34
 have hu25 := Tryd.underlying25
 have HR0_1 := Aside0.mk hr0_1
 have HC0_1 := Aside0.mk hc0_1
 clear hr0_1 hc0_1
 have HB := Aside0.mk (Below.refl w.heap.size w)
 have H : (if (l0_1.length : Int) > 1536 then (some (false, ([] : List Int), 6)) else (moraineref02_Num.l0 k 0 a0_0 l0_1 a0_0 ([] : List Int))) = some (r1, r2, r3) := h
 clear h
 by_cases c2 : (l0_1.length : Int) > 1536
 ·rw [if_pos c2] at H
  have c2b0 : decide (1536 < (l0_1.length : Int)) = true := decide_eq_true c2
  have c2b1 : decide (1536 < l0_1.length) = true := decide_eq_true (by omega)
  clear c2
  simp only [Option.some.injEq, Prod.mk.injEq] at H
  obtain ⟨rfl, rfl, rfl⟩ := H
  go_enter Tryd.func52, Tryd.ntmps52
  go_wp2_with (first | ((with_reducible refine gate_dst (N := 1) rfl ?_); refine box_event ?hg (N := 1) ?hd (cs := #[.bool a0_0, .slice A0_1 l0_1.length c0_1]) (t := 34) ?hr ?_; (case hd => rfl); (case hg => rfl); (case hr => go_simp <;> rfl); intro gb126 hg w3 hbox hb; have BK126 := Aside0.mk (hbox); have GW126 := qg hg (by repeat (first | (with_reducible first | exact HB.out | apply qx | apply qv | apply qw) | exact HB.out)); have GE126 := GW126; replace HB := Aside0.mk (below_step (by repeat (first | (with_reducible first | exact HB.out | apply qx | apply qv | apply qw) | exact HB.out)) hb); clear hb hbox hg) | ((with_reducible refine gate_dst (N := 2) rfl ?_); refine box_event ?hg (N := 2) ?hd (cs := #[.bool false, .slice none 0 0]) (t := 25) ?hr ?_; (case hd => rfl); (case hg => rfl); (case hr => go_simp <;> rfl); intro gb127 hg w4 hbox hb; have BK127 := Aside0.mk (hbox); have GW127 := qg hg (by repeat (first | (with_reducible first | exact HB.out | apply qx | apply qv | apply qw | refine below_set ?_ GE126.out) | exact HB.out)); have GE127 := GW127; replace HB := Aside0.mk (below_step (by repeat (first | (with_reducible first | exact HB.out | apply qx | apply qv | apply qw | refine below_set ?_ GE126.out) | exact HB.out)) hb); have NB126_127 := qn BK126 hg; have NB127_126 := qm BK126 hg; replace BK126 := qb BK126 hb; clear hb hbox hg; have hnb5 := NB126_127.out; have hnc5 := NB127_126.out; have hcz6_0 : w4.cell? ⟨gb126, 0, none⟩ = some (.bool a0_0) := qc BK126 0; have hcz6_1 : w4.cell? ⟨gb126, 1, none⟩ = some (.slice A0_1 l0_1.length c0_1) := qc BK126 1; have hfz6_0 := blk_frozen BK126.out 0; have hfz6_1 := blk_frozen BK126.out 1; have hcz7_0 : w4.cell? ⟨gb127, 0, none⟩ = some (.bool false) := qc BK127 0; have hcz7_1 : w4.cell? ⟨gb127, 1, none⟩ = some (.slice none 0 0) := qc BK127 1; have hfz7_0 := blk_frozen BK127.out 0; have hfz7_1 := blk_frozen BK127.out 1))
  refine bodyPost_ret (results_ct rfl _ _ gb127 25 #[.bool false, .slice none 0 0] (0, 0) _ rfl (by (with_reducible repeat first|refine qN ?_ _|refine qW ?_|refine qA ?_ _); refine blk_put (cs := #[.bool false, .slice none 0 0]) ?_ 1 _ rfl; (with_reducible repeat first|refine qN ?_ _|refine qW ?_|refine qA ?_ _); refine blk_put (cs := #[.bool false, .slice none 0 0]) ?_ 0 _ rfl; (with_reducible repeat first|refine qN ?_ _|refine qW ?_|refine qA ?_ _); exact BK127.out) Tryd.underlying25 rfl (by kernel_rfl)) rfl ?_
  exact ⟨_, by first | rfl | (simp [errW_none, errW_some] <;> rfl) | (simp [*, errW_none, errW_some] <;> rfl), by first | exact Kd.R_nil _ _ _ _ _ | exact Kd.N_nil _ _ _ _ _ | exact Kd.V_nil _ _ _ _ _ | exact Kd.Q_nil _ _ _ _ _ | exact Kd.S_nil _ _ _ _ _, by repeat (first | (with_reducible first | exact HB.out | apply qx | apply qv | apply qw | refine qs ?_ (by assumption)) | exact HB.out)⟩
 ·rw [if_neg c2] at H
  have c2b0 : decide (1536 < (l0_1.length : Int)) = false := decide_eq_false c2
  have c2b1 : decide (1536 < l0_1.length) = false := decide_eq_false (by omega)
  clear c2
  have H' := Aside0.mk H
  clear H
  go_enter Tryd.func52, Tryd.ntmps52
  go_wp2_with (first | ((with_reducible refine gate_dst (N := 1) rfl ?_); refine box_event ?hg (N := 1) ?hd (cs := #[.bool a0_0, .slice A0_1 l0_1.length c0_1]) (t := 34) ?hr ?_; (case hd => rfl); (case hg => rfl); (case hr => go_simp <;> rfl); intro gb126 hg w8 hbox hb; have BK126 := Aside0.mk (hbox); have GW126 := qg hg (by repeat (first | (with_reducible first | exact HB.out | apply qx | apply qv | apply qw) | exact HB.out)); have GE126 := GW126; replace HB := Aside0.mk (below_step (by repeat (first | (with_reducible first | exact HB.out | apply qx | apply qv | apply qw) | exact HB.out)) hb); clear hb hbox hg) | ((with_reducible refine gate_dst (N := 2) rfl ?_); refine box_event ?hg (N := 2) ?hd (cs := #[.bool false, .slice none 0 0]) (t := 25) ?hr ?_; (case hd => rfl); (case hg => rfl); (case hr => go_simp <;> rfl); intro gb127 hg w9 hbox hb; have BK127 := Aside0.mk (hbox); have GW127 := qg hg (by repeat (first | (with_reducible first | exact HB.out | apply qx | apply qv | apply qw | refine below_set ?_ GE126.out) | exact HB.out)); have GE127 := GW127; replace HB := Aside0.mk (below_step (by repeat (first | (with_reducible first | exact HB.out | apply qx | apply qv | apply qw | refine below_set ?_ GE126.out) | exact HB.out)) hb); have NB126_127 := qn BK126 hg; have NB127_126 := qm BK126 hg; replace BK126 := qb BK126 hb; clear hb hbox hg; have hnb10 := NB126_127.out; have hnc10 := NB127_126.out; have hcz11_0 : w9.cell? ⟨gb126, 0, none⟩ = some (.bool a0_0) := qc BK126 0; have hcz11_1 : w9.cell? ⟨gb126, 1, none⟩ = some (.slice A0_1 l0_1.length c0_1) := qc BK126 1; have hfz11_0 := blk_frozen BK126.out 0; have hfz11_1 := blk_frozen BK126.out 1) | ((with_reducible refine gate_dst (N := 4) rfl ?_); refine box_event ?hg (N := 4) ?hd (cs := #[.bool false, .slice none 0 0]) (t := 25) ?hr ?_; (case hd => rfl); (case hg => rfl); (case hr => go_simp <;> rfl); intro gb128 hg w12 hbox hb; have BK128 := Aside0.mk (hbox); have GW128 := qg hg (by repeat with_reducible first|exact HB.out|apply qx|apply qv|apply qw|refine qs ?_ (by assumption)); have GE128 := GW128; replace HB := Aside0.mk (below_step (by repeat with_reducible first|exact HB.out|apply qx|apply qv|apply qw|refine qs ?_ (by assumption)) hb); have NB126_128 := qn BK126 hg; have NB128_126 := qm BK126 hg; replace BK126 := qb BK126 hb; have NB127_128 := qn BK127 hg; have NB128_127 := qm BK127 hg; replace BK127 := qb BK127 hb; clear hb hbox hg; have hnb13 := NB128_126.out; have hnc13 := NB126_128.out; have hnb14 := NB128_127.out; have hnc14 := NB127_128.out; have hcz15_0 : w12.cell? ⟨gb128, 0, none⟩ = some (.bool false) := qc BK128 0; have hcz15_1 : w12.cell? ⟨gb128, 1, none⟩ = some (.slice none 0 0) := qc BK128 1; have hfz15_0 := blk_frozen BK128.out 0; have hfz15_1 := blk_frozen BK128.out 1))
  go_loopg [5] k (fun kq v5 w' => ∃ (x5_1 : Int) (x129001_1 : List Int) (u129001 : Value), v5 = .int .i64 x5_1 ∧ Aside0 (moraineref02_Num.l0 kq x5_1 a0_0 l0_1 a0_0 x129001_1 = some (r1, r2, r3)) ∧ Aside0 (kq ≤ k) ∧ Aside0 (Kd.R (Kd.int .u32) 63 w' w.heap.size (fun _ => True) u129001 x129001_1) ∧ Aside0 (w'.heap[gb126]? = some (.cells #[.bool a0_0, (.slice A0_1 l0_1.length c0_1)] 34 (0, 0))) ∧ Aside0 (w'.heap[gb127]? = some (.cells #[.bool false, (.slice none 0 0)] 25 (0, 0))) ∧ Aside0 (w'.heap[gb128]? = some (.cells #[.bool a0_0, u129001] 25 (0, 0))) ∧ Aside0 (Below w.heap.size w w'))
  case atStart => exact ⟨(0), (([] : List Int)), (.slice none 0 0), (by first | rfl | (simp; done) | (simp [*]; done)), H', ⟨Nat.le_refl _⟩, ⟨by first | exact Kd.R_nil _ _ _ _ _ | exact Kd.N_nil _ _ _ _ _ | exact Kd.V_nil _ _ _ _ _ | exact Kd.Q_nil _ _ _ _ _ | exact Kd.S_nil _ _ _ _ _⟩, ⟨by (with_reducible repeat first|refine qN ?_ _|refine qW ?_|refine qA ?_ _); refine qf ?_ NB126_128; (with_reducible repeat first|refine qN ?_ _|refine qW ?_|refine qA ?_ _); exact BK126.out⟩, ⟨by (with_reducible repeat first|refine qN ?_ _|refine qW ?_|refine qA ?_ _); refine qf ?_ NB127_128; (with_reducible repeat first|refine qN ?_ _|refine qW ?_|refine qA ?_ _); exact BK127.out⟩, ⟨by (with_reducible repeat first|refine qN ?_ _|refine qW ?_|refine qA ?_ _); refine blk_put (cs := #[.bool a0_0, .slice none 0 0]) ?_ 1 _ rfl; (with_reducible repeat first|refine qN ?_ _|refine qW ?_|refine qA ?_ _); refine blk_put (cs := #[.bool false, .slice none 0 0]) ?_ 0 _ rfl; (with_reducible repeat first|refine qN ?_ _|refine qW ?_|refine qA ?_ _); exact BK128.out⟩, ⟨by repeat (first | (with_reducible first | exact HB.out | apply qx | apply qv | apply qw | refine qs ?_ (by assumption)) | exact HB.out)⟩⟩
  case round =>
   clear H'
   try clear c1
   try clear c2
   try clear c2b0
   try clear c2b1
   try clear p2
   try clear c5
   try clear c10
   try clear c13
   try clear c14
   try clear hcz11_0
   try clear hcz11_1
   try clear hcz15_0
   try clear hcz15_1
   try clear hcz6_0
   try clear hcz6_1
   try clear hcz7_0
   try clear hcz7_1
   try clear hfz11_0
   try clear hfz11_1
   try clear hfz15_0
   try clear hfz15_1
   try clear hfz6_0
   try clear hfz6_1
   try clear hfz7_0
   try clear hfz7_1
   obtain ⟨x5_1, x129001_1, u129001, rfl, HA, HK1, HO_129001, BK126, BK127, BK128, HB⟩ := hrel
   cases gk with
   | zero => exact absurd HA.out (by simp [moraineref02_Num.l0])
   | succ k1 =>
    have H := HA.out
    clear HA
    simp only [moraineref02_Num.l0] at H
    by_cases c16 : x5_1 < (l0_1.length : Int)
    ·rw [if_pos c16] at H
     have c16b0 : decide (x5_1 < (l0_1.length : Int)) = true := decide_eq_true c16
     clear c16
     by_cases c17 : (Int.tmod x5_1 32) = 0
     ·rw [if_pos c17] at H
      have c17b0 : ((Int.tmod x5_1 32) == 0) = true := beq_iff_eq.mpr c17
      have c17b1 : ((Int.tmod x5_1 32) != 0) = false := bne_eq_false_iff_eq.mpr c17
      clear c17
      by_cases c18 : x129001_1.length < 35184372088832
      ·rw [if_pos c18] at H
       have LMc18 := Aside0.mk c18
       clear c18
       obtain ⟨y129, hy129⟩ : ∃ y_ : List Int, y_ = (x129001_1 ++ [0]) := ⟨_, rfl⟩
       replace H : (if 0 ≤ x5_1 then (if (rd l0_1 x5_1) = 1 then (if 0 ≤ (wrap64 (Int.tdiv x5_1 32)) then (if (wrap64 (Int.tdiv x5_1 32)) < (y129.length : Int) then (if 0 ≤ (Int.tmod x5_1 32) then (moraineref02_Num.l0 k1 (wrap64 (x5_1 + 1)) a0_0 l0_1 a0_0 (y129.set ((wrap64 (Int.tdiv x5_1 32)) : Int).toNat (Go.bits .or .u32 (rd y129 (wrap64 (Int.tdiv x5_1 32))) (shl .u32 1 (Int.tmod x5_1 32))))) else (none)) else (none)) else (none)) else (moraineref02_Num.l0 k1 (wrap64 (x5_1 + 1)) a0_0 l0_1 a0_0 y129)) else (none)) = some (r1, r2, r3) := by first | (rw [hy129]; with_reducible exact H) | (have H2_ := (Option.bind_some _ _).symm.trans H; rw [hy129]; with_reducible exact H2_) | (have H2_ := (Option.bind_some _ _).symm.trans H; with_reducible exact H2_) | with_reducible exact H | (rw [hy129]; exact H) | exact H
       have Ny129 := Aside0.mk hy129
       clear hy129
       by_cases c19 : 0 ≤ x5_1
       ·rw [if_pos c19] at H
        have c19b0 : decide (0 ≤ x5_1) = true := decide_eq_true c19
        clear c19
        by_cases c20 : (rd l0_1 x5_1) = 1
        ·rw [if_pos c20] at H
         have c20b0 : ((rd l0_1 x5_1) == 1) = true := beq_iff_eq.mpr c20
         have c20b1 : ((rd l0_1 x5_1) != 1) = false := bne_eq_false_iff_eq.mpr c20
         clear c20
         obtain ⟨ji21, hji21⟩ : ∃ j_ : Int, (wrap64 (Int.tdiv x5_1 32)) = j_ := ⟨_, rfl⟩
         replace H : (if 0 ≤ (ji21) then (if (ji21) < (y129.length : Int) then (if 0 ≤ (Int.tmod x5_1 32) then (moraineref02_Num.l0 k1 (wrap64 (x5_1 + 1)) a0_0 l0_1 a0_0 (y129.set ((ji21) : Int).toNat (Go.bits .or .u32 (rd y129 (ji21)) (shl .u32 1 (Int.tmod x5_1 32))))) else (none)) else (none)) else (none)) = some (r1, r2, r3) := by first | (rw [hji21] at H; exact H) | (simp only [hji21] at H ⊢; exact H)
         have hji21w : (IntKind.i64.wrap (Int.tdiv x5_1 32)) = ji21 := (i64_w _).trans hji21
         by_cases c22 : 0 ≤ (ji21)
         ·rw [if_pos c22] at H
          have c22b0 : decide (0 ≤ (ji21)) = true := decide_eq_true c22
          clear c22
          by_cases c23 : (ji21) < (y129.length : Int)
          ·rw [if_pos c23] at H
           have c23b0 : decide ((ji21) < (y129.length : Int)) = true := decide_eq_true c23
           clear c23
           obtain ⟨ji24, hji24⟩ : ∃ j_ : Int, (Int.tmod x5_1 32) = j_ := ⟨_, rfl⟩
           replace H : (if 0 ≤ (ji24) then (moraineref02_Num.l0 k1 (wrap64 (x5_1 + 1)) a0_0 l0_1 a0_0 (y129.set ((ji21) : Int).toNat (Go.bits .or .u32 (rd y129 (ji21)) (shl .u32 1 (ji24))))) else (none)) = some (r1, r2, r3) := by first | (rw [hji24] at H; exact H) | (simp only [hji24] at H ⊢; exact H)
           (try rw [hji24] at c17b0)
           (try rw [hji24] at c17b1)
           by_cases c25 : 0 ≤ (ji24)
           ·rw [if_pos c25] at H
            have c25b0 := eq_true c25
            have c25b1 : decide (0 ≤ (ji24)) = true := decide_eq_true c25
            clear c25
            obtain ⟨ji26, hji26⟩ : ∃ j_ : Int, (shl .u32 1 (ji24)) = j_ := ⟨_, rfl⟩
            replace H : (moraineref02_Num.l0 k1 (wrap64 (x5_1 + 1)) a0_0 l0_1 a0_0 (y129.set ((ji21) : Int).toNat (Go.bits .or .u32 (rd y129 (ji21)) (ji26)))) = some (r1, r2, r3) := by first | (rw [hji26] at H; exact H) | (simp only [hji26] at H ⊢; exact H)
            have hji26_ : (IntKind.u32.wrap (1 * 2 ^ min (ji24).toNat 32)) = ji26 := hji26
            have hji26z : (ji24) ≤ 32 → (IntKind.u32.wrap (1 * 2 ^ (ji24).toNat)) = ji26 := shl_small hji26
            have hji26u : (IntKind.u32.wrap (2 ^ min (ji24).toNat 32)) = ji26 := by have h_ := hji26_; rw [Int.one_mul] at h_; exact h_
            have hji26v : (ji24) ≤ 32 → (IntKind.u32.wrap (2 ^ (ji24).toNat)) = ji26 := fun hle_ => by have h_ := hji26z hle_; rw [Int.one_mul] at h_; exact h_
            obtain ⟨y134, hy134⟩ : ∃ y_ : List Int, y_ = (y129.set ((ji21) : Int).toNat (Go.bits .or .u32 (rd y129 (ji21)) (ji26))) := ⟨_, rfl⟩
            replace H : (moraineref02_Num.l0 k1 (wrap64 (x5_1 + 1)) a0_0 l0_1 a0_0 y134) = some (r1, r2, r3) := by first | (rw [hy134]; with_reducible exact H) | (have H2_ := (Option.bind_some _ _).symm.trans H; rw [hy134]; with_reducible exact H2_) | (have H2_ := (Option.bind_some _ _).symm.trans H; with_reducible exact H2_) | with_reducible exact H | (rw [hy134]; exact H) | exact H
            have Ny134 := Aside0.mk hy134
            clear hy134
            have H' := Aside0.mk H
            clear H
            have hnb28 := NB126_127.out
            have hnc28 := NB127_126.out
            have hnb29 := NB126_128.out
            have hnc29 := NB128_126.out
            have hcz30_0 : wr.cell? ⟨gb126, 0, none⟩ = some (.bool a0_0) := qc BK126 0
            have hcz30_1 : wr.cell? ⟨gb126, 1, none⟩ = some (.slice A0_1 l0_1.length c0_1) := qc BK126 1
            have hfz30_0 := blk_frozen BK126.out 0
            have hfz30_1 := blk_frozen BK126.out 1
            have hnb31 := NB128_127.out
            have hnc31 := NB127_128.out
            have hcz32_0 : wr.cell? ⟨gb128, 0, none⟩ = some (.bool a0_0) := qc BK128 0
            have hcz32_1 : wr.cell? ⟨gb128, 1, none⟩ = some (u129001) := qc BK128 1
            have hfz32_0 := blk_frozen BK128.out 0
            have hfz32_1 := blk_frozen BK128.out 1
            try go_wp2_with (first | ((with_reducible refine gate_builtin (b := .append) (xs := #[.tmp 25, .tmp 26]) rfl ?_); at_builtin; refine Kd.R_append (Kd.int .u32) (w0 := w) w.heap.size rfl (.tmp 25) (.tmp 26) 23 63 (.int .u32 0) 4 rfl Tryd.underlying23 info63 rfl (by decide) (by omega) u129001 x129001_1 0 [.int .u32 0] (fun _ => True) (fun _ => False) rfl rfl ?aP (fun _ hk => hk.elim) ?aF ?aO ?aB ?aS ?aL ?_; (case aP => exact rfl); (case aB => exact (by repeat with_reducible first|exact HB.out|apply qx|apply qv|apply qw|refine qs ?_ (by assumption))); (case aF => exact (fun _ _ => trivial)); (case aO => exact (by (with_reducible repeat first|apply Kd.R_alloc|apply Kd.R_drewN|apply Kd.R_drew); exact HO_129001.out)); (case aS => exact (below_size (by repeat with_reducible first|exact HB.out|apply qx|apply qv|apply qw|refine qs ?_ (by assumption)))); (case aL => have := LMc18.out; omega); intro v130 w33 ho hb hg hat; rw [← Ny129.out] at ho; have n0_ := Aside0.mk (blk_grown (g := gb126) (o := .cells #[.bool a0_0, .slice A0_1 l0_1.length c0_1] 34 (0, 0)) (by (with_reducible repeat first|refine qN ?_ _|refine qW ?_|refine qA ?_ _); exact BK126.out) hg (Kd.R_ne HO_129001.out BK126.out (by decide))); have n1_ := Aside0.mk (blk_grown (g := gb127) (o := .cells #[.bool false, .slice none 0 0] 25 (0, 0)) (by (with_reducible repeat first|refine qN ?_ _|refine qW ?_|refine qA ?_ _); exact BK127.out) hg (Kd.R_ne HO_129001.out BK127.out (by decide))); have n2_ := Aside0.mk (blk_grown (g := gb128) (o := .cells #[.bool a0_0, u129001] 25 (0, 0)) (by (with_reducible repeat first|refine qN ?_ _|refine qW ?_|refine qA ?_ _); exact BK128.out) hg (Kd.R_ne HO_129001.out BK128.out (by decide))); have n3_ := Aside0.mk (hb); have n4_ := Aside0.mk (ho); clear BK126; clear BK127; clear BK128; clear HB; clear HO_129001; have BK126 := n0_; have BK127 := n1_; have BK128 := n2_; have HB := n3_; have HO131 := n4_; clear n0_ n1_ n2_ n3_ n4_; clear ho hb hg hat; obtain ⟨Ao34, co34, eo34⟩ := Kd.R_slice HO131.out; subst eo34; have hcz35_0 : w33.cell? ⟨gb128, 0, none⟩ = some (.bool a0_0) := qc BK128 0; have hcz35_1 : w33.cell? ⟨gb128, 1, none⟩ = some (u129001) := qc BK128 1; have hfz35_0 := blk_frozen BK128.out 0; have hfz35_1 := blk_frozen BK128.out 1; have hcz36_0 : w33.cell? ⟨gb126, 0, none⟩ = some (.bool a0_0) := qc BK126 0; have hcz36_1 : w33.cell? ⟨gb126, 1, none⟩ = some (.slice A0_1 l0_1.length c0_1) := qc BK126 1; have hfz36_0 := blk_frozen BK126.out 0; have hfz36_1 := blk_frozen BK126.out 1; have p132 : 0 ≤ (x5_1 : Int) := of_decide_eq_true (by first | (with_reducible assumption) | assumption); have q132 : x5_1 < (l0_1.length : Int) := of_decide_eq_true (by first | (with_reducible assumption) | assumption); obtain ⟨ad132, e132, hx132_0⟩ := Kd.at_int HR0_1.out x5_1 p132 q132; cases e132; have hn132_0 : ad132.block ≠ gb128 := Nat.ne_of_lt (Nat.lt_of_lt_of_le (by have := World.block_lt_of_cell? _ _ hx132_0; first | rwa [add_block] at this | exact this) GW128.out); replace hx132_0 := (HB.out.cell (World.block_lt_of_cell? w _ hx132_0)).trans hx132_0; replace hx132_0 := (cell_far (p := ⟨gb128, 1, none⟩) (by first | (rw [add_block]; exact hn132_0) | (show (Addr.add _ _).block ≠ _; rw [add_block]; exact hn132_0) | exact hn132_0) (.slice Ao34 y129.length co34)).trans hx132_0; clear hn132_0; replace p132 := eq_true p132; replace q132 := eq_true q132))
            have n0_ : Aside0 (Kd.R (Kd.int .u32) 63 (w33.setCell ⟨gb128, 1, none⟩ (.slice Ao34 y129.length co34)) w.heap.size (fun _ => True) (.slice Ao34 y129.length co34) y129) := ⟨by (with_reducible repeat first|apply Kd.R_alloc|apply Kd.R_drewN|apply Kd.R_drew); exact Kd.R_mono (Kd.R_far (p := ⟨gb128, 1, none⟩) (Kd.R_types HO131.out BK128.out (by decide)) (fun _ hk => hk.2) (.slice Ao34 y129.length co34)) (fun _ hk => trivial)⟩
            have n1_ : Aside0 ((w33.setCell ⟨gb128, 1, none⟩ (.slice Ao34 y129.length co34)).heap[gb126]? = some (.cells #[.bool a0_0, .slice (some ad132) l0_1.length c0_1] 34 (0, 0))) := ⟨by (with_reducible repeat first|refine qN ?_ _|refine qW ?_|refine qA ?_ _); refine blk_far ?_ NB126_128.out _; (with_reducible repeat first|refine qN ?_ _|refine qW ?_|refine qA ?_ _); exact BK126.out⟩
            have n2_ : Aside0 ((w33.setCell ⟨gb128, 1, none⟩ (.slice Ao34 y129.length co34)).heap[gb127]? = some (.cells #[.bool false, .slice none 0 0] 25 (0, 0))) := ⟨by (with_reducible repeat first|refine qN ?_ _|refine qW ?_|refine qA ?_ _); refine blk_far ?_ NB127_128.out _; (with_reducible repeat first|refine qN ?_ _|refine qW ?_|refine qA ?_ _); exact BK127.out⟩
            have n3_ : Aside0 ((w33.setCell ⟨gb128, 1, none⟩ (.slice Ao34 y129.length co34)).heap[gb128]? = some (.cells #[.bool a0_0, .slice Ao34 y129.length co34] 25 (0, 0))) := ⟨by (with_reducible repeat first|refine qN ?_ _|refine qW ?_|refine qA ?_ _); refine blk_put (cs := #[.bool a0_0, u129001]) ?_ 1 _ rfl; (with_reducible repeat first|refine qN ?_ _|refine qW ?_|refine qA ?_ _); exact BK128.out⟩
            have n4_ : Aside0 (Below w.heap.size w (w33.setCell ⟨gb128, 1, none⟩ (.slice Ao34 y129.length co34))) := ⟨by repeat (first | (with_reducible first | exact HB.out | apply qx | apply qv | apply qw | refine qs ?_ (by assumption)) | exact HB.out)⟩
            (try clear HO131)
            (try clear BK126)
            (try clear BK127)
            (try clear BK128)
            (try clear HB)
            generalize (w33.setCell ⟨gb128, 1, none⟩ (.slice Ao34 y129.length co34)) = w37 at n0_ n1_ n2_ n3_ n4_ ⊢
            have HO131 := n0_
            have BK126 := n1_
            have BK127 := n2_
            have BK128 := n3_
            have HB := n4_
            clear n0_ n1_ n2_ n3_ n4_
            replace HO131 := Aside0.mk (Kd.R_drew HO131.out)
            replace BK126 := Aside0.mk (blk_drew BK126.out)
            replace BK127 := Aside0.mk (blk_drew BK127.out)
            replace BK128 := Aside0.mk (blk_drew BK128.out)
            replace HB := Aside0.mk (below_drew1 HB.out)
            have p133 : 0 ≤ ((ji21) : Int) := of_decide_eq_true (by first | (with_reducible assumption) | assumption)
            have q133 : (ji21) < (y129.length : Int) := of_decide_eq_true (by first | (with_reducible assumption) | assumption)
            obtain ⟨ad133, e133, hx133_0⟩ := Kd.at_int (Kd.R_reads' HO131.out).2.2 (ji21) p133 q133
            cases e133
            replace p133 := eq_true p133
            replace q133 := eq_true q133
            have p27 : 0 ≤ ((ji21) : Int) := of_decide_eq_true (by first | (with_reducible assumption) | assumption)
            have q27 : ((ji21) : Int) < ((y129.length : Int) : Int) := of_decide_eq_true (by first | (with_reducible assumption) | assumption)
            obtain ⟨go27, co27, eo27, gb27, gl27, cl27, HG27⟩ := Kd.R_form HO131.out (by omega)
            (first | cases eo27 | (injection eo27 with ea_ en_ ec_; (first | subst ea_ | (injection ea_ with ea_; subst ea_)); subst ec_; clear en_))
            have GB27 := Aside0.mk gb27
            have GG27 := Aside0.mk HG27
            clear gb27 gl27 HG27
            (first | simp only [add_plain] at hx133_0 | skip)
            obtain ⟨hx27_0, hf27_0⟩ := Kd.R_celln 0 HO131.out ((ji21) : Int) p27 q27
            replace p27 := eq_true p27
            replace q27 := eq_true q27
            have HP39 := Kd.R_putn HO131.out ((ji21) : Int) (Go.bits .or .u32 (rd y129 (ji21)) (ji26))
            rw [← Ny134.out] at HP39
            have HQ39 := Aside0.mk HP39
            clear HP39
            refine start_ (n := 16) (S := fun w' => w'.cell? ⟨gb128, 0, none⟩ = some (.bool a0_0) ∧ w'.cell? ⟨gb128, 1, none⟩ = some (.slice (some ⟨go27, 0, none⟩) y129.length co34) ∧ w'.cell? ⟨go27, ((ji21)).toNat, none⟩ = some (.int .u32 (rd y129 (ji21)))) (ds := [15]) #[false, false, false, false, false, false, false, false, false, false, false, false, false, false, false, false] (by kernel_rfl) rfl rfl ⟨qc BK128 0, qc BK128 1, hx133_0⟩ (fun hHeld => ?_); refine with_tabW moraineref02_Num.tab10 moraineref02_Num.bits10 (fun HT_ HW_ => ?_)
            generalize w37.drew = w38 at HO131 BK126 BK127 BK128 HB GG27 HQ39 hf27_0 hx133_0 hx27_0 hHeld ⊢
            refine pure_ (i := 0) (N := some 35) (v := ?_) (a' := ?_) #[true, false, false, false, false, false, false, false, false, false, false, false, false, false, false, false] rfl rfl (any_of HT_.out (by kernel_rfl)) (fun _ _ _ h => h) (Or.inl ⟨by rfl, ?_⟩) ?_ ?_
            rotate_left
            ·intro w'
             go_simp
             with_reducible rfl
            rotate_left
            ·simp only [Act.put, zA, zB, zC, i64_w, i32_w]
             rfl
            refine pure_ (i := 2) (N := some 37) (v := ?_) (a' := ?_) #[true, false, true, false, false, false, false, false, false, false, false, false, false, false, false, false] rfl rfl (any_of HT_.out (by kernel_rfl)) (fun _ _ _ h => h) (Or.inl ⟨by rfl, ?_⟩) ?_ ?_
            rotate_left
            ·intro w'
             go_simp
             with_reducible rfl
            rotate_left
            ·simp only [Act.put, zA, zB, zC, i64_w, i32_w]
             rfl
            refine pure_ (i := 3) (N := some 38) (v := ?_) (a' := ?_) #[true, false, true, true, false, false, false, false, false, false, false, false, false, false, false, false] rfl rfl (any_of HT_.out (by kernel_rfl)) (fun _ _ _ h => h) (Or.inl ⟨by rfl, ?_⟩) ?_ ?_
            rotate_left
            ·intro w'
             go_simp
             with_reducible rfl
            rotate_left
            ·simp only [Act.put, zA, zB, zC, i64_w, i32_w]
             rfl
            refine pure_ (i := 4) (N := some 39) (v := ?_) (a' := ?_) #[true, false, true, true, true, false, false, false, false, false, false, false, false, false, false, false] rfl rfl (any_of HT_.out (by kernel_rfl)) (fun _ _ _ h => h) (Or.inl ⟨by rfl, ?_⟩) ?_ ?_
            rotate_left
            ·intro w'
             go_simp
             with_reducible rfl
            rotate_left
            ·simp only [Act.put, zA, zB, zC, i64_w, i32_w]
             rfl
            refine pure_ (i := 6) (N := some 41) (v := ?_) (a' := ?_) #[true, false, true, true, true, false, true, false, false, false, false, false, false, false, false, false] rfl rfl (any_of HT_.out (by kernel_rfl)) (fun _ _ _ h => h) (Or.inl ⟨by rfl, ?_⟩) ?_ ?_
            rotate_left
            ·intro w'
             go_simp
             with_reducible rfl
            rotate_left
            ·simp only [Act.put, zA, zB, zC, i64_w, i32_w]
             rfl
            refine pure_ (i := 7) (N := some 42) (v := ?_) (a' := ?_) #[true, false, true, true, true, false, true, true, false, false, false, false, false, false, false, false] rfl rfl (any_of HT_.out (by kernel_rfl)) (fun _ _ _ h => h) (Or.inl ⟨by rfl, ?_⟩) ?_ ?_
            rotate_left
            ·intro w'
             go_simp
             with_reducible rfl
            rotate_left
            ·simp only [Act.put, zA, zB, zC, i64_w, i32_w]
             rfl
            refine pure_ (i := 10) (N := some 45) (v := ?_) (a' := ?_) #[true, false, true, true, true, false, true, true, false, false, true, false, false, false, false, false] rfl rfl (any_of HT_.out (by kernel_rfl)) (fun _ _ _ h => h) (Or.inl ⟨by rfl, ?_⟩) ?_ ?_
            rotate_left
            ·intro w'
             go_simp
             with_reducible rfl
            rotate_left
            ·simp only [Act.put, zA, zB, zC, i64_w, i32_w]
             rfl
            refine pure_ (i := 11) (N := some 46) (v := ?_) (a' := ?_) #[true, false, true, true, true, false, true, true, false, false, true, true, false, false, false, false] rfl rfl (any_of HT_.out (by kernel_rfl)) (fun _ _ _ h => h) (Or.inl ⟨by rfl, ?_⟩) ?_ ?_
            rotate_left
            ·intro w'
             go_simp
             with_reducible rfl
            rotate_left
            ·simp only [Act.put, zA, zB, zC, i64_w, i32_w]
             rfl
            refine pure_ (i := 12) (N := some 47) (v := ?_) (a' := ?_) #[true, false, true, true, true, false, true, true, false, false, true, true, true, false, false, false] rfl rfl (any_of HT_.out (by kernel_rfl)) (fun _ _ _ h => h) (Or.inl ⟨by rfl, ?_⟩) ?_ ?_
            rotate_left
            ·intro w'
             go_simp
             with_reducible rfl
            rotate_left
            ·simp only [Act.put, zA, zB, zC, i64_w, i32_w]
             rfl
            refine take_ (i := 1) (N := some 36) (v := ?_) (a' := ?_) #[true, true, true, true, true, false, true, true, false, false, true, true, true, false, false, false] rfl rfl (take_ofW HT_.out HW_.out (by kernel_rfl)) (fun _ _ _ h => h) (Or.inl ⟨by rfl, ?_⟩) hHeld ?_ ?_
            rotate_left
            ·rintro w' ⟨s0, s1, s2⟩
             go_simp
             with_reducible rfl
            rotate_left
            ·simp only [Act.put, zA, zB, zC, i64_w, i32_w]
             rfl
            refine take_ (i := 5) (N := some 40) (v := ?_) (a' := ?_) #[true, true, true, true, true, true, true, true, false, false, true, true, true, false, false, false] rfl rfl (take_ofW HT_.out HW_.out (by kernel_rfl)) (fun _ _ _ h => h) (Or.inl ⟨by rfl, ?_⟩) hHeld ?_ ?_
            rotate_left
            ·rintro w' ⟨s0, s1, s2⟩
             go_simp
             with_reducible rfl
            rotate_left
            ·simp only [Act.put, zA, zB, zC, i64_w, i32_w]
             rfl
            refine pure_ (i := 8) (N := some 43) (v := ?_) (a' := ?_) #[true, true, true, true, true, true, true, true, true, false, true, true, true, false, false, false] rfl rfl (any_of HT_.out (by kernel_rfl)) (fun _ _ _ h => h) (Or.inl ⟨by rfl, ?_⟩) ?_ ?_
            rotate_left
            ·intro w'
             go_simp
             with_reducible rfl
            rotate_left
            ·simp only [Act.put, zA, zB, zC, i64_w, i32_w]
             rfl
            refine take_ (i := 9) (N := some 44) (v := ?_) (a' := ?_) #[true, true, true, true, true, true, true, true, true, true, true, true, true, false, false, false] rfl rfl (take_ofW HT_.out HW_.out (by kernel_rfl)) (fun _ _ _ h => h) (Or.inl ⟨by rfl, ?_⟩) hHeld ?_ ?_
            rotate_left
            ·rintro w' ⟨s0, s1, s2⟩
             go_simp
             with_reducible rfl
            rotate_left
            ·simp only [Act.put, zA, zB, zC, i64_w, i32_w]
             rfl
            refine pure_ (i := 13) (N := some 48) (v := ?_) (a' := ?_) #[true, true, true, true, true, true, true, true, true, true, true, true, true, true, false, false] rfl rfl (any_of HT_.out (by kernel_rfl)) (fun _ _ _ h => h) (Or.inl ⟨by rfl, ?_⟩) ?_ ?_
            rotate_left
            ·intro w'
             go_simp
             with_reducible rfl
            rotate_left
            ·simp only [Act.put, zA, zB, zC, i64_w, i32_w]
             rfl
            refine pure_ (i := 14) (N := some 49) (v := ?_) (a' := ?_) #[true, true, true, true, true, true, true, true, true, true, true, true, true, true, true, false] rfl rfl (any_of HT_.out (by kernel_rfl)) (fun _ _ _ h => h) (Or.inl ⟨by rfl, ?_⟩) ?_ ?_
            rotate_left
            ·intro w'
             go_simp
             with_reducible rfl
            rotate_left
            ·simp only [Act.put, zA, zB, zC, i64_w, i32_w]
             rfl
            refine last_ (i := 15) (N := none) #[true, true, true, true, true, true, true, true, true, true, true, true, true, true, true, true] rfl rfl (one_of HT_.out (by kernel_rfl)) (by decide) (fun K hK => ?_)
            refine skip_ (w1 := ?_) (by rfl) rfl ?_ ?_
            rotate_left
            ·go_simp
             rfl
            refine hK.out _ _ ?_
            clear hK K
            refine done_ (done_of HT_.out (by kernel_rfl)) ?_
            try go_wp2
            go_roundg k1
            case measure => have := HK1.out; omega
            case rel => exact ⟨(wrap64 (x5_1 + 1)), (y134), (.slice (some ⟨go27, 0, none⟩) y129.length co34), (by first | rfl | (simp; done) | (simp [*]; done)), H', ⟨by have := HK1.out; omega⟩, ⟨by (with_reducible repeat first|apply Kd.R_alloc|apply Kd.R_drewN|apply Kd.R_drew); first | exact HQ39.out | (have h_ := hji26v (by have := Int.tmod_lt_of_pos x5_1 (show (0 : Int) < 32 by decide); omega); rw [IntKind.wrap_u32] at h_; rw [← h_] at HQ39; exact HQ39.out)⟩, ⟨by (with_reducible repeat first|refine qN ?_ _|refine qW ?_|refine qA ?_ _); refine blk_far ?_ (by have h_ := Kd.R_ne HO131.out BK126.out (by decide); intro e_; exact h_ (by rw [e_]; rfl)) _; (with_reducible repeat first|refine qN ?_ _|refine qW ?_|refine qA ?_ _); exact BK126.out⟩, ⟨by (with_reducible repeat first|refine qN ?_ _|refine qW ?_|refine qA ?_ _); refine blk_far ?_ (by have h_ := Kd.R_ne HO131.out BK127.out (by decide); intro e_; exact h_ (by rw [e_]; rfl)) _; (with_reducible repeat first|refine qN ?_ _|refine qW ?_|refine qA ?_ _); exact BK127.out⟩, ⟨by (with_reducible repeat first|refine qN ?_ _|refine qW ?_|refine qA ?_ _); refine blk_far ?_ (by have h_ := Kd.R_ne HO131.out BK128.out (by decide); intro e_; exact h_ (by rw [e_]; rfl)) _; (with_reducible repeat first|refine qN ?_ _|refine qW ?_|refine qA ?_ _); exact BK128.out⟩, ⟨by repeat (first | (with_reducible first | exact HB.out | apply qx | apply qv | apply qw | refine below_set ?_ GB27.out | refine qs ?_ (by assumption)) | exact HB.out)⟩⟩
           ·rw [if_neg c25] at H
            exact absurd H (by simp)
          ·rw [if_neg c23] at H
           exact absurd H (by simp)
         ·rw [if_neg c22] at H
          exact absurd H (by simp)
        ·rw [if_neg c20] at H
         have c20b0 : ((rd l0_1 x5_1) == 1) = false := beq_eq_false_iff_ne.mpr c20
         have c20b1 : ((rd l0_1 x5_1) != 1) = true := bne_iff_ne.mpr c20
         have H' := Aside0.mk H
         clear H
         have hnb40 := NB126_127.out
         have hnc40 := NB127_126.out
         have hnb41 := NB126_128.out
         have hnc41 := NB128_126.out
         have hcz42_0 : wr.cell? ⟨gb126, 0, none⟩ = some (.bool a0_0) := qc BK126 0
         have hcz42_1 : wr.cell? ⟨gb126, 1, none⟩ = some (.slice A0_1 l0_1.length c0_1) := qc BK126 1
         have hfz42_0 := blk_frozen BK126.out 0
         have hfz42_1 := blk_frozen BK126.out 1
         have hnb43 := NB128_127.out
         have hnc43 := NB127_128.out
         have hcz44_0 : wr.cell? ⟨gb128, 0, none⟩ = some (.bool a0_0) := qc BK128 0
         have hcz44_1 : wr.cell? ⟨gb128, 1, none⟩ = some (u129001) := qc BK128 1
         have hfz44_0 := blk_frozen BK128.out 0
         have hfz44_1 := blk_frozen BK128.out 1
         go_wp2_with (first | ((with_reducible refine gate_builtin (b := .append) (xs := #[.tmp 25, .tmp 26]) rfl ?_); at_builtin; refine Kd.R_append (Kd.int .u32) (w0 := w) w.heap.size rfl (.tmp 25) (.tmp 26) 23 63 (.int .u32 0) 4 rfl Tryd.underlying23 info63 rfl (by decide) (by omega) u129001 x129001_1 0 [.int .u32 0] (fun _ => True) (fun _ => False) rfl rfl ?aP (fun _ hk => hk.elim) ?aF ?aO ?aB ?aS ?aL ?_; (case aP => exact rfl); (case aB => exact (by repeat with_reducible first|exact HB.out|apply qx|apply qv|apply qw|refine qs ?_ (by assumption))); (case aF => exact (fun _ _ => trivial)); (case aO => exact (by (with_reducible repeat first|apply Kd.R_alloc|apply Kd.R_drewN|apply Kd.R_drew); exact HO_129001.out)); (case aS => exact (below_size (by repeat with_reducible first|exact HB.out|apply qx|apply qv|apply qw|refine qs ?_ (by assumption)))); (case aL => have := LMc18.out; omega); intro v130 w45 ho hb hg hat; rw [← Ny129.out] at ho; have n0_ := Aside0.mk (blk_grown (g := gb126) (o := .cells #[.bool a0_0, .slice A0_1 l0_1.length c0_1] 34 (0, 0)) (by (with_reducible repeat first|refine qN ?_ _|refine qW ?_|refine qA ?_ _); exact BK126.out) hg (Kd.R_ne HO_129001.out BK126.out (by decide))); have n1_ := Aside0.mk (blk_grown (g := gb127) (o := .cells #[.bool false, .slice none 0 0] 25 (0, 0)) (by (with_reducible repeat first|refine qN ?_ _|refine qW ?_|refine qA ?_ _); exact BK127.out) hg (Kd.R_ne HO_129001.out BK127.out (by decide))); have n2_ := Aside0.mk (blk_grown (g := gb128) (o := .cells #[.bool a0_0, u129001] 25 (0, 0)) (by (with_reducible repeat first|refine qN ?_ _|refine qW ?_|refine qA ?_ _); exact BK128.out) hg (Kd.R_ne HO_129001.out BK128.out (by decide))); have n3_ := Aside0.mk (hb); have n4_ := Aside0.mk (ho); clear BK126; clear BK127; clear BK128; clear HB; clear HO_129001; have BK126 := n0_; have BK127 := n1_; have BK128 := n2_; have HB := n3_; have HO131 := n4_; clear n0_ n1_ n2_ n3_ n4_; clear ho hb hg hat; obtain ⟨Ao46, co46, eo46⟩ := Kd.R_slice HO131.out; subst eo46; have hcz47_0 : w45.cell? ⟨gb128, 0, none⟩ = some (.bool a0_0) := qc BK128 0; have hcz47_1 : w45.cell? ⟨gb128, 1, none⟩ = some (u129001) := qc BK128 1; have hfz47_0 := blk_frozen BK128.out 0; have hfz47_1 := blk_frozen BK128.out 1; have hcz48_0 : w45.cell? ⟨gb126, 0, none⟩ = some (.bool a0_0) := qc BK126 0; have hcz48_1 : w45.cell? ⟨gb126, 1, none⟩ = some (.slice A0_1 l0_1.length c0_1) := qc BK126 1; have hfz48_0 := blk_frozen BK126.out 0; have hfz48_1 := blk_frozen BK126.out 1; have p132 : 0 ≤ (x5_1 : Int) := of_decide_eq_true (by first | (with_reducible assumption) | assumption); have q132 : x5_1 < (l0_1.length : Int) := of_decide_eq_true (by first | (with_reducible assumption) | assumption); obtain ⟨ad132, e132, hx132_0⟩ := Kd.at_int HR0_1.out x5_1 p132 q132; cases e132; have hn132_0 : ad132.block ≠ gb128 := Nat.ne_of_lt (Nat.lt_of_lt_of_le (by have := World.block_lt_of_cell? _ _ hx132_0; first | rwa [add_block] at this | exact this) GW128.out); replace hx132_0 := (HB.out.cell (World.block_lt_of_cell? w _ hx132_0)).trans hx132_0; replace hx132_0 := (cell_far (p := ⟨gb128, 1, none⟩) (by first | (rw [add_block]; exact hn132_0) | (show (Addr.add _ _).block ≠ _; rw [add_block]; exact hn132_0) | exact hn132_0) (.slice Ao46 y129.length co46)).trans hx132_0; clear hn132_0; replace p132 := eq_true p132; replace q132 := eq_true q132))
         go_roundg k1
         case measure => have := HK1.out; omega
         case rel => exact ⟨(wrap64 (x5_1 + 1)), (y129), (.slice Ao46 y129.length co46), (by first | rfl | (simp; done) | (simp [*]; done)), H', ⟨by have := HK1.out; omega⟩, ⟨by (with_reducible repeat first|apply Kd.R_alloc|apply Kd.R_drewN|apply Kd.R_drew); exact Kd.R_mono (Kd.R_far (p := ⟨gb128, 1, none⟩) (Kd.R_types HO131.out BK128.out (by decide)) (fun _ hk => hk.2) (.slice Ao46 y129.length co46)) (fun _ hk => trivial)⟩, ⟨by (with_reducible repeat first|refine qN ?_ _|refine qW ?_|refine qA ?_ _); refine blk_far ?_ NB126_128.out _; (with_reducible repeat first|refine qN ?_ _|refine qW ?_|refine qA ?_ _); exact BK126.out⟩, ⟨by (with_reducible repeat first|refine qN ?_ _|refine qW ?_|refine qA ?_ _); refine blk_far ?_ NB127_128.out _; (with_reducible repeat first|refine qN ?_ _|refine qW ?_|refine qA ?_ _); exact BK127.out⟩, ⟨by (with_reducible repeat first|refine qN ?_ _|refine qW ?_|refine qA ?_ _); refine blk_put (cs := #[.bool a0_0, u129001]) ?_ 1 _ rfl; (with_reducible repeat first|refine qN ?_ _|refine qW ?_|refine qA ?_ _); exact BK128.out⟩, ⟨by repeat (first | (with_reducible first | exact HB.out | apply qx | apply qv | apply qw | refine qs ?_ (by assumption)) | exact HB.out)⟩⟩
       ·rw [if_neg c19] at H
        exact absurd H (by simp)
      ·rw [if_neg c18] at H
       exact absurd H (by simp)
     ·rw [if_neg c17] at H
      have c17b0 : ((Int.tmod x5_1 32) == 0) = false := beq_eq_false_iff_ne.mpr c17
      have c17b1 : ((Int.tmod x5_1 32) != 0) = true := bne_iff_ne.mpr c17
      by_cases c49 : 0 ≤ x5_1
      ·rw [if_pos c49] at H
       have c49b0 : decide (0 ≤ x5_1) = true := decide_eq_true c49
       clear c49
       by_cases c50 : (rd l0_1 x5_1) = 1
       ·rw [if_pos c50] at H
        have c50b0 : ((rd l0_1 x5_1) == 1) = true := beq_iff_eq.mpr c50
        have c50b1 : ((rd l0_1 x5_1) != 1) = false := bne_eq_false_iff_eq.mpr c50
        clear c50
        obtain ⟨ji51, hji51⟩ : ∃ j_ : Int, (wrap64 (Int.tdiv x5_1 32)) = j_ := ⟨_, rfl⟩
        replace H : (if 0 ≤ (ji51) then (if (ji51) < (x129001_1.length : Int) then (if 0 ≤ (Int.tmod x5_1 32) then (moraineref02_Num.l0 k1 (wrap64 (x5_1 + 1)) a0_0 l0_1 a0_0 (x129001_1.set ((ji51) : Int).toNat (Go.bits .or .u32 (rd x129001_1 (ji51)) (shl .u32 1 (Int.tmod x5_1 32))))) else (none)) else (none)) else (none)) = some (r1, r2, r3) := by first | (rw [hji51] at H; exact H) | (simp only [hji51] at H ⊢; exact H)
        have hji51w : (IntKind.i64.wrap (Int.tdiv x5_1 32)) = ji51 := (i64_w _).trans hji51
        by_cases c52 : 0 ≤ (ji51)
        ·rw [if_pos c52] at H
         have c52b0 : decide (0 ≤ (ji51)) = true := decide_eq_true c52
         clear c52
         by_cases c53 : (ji51) < (x129001_1.length : Int)
         ·rw [if_pos c53] at H
          have c53b0 : decide ((ji51) < (x129001_1.length : Int)) = true := decide_eq_true c53
          clear c53
          obtain ⟨ji54, hji54⟩ : ∃ j_ : Int, (Int.tmod x5_1 32) = j_ := ⟨_, rfl⟩
          replace H : (if 0 ≤ (ji54) then (moraineref02_Num.l0 k1 (wrap64 (x5_1 + 1)) a0_0 l0_1 a0_0 (x129001_1.set ((ji51) : Int).toNat (Go.bits .or .u32 (rd x129001_1 (ji51)) (shl .u32 1 (ji54))))) else (none)) = some (r1, r2, r3) := by first | (rw [hji54] at H; exact H) | (simp only [hji54] at H ⊢; exact H)
          (try rw [hji54] at c17b0)
          (try rw [hji54] at c17b1)
          by_cases c55 : 0 ≤ (ji54)
          ·rw [if_pos c55] at H
           have c55b0 := eq_true c55
           have c55b1 : decide (0 ≤ (ji54)) = true := decide_eq_true c55
           clear c55
           obtain ⟨ji56, hji56⟩ : ∃ j_ : Int, (shl .u32 1 (ji54)) = j_ := ⟨_, rfl⟩
           replace H : (moraineref02_Num.l0 k1 (wrap64 (x5_1 + 1)) a0_0 l0_1 a0_0 (x129001_1.set ((ji51) : Int).toNat (Go.bits .or .u32 (rd x129001_1 (ji51)) (ji56)))) = some (r1, r2, r3) := by first | (rw [hji56] at H; exact H) | (simp only [hji56] at H ⊢; exact H)
           have hji56_ : (IntKind.u32.wrap (1 * 2 ^ min (ji54).toNat 32)) = ji56 := hji56
           have hji56z : (ji54) ≤ 32 → (IntKind.u32.wrap (1 * 2 ^ (ji54).toNat)) = ji56 := shl_small hji56
           have hji56u : (IntKind.u32.wrap (2 ^ min (ji54).toNat 32)) = ji56 := by have h_ := hji56_; rw [Int.one_mul] at h_; exact h_
           have hji56v : (ji54) ≤ 32 → (IntKind.u32.wrap (2 ^ (ji54).toNat)) = ji56 := fun hle_ => by have h_ := hji56z hle_; rw [Int.one_mul] at h_; exact h_
           obtain ⟨y137, hy137⟩ : ∃ y_ : List Int, y_ = (x129001_1.set ((ji51) : Int).toNat (Go.bits .or .u32 (rd x129001_1 (ji51)) (ji56))) := ⟨_, rfl⟩
           replace H : (moraineref02_Num.l0 k1 (wrap64 (x5_1 + 1)) a0_0 l0_1 a0_0 y137) = some (r1, r2, r3) := by first | (rw [hy137]; with_reducible exact H) | (have H2_ := (Option.bind_some _ _).symm.trans H; rw [hy137]; with_reducible exact H2_) | (have H2_ := (Option.bind_some _ _).symm.trans H; with_reducible exact H2_) | with_reducible exact H | (rw [hy137]; exact H) | exact H
           have Ny137 := Aside0.mk hy137
           clear hy137
           have H' := Aside0.mk H
           clear H
           have hnb58 := NB126_127.out
           have hnc58 := NB127_126.out
           have hnb59 := NB126_128.out
           have hnc59 := NB128_126.out
           have hcz60_0 : wr.cell? ⟨gb126, 0, none⟩ = some (.bool a0_0) := qc BK126 0
           have hcz60_1 : wr.cell? ⟨gb126, 1, none⟩ = some (.slice A0_1 l0_1.length c0_1) := qc BK126 1
           have hfz60_0 := blk_frozen BK126.out 0
           have hfz60_1 := blk_frozen BK126.out 1
           have p135 : 0 ≤ (x5_1 : Int) := of_decide_eq_true (by first | (with_reducible assumption) | assumption)
           have q135 : x5_1 < (l0_1.length : Int) := of_decide_eq_true (by first | (with_reducible assumption) | assumption)
           obtain ⟨ad135, e135, hx135_0⟩ := Kd.at_int HR0_1.out x5_1 p135 q135
           cases e135
           replace hx135_0 := (HB.out.cell (World.block_lt_of_cell? w _ hx135_0)).trans hx135_0
           replace p135 := eq_true p135
           replace q135 := eq_true q135
           try go_wp2
           replace HO_129001 := Aside0.mk (Kd.R_drew HO_129001.out)
           replace BK126 := Aside0.mk (blk_drew BK126.out)
           replace BK127 := Aside0.mk (blk_drew BK127.out)
           replace BK128 := Aside0.mk (blk_drew BK128.out)
           replace HB := Aside0.mk (below_drew1 HB.out)
           obtain ⟨Ao62, co62, eo62⟩ := Kd.R_slice HO_129001.out
           (first | subst eo62 | (injection eo62 with f1_ f2_ f3_; have f4_ := f1_.symm; have f5_ := f3_.symm; clear f1_ f2_ f3_; subst f4_; subst f5_))
           have p136 : 0 ≤ ((ji51) : Int) := of_decide_eq_true (by first | (with_reducible assumption) | assumption)
           have q136 : (ji51) < (x129001_1.length : Int) := of_decide_eq_true (by first | (with_reducible assumption) | assumption)
           obtain ⟨ad136, e136, hx136_0⟩ := Kd.at_int (Kd.R_reads' HO_129001.out).2.2 (ji51) p136 q136
           cases e136
           replace p136 := eq_true p136
           replace q136 := eq_true q136
           have p57 : 0 ≤ ((ji51) : Int) := of_decide_eq_true (by first | (with_reducible assumption) | assumption)
           have q57 : ((ji51) : Int) < ((x129001_1.length : Int) : Int) := of_decide_eq_true (by first | (with_reducible assumption) | assumption)
           obtain ⟨go57, co57, eo57, gb57, gl57, cl57, HG57⟩ := Kd.R_form HO_129001.out (by omega)
           (first | cases eo57 | (injection eo57 with ea_ en_ ec_; (first | subst ea_ | (injection ea_ with ea_; subst ea_)); subst ec_; clear en_))
           have GB57 := Aside0.mk gb57
           have GG57 := Aside0.mk HG57
           clear gb57 gl57 HG57
           (first | simp only [add_plain] at hx136_0 | skip)
           obtain ⟨hx57_0, hf57_0⟩ := Kd.R_celln 0 HO_129001.out ((ji51) : Int) p57 q57
           replace p57 := eq_true p57
           replace q57 := eq_true q57
           have HP63 := Kd.R_putn HO_129001.out ((ji51) : Int) (Go.bits .or .u32 (rd x129001_1 (ji51)) (ji56))
           rw [← Ny137.out] at HP63
           have HQ63 := Aside0.mk HP63
           clear HP63
           refine start_ (n := 16) (S := fun w' => w'.cell? ⟨gb128, 0, none⟩ = some (.bool a0_0) ∧ w'.cell? ⟨gb128, 1, none⟩ = some (.slice (some ⟨go57, 0, none⟩) x129001_1.length co62) ∧ w'.cell? ⟨go57, ((ji51)).toNat, none⟩ = some (.int .u32 (rd x129001_1 (ji51)))) (ds := [15]) #[false, false, false, false, false, false, false, false, false, false, false, false, false, false, false, false] (by kernel_rfl) rfl rfl ⟨qc BK128 0, qc BK128 1, hx136_0⟩ (fun hHeld => ?_); refine with_tabW moraineref02_Num.tab10 moraineref02_Num.bits10 (fun HT_ HW_ => ?_)
           generalize wr.drew = w61 at HO_129001 BK126 BK127 BK128 HB GG57 HQ63 hf57_0 hx136_0 hx57_0 hHeld ⊢
           refine pure_ (i := 0) (N := some 35) (v := ?_) (a' := ?_) #[true, false, false, false, false, false, false, false, false, false, false, false, false, false, false, false] rfl rfl (any_of HT_.out (by kernel_rfl)) (fun _ _ _ h => h) (Or.inl ⟨by rfl, ?_⟩) ?_ ?_
           rotate_left
           ·intro w'
            go_simp
            with_reducible rfl
           rotate_left
           ·simp only [Act.put, zA, zB, zC, i64_w, i32_w]
            rfl
           refine pure_ (i := 2) (N := some 37) (v := ?_) (a' := ?_) #[true, false, true, false, false, false, false, false, false, false, false, false, false, false, false, false] rfl rfl (any_of HT_.out (by kernel_rfl)) (fun _ _ _ h => h) (Or.inl ⟨by rfl, ?_⟩) ?_ ?_
           rotate_left
           ·intro w'
            go_simp
            with_reducible rfl
           rotate_left
           ·simp only [Act.put, zA, zB, zC, i64_w, i32_w]
            rfl
           refine pure_ (i := 3) (N := some 38) (v := ?_) (a' := ?_) #[true, false, true, true, false, false, false, false, false, false, false, false, false, false, false, false] rfl rfl (any_of HT_.out (by kernel_rfl)) (fun _ _ _ h => h) (Or.inl ⟨by rfl, ?_⟩) ?_ ?_
           rotate_left
           ·intro w'
            go_simp
            with_reducible rfl
           rotate_left
           ·simp only [Act.put, zA, zB, zC, i64_w, i32_w]
            rfl
           refine pure_ (i := 4) (N := some 39) (v := ?_) (a' := ?_) #[true, false, true, true, true, false, false, false, false, false, false, false, false, false, false, false] rfl rfl (any_of HT_.out (by kernel_rfl)) (fun _ _ _ h => h) (Or.inl ⟨by rfl, ?_⟩) ?_ ?_
           rotate_left
           ·intro w'
            go_simp
            with_reducible rfl
           rotate_left
           ·simp only [Act.put, zA, zB, zC, i64_w, i32_w]
            rfl
           refine pure_ (i := 6) (N := some 41) (v := ?_) (a' := ?_) #[true, false, true, true, true, false, true, false, false, false, false, false, false, false, false, false] rfl rfl (any_of HT_.out (by kernel_rfl)) (fun _ _ _ h => h) (Or.inl ⟨by rfl, ?_⟩) ?_ ?_
           rotate_left
           ·intro w'
            go_simp
            with_reducible rfl
           rotate_left
           ·simp only [Act.put, zA, zB, zC, i64_w, i32_w]
            rfl
           refine pure_ (i := 7) (N := some 42) (v := ?_) (a' := ?_) #[true, false, true, true, true, false, true, true, false, false, false, false, false, false, false, false] rfl rfl (any_of HT_.out (by kernel_rfl)) (fun _ _ _ h => h) (Or.inl ⟨by rfl, ?_⟩) ?_ ?_
           rotate_left
           ·intro w'
            go_simp
            with_reducible rfl
           rotate_left
           ·simp only [Act.put, zA, zB, zC, i64_w, i32_w]
            rfl
           refine pure_ (i := 10) (N := some 45) (v := ?_) (a' := ?_) #[true, false, true, true, true, false, true, true, false, false, true, false, false, false, false, false] rfl rfl (any_of HT_.out (by kernel_rfl)) (fun _ _ _ h => h) (Or.inl ⟨by rfl, ?_⟩) ?_ ?_
           rotate_left
           ·intro w'
            go_simp
            with_reducible rfl
           rotate_left
           ·simp only [Act.put, zA, zB, zC, i64_w, i32_w]
            rfl
           refine pure_ (i := 11) (N := some 46) (v := ?_) (a' := ?_) #[true, false, true, true, true, false, true, true, false, false, true, true, false, false, false, false] rfl rfl (any_of HT_.out (by kernel_rfl)) (fun _ _ _ h => h) (Or.inl ⟨by rfl, ?_⟩) ?_ ?_
           rotate_left
           ·intro w'
            go_simp
            with_reducible rfl
           rotate_left
           ·simp only [Act.put, zA, zB, zC, i64_w, i32_w]
            rfl
           refine pure_ (i := 12) (N := some 47) (v := ?_) (a' := ?_) #[true, false, true, true, true, false, true, true, false, false, true, true, true, false, false, false] rfl rfl (any_of HT_.out (by kernel_rfl)) (fun _ _ _ h => h) (Or.inl ⟨by rfl, ?_⟩) ?_ ?_
           rotate_left
           ·intro w'
            go_simp
            with_reducible rfl
           rotate_left
           ·simp only [Act.put, zA, zB, zC, i64_w, i32_w]
            rfl
           refine take_ (i := 1) (N := some 36) (v := ?_) (a' := ?_) #[true, true, true, true, true, false, true, true, false, false, true, true, true, false, false, false] rfl rfl (take_ofW HT_.out HW_.out (by kernel_rfl)) (fun _ _ _ h => h) (Or.inl ⟨by rfl, ?_⟩) hHeld ?_ ?_
           rotate_left
           ·rintro w' ⟨s0, s1, s2⟩
            go_simp
            with_reducible rfl
           rotate_left
           ·simp only [Act.put, zA, zB, zC, i64_w, i32_w]
            rfl
           refine take_ (i := 5) (N := some 40) (v := ?_) (a' := ?_) #[true, true, true, true, true, true, true, true, false, false, true, true, true, false, false, false] rfl rfl (take_ofW HT_.out HW_.out (by kernel_rfl)) (fun _ _ _ h => h) (Or.inl ⟨by rfl, ?_⟩) hHeld ?_ ?_
           rotate_left
           ·rintro w' ⟨s0, s1, s2⟩
            go_simp
            with_reducible rfl
           rotate_left
           ·simp only [Act.put, zA, zB, zC, i64_w, i32_w]
            rfl
           refine pure_ (i := 8) (N := some 43) (v := ?_) (a' := ?_) #[true, true, true, true, true, true, true, true, true, false, true, true, true, false, false, false] rfl rfl (any_of HT_.out (by kernel_rfl)) (fun _ _ _ h => h) (Or.inl ⟨by rfl, ?_⟩) ?_ ?_
           rotate_left
           ·intro w'
            go_simp
            with_reducible rfl
           rotate_left
           ·simp only [Act.put, zA, zB, zC, i64_w, i32_w]
            rfl
           refine take_ (i := 9) (N := some 44) (v := ?_) (a' := ?_) #[true, true, true, true, true, true, true, true, true, true, true, true, true, false, false, false] rfl rfl (take_ofW HT_.out HW_.out (by kernel_rfl)) (fun _ _ _ h => h) (Or.inl ⟨by rfl, ?_⟩) hHeld ?_ ?_
           rotate_left
           ·rintro w' ⟨s0, s1, s2⟩
            go_simp
            with_reducible rfl
           rotate_left
           ·simp only [Act.put, zA, zB, zC, i64_w, i32_w]
            rfl
           refine pure_ (i := 13) (N := some 48) (v := ?_) (a' := ?_) #[true, true, true, true, true, true, true, true, true, true, true, true, true, true, false, false] rfl rfl (any_of HT_.out (by kernel_rfl)) (fun _ _ _ h => h) (Or.inl ⟨by rfl, ?_⟩) ?_ ?_
           rotate_left
           ·intro w'
            go_simp
            with_reducible rfl
           rotate_left
           ·simp only [Act.put, zA, zB, zC, i64_w, i32_w]
            rfl
           refine pure_ (i := 14) (N := some 49) (v := ?_) (a' := ?_) #[true, true, true, true, true, true, true, true, true, true, true, true, true, true, true, false] rfl rfl (any_of HT_.out (by kernel_rfl)) (fun _ _ _ h => h) (Or.inl ⟨by rfl, ?_⟩) ?_ ?_
           rotate_left
           ·intro w'
            go_simp
            with_reducible rfl
           rotate_left
           ·simp only [Act.put, zA, zB, zC, i64_w, i32_w]
            rfl
           refine last_ (i := 15) (N := none) #[true, true, true, true, true, true, true, true, true, true, true, true, true, true, true, true] rfl rfl (one_of HT_.out (by kernel_rfl)) (by decide) (fun K hK => ?_)
           refine skip_ (w1 := ?_) (by rfl) rfl ?_ ?_
           rotate_left
           ·go_simp
            rfl
           refine hK.out _ _ ?_
           clear hK K
           refine done_ (done_of HT_.out (by kernel_rfl)) ?_
           try go_wp2
           go_roundg k1
           case measure => have := HK1.out; omega
           case rel => exact ⟨(wrap64 (x5_1 + 1)), (y137), (.slice (some ⟨go57, 0, none⟩) x129001_1.length co62), (by first | rfl | (simp; done) | (simp [*]; done)), H', ⟨by have := HK1.out; omega⟩, ⟨by (with_reducible repeat first|apply Kd.R_alloc|apply Kd.R_drewN|apply Kd.R_drew); exact HQ63.out⟩, ⟨by (with_reducible repeat first|refine qN ?_ _|refine qW ?_|refine qA ?_ _); refine blk_far ?_ (by have h_ := Kd.R_ne HO_129001.out BK126.out (by decide); intro e_; exact h_ (by rw [e_]; rfl)) _; (with_reducible repeat first|refine qN ?_ _|refine qW ?_|refine qA ?_ _); exact BK126.out⟩, ⟨by (with_reducible repeat first|refine qN ?_ _|refine qW ?_|refine qA ?_ _); refine blk_far ?_ (by have h_ := Kd.R_ne HO_129001.out BK127.out (by decide); intro e_; exact h_ (by rw [e_]; rfl)) _; (with_reducible repeat first|refine qN ?_ _|refine qW ?_|refine qA ?_ _); exact BK127.out⟩, ⟨by (with_reducible repeat first|refine qN ?_ _|refine qW ?_|refine qA ?_ _); refine blk_far ?_ (by have h_ := Kd.R_ne HO_129001.out BK128.out (by decide); intro e_; exact h_ (by rw [e_]; rfl)) _; (with_reducible repeat first|refine qN ?_ _|refine qW ?_|refine qA ?_ _); exact BK128.out⟩, ⟨by repeat (first | (with_reducible first | exact HB.out | apply qx | apply qv | apply qw | refine below_set ?_ GB57.out | refine qs ?_ (by assumption)) | exact HB.out)⟩⟩
          ·rw [if_neg c55] at H
           exact absurd H (by simp)
         ·rw [if_neg c53] at H
          exact absurd H (by simp)
        ·rw [if_neg c52] at H
         exact absurd H (by simp)
       ·rw [if_neg c50] at H
        have c50b0 : ((rd l0_1 x5_1) == 1) = false := beq_eq_false_iff_ne.mpr c50
        have c50b1 : ((rd l0_1 x5_1) != 1) = true := bne_iff_ne.mpr c50
        have H' := Aside0.mk H
        clear H
        have hnb64 := NB126_127.out
        have hnc64 := NB127_126.out
        have hnb65 := NB126_128.out
        have hnc65 := NB128_126.out
        have hcz66_0 : wr.cell? ⟨gb126, 0, none⟩ = some (.bool a0_0) := qc BK126 0
        have hcz66_1 : wr.cell? ⟨gb126, 1, none⟩ = some (.slice A0_1 l0_1.length c0_1) := qc BK126 1
        have hfz66_0 := blk_frozen BK126.out 0
        have hfz66_1 := blk_frozen BK126.out 1
        have p135 : 0 ≤ (x5_1 : Int) := of_decide_eq_true (by first | (with_reducible assumption) | assumption)
        have q135 : x5_1 < (l0_1.length : Int) := of_decide_eq_true (by first | (with_reducible assumption) | assumption)
        obtain ⟨ad135, e135, hx135_0⟩ := Kd.at_int HR0_1.out x5_1 p135 q135
        cases e135
        replace hx135_0 := (HB.out.cell (World.block_lt_of_cell? w _ hx135_0)).trans hx135_0
        replace p135 := eq_true p135
        replace q135 := eq_true q135
        go_wp2
        go_roundg k1
        case measure => have := HK1.out; omega
        case rel => exact ⟨(wrap64 (x5_1 + 1)), (x129001_1), (u129001), (by first | rfl | (simp; done) | (simp [*]; done)), H', ⟨by have := HK1.out; omega⟩, ⟨qq HO_129001⟩, ⟨qk BK126⟩, ⟨qk BK127⟩, ⟨qk BK128⟩, ⟨by repeat (first | (with_reducible first | exact HB.out | apply qx | apply qv | apply qw | refine qs ?_ (by assumption)) | exact HB.out)⟩⟩
      ·rw [if_neg c49] at H
       exact absurd H (by simp)
    ·rw [if_neg c16] at H
     have c16b0 : decide (x5_1 < (l0_1.length : Int)) = false := decide_eq_false c16
     clear c16
     simp only [Option.some.injEq, Prod.mk.injEq] at H
     obtain ⟨rfl, rfl, rfl⟩ := H
     have hnb67 := NB126_127.out
     have hnc67 := NB127_126.out
     have hnb68 := NB126_128.out
     have hnc68 := NB128_126.out
     have hcz69_0 : wr.cell? ⟨gb126, 0, none⟩ = some (.bool a0_0) := qc BK126 0
     have hcz69_1 : wr.cell? ⟨gb126, 1, none⟩ = some (.slice A0_1 l0_1.length c0_1) := qc BK126 1
     have hfz69_0 := blk_frozen BK126.out 0
     have hfz69_1 := blk_frozen BK126.out 1
     have hnb70 := NB128_127.out
     have hnc70 := NB127_128.out
     have hcz71_0 : wr.cell? ⟨gb128, 0, none⟩ = some (.bool a0_0) := qc BK128 0
     have hcz71_1 : wr.cell? ⟨gb128, 1, none⟩ = some (u129001) := qc BK128 1
     have hfz71_0 := blk_frozen BK128.out 0
     have hfz71_1 := blk_frozen BK128.out 1
     have hcz72_0 : wr.cell? ⟨gb127, 0, none⟩ = some (.bool false) := qc BK127 0
     have hcz72_1 : wr.cell? ⟨gb127, 1, none⟩ = some (.slice none 0 0) := qc BK127 1
     have hfz72_0 := blk_frozen BK127.out 0
     have hfz72_1 := blk_frozen BK127.out 1
     obtain ⟨Ao73, co73, eo73⟩ := Kd.R_slice HO_129001.out
     subst eo73
     go_wp2
     refine bodyPost_ret (results_ct rfl _ _ gb127 25 #[.bool a0_0, .slice Ao73 x129001_1.length co73] (0, 0) _ rfl (by (with_reducible repeat first|refine qN ?_ _|refine qW ?_|refine qA ?_ _); refine blk_put (cs := #[.bool a0_0, .slice none 0 0]) ?_ 1 _ rfl; (with_reducible repeat first|refine qN ?_ _|refine qW ?_|refine qA ?_ _); refine blk_put (cs := #[.bool false, .slice none 0 0]) ?_ 0 _ rfl; (with_reducible repeat first|refine qN ?_ _|refine qW ?_|refine qA ?_ _); exact BK127.out) Tryd.underlying25 rfl (by kernel_rfl)) rfl ?_
     exact ⟨_, by first | rfl | (simp [errW_none, errW_some] <;> rfl) | (simp [*, errW_none, errW_some] <;> rfl), by (with_reducible repeat first|apply Kd.R_alloc|apply Kd.R_drewN|apply Kd.R_drew); exact Kd.R_mono (qz HO_129001 BK127 (by decide) (.bool a0_0) (.slice Ao73 x129001_1.length co73)) (fun _ hk => trivial), by repeat (first | (with_reducible first | exact HB.out | apply qx | apply qv | apply qw | refine qs ?_ (by assumption)) | exact HB.out)⟩
end Go.Proofs.YthhpnlbeniihhaaDoor.PRef
namespace Go.Proofs.YthhpnlbeniihhaaDoor.Bit
open Go.Proofs.YthhpnlbeniihhaaDoor.Limb
set_option linter.unusedVariables false
set_option linter.unusedSimpArgs false
/-- The value of a row. -/
def bv : List Int → Nat
  | [] => 0
  | x :: l => x.toNat + 2 * bv l
/-- Each is a limb. -/
def OkB (l : List Int) : Prop := ∀ x ∈ l, 0 ≤ x ∧ x < 2
theorem bv_nil : bv [] = 0 := rfl
theorem bv_cons (x : Int) (l : List Int) : bv (x :: l) = x.toNat + 2 * bv l := rfl
theorem bv_append (l m : List Int) : bv (l ++ m) = bv l + 2 ^ l.length * bv m := by
  induction l with
  | nil => simp [bv]
  | cons x l ih =>
    simp only [List.cons_append, bv_cons, ih, List.length_cons, Nat.pow_succ]
    rw [Nat.mul_add, Nat.add_assoc, Nat.mul_comm (2 ^ l.length) 2, Nat.mul_assoc]
theorem bv_lt {l : List Int} (h : OkB l) : bv l < 2 ^ l.length := by
  induction l with
  | nil => simp [bv]
  | cons x l ih =>
    have hx := h x List.mem_cons_self
    have hl := ih (fun y hy => h y (List.mem_cons_of_mem _ hy))
    rw [bv_cons, List.length_cons, Nat.pow_succ]
    omega
theorem bv_zero {l : List Int} (h : OkB l) : bv l = 0 ↔ tr l = [] := by
  induction l with
  | nil => simp [bv, tr_nil]
  | cons x l ih =>
    have hx := h x List.mem_cons_self
    have ih := ih (fun y hy => h y (List.mem_cons_of_mem _ hy))
    rw [bv_cons, tr_cons]
    by_cases e : tr l = []
    · rw [if_pos e]
      have := ih.mpr e
      by_cases hx0 : x = 0
      · rw [if_pos hx0]; constructor
        · intro _; rfl
        · intro _; omega
      · rw [if_neg hx0]; constructor
        · intro q; omega
        · intro q; simp at q
    · rw [if_neg e]
      have : bv l ≠ 0 := fun q => e (ih.mp q)
      constructor
      · intro q; omega
      · intro q; simp at q
/-- The row of a value. -/
def bits (n : Nat) : List Int := if h : n = 0 then [] else ((n % 2 : Nat) : Int) :: bits (n / 2)
termination_by n
decreasing_by exact Nat.div_lt_self (by omega) (by decide)
theorem bits_zero : bits 0 = [] := by rw [bits]; simp
theorem bits_pos {n : Nat} (h : n ≠ 0) : bits n = ((n % 2 : Nat) : Int) :: bits (n / 2) := by rw [bits, dif_neg h]
theorem bits_nil {n : Nat} : bits n = [] ↔ n = 0 := by
  by_cases h : n = 0
  · subst h; simp [bits_zero]
  · rw [bits_pos h]; simp [h]
theorem bv_bits (n : Nat) : bv (bits n) = n := by
  induction n using Nat.strongRecOn with
  | ind n ih =>
    by_cases h : n = 0
    · subst h; rw [bits_zero]; rfl
    · rw [bits_pos h, bv_cons, ih _ (Nat.div_lt_self (by omega) (by decide))]
      omega
theorem ok_bits (n : Nat) : OkB (bits n) := by
  induction n using Nat.strongRecOn with
  | ind n ih =>
    by_cases h : n = 0
    · subst h; rw [bits_zero]; intro x hx; simp at hx
    · rw [bits_pos h]
      intro x hx
      rcases List.mem_cons.mp hx with rfl | hx
      · omega
      · exact ih _ (Nat.div_lt_self (by omega) (by decide)) x hx
/-- A row, trimmed, is the row of its value. -/
theorem tr_bits {l : List Int} (h : OkB l) : tr l = bits (bv l) := by
  induction l with
  | nil => rw [bv_nil, bits_zero]; rfl
  | cons x l ih =>
    have hx := h x List.mem_cons_self
    have hl : OkB l := fun y hy => h y (List.mem_cons_of_mem _ hy)
    have ih := ih hl
    rw [tr_cons, bv_cons]
    by_cases e : tr l = []
    · have m0 := (bv_zero hl).mpr e
      rw [if_pos e, m0]
      by_cases hx0 : x = 0
      · subst hx0; rw [if_pos rfl]; exact bits_zero.symm
      · rw [if_neg hx0, bits_pos (by omega), show (x.toNat + 2 * 0) / 2 = 0 by omega, bits_zero, show (((x.toNat + 2 * 0) % 2 : Nat) : Int) = x by omega]
    · have m0 : bv l ≠ 0 := fun q => e ((bv_zero hl).mp q)
      rw [if_neg e, bits_pos (by omega), show (x.toNat + 2 * bv l) / 2 = bv l by omega, ← ih, show (((x.toNat + 2 * bv l) % 2 : Nat) : Int) = x by omega]
theorem tr_of_bits (n : Nat) : tr (bits n) = bits n := by rw [tr_bits (ok_bits n), bv_bits]
theorem bits_len (n k : Nat) : (bits n).length ≤ k ↔ n < 2 ^ k := by
  induction k generalizing n with
  | zero =>
    rw [Nat.pow_zero, Nat.le_zero, List.length_eq_zero_iff, bits_nil]
    omega
  | succ k ih =>
    by_cases h : n = 0
    · subst h; simp [bits_zero, Nat.pow_pos]
    · rw [bits_pos h, List.length_cons, Nat.succ_le_succ_iff, ih, Nat.pow_succ]
      exact Nat.div_lt_iff_lt_mul (by decide)
theorem bv_take_succ (l : List Int) (n : Nat) (h : n < l.length) : bv (l.take (n + 1)) = bv (l.take n) + 2 ^ n * (l[n]).toNat := by
  rw [take_succ' l n h, bv_append, List.length_take, Nat.min_eq_left (by omega)]
  simp [bv]
theorem bv_take_lt {l : List Int} (h : OkB l) (n : Nat) (hn : n ≤ l.length) : bv (l.take n) < 2 ^ n := by
  have := bv_lt (l := l.take n) (fun x hx => h x (List.mem_of_mem_take hx))
  rwa [List.length_take, Nat.min_eq_left hn] at this
end Go.Proofs.YthhpnlbeniihhaaDoor.Bit
namespace Go.Proofs.YthhpnlbeniihhaaDoor.RefA
open Go.RowKit Go.Proofs.YthhpnlbeniihhaaDoorW.PrintWords Go.Proofs.YthhpnlbeniihhaaDoorW.PrintLast Go.Proofs.YthhpnlbeniihhaaDoorW.PrintMore Go.Proofs.YthhpnlbeniihhaaDoor.Limb Go.Proofs.YthhpnlbeniihhaaDoor.Bit Go.Proofs.YthhpnlbeniihhaaDoor.NumA Go.Proofs.YthhpnlbeniihhaaDoor.NumE Go.Proofs.YthhpnlbeniihhaaDoor.NumG Go.Proofs.YthhpnlbeniihhaaDoor.Quo Go.Proofs.YthhpnlbeniihhaaDoor.PRef
set_option linter.unusedVariables false
set_option linter.unusedSimpArgs false
theorem Ev.rbind {α β : Type} {g : Nat → Option α} {f : Nat → α → Option β} {a : α} {r : β} (h : Ev g a) (k : Ev (fun n => f n a) r) : Ev (fun n => (g n).bind (fun x => f n x)) r := Ev.bind h k
theorem Ev.some' {α : Type} {g : Nat → Option α} {r : α} (h : ∀ k, g k = some r) : Ev g r := ⟨0, fun k _ => h k⟩
theorem w64s {x : Int} (h0 : -9223372036854775808 ≤ x) (h1 : x ≤ 9223372036854775807) : wrap64 x = x := by unfold wrap64; omega
theorem OkB.okL {l : List Int} (h : OkB l) : OkL l := fun x hx => by have := h x hx; omega
theorem nl_le {l : List Int} (h : OkB l) (i : Nat) : nl l i ≤ 1 := by
  unfold nl
  by_cases hi : i < l.length
  · rw [rd_nat l i hi]
    have := h l[i] (List.getElem_mem hi)
    omega
  · rw [rd_out (i : Int) (by omega)]
    decide
theorem okB_nil : OkB [] := by intro x hx; simp at hx
theorem okB_snoc {l : List Int} (h : OkB l) (x : Nat) (hx : x ≤ 1) : OkB (l ++ [(x : Int)]) := by
  intro y hy
  rcases List.mem_append.mp hy with hy | hy
  · exact h y hy
  · rw [List.mem_singleton] at hy; subst hy; omega
theorem okB_cons {l : List Int} (h : OkB l) (x : Int) (hx : 0 ≤ x ∧ x < 2) : OkB (x :: l) := by
  intro y hy
  rcases List.mem_cons.mp hy with rfl | hy
  · exact hx
  · exact h y hy
theorem bv_take_next (l : List Int) (i : Nat) : bv (l.take (i + 1)) = bv (l.take i) + 2 ^ i * nl l i := by
  by_cases h : i < l.length
  · rw [bv_take_succ l i h]
    unfold nl
    rw [rd_nat l i h]
  · have e : nl l i = 0 := by unfold nl; rw [rd_out (i : Int) (by omega)]; rfl
    rw [e, List.take_of_length_le (by omega), List.take_of_length_le (by omega)]
    omega
theorem bv_take_all {l : List Int} {n : Nat} (h : l.length ≤ n) : bv (l.take n) = bv l := by rw [List.take_of_length_le h]
theorem bv_snoc (l : List Int) (x : Nat) : bv (l ++ [(x : Int)]) = bv l + 2 ^ l.length * x := by
  rw [bv_append]
  simp [bv]
theorem cut_from (l : List Int) (hl : l.length < 4611686018427387904) (n : Nat) (hn : n ≤ l.length) : Ev (fun k => moraineref02_cut.l0 k l (n : Int)) (tr (l.take n)) := by
  induction n with
  | zero =>
    refine Ev.step (f := fun _ => some (l.take 0)) (fun k => ?_) (by rw [List.take_zero]; exact Ev.now _)
    rw [moraineref02_cut.l0, if_neg (by decide), if_pos (by decide), if_pos (by omega)]
    rfl
  | succ n ih =>
    have hlt : n < l.length := hn
    have e : wrap64 (((n + 1 : Nat) : Int) - 1) = (n : Int) := by rw [w64s (by omega) (by omega)]; omega
    by_cases hz : rd l (n : Int) = 0
    · have h0 : l[n] = 0 := by rw [← rd_nat l n hlt]; exact hz
      have et : tr (l.take (n + 1)) = tr (l.take n) := by rw [take_succ' l n hlt, h0, tr_snoc_zero]
      rw [et]
      refine Ev.step (fun k => ?_) (ih (by omega))
      rw [moraineref02_cut.l0, if_pos (by omega), e, if_pos (by omega), if_pos (by omega), if_pos hz]
    · have h0 : l[n] ≠ 0 := by rw [← rd_nat l n hlt]; exact hz
      have et : tr (l.take (n + 1)) = l.take (n + 1) := by rw [take_succ' l n hlt, tr_snoc_ne _ _ h0]
      rw [et]
      refine Ev.step (f := fun _ => some (l.take (n + 1))) (fun k => ?_) (Ev.now _)
      rw [moraineref02_cut.l0, if_pos (by omega), e, if_pos (by omega), if_pos (by omega), if_neg hz, if_pos (by omega), if_pos (by omega)]
      rfl
theorem cut_ev (l : List Int) (hl : l.length < 4611686018427387904) : Ev (fun k => moraineref02_cut.f k l) (tr l) := by
  have h := cut_from l hl l.length (Nat.le_refl _)
  rw [List.take_length] at h
  exact h
theorem value_ev (neg : Bool) (l : List Int) (hl : l.length < 4611686018427387904) : Ev (fun k => moraineref02_value.f k neg l) (neg && decide (0 < (tr l).length), tr l) := by
  unfold moraineref02_value.f
  refine Ev.rbind (cut_ev l hl) ?_
  cases neg with
  | true => exact Ev.some' (fun k => by rw [if_pos rfl]; rfl)
  | false => exact Ev.some' (fun k => by rw [if_neg (by decide)]; rfl)
theorem w_sum (x y c : Nat) (hx : x ≤ 1) (hy : y ≤ 1) (hc : c ≤ 1) : wrap64 (wrap64 ((x : Int) + (y : Int)) + (c : Int)) = ((x + y + c : Nat) : Int) := by
  rw [w64s (x := (x : Int) + (y : Int)) (by omega) (by omega), w64s (by omega) (by omega)]; omega
theorem w_mod (s : Nat) : Int.tmod (s : Int) 2 % 256 = ((s % 2 : Nat) : Int) := by rw [Int.tmod_eq_emod_of_nonneg (by omega)]; omega
theorem w_half (s : Nat) (h : s ≤ 3) : wrap64 (Int.tdiv (s : Int) 2) = ((s / 2 : Nat) : Int) := by rw [Int.tdiv_eq_ediv_of_nonneg (by omega), w64s (by omega) (by omega)]; omega
theorem w_next (i : Nat) (h : i < 4611686018427387904) : wrap64 ((i : Int) + 1) = ((i + 1 : Nat) : Int) := by rw [w64s (by omega) (by omega)]; omega
theorem bit_some {l : List Int} (ok : OkB l) (i : Nat) : moraineref02_bit.f l (i : Int) = some ((nl l i : Nat) : Int) := by
  unfold moraineref02_bit.f
  have h := nl_le ok i
  by_cases hi : i < l.length
  · rw [if_pos (by omega), if_pos (by omega), ← nl_cast (OkB.okL ok), w64s (by omega) (by omega)]
  · rw [if_neg (by omega)]
    have : nl l i = 0 := by unfold nl; rw [rd_out (i : Int) (by omega)]; rfl
    rw [this]
    rfl
theorem plus_end (a b : List Int) (oa : OkB a) (ob : OkB b) (ha : a.length < 70368744177664) (hb : b.length < 70368744177664) (i : Nat) (hi : a.length < i ∧ b.length < i) (out : List Int) (c : Nat) (hc : c ≤ 1) (ok : OkB out) (hl : out.length = i) (hi2 : i < 70368744177667)
    (hv : bv out + 2 ^ i * c = bv (a.take i) + bv (b.take i)) : Ev (fun k => moraineref02_plus.l0 k a b out (c : Int) (i : Int)) (Bit.bits (bv a + bv b)) := by
  rw [bv_take_all (by omega), bv_take_all (by omega)] at hv
  have la := bv_lt oa
  have lb := bv_lt ob
  have hc0 : c = 0 := by
    obtain ⟨j, rfl⟩ : ∃ j, i = j + 1 := ⟨i - 1, by omega⟩
    have pa : 2 ^ a.length ≤ 2 ^ j := Nat.pow_le_pow_right (by decide) (by omega)
    have pb : 2 ^ b.length ≤ 2 ^ j := Nat.pow_le_pow_right (by decide) (by omega)
    rcases Nat.lt_or_ge c 1 with h | h
    · omega
    · have hc1 : c = 1 := by omega
      subst hc1
      rw [Nat.pow_succ] at hv
      omega
  subst hc0
  rw [Nat.mul_zero, Nat.add_zero] at hv
  have hr : tr out = Bit.bits (bv a + bv b) := by rw [tr_bits ok, hv]
  refine Ev.step (f := fun k => moraineref02_plus.j1 k a b out ((0 : Nat) : Int) (i : Int) false) (fun k => ?_) ?_
  · rw [moraineref02_plus.l0, if_neg (by omega), show decide ((i : Int) ≤ (b.length : Int)) = false from decide_eq_false (by omega)]
  · refine Ev.step (f := fun k => (moraineref02_cut.f k out).bind fun t => some t) (fun k => ?_) ?_
    · rw [moraineref02_plus.j1, if_neg (by decide)]
    · refine Ev.rbind (cut_ev out (by omega)) ?_
      rw [hr]
      exact Ev.now _
theorem plus_from (a b : List Int) (oa : OkB a) (ob : OkB b) (ha : a.length < 70368744177664) (hb : b.length < 70368744177664) (d : Nat) : ∀ (i : Nat) (out : List Int) (c : Nat), i + d = max a.length b.length + 1 → c ≤ 1 → OkB out → out.length = i →
    bv out + 2 ^ i * c = bv (a.take i) + bv (b.take i) → Ev (fun k => moraineref02_plus.l0 k a b out (c : Int) (i : Int)) (Bit.bits (bv a + bv b)) := by
  induction d with
  | zero =>
    intro i out c hi hc ok hl hv
    exact plus_end a b oa ob ha hb i (by omega) out c hc ok hl (by omega) hv
  | succ d ih =>
    intro i out c hi hc ok hl hv
    have hx := nl_le oa i
    have hy := nl_le ob i
    obtain ⟨s, hs⟩ : ∃ s, nl a i + nl b i + c = s := ⟨_, rfl⟩
    have key : Ev (fun k => moraineref02_plus.j1 k a b out (c : Int) (i : Int) true) (Bit.bits (bv a + bv b)) := by
      refine Ev.step (f := fun k => moraineref02_plus.l0 k a b (out ++ [((s % 2 : Nat) : Int)]) ((s / 2 : Nat) : Int) ((i + 1 : Nat) : Int)) (fun k => ?_) ?_
      · rw [moraineref02_plus.j1, if_pos rfl, bit_some oa, bsome, bit_some ob, bsome, if_pos (by omega), w_sum _ _ _ hx hy hc, hs, w_mod, w_half s (by omega), w_next i (by omega)]
      · refine ih (i + 1) _ _ (by omega) (by omega) (okB_snoc ok _ (by omega)) (by rw [List.length_append, hl]; rfl) ?_
        rw [bv_snoc, hl, bv_take_next, bv_take_next, Nat.pow_succ]
        have hd := Nat.div_add_mod s 2
        have e5 : 2 ^ i * (nl a i + nl b i + c) = 2 ^ i * (2 * (s / 2) + s % 2) := by rw [hs, hd]
        rw [Nat.mul_add, Nat.mul_add, Nat.mul_add, ← Nat.mul_assoc] at e5
        omega
    by_cases h1 : i ≤ a.length
    · refine Ev.step (fun k => ?_) key
      rw [moraineref02_plus.l0, if_pos (by omega)]
    · refine Ev.step (fun k => ?_) key
      rw [moraineref02_plus.l0, if_neg (by omega), show decide ((i : Int) ≤ (b.length : Int)) = true from decide_eq_true (by omega)]
theorem plus_ev (a b : List Int) (oa : OkB a) (ob : OkB b) (ha : a.length < 70368744177664) (hb : b.length < 70368744177664) : Ev (fun k => moraineref02_plus.f k a b) (Bit.bits (bv a + bv b)) :=
  plus_from a b oa ob ha hb (max a.length b.length + 1) 0 [] 0 (by omega) (by decide) okB_nil rfl (by simp [bv])
end Go.Proofs.YthhpnlbeniihhaaDoor.RefA
namespace Go.Proofs.YthhpnlbeniihhaaDoor.RefB
end Go.Proofs.YthhpnlbeniihhaaDoor.RefB
namespace Go.Proofs.YthhpnlbeniihhaaDoor.PRef
end Go.Proofs.YthhpnlbeniihhaaDoor.PRef
-- Printed by a program of this session's (wip/tools/printr.py, over the kit's print program).
namespace Go.Proofs.YthhpnlbeniihhaaDoor.PRef
open Go.RowKit Go.Proofs.YthhpnlbeniihhaaDoorW.PrintWords Go.Proofs.YthhpnlbeniihhaaDoorW.PrintLast Go.Proofs.YthhpnlbeniihhaaDoorW.PrintMore
attribute [local go_sem] max2_int min2_int max_two min_two max_three min_three max_four min_four   -- for this text's walks alone
set_option linter.unusedVariables false
set_option linter.unusedSimpArgs false
def morainelaw02_is.f (k : Nat) (a0_0 : Bool) (l0_1 : List Int) (a1 : Int) (a2_0 : Bool) (l2_1 : List Int) : Option (Bool) := (moraineref02_Num.f k a2_0 l2_1).bind fun bt360 => (if a1 = bt360.2.2 then ((moraineref02_Same.f k a0_0 l0_1 bt360.1 bt360.2.1).bind fun t366 => (some t366)) else (some false))
set_option maxHeartbeats 8000000 in
set_option maxRecDepth 100000 in
theorem morainelaw02_is.calls (k : Nat) (a0_0 : Bool) (A0_1 : Option Addr) (c0_1 : Nat) (l0_1 : List Int) (a1 : Int) (a2_0 : Bool) (A2_1 : Option Addr) (c2_1 : Nat) (l2_1 : List Int) (r : Bool) (w : World) (hr0_1 : Kd.C (Kd.int .u32) w A0_1 l0_1.length l0_1) (hc0_1 : l0_1.length ≤ c0_1) (hr2_1 : Kd.C (Kd.int .u8) w A2_1 l2_1.length l2_1) (hc2_1 : l2_1.length ≤ c2_1) (h : morainelaw02_is.f k a0_0 l0_1 a1 a2_0 l2_1 = some r) :
  Calls Tryd.prog 27 #[.agg #[.bool a0_0, .slice A0_1 l0_1.length c0_1], .int .i64 a1, .agg #[.bool a2_0, .slice A2_1 l2_1.length c2_1]] w fun e w' => e = .returned (.bool r) ∧ Below w.heap.size w w' := by
 have hu25 := Tryd.underlying25
 have hu34 := Tryd.underlying34
 have HR0_1 := Aside0.mk hr0_1
 have HC0_1 := Aside0.mk hc0_1
 clear hr0_1 hc0_1
 have HR2_1 := Aside0.mk hr2_1
 have HC2_1 := Aside0.mk hc2_1
 clear hr2_1 hc2_1
 have HB := Aside0.mk (Below.refl w.heap.size w)
 have H : ((moraineref02_Num.f k a2_0 l2_1).bind fun bt360 => (if a1 = bt360.2.2 then ((moraineref02_Same.f k a0_0 l0_1 bt360.1 bt360.2.1).bind fun t366 => (some t366)) else (some false))) = some r := h
 clear h
 replace H := Option.bind_eq_some_iff.mp H
 obtain ⟨⟨t360, t361, t364⟩, A40, H⟩ := H
 replace H : (if a1 = t364 then ((moraineref02_Same.f k a0_0 l0_1 t360 t361).bind fun t366 => (some t366)) else (some false)) = some r := H
 have A4 := Aside0.mk A40
 clear A40
 by_cases c5 : a1 = t364
 ·rw [if_pos c5] at H
  have c5b0 : (a1 == t364) = true := beq_iff_eq.mpr c5
  have c5b1 : (a1 != t364) = false := bne_eq_false_iff_eq.mpr c5
  clear c5
  replace H := Option.bind_eq_some_iff.mp H
  obtain ⟨t366, A60, H⟩ := H
  replace H : (some t366) = some r := H
  have A6 := Aside0.mk A60
  clear A60
  obtain rfl := Option.some.inj H
  go_enter Tryd.func27, Tryd.ntmps27
  go_wp2_with (first | ((with_reducible refine gate_dst (N := 3) rfl ?_); refine box_event ?hg (N := 3) ?hd (cs := #[.bool a0_0, .slice A0_1 l0_1.length c0_1]) (t := 25) ?hr ?_; (case hd => rfl); (case hg => rfl); (case hr => go_simp <;> rfl); intro gb358 hg w7 hbox hb; have BK358 := Aside0.mk (hbox); have GW358 := qg hg (by repeat (first | (with_reducible first | exact HB.out | apply qx | apply qv | apply qw) | exact HB.out)); have GE358 := GW358; replace HB := Aside0.mk (below_step (by repeat (first | (with_reducible first | exact HB.out | apply qx | apply qv | apply qw) | exact HB.out)) hb); clear hb hbox hg) | ((with_reducible refine gate_dst (N := 5) rfl ?_); refine box_event ?hg (N := 5) ?hd (cs := #[.bool a2_0, .slice A2_1 l2_1.length c2_1]) (t := 34) ?hr ?_; (case hd => rfl); (case hg => rfl); (case hr => go_simp <;> rfl); intro gb359 hg w8 hbox hb; have BK359 := Aside0.mk (hbox); have GW359 := qg hg (by repeat (first | (with_reducible first | exact HB.out | apply qx | apply qv | apply qw | refine below_set ?_ GE358.out) | exact HB.out)); have GE359 := GW359; replace HB := Aside0.mk (below_step (by repeat (first | (with_reducible first | exact HB.out | apply qx | apply qv | apply qw | refine below_set ?_ GE358.out) | exact HB.out)) hb); have NB358_359 := qn BK358 hg; have NB359_358 := qm BK358 hg; replace BK358 := qb BK358 hb; clear hb hbox hg; have hnb9 := NB359_358.out; have hnc9 := NB358_359.out; have hcz10_0 : w8.cell? ⟨gb359, 0, none⟩ = some (.bool a2_0) := qc BK359 0; have hcz10_1 : w8.cell? ⟨gb359, 1, none⟩ = some (.slice A2_1 l2_1.length c2_1) := qc BK359 1; have hfz10_0 := blk_frozen BK359.out 0; have hfz10_1 := blk_frozen BK359.out 1) | ((with_reducible refine gate_callee (f := 52) rfl ?_); refine goesL_ (some 11) rfl rfl Tryd.func52 (by kernel_rfl) rfl #[.agg #[.bool a2_0, .slice A2_1 l2_1.length c2_1]] rfl (by (try simp only [zM, zO, zP]); first|done|rfl) ?_; (with_reducible refine (moraineref02_Num.calls k a2_0 _ _ l2_1 t360 t361 t364 _ ?side1 ?side2 A4.out).mono ?_); (case side1 => exact qC HR2_1 HB); (case side2 => exact HC2_1.out); rintro e w11 ⟨v362, rfl, ho0, hb⟩; refine ⟨_, rfl, ?_⟩; have HO363 := Aside0.mk (Kd.R_lower ho0 (below_size (by repeat with_reducible first|exact HB.out|apply qx|apply qv|apply qw|refine qs ?_ (by assumption)))); replace BK358 := qb BK358 hb; replace BK359 := qb BK359 hb; replace HB := Aside0.mk (below_step (by repeat with_reducible first|exact HB.out|apply qx|apply qv|apply qw|refine qs ?_ (by assumption)) hb); (try clear hb); (try clear hb2); (try clear hk); (try clear hi); (try clear ho0)) | ((with_reducible refine gate_dst (N := 7) rfl ?_); refine box_event ?hg (N := 7) ?hd (cs := #[.bool false, .slice none 0 0]) (t := 25) ?hr ?_; (case hd => rfl); (case hg => rfl); (case hr => go_simp <;> rfl); intro gb365 hg w12 hbox hb; replace HO363 := qr HO363 hb; have BK365 := Aside0.mk (hbox); have GW365 := qg hg (by repeat with_reducible first|exact HB.out|apply qx|apply qv|apply qw|refine qs ?_ (by assumption)); have GE365 := GW365; replace HB := Aside0.mk (below_step (by repeat with_reducible first|exact HB.out|apply qx|apply qv|apply qw|refine qs ?_ (by assumption)) hb); have NB358_365 := qn BK358 hg; have NB365_358 := qm BK358 hg; replace BK358 := qb BK358 hb; have NB359_365 := qn BK359 hg; have NB365_359 := qm BK359 hg; replace BK359 := qb BK359 hb; clear hb hbox hg; have hnb13 := NB365_358.out; have hnc13 := NB358_365.out; have hnb14 := NB365_359.out; have hnc14 := NB359_365.out; have hcz15_0 : w12.cell? ⟨gb365, 0, none⟩ = some (.bool false) := qc BK365 0; have hcz15_1 : w12.cell? ⟨gb365, 1, none⟩ = some (.slice none 0 0) := qc BK365 1; have hfz15_0 := blk_frozen BK365.out 0; have hfz15_1 := blk_frozen BK365.out 1; obtain ⟨Ao16, co16, eo16⟩ := Kd.R_slice HO363.out; subst eo16; have hcz17_0 : w12.cell? ⟨gb358, 0, none⟩ = some (.bool a0_0) := qc BK358 0; have hcz17_1 : w12.cell? ⟨gb358, 1, none⟩ = some (.slice A0_1 l0_1.length c0_1) := qc BK358 1; have hfz17_0 := blk_frozen BK358.out 0; have hfz17_1 := blk_frozen BK358.out 1) | (go_at_call 17; (with_reducible refine (moraineref02_Same.calls k a0_0 _ _ l0_1 t360 _ _ t361 t366 _ ?side1 ?side2 ?side3 ?side4 A6.out).mono ?_); (case side1 => exact Kd.C_below HR0_1.out (by repeat with_reducible first|exact HB.out|apply qx|apply qv|apply qw|refine qs ?_ (by assumption))); (case side2 => exact HC0_1.out); (case side3 => refine (Kd.R_reads' (e := 63) (base := w.heap.size) (ok := fun k_ => True) (n := t361.length) (c := co16) ?_).2.2; exact (by (with_reducible repeat first|apply Kd.R_alloc|apply Kd.R_drewN|apply Kd.R_drew); exact (Kd.R_mono (qz HO363 BK365 (by decide) (.bool t360) (.slice Ao16 t361.length co16)) (fun _ h_ => h_.1)))); (case side4 => exact (Kd.R_reads' HO363.out).2.1); rintro e w18 ⟨rfl, hb⟩; have n0_ := Aside0.mk (Kd.R_below (by (with_reducible repeat first|apply Kd.R_alloc|apply Kd.R_drewN|apply Kd.R_drew); exact (Kd.R_mono (qz HO363 BK365 (by decide) (.bool t360) (.slice Ao16 t361.length co16)) (fun _ h_ => h_.1))) hb); have n1_ := Aside0.mk (blk_below (g := gb358) (o := .cells #[.bool a0_0, .slice A0_1 l0_1.length c0_1] 25 (0, 0)) (by (with_reducible repeat first|refine qN ?_ _|refine qW ?_|refine qA ?_ _); refine qf ?_ NB358_365; (with_reducible repeat first|refine qN ?_ _|refine qW ?_|refine qA ?_ _); exact BK358.out) hb); have n2_ := Aside0.mk (blk_below (g := gb359) (o := .cells #[.bool a2_0, .slice A2_1 l2_1.length c2_1] 34 (0, 0)) (by (with_reducible repeat first|refine qN ?_ _|refine qW ?_|refine qA ?_ _); refine qf ?_ NB359_365; (with_reducible repeat first|refine qN ?_ _|refine qW ?_|refine qA ?_ _); exact BK359.out) hb); have n3_ := Aside0.mk (blk_below (g := gb365) (o := .cells #[.bool t360, .slice Ao16 t361.length co16] 25 (0, 0)) (by (with_reducible repeat first|refine qN ?_ _|refine qW ?_|refine qA ?_ _); refine blk_put (cs := #[.bool t360, .slice none 0 0]) ?_ 1 _ rfl; (with_reducible repeat first|refine qN ?_ _|refine qW ?_|refine qA ?_ _); refine blk_put (cs := #[.bool false, .slice none 0 0]) ?_ 0 _ rfl; (with_reducible repeat first|refine qN ?_ _|refine qW ?_|refine qA ?_ _); exact BK365.out) hb); have n4_ := Aside0.mk (below_step (by repeat with_reducible first|exact HB.out|apply qx|apply qv|apply qw|refine qs ?_ (by assumption)) hb); clear HO363; clear BK358; clear BK359; clear BK365; clear HB; have HO363 := n0_; have BK358 := n1_; have BK359 := n2_; have BK365 := n3_; have HB := n4_; clear n0_ n1_ n2_ n3_ n4_; (try clear hb); (try clear hb2); (try clear hk); (try clear hi)))
  go_ret
  exact ⟨by first | rfl | (simp [errW_none, errW_some] <;> rfl) | (simp [*, errW_none, errW_some] <;> rfl), by repeat (first | (with_reducible first | exact HB.out | apply qx | apply qv | apply qw | refine qs ?_ (by assumption)) | exact HB.out)⟩
 ·rw [if_neg c5] at H
  have c5b0 : (a1 == t364) = false := beq_eq_false_iff_ne.mpr c5
  have c5b1 : (a1 != t364) = true := bne_iff_ne.mpr c5
  obtain rfl := Option.some.inj H
  go_enter Tryd.func27, Tryd.ntmps27
  go_wp2_with (first | ((with_reducible refine gate_dst (N := 3) rfl ?_); refine box_event ?hg (N := 3) ?hd (cs := #[.bool a0_0, .slice A0_1 l0_1.length c0_1]) (t := 25) ?hr ?_; (case hd => rfl); (case hg => rfl); (case hr => go_simp <;> rfl); intro gb358 hg w19 hbox hb; have BK358 := Aside0.mk (hbox); have GW358 := qg hg (by repeat (first | (with_reducible first | exact HB.out | apply qx | apply qv | apply qw) | exact HB.out)); have GE358 := GW358; replace HB := Aside0.mk (below_step (by repeat (first | (with_reducible first | exact HB.out | apply qx | apply qv | apply qw) | exact HB.out)) hb); clear hb hbox hg) | ((with_reducible refine gate_dst (N := 5) rfl ?_); refine box_event ?hg (N := 5) ?hd (cs := #[.bool a2_0, .slice A2_1 l2_1.length c2_1]) (t := 34) ?hr ?_; (case hd => rfl); (case hg => rfl); (case hr => go_simp <;> rfl); intro gb359 hg w20 hbox hb; have BK359 := Aside0.mk (hbox); have GW359 := qg hg (by repeat (first | (with_reducible first | exact HB.out | apply qx | apply qv | apply qw | refine below_set ?_ GE358.out) | exact HB.out)); have GE359 := GW359; replace HB := Aside0.mk (below_step (by repeat (first | (with_reducible first | exact HB.out | apply qx | apply qv | apply qw | refine below_set ?_ GE358.out) | exact HB.out)) hb); have NB358_359 := qn BK358 hg; have NB359_358 := qm BK358 hg; replace BK358 := qb BK358 hb; clear hb hbox hg; have hnb21 := NB359_358.out; have hnc21 := NB358_359.out; have hcz22_0 : w20.cell? ⟨gb359, 0, none⟩ = some (.bool a2_0) := qc BK359 0; have hcz22_1 : w20.cell? ⟨gb359, 1, none⟩ = some (.slice A2_1 l2_1.length c2_1) := qc BK359 1; have hfz22_0 := blk_frozen BK359.out 0; have hfz22_1 := blk_frozen BK359.out 1) | ((with_reducible refine gate_callee (f := 52) rfl ?_); refine goesL_ (some 11) rfl rfl Tryd.func52 (by kernel_rfl) rfl #[.agg #[.bool a2_0, .slice A2_1 l2_1.length c2_1]] rfl (by (try simp only [zM, zO, zP]); first|done|rfl) ?_; (with_reducible refine (moraineref02_Num.calls k a2_0 _ _ l2_1 t360 t361 t364 _ ?side1 ?side2 A4.out).mono ?_); (case side1 => exact qC HR2_1 HB); (case side2 => exact HC2_1.out); rintro e w23 ⟨v362, rfl, ho0, hb⟩; refine ⟨_, rfl, ?_⟩; have HO363 := Aside0.mk (Kd.R_lower ho0 (below_size (by repeat with_reducible first|exact HB.out|apply qx|apply qv|apply qw|refine qs ?_ (by assumption)))); replace BK358 := qb BK358 hb; replace BK359 := qb BK359 hb; replace HB := Aside0.mk (below_step (by repeat with_reducible first|exact HB.out|apply qx|apply qv|apply qw|refine qs ?_ (by assumption)) hb); (try clear hb); (try clear hb2); (try clear hk); (try clear hi); (try clear ho0)) | ((with_reducible refine gate_dst (N := 7) rfl ?_); refine box_event ?hg (N := 7) ?hd (cs := #[.bool false, .slice none 0 0]) (t := 25) ?hr ?_; (case hd => rfl); (case hg => rfl); (case hr => go_simp <;> rfl); intro gb365 hg w24 hbox hb; replace HO363 := qr HO363 hb; have BK365 := Aside0.mk (hbox); have GW365 := qg hg (by repeat with_reducible first|exact HB.out|apply qx|apply qv|apply qw|refine qs ?_ (by assumption)); have GE365 := GW365; replace HB := Aside0.mk (below_step (by repeat with_reducible first|exact HB.out|apply qx|apply qv|apply qw|refine qs ?_ (by assumption)) hb); have NB358_365 := qn BK358 hg; have NB365_358 := qm BK358 hg; replace BK358 := qb BK358 hb; have NB359_365 := qn BK359 hg; have NB365_359 := qm BK359 hg; replace BK359 := qb BK359 hb; clear hb hbox hg; have hnb25 := NB365_358.out; have hnc25 := NB358_365.out; have hnb26 := NB365_359.out; have hnc26 := NB359_365.out; have hcz27_0 : w24.cell? ⟨gb365, 0, none⟩ = some (.bool false) := qc BK365 0; have hcz27_1 : w24.cell? ⟨gb365, 1, none⟩ = some (.slice none 0 0) := qc BK365 1; have hfz27_0 := blk_frozen BK365.out 0; have hfz27_1 := blk_frozen BK365.out 1; obtain ⟨Ao28, co28, eo28⟩ := Kd.R_slice HO363.out; subst eo28))
  go_ret
  exact ⟨by first | rfl | (simp [errW_none, errW_some] <;> rfl) | (simp [*, errW_none, errW_some] <;> rfl), by repeat (first | (with_reducible first | exact HB.out | apply qx | apply qv | apply qw | refine qs ?_ (by assumption)) | exact HB.out)⟩
end Go.Proofs.YthhpnlbeniihhaaDoor.PRef
namespace Go.Proofs.YthhpnlbeniihhaaDoor.RefC
open Go.RowKit Go.Proofs.YthhpnlbeniihhaaDoorW.PrintWords Go.Proofs.YthhpnlbeniihhaaDoorW.PrintLast Go.Proofs.YthhpnlbeniihhaaDoorW.PrintMore Go.Proofs.YthhpnlbeniihhaaDoor.Limb Go.Proofs.YthhpnlbeniihhaaDoor.Bit Go.Proofs.YthhpnlbeniihhaaDoor.NumA Go.Proofs.YthhpnlbeniihhaaDoor.NumE Go.Proofs.YthhpnlbeniihhaaDoor.NumG Go.Proofs.YthhpnlbeniihhaaDoor.NumJ Go.Proofs.YthhpnlbeniihhaaDoor.RefA Go.Proofs.YthhpnlbeniihhaaDoor.RefB Go.Proofs.YthhpnlbeniihhaaDoor.PRef
set_option linter.unusedVariables false
set_option linter.unusedSimpArgs false
/-- A whole number's sign and bits. -/
def vb (z : Int) : Bool := decide (z < 0)
def vl (z : Int) : List Int := Bit.bits z.natAbs
theorem ok_vl (z : Int) : OkB (vl z) := ok_bits _
theorem bv_vl (z : Int) : bv (vl z) = z.natAbs := bv_bits _
theorem bits_pos (n : Nat) : decide (0 < (Bit.bits n).length) = decide (n ≠ 0) := by
  rw [decide_eq_decide]
  have := bits_len n 0
  rw [Nat.pow_zero] at this
  omega
end Go.Proofs.YthhpnlbeniihhaaDoor.RefC
namespace Go.Proofs.YthhpnlbeniihhaaDoor.RefD
end Go.Proofs.YthhpnlbeniihhaaDoor.RefD
namespace Go.Proofs.YthhpnlbeniihhaaDoor.RefE
open Go.RowKit Go.Proofs.YthhpnlbeniihhaaDoorW.PrintWords Go.Proofs.YthhpnlbeniihhaaDoorW.PrintLast Go.Proofs.YthhpnlbeniihhaaDoorW.PrintMore Go.Proofs.YthhpnlbeniihhaaDoor.Limb Go.Proofs.YthhpnlbeniihhaaDoor.Bit Go.Proofs.YthhpnlbeniihhaaDoor.NumA Go.Proofs.YthhpnlbeniihhaaDoor.NumB Go.Proofs.YthhpnlbeniihhaaDoor.NumE Go.Proofs.YthhpnlbeniihhaaDoor.NumG Go.Proofs.YthhpnlbeniihhaaDoor.NumJ Go.Proofs.YthhpnlbeniihhaaDoor.Quo Go.Proofs.YthhpnlbeniihhaaDoor.Plain Go.Proofs.YthhpnlbeniihhaaDoor.RefA Go.Proofs.YthhpnlbeniihhaaDoor.RefB Go.Proofs.YthhpnlbeniihhaaDoor.RefC Go.Proofs.YthhpnlbeniihhaaDoor.RefD Go.Proofs.YthhpnlbeniihhaaDoor.PRef
set_option linter.unusedVariables false
set_option linter.unusedSimpArgs false
theorem or_word (x t : Nat) (hx : x < 2 ^ t) (ht : t < 32) : Go.bits .or .u32 (x : Int) (shl .u32 1 (t : Int)) = ((x + 2 ^ t : Nat) : Int) := by
  have hp : (2 : Nat) ^ t < 2 ^ 32 := Nat.pow_lt_pow_right (by decide) ht
  have e : shl .u32 1 (t : Int) = ((2 ^ t : Nat) : Int) := by
    unfold shl
    rw [Int.toNat_natCast, Nat.min_eq_left (by show t ≤ 32; omega), Int.one_mul, IntKind.wrap_u32]
    have : ((2 : Int) ^ t) = ((2 ^ t : Nat) : Int) := by rw [Int.natCast_pow]; rfl
    rw [this]
    omega
  have hor : x ||| 2 ^ t = x + 2 ^ t := by
    have := Nat.two_pow_add_eq_or_of_lt hx 1
    rw [Nat.mul_one] at this
    rw [Nat.or_comm, ← this, Nat.add_comm]
  have h1 : x < 4294967296 := by omega
  rw [e, u32_or _ _ (by omega) (by omega) (by omega) (by omega), Int.toNat_natCast, Int.toNat_natCast, hor]
theorem num_last (z : Int) (M : List Int) (ok : OkL M) (hl : M.length = ((vl z).length + 31) / 32) (hm : mag M = z.natAbs) : M = sl z := by
  have ht : tr M = sl z := by unfold sl; rw [tr_limbs ok, hm]
  rw [← ht]
  have hle := tr_len_le M
  have hge : M.length ≤ (tr M).length := by
    by_cases h0 : (vl z).length = 0
    · omega
    · have hb : ¬ ((vl z).length ≤ (vl z).length - 1) := by omega
      have hb2 : ¬ (z.natAbs < 2 ^ ((vl z).length - 1)) := fun h => hb ((bits_len z.natAbs _).mpr h)
      have hq : ¬ ((tr M).length ≤ M.length - 1) := by
        intro h
        rw [ht] at h
        unfold sl at h
        rw [limbs_len] at h
        refine hb2 (Nat.lt_of_lt_of_le h ?_)
        rw [show (4294967296 : Nat) = 2 ^ 32 from rfl, ← Nat.pow_mul]
        exact Nat.pow_le_pow_right (by decide) (by omega)
      omega
  rw [← tr_take M, List.take_of_length_le hge]
theorem w_div (i : Nat) (h : i < 4611686018427387904) : wrap64 (Int.tdiv (i : Int) 32) = ((i / 32 : Nat) : Int) := by
  rw [Int.tdiv_eq_ediv_of_nonneg (by omega), w64s (by omega) (by omega)]; omega
theorem t_mod (i : Nat) : Int.tmod (i : Int) 32 = ((i % 32 : Nat) : Int) := by rw [Int.tmod_eq_emod_of_nonneg (by omega)]; omega
theorem okL_app {M : List Int} (h : OkL M) : OkL (M ++ [0]) := by
  intro x hx
  rcases List.mem_append.mp hx with hx | hx
  · exact h x hx
  · obtain rfl : x = 0 := by simpa using hx
    decide
theorem okL_set {M : List Int} (h : OkL M) (q : Nat) {x : Nat} (hx : x < 4294967296) : OkL (M.set q (x : Int)) := by
  intro y hy
  rcases List.mem_or_eq_of_mem_set hy with hy | rfl
  · exact h y hy
  · omega
theorem mag_app (M : List Int) : mag (M ++ [0]) = mag M := by rw [mag_append]; simp [mag]
/-- One bit set into a row of limbs that stands below it. -/
theorem set_up {M : List Int} (ok : OkL M) (i : Nat) (hq : i / 32 < M.length) (hm : mag M < 2 ^ i) :
    nl M (i / 32) < 2 ^ (i % 32) ∧ mag (M.set (i / 32) ((nl M (i / 32) + 2 ^ (i % 32) : Nat) : Int)) = mag M + 2 ^ i := by
  have hp := pow_split i
  have h1 : nl M (i / 32) < 2 ^ (i % 32) := by
    rw [← mag_limb ok]
    refine Nat.lt_of_le_of_lt (Nat.mod_le _ _) ?_
    rw [Nat.div_lt_iff_lt_mul (Nat.pow_pos (by decide)), Nat.mul_comm, ← hp]
    exact hm
  refine ⟨h1, ?_⟩
  have hs := mag_set M (i / 32) ((nl M (i / 32) + 2 ^ (i % 32) : Nat) : Int) hq
  rw [Int.toNat_natCast, Nat.mul_add, ← hp] at hs
  omega
theorem num_step (z : Int) (hz : (vl z).length ≤ 1536) (i k : Nat) (hi : i < (vl z).length) (M : List Int) (hM : M.length = i / 32 + 1) (ok : OkL M) (hm : mag M = bv ((vl z).take i)) (R : Bool × List Int × Int)
    (h : ∀ N : List Int, N.length = i / 32 + 1 → OkL N → mag N = bv ((vl z).take (i + 1)) → moraineref02_Num.l0 k ((i + 1 : Nat) : Int) (vb z) (vl z) (vb z) N = some R) :
    (if (rd (vl z) (i : Int)) = 1 then (if 0 ≤ (wrap64 (Int.tdiv (i : Int) 32)) then (if (wrap64 (Int.tdiv (i : Int) 32)) < (M.length : Int) then (if 0 ≤ (Int.tmod (i : Int) 32) then (moraineref02_Num.l0 k (wrap64 ((i : Int) + 1)) (vb z) (vl z) (vb z) (M.set ((wrap64 (Int.tdiv (i : Int) 32)) : Int).toNat (Go.bits .or .u32 (rd M (wrap64 (Int.tdiv (i : Int) 32))) (shl .u32 1 (Int.tmod (i : Int) 32))))) else (none)) else (none)) else (none)) else (moraineref02_Num.l0 k (wrap64 ((i : Int) + 1)) (vb z) (vl z) (vb z) M)) = some R := by
  have hb := nl_le (ok_vl z) i
  have hrd : rd (vl z) (i : Int) = ((nl (vl z) i : Nat) : Int) := (nl_cast (OkB.okL (ok_vl z)) i).symm
  have hlt := bv_take_lt (ok_vl z) i (by omega)
  have hn := bv_take_next (vl z) i
  rw [w_div i (by omega), t_mod, w_next i (by omega), hrd]
  by_cases h1 : nl (vl z) i = 1
  · obtain ⟨hs1, hs2⟩ := set_up ok i (by omega) (by rw [hm]; exact hlt)
    have hw : nl M (i / 32) + 2 ^ (i % 32) < 4294967296 := by
      have : (2 : Nat) ^ (i % 32) ≤ 2 ^ 31 := Nat.pow_le_pow_right (by decide) (by omega)
      omega
    rw [if_pos (by omega), if_pos (by omega), if_pos (by omega), if_pos (by omega), ← nl_cast ok, or_word _ _ hs1 (by omega), Int.toNat_natCast]
    exact h _ (by rw [List.length_set]; exact hM) (okL_set ok _ hw) (by rw [hs2, hm, hn, h1]; omega)
  · have h0 : nl (vl z) i = 0 := by omega
    rw [if_neg (by omega)]
    exact h M hM ok (by rw [hm, hn, h0]; omega)
theorem num_loop (z : Int) (hz : (vl z).length ≤ 1536) (d : Nat) : ∀ (i k : Nat) (M : List Int), i + d = (vl z).length → d < k → M.length = (i + 31) / 32 → OkL M → mag M = bv ((vl z).take i) →
    moraineref02_Num.l0 k (i : Int) (vb z) (vl z) (vb z) M = some (vb z, sl z, 0) := by
  induction d with
  | zero =>
    intro i k M hi hk hM ok hm
    obtain ⟨k, rfl⟩ : ∃ j, k = j + 1 := ⟨k - 1, by omega⟩
    obtain rfl : i = (vl z).length := by omega
    rw [List.take_length, bv_vl] at hm
    rw [moraineref02_Num.l0, if_neg (by omega), num_last z M ok hM hm]
  | succ d ih =>
    intro i k M hi hk hM ok hm
    obtain ⟨k, rfl⟩ : ∃ j, k = j + 1 := ⟨k - 1, by omega⟩
    have hlt : i < (vl z).length := by omega
    have next : ∀ N : List Int, N.length = i / 32 + 1 → OkL N → mag N = bv ((vl z).take (i + 1)) → moraineref02_Num.l0 k ((i + 1 : Nat) : Int) (vb z) (vl z) (vb z) N = some (vb z, sl z, 0) :=
      fun N hN oN mN => ih (i + 1) k N (by omega) (by omega) (by omega) oN mN
    rw [moraineref02_Num.l0, if_pos (by omega)]
    by_cases h0 : i % 32 = 0
    · rw [if_pos (by rw [t_mod]; omega), if_pos (by omega), bsome, if_pos (by omega)]
      exact num_step z hz i k hlt (M ++ [0]) (by rw [List.length_append, List.length_singleton]; omega) (okL_app ok) (by rw [mag_app]; exact hm) _ next
    · rw [if_neg (by rw [t_mod]; omega), if_pos (by omega)]
      exact num_step z hz i k hlt M (by omega) ok hm _ next
theorem pow_words (n k m : Nat) (h : m = 32 * k) : n < 2 ^ m ↔ n < 4294967296 ^ k := by
  subst h
  rw [Nat.pow_mul]
/-- Num: a number of limbs, or 'too big'. -/
theorem Num_at (z : Int) : moraineref02_Num.f ((vl z).length + 1) (vb z) (vl z) = some (mkI z) := by
  unfold moraineref02_Num.f
  have hlen : (vl z).length ≤ 1536 ↔ Fits z := (bits_len z.natAbs 1536).trans (pow_words z.natAbs 48 1536 rfl)
  by_cases h : (vl z).length ≤ 1536
  · rw [if_neg (by omega), mkI_fits (hlen.mp h)]
    exact num_loop z h (vl z).length 0 _ [] (by omega) (by omega) rfl (fun x hx => by cases hx) (by simp [bv, mag])
  · rw [if_pos (by omega), mkI_big (fun hf => h (hlen.mpr hf))]
end Go.Proofs.YthhpnlbeniihhaaDoor.RefE
namespace Go.Proofs.YthhpnlbeniihhaaDoor
open Go.RowKit Go.Proofs.YthhpnlbeniihhaaDoorW.PrintWords Go.Proofs.YthhpnlbeniihhaaDoorW.PrintLast Go.Proofs.YthhpnlbeniihhaaDoorW.PrintMore Go.Proofs.YthhpnlbeniihhaaDoor.NumG Go.Proofs.YthhpnlbeniihhaaDoor.NumA
set_option linter.unusedVariables false
theorem same_loop (a b : Bool) (l m : List Int) (hl : l.length = m.length) (hb : l.length < 1073741824) : ∀ (d i k : Nat), i + d = l.length → d < k → (l.take i = m.take i) →
    PRef.moraineref02_Same.l0 k (i : Int) a l b m = some (decide (l = m)) := by
  intro d
  induction d with
  | zero =>
    intro i k hi hk ht
    obtain ⟨k, rfl⟩ : ∃ j, k = j + 1 := ⟨k - 1, by omega⟩
    rw [PRef.moraineref02_Same.l0, if_neg (by omega)]
    have : l = m := by
      have e1 : l.take i = l := List.take_of_length_le (by omega)
      have e2 : m.take i = m := List.take_of_length_le (by omega)
      rw [e1, e2] at ht; exact ht
    rw [decide_eq_true this]
  | succ d ih =>
    intro i k hi hk ht
    obtain ⟨k, rfl⟩ : ∃ j, k = j + 1 := ⟨k - 1, by omega⟩
    have h1 : i < l.length := by omega
    have h2 : i < m.length := by omega
    rw [PRef.moraineref02_Same.l0, if_pos (by omega), if_pos (by omega), if_pos (by omega), rd_nat l i h1, rd_nat m i h2]
    by_cases he : l[i] = m[i]
    · rw [if_pos he, show wrap64 ((i : Int) + 1) = ((i + 1 : Nat) : Int) by unfold wrap64; omega]
      refine ih (i + 1) k (by omega) (by omega) ?_
      rw [List.take_succ_eq_append_getElem h1, List.take_succ_eq_append_getElem h2, ht, he]
    · rw [if_neg he, decide_eq_false]
      intro hlm
      subst hlm
      exact he rfl
def moraineref02_Same.f (a0_0 : Bool) (l0_1 : List Int) (a1_0 : Bool) (l1_1 : List Int) : Option Bool := if l0_1.length < 1073741824 then some (decide (a0_0 = a1_0 ∧ l0_1 = l1_1)) else none
theorem same_eq (a b : Bool) (l m : List Int) (hb : l.length < 1073741824) : PRef.moraineref02_Same.f (l.length + 2) a l b m = some (decide (a = b ∧ l = m)) := by
  unfold PRef.moraineref02_Same.f
  by_cases hab : a = b
  · subst hab
    rw [if_neg (by simp)]
    by_cases hl : l.length = m.length
    · rw [show ((l.length : Int) != (m.length : Int)) = false by rw [hl]; simp, PRef.moraineref02_Same.j0, if_neg (by decide)]
      refine (same_loop a a l m hl hb l.length 0 (l.length + 1) (by omega) (by omega) (by simp)).trans ?_
      simp
    · rw [show ((l.length : Int) != (m.length : Int)) = true by rw [bne_iff_ne]; omega, PRef.moraineref02_Same.j0, if_pos rfl, decide_eq_false]
      rintro ⟨-, rfl⟩
      exact hl rfl
  · rw [if_pos (by simpa using hab), PRef.moraineref02_Same.j0, if_pos rfl, decide_eq_false]
    rintro ⟨h, -⟩
    exact hab h
theorem moraineref02_Same.calls (a0_0 : Bool) (A0_1 : Option Addr) (c0_1 : Nat) (l0_1 : List Int) (a1_0 : Bool) (A1_1 : Option Addr) (c1_1 : Nat) (l1_1 : List Int) (r : Bool) (w : World) (hr0_1 : Kd.C (Kd.int .u32) w A0_1 l0_1.length l0_1) (hc0_1 : l0_1.length ≤ c0_1) (hr1_1 : Kd.C (Kd.int .u32) w A1_1 l1_1.length l1_1) (hc1_1 : l1_1.length ≤ c1_1) (h : moraineref02_Same.f a0_0 l0_1 a1_0 l1_1 = some r) :
    Calls Tryd.prog 17 #[.agg #[.bool a0_0, .slice A0_1 l0_1.length c0_1], .agg #[.bool a1_0, .slice A1_1 l1_1.length c1_1]] w fun e w' => e = .returned (.bool r) ∧ Below w.heap.size w w' := by
  unfold moraineref02_Same.f at h
  by_cases hb : l0_1.length < 1073741824
  · rw [if_pos hb] at h
    exact PRef.moraineref02_Same.calls (l0_1.length + 2) a0_0 A0_1 c0_1 l0_1 a1_0 A1_1 c1_1 l1_1 r w hr0_1 hc0_1 hr1_1 hc1_1 ((same_eq _ _ _ _ hb).trans h)
  · rw [if_neg hb] at h; cases h
end Go.Proofs.YthhpnlbeniihhaaDoor
namespace Go.Proofs.YthhpnlbeniihhaaDoor.Raw
open Go.Proofs.YthhpnlbeniihhaaDoor Go.Proofs.YthhpnlbeniihhaaDoor.Limb Go.Proofs.YthhpnlbeniihhaaDoor.NumA Go.Proofs.YthhpnlbeniihhaaDoor.NumB Go.Proofs.YthhpnlbeniihhaaDoor.NumC Go.Proofs.YthhpnlbeniihhaaDoor.NumJ Go.Proofs.YthhpnlbeniihhaaDoor.NumS Go.Proofs.YthhpnlbeniihhaaDoor.NumU Go.Proofs.YthhpnlbeniihhaaDoor.Vals Go.Proofs.YthhpnlbeniihhaaDoor.Plain
section
variable {n : Bool} {l : List Int} (h : okN l)
include h
end
section
variable {n1 n2 : Bool} {l m : List Int} (h1 : okN l) (h2 : okN m)
include h1 h2
end
theorem aw : (morainelaw02_awake.f).bind (fun t => some t) = some true := rfl
end Go.Proofs.YthhpnlbeniihhaaDoor.Raw
namespace Go.Proofs.YthhpnlbeniihhaaDoor.PRef
end Go.Proofs.YthhpnlbeniihhaaDoor.PRef
namespace Go.Proofs.YthhpnlbeniihhaaDoor
open Go.RowKit Go.Proofs.YthhpnlbeniihhaaDoorW.PrintWords Go.Proofs.YthhpnlbeniihhaaDoorW.PrintLast Go.Proofs.YthhpnlbeniihhaaDoorW.PrintMore Go.Proofs.YthhpnlbeniihhaaDoor.Limb Go.Proofs.YthhpnlbeniihhaaDoor.Bit Go.Proofs.YthhpnlbeniihhaaDoor.NumA Go.Proofs.YthhpnlbeniihhaaDoor.NumB Go.Proofs.YthhpnlbeniihhaaDoor.NumE Go.Proofs.YthhpnlbeniihhaaDoor.NumG Go.Proofs.YthhpnlbeniihhaaDoor.NumJ Go.Proofs.YthhpnlbeniihhaaDoor.Plain Go.Proofs.YthhpnlbeniihhaaDoor.RefA Go.Proofs.YthhpnlbeniihhaaDoor.RefB Go.Proofs.YthhpnlbeniihhaaDoor.RefC Go.Proofs.YthhpnlbeniihhaaDoor.RefD Go.Proofs.YthhpnlbeniihhaaDoor.RefE
set_option linter.unusedVariables false
set_option linter.unusedSimpArgs false
/-- A sign and bits as a whole number. -/
def bval (b : Bool) (l : List Int) : Int := if b then -(bv l : Int) else (bv l : Int)
/-- Bits without noughts at the end, no sign of nought, few of them. -/
def canV (b : Bool) (l : List Int) : Prop := l.length < 1073741824 ∧ l = Bit.bits (bv l) ∧ (b = true → bv l ≠ 0)
instance instCanV (b : Bool) (l : List Int) : Decidable (canV b l) := by unfold canV; infer_instance
theorem bval_v (z : Int) : bval (vb z) (vl z) = z := by
  unfold bval
  rw [bv_vl]
  unfold vb
  by_cases h : z < 0 <;> simp [h] <;> omega
theorem canV.as_ {b : Bool} {l : List Int} (h : canV b l) : ∃ z, b = vb z ∧ l = vl z ∧ (vl z).length < 1073741824 := by
  refine ⟨bval b l, ?_, ?_, ?_⟩
  · unfold vb bval
    cases b with
    | true => have := h.2.2 rfl; simp; omega
    | false => simp
  · unfold vl bval
    rw [show (if b = true then -(bv l : Int) else (bv l : Int)).natAbs = bv l by cases b <;> simp]
    exact h.2.1
  · unfold vl bval
    rw [show (if b = true then -(bv l : Int) else (bv l : Int)).natAbs = bv l by cases b <;> simp, ← h.2.1]
    exact h.1
theorem canV_v {z : Int} (h : (vl z).length < 1073741824) : canV (vb z) (vl z) := by
  refine ⟨h, by rw [bv_vl]; rfl, fun hb => ?_⟩
  rw [bv_vl]
  unfold vb at hb
  have := of_decide_eq_true hb
  omega
def moraineref02_Num.f (a0_0 : Bool) (l0_1 : List Int) : Option (Bool × List Int × Int) := if canV a0_0 l0_1 then some (mkI (bval a0_0 l0_1)) else none
theorem moraineref02_Num.calls (a0_0 : Bool) (A0_1 : Option Addr) (c0_1 : Nat) (l0_1 : List Int) (r1 : Bool) (r2 : List Int) (r3 : Int) (w : World) (hr0_1 : Kd.C (Kd.int .u8) w A0_1 l0_1.length l0_1) (hc0_1 : l0_1.length ≤ c0_1) (h : moraineref02_Num.f a0_0 l0_1 = some (r1, r2, r3)) :
    Calls Tryd.prog 52 #[.agg #[.bool a0_0, .slice A0_1 l0_1.length c0_1]] w fun e w' => ∃ v1_ : Value, e = .returned (.tuple #[.agg #[.bool r1, v1_], .int .i64 r3]) ∧ Kd.R (Kd.int .u32) 63 w' w.heap.size (fun _ => True) v1_ r2 ∧ Below w.heap.size w w' := by
  unfold moraineref02_Num.f at h
  by_cases hg : canV a0_0 l0_1
  · rw [if_pos hg] at h
    obtain ⟨z, rfl, rfl, lz⟩ := hg.as_
    rw [bval_v] at h
    exact PRef.moraineref02_Num.calls _ _ A0_1 c0_1 _ r1 r2 r3 w hr0_1 hc0_1 ((Num_at z).trans h)
  · rw [if_neg hg] at h; cases h
end Go.Proofs.YthhpnlbeniihhaaDoor
namespace Go.Proofs.YthhpnlbeniihhaaDoor.Digits
open Go.Proofs.YthhpnlbeniihhaaDoor Go.Proofs.YthhpnlbeniihhaaDoor.Limb Go.Proofs.YthhpnlbeniihhaaDoor.NumB Go.Proofs.YthhpnlbeniihhaaDoor.NumJ Go.Proofs.YthhpnlbeniihhaaDoor.NumU Go.Proofs.YthhpnlbeniihhaaDoor.NumW Go.Proofs.YthhpnlbeniihhaaDoor.Text Go.Proofs.YthhpnlbeniihhaaDoor.Vals Go.Lib
theorem decv_snoc (l : List UInt8) (b : UInt8) : decv (l ++ [b]) = 10 * decv l + (b.toNat - 48) := by unfold decv; rw [List.foldl_append]; rfl
theorem ba_size (l : List UInt8) : (⟨l.toArray⟩ : ByteArray).size = l.length := by simp [ByteArray.size]
end Go.Proofs.YthhpnlbeniihhaaDoor.Digits
-- Printed by a program of this session's (wip/tools/printr.py, over the kit's print program).
namespace Go.Proofs.YthhpnlbeniihhaaDoor.PRef
open Go.RowKit Go.Proofs.YthhpnlbeniihhaaDoorW.PrintWords Go.Proofs.YthhpnlbeniihhaaDoorW.PrintLast Go.Proofs.YthhpnlbeniihhaaDoorW.PrintMore
attribute [local go_sem] max2_int min2_int max_two min_two max_three min_three max_four min_four   -- for this text's walks alone
set_option linter.unusedVariables false
set_option linter.unusedSimpArgs false
mutual
def moraineref02_Parse.j0 : Nat → ByteArray → Int → Bool → Option (Bool × List Int × Int)
 | 0, _, _, _ => none
 | k + 1, x0, x4, x22 => if x22 = true then (moraineref02_Parse.j1 k x0 1) else (moraineref02_Parse.j1 k x0 x4)
def moraineref02_Parse.j1 : Nat → ByteArray → Int → Option (Bool × List Int × Int)
 | 0, _, _ => none
 | k + 1, x0, x4 => moraineref02_Parse.l0 k x0 x4 x4
def moraineref02_Parse.l0 : Nat → ByteArray → Int → Int → Option (Bool × List Int × Int)
 | 0, _, _, _ => none
 | k + 1, x0, x4, x5 => if x5 < (x0.size : Int) then (if 0 ≤ x5 then (if (bt x0 x5) < 48 then (some (false, ([] : List Int), 9)) else (if (bt x0 x5) > 57 then (some (false, ([] : List Int), 9)) else (moraineref02_Parse.l0 k x0 x4 (wrap64 (x5 + 1))))) else (none)) else (if x4 = (x0.size : Int) then (some (false, ([] : List Int), 9)) else (moraineref02_Parse.l1 k x0 ([] : List Int) x4))
def moraineref02_Parse.l1 : Nat → ByteArray → List Int → Int → Option (Bool × List Int × Int)
 | 0, _, _, _ => none
 | k + 1, x0, x6, x7 => if x7 < (x0.size : Int) then ((some (([0, 0, 0] : List Int) : List Int)).bind fun y238 => (if y238.length + x6.length < 140737488355328 then ((some (([0] : List Int) : List Int)).bind fun y244 => (if y244.length + x6.length < 140737488355328 then ((moraineref02_plus.f k (y238 ++ x6) (y244 ++ x6)).bind fun t250 => (if 0 ≤ x7 then ((moraineref02_small.f k (((bt x0 x7) - 48) % 256)).bind fun t253 => ((moraineref02_plus.f k t250 t253).bind fun t256 => (if (t256.length : Int) > 1536 then (some (false, ([] : List Int), 6)) else (moraineref02_Parse.l1 k x0 t256 (wrap64 (x7 + 1)))))) else (none))) else (none))) else (none))) else (if 0 < (x0.size : Int) then ((moraineref02_value.f k ((bt x0 0) == 45) x6).bind fun bt234 => (some (bt234.1, bt234.2, 0))) else (none))
end
def moraineref02_Parse.f (k : Nat) (a0 : ByteArray) : Option (Bool × List Int × Int) := if (a0.size : Int) > 0 then (if 0 < (a0.size : Int) then (if (bt a0 0) = 45 then (moraineref02_Parse.j0 k a0 0 true) else (moraineref02_Parse.j0 k a0 0 ((bt a0 0) == 43))) else (none)) else (moraineref02_Parse.j0 k a0 0 false)
def moraineref02_Parse.T17 : Bool × List (List Nat × List Nat) := (true, [([], []), ([], []), ([0, 1], [0, 1]), ([], []), ([], []), ([3, 4], [3, 4]), ([5], [5]), ([6], [6]), ([7, 2], [7]), ([2, 8, 8], [2, 8]), ([9, 9, 0, 1, 2, 3, 4, 5, 6, 7, 8, 9], [9])])
def moraineref02_Parse.B17 : List Nat := [0, 0, 3, 0, 0, 24, 56, 120, 255, 511, 1023]
theorem moraineref02_Parse.tab17 : rtab .any (opsOf Tryd.f26 17) = moraineref02_Parse.T17 := by kernel_rfl
theorem moraineref02_Parse.bits17 : waitsOk moraineref02_Parse.T17.2 moraineref02_Parse.B17 = true := by kernel_rfl
set_option maxHeartbeats 8000000 in
set_option maxRecDepth 100000 in
theorem moraineref02_Parse.calls (k : Nat) (a0 : ByteArray) (r1 : Bool) (r2 : List Int) (r3 : Int) (w : World) (h : moraineref02_Parse.f k a0 = some (r1, r2, r3)) :
  Calls Tryd.prog 26 #[.string a0] w fun e w' => ∃ v1_ : Value, e = .returned (.tuple #[.agg #[.bool r1, v1_], .int .i64 r3]) ∧ Kd.R (Kd.int .u8) 5 w' w.heap.size (fun _ => True) v1_ r2 ∧ Below w.heap.size w w' := by
 have hu34 := Tryd.underlying34
 have HB := Aside0.mk (Below.refl w.heap.size w)
 have H : (if (a0.size : Int) > 0 then (if 0 < (a0.size : Int) then (if (bt a0 0) = 45 then (moraineref02_Parse.j0 k a0 0 true) else (moraineref02_Parse.j0 k a0 0 ((bt a0 0) == 43))) else (none)) else (moraineref02_Parse.j0 k a0 0 false)) = some (r1, r2, r3) := h
 clear h
 have HC2 := Aside0.mk H
 clear H
 go_enter Tryd.func26, Tryd.ntmps26
 go_upto_region 2 with (first | ((with_reducible refine gate_dst (N := 2) rfl ?_); refine box_event ?hg (N := 2) ?hd (cs := #[.bool false, .slice none 0 0]) (t := 34) ?hr ?_; (case hd => rfl); (case hg => rfl); (case hr => go_simp <;> rfl); intro gb233 hg w3 hbox hb; have BK233 := Aside0.mk (hbox); have GW233 := qg hg (by repeat (first | (with_reducible first | exact HB.out | apply qx | apply qv | apply qw) | exact HB.out)); have GE233 := GW233; replace HB := Aside0.mk (below_step (by repeat (first | (with_reducible first | exact HB.out | apply qx | apply qv | apply qw) | exact HB.out)) hb); clear hb hbox hg))
 (try simp only [Act.put, zA, zB, zC])
 go_cut [22] (fun v22 wc => ∃ (kq : Nat) (x22_1 : Bool), v22 = .bool x22_1 ∧ Aside0 (moraineref02_Parse.j0 kq a0 0 x22_1 = some (r1, r2, r3)) ∧ Aside0 (kq ≤ k) ∧ Aside0 (wc.heap[gb233]? = some (.cells #[.bool false, (.slice none 0 0)] 34 (0, 0))) ∧ Aside0 (Below w.heap.size w wc))
 case first =>
  have H := HC2.out
  clear HC2
  by_cases c4 : (a0.size : Int) > 0
  ·rw [if_pos c4] at H
   have c4b0 : decide (0 < (a0.size : Int)) = true := decide_eq_true c4
   have c4b1 : decide (0 < a0.size) = true := decide_eq_true (by omega)
   clear c4
   (first | rw [c4b0] | (simp only [i64_w, i32_w]; rw [c4b0]) | skip)
   by_cases c5 : 0 < (a0.size : Int)
   ·rw [if_pos c5] at H
    have c5b0 : decide (0 < (a0.size : Int)) = true := decide_eq_true c5
    have c5b1 : decide (0 < a0.size) = true := decide_eq_true (by omega)
    clear c5
    by_cases c7 : (bt a0 0) = 45
    ·rw [if_pos c7] at H
     have c7b0 : ((bt a0 0) == 45) = true := beq_iff_eq.mpr c7
     have c7b1 : ((bt a0 0) != 45) = false := bne_eq_false_iff_eq.mpr c7
     clear c7
     have H' := Aside0.mk H
     clear H
     have p6 : 0 ≤ (0 : Int) := (by omega)
     have q6 : 0 < a0.size := (by have : (0 : Int) < (a0.size : Int) := of_decide_eq_true (by first | (with_reducible assumption) | assumption); omega)
     have hx6 : ∀ h : 0 < a0.size, ((a0[0]'h).toNat : Int) = bt a0 0 := bt_at a0 0
     clear p6
     have qi6 : (0 < (a0.size : Int)) = True := eq_true (of_decide_eq_true (by first | (with_reducible assumption) | assumption))
     replace q6 := eq_true q6
     go_wp2
     go_meet
     case rel => exact ⟨_, (true), (by first | rfl | (simp; done) | (simp [*]; done)), H', ⟨by first | omega | exact Nat.le_refl _⟩, ⟨qk BK233⟩, ⟨by repeat (first | (with_reducible first | exact HB.out | apply qx | apply qv | apply qw | refine below_set ?_ GE233.out) | exact HB.out)⟩⟩
    ·rw [if_neg c7] at H
     have c7b0 : ((bt a0 0) == 45) = false := beq_eq_false_iff_ne.mpr c7
     have c7b1 : ((bt a0 0) != 45) = true := bne_iff_ne.mpr c7
     have H' := Aside0.mk H
     clear H
     have p6 : 0 ≤ (0 : Int) := (by omega)
     have q6 : 0 < a0.size := (by have : (0 : Int) < (a0.size : Int) := of_decide_eq_true (by first | (with_reducible assumption) | assumption); omega)
     have hx6 : ∀ h : 0 < a0.size, ((a0[0]'h).toNat : Int) = bt a0 0 := bt_at a0 0
     clear p6
     have qi6 : (0 < (a0.size : Int)) = True := eq_true (of_decide_eq_true (by first | (with_reducible assumption) | assumption))
     replace q6 := eq_true q6
     have p8 : 0 ≤ (0 : Int) := (by omega)
     have q8 : 0 < a0.size := (by have : (0 : Int) < (a0.size : Int) := of_decide_eq_true (by first | (with_reducible assumption) | assumption); omega)
     have hx8 : ∀ h : 0 < a0.size, ((a0[0]'h).toNat : Int) = bt a0 0 := bt_at a0 0
     clear p8
     have qi8 : (0 < (a0.size : Int)) = True := eq_true (of_decide_eq_true (by first | (with_reducible assumption) | assumption))
     replace q8 := eq_true q8
     go_wp2
     go_meet
     case rel => exact ⟨_, (((bt a0 0) == 43)), (by first | rfl | (simp; done) | (simp [*]; done)), H', ⟨by first | omega | exact Nat.le_refl _⟩, ⟨qk BK233⟩, ⟨by repeat (first | (with_reducible first | exact HB.out | apply qx | apply qv | apply qw | refine below_set ?_ GE233.out) | exact HB.out)⟩⟩
   ·rw [if_neg c5] at H
    exact absurd H (by simp)
  ·rw [if_neg c4] at H
   have c4b0 : decide (0 < (a0.size : Int)) = false := decide_eq_false c4
   have c4b1 : decide (0 < a0.size) = false := decide_eq_false (by omega)
   clear c4
   (first | rw [c4b0] | (simp only [i64_w, i32_w]; rw [c4b0]) | skip)
   have H' := Aside0.mk H
   clear H
   go_wp2
   go_meet
   case rel => exact ⟨_, (false), (by first | rfl | (simp; done) | (simp [*]; done)), H', ⟨by first | omega | exact Nat.le_refl _⟩, ⟨qk BK233⟩, ⟨by repeat (first | (with_reducible first | exact HB.out | apply qx | apply qv | apply qw | refine below_set ?_ GE233.out) | exact HB.out)⟩⟩
 case rest =>
  clear HC2
  try clear c2
  try clear p2
  try clear c4
  try clear c4b0
  try clear c4b1
  try clear c5
  try clear c5b0
  try clear c5b1
  try clear p6
  try clear q6
  try clear hx6
  try clear qi6
  try clear c7
  try clear c7b0
  try clear c7b1
  try clear p8
  try clear q8
  try clear hx8
  try clear qi8
  try clear p6
  try clear p8
  try clear q6
  try clear q8
  obtain ⟨kq, x22_1, rfl, HA, HJ1, BK233, HB⟩ := hcut
  cases kq with
  | zero => exact absurd HA.out (by simp [moraineref02_Parse.j0])
  | succ kj1 =>
   have H := HA.out
   clear HA
   simp only [moraineref02_Parse.j0] at H
   have HC9 := Aside0.mk H
   clear H
   go_upto_if 22 with (fail)
   go_cut [4] (fun v4 wc => ∃ (kq : Nat) (x4_8 : Int), v4 = .int .i64 x4_8 ∧ Aside0 (moraineref02_Parse.j1 kq a0 x4_8 = some (r1, r2, r3)) ∧ Aside0 (kq ≤ kj1) ∧ Aside0 (wc.heap[gb233]? = some (.cells #[.bool false, (.slice none 0 0)] 34 (0, 0))) ∧ Aside0 (Below w.heap.size w wc))
   case first =>
    have H := HC9.out
    clear HC9
    by_cases c10 : x22_1 = true
    ·subst c10
     have H1 : (moraineref02_Parse.j1 kj1 a0 1) = some (r1, r2, r3) := by rw [if_pos rfl] at H; exact H
     clear H
     have H := H1
     clear H1
     have H' := Aside0.mk H
     clear H
     go_wp2
     go_meet
     case rel => exact ⟨_, (1), (by first | rfl | (simp; done) | (simp [*]; done)), H', ⟨by have := HJ1.out; first | omega | exact Nat.le_refl _⟩, ⟨qk BK233⟩, ⟨by repeat (first | (with_reducible first | exact HB.out | apply qx | apply qv | apply qw | refine below_set ?_ GE233.out) | exact HB.out)⟩⟩
    ·replace c10 := Bool.eq_false_iff.mpr c10
     subst c10
     have H1 : (moraineref02_Parse.j1 kj1 a0 0) = some (r1, r2, r3) := by rw [if_neg (show ¬ (false = true) by decide)] at H; exact H
     clear H
     have H := H1
     clear H1
     have H' := Aside0.mk H
     clear H
     go_wp2
     go_meet
     case rel => exact ⟨_, (0), (by first | rfl | (simp; done) | (simp [*]; done)), H', ⟨by have := HJ1.out; first | omega | exact Nat.le_refl _⟩, ⟨qk BK233⟩, ⟨by repeat (first | (with_reducible first | exact HB.out | apply qx | apply qv | apply qw | refine below_set ?_ GE233.out) | exact HB.out)⟩⟩
   case rest =>
    clear HC9
    try clear c1
    try clear c2
    try clear p2
    try clear c4
    try clear c4b0
    try clear c4b1
    try clear c5
    try clear c5b0
    try clear c5b1
    try clear p6
    try clear q6
    try clear hx6
    try clear qi6
    try clear c7
    try clear c7b0
    try clear c7b1
    try clear p8
    try clear q8
    try clear hx8
    try clear qi8
    try clear c10
    try clear p2
    try clear p6
    try clear p8
    try clear q6
    try clear q8
    obtain ⟨kq, x4_8, rfl, HA, HJ8, BK233, HB⟩ := hcut
    cases kq with
    | zero => exact absurd HA.out (by simp [moraineref02_Parse.j1])
    | succ kj8 =>
     have H := HA.out
     clear HA
     simp only [moraineref02_Parse.j1] at H
     have H' := Aside0.mk H
     clear H
     go_wp2
     go_loopg [5] kj8 (fun kq v5 w' => ∃ (x5_3 : Int) (x234000_3 : Bool), v5 = .int .i64 x5_3 ∧ Aside0 (moraineref02_Parse.l0 kq a0 x4_8 x5_3 = some (r1, r2, r3)) ∧ Aside0 (kq ≤ kj8) ∧ Aside0 (w'.heap[gb233]? = some (.cells #[.bool x234000_3, (.slice none 0 0)] 34 (0, 0))) ∧ Aside0 (Below w.heap.size w w'))
     case atStart => exact ⟨(x4_8), (false), (by first | rfl | (simp; done) | (simp [*]; done)), H', ⟨Nat.le_refl _⟩, ⟨qk BK233⟩, ⟨by repeat (first | (with_reducible first | exact HB.out | apply qx | apply qv | apply qw | refine below_set ?_ GE233.out) | exact HB.out)⟩⟩
     case round =>
      clear H'
      try clear c1
      try clear c2
      try clear p2
      try clear c4
      try clear c4b0
      try clear c4b1
      try clear c5
      try clear c5b0
      try clear c5b1
      try clear p6
      try clear q6
      try clear hx6
      try clear qi6
      try clear c7
      try clear c7b0
      try clear c7b1
      try clear p8
      try clear q8
      try clear hx8
      try clear qi8
      try clear c10
      try clear p2
      try clear p6
      try clear p8
      try clear q6
      try clear q8
      obtain ⟨x5_3, x234000_3, rfl, HA, HK3, BK233, HB⟩ := hrel
      cases gk with
      | zero => exact absurd HA.out (by simp [moraineref02_Parse.l0])
      | succ k3 =>
       have H := HA.out
       clear HA
       simp only [moraineref02_Parse.l0] at H
       by_cases c11 : x5_3 < (a0.size : Int)
       ·rw [if_pos c11] at H
        have c11b0 : decide (x5_3 < (a0.size : Int)) = true := decide_eq_true c11
        clear c11
        by_cases c12 : 0 ≤ x5_3
        ·rw [if_pos c12] at H
         have c12b0 : decide (0 ≤ x5_3) = true := decide_eq_true c12
         clear c12
         by_cases c14 : (bt a0 x5_3) < 48
         ·rw [if_pos c14] at H
          have c14b0 : decide ((bt a0 x5_3) < 48) = true := decide_eq_true c14
          clear c14
          simp only [Option.some.injEq, Prod.mk.injEq] at H
          obtain ⟨rfl, rfl, rfl⟩ := H
          have p13 : 0 ≤ (x5_3 : Int) := of_decide_eq_true (by first | (with_reducible assumption) | assumption)
          have q13 : x5_3 < (a0.size : Int) := of_decide_eq_true (by first | (with_reducible assumption) | assumption)
          have hx13 := bt_at a0 x5_3
          replace p13 := eq_true p13
          replace q13 := eq_true q13
          have hcz15_0 : wr.cell? ⟨gb233, 0, none⟩ = some (.bool x234000_3) := qc BK233 0
          have hcz15_1 : wr.cell? ⟨gb233, 1, none⟩ = some (.slice none 0 0) := qc BK233 1
          have hfz15_0 := blk_frozen BK233.out 0
          have hfz15_1 := blk_frozen BK233.out 1
          go_wp2
          refine bodyPost_ret (results_ct rfl _ _ gb233 34 #[.bool false, .slice none 0 0] (0, 0) _ rfl (by (with_reducible repeat first|refine qN ?_ _|refine qW ?_|refine qA ?_ _); refine blk_put (cs := #[.bool false, .slice none 0 0]) ?_ 1 _ rfl; (with_reducible repeat first|refine qN ?_ _|refine qW ?_|refine qA ?_ _); refine blk_put (cs := #[.bool x234000_3, .slice none 0 0]) ?_ 0 _ rfl; (with_reducible repeat first|refine qN ?_ _|refine qW ?_|refine qA ?_ _); exact BK233.out) Tryd.underlying34 rfl (by kernel_rfl)) rfl ?_
          exact ⟨_, by first | rfl | (simp [errW_none, errW_some] <;> rfl) | (simp [*, errW_none, errW_some] <;> rfl), by first | exact Kd.R_nil _ _ _ _ _ | exact Kd.N_nil _ _ _ _ _ | exact Kd.V_nil _ _ _ _ _ | exact Kd.Q_nil _ _ _ _ _ | exact Kd.S_nil _ _ _ _ _, by repeat (first | (with_reducible first | exact HB.out | apply qx | apply qv | apply qw | refine below_set ?_ GE233.out) | exact HB.out)⟩
         ·rw [if_neg c14] at H
          have c14b0 : decide ((bt a0 x5_3) < 48) = false := decide_eq_false c14
          clear c14
          by_cases c17 : (bt a0 x5_3) > 57
          ·rw [if_pos c17] at H
           have c17b0 : decide (57 < (bt a0 x5_3)) = true := decide_eq_true c17
           clear c17
           simp only [Option.some.injEq, Prod.mk.injEq] at H
           obtain ⟨rfl, rfl, rfl⟩ := H
           have p13 : 0 ≤ (x5_3 : Int) := of_decide_eq_true (by first | (with_reducible assumption) | assumption)
           have q13 : x5_3 < (a0.size : Int) := of_decide_eq_true (by first | (with_reducible assumption) | assumption)
           have hx13 := bt_at a0 x5_3
           replace p13 := eq_true p13
           replace q13 := eq_true q13
           have p16 : 0 ≤ (x5_3 : Int) := of_decide_eq_true (by first | (with_reducible assumption) | assumption)
           have q16 : x5_3 < (a0.size : Int) := of_decide_eq_true (by first | (with_reducible assumption) | assumption)
           have hx16 := bt_at a0 x5_3
           replace p16 := eq_true p16
           replace q16 := eq_true q16
           have hcz18_0 : wr.cell? ⟨gb233, 0, none⟩ = some (.bool x234000_3) := qc BK233 0
           have hcz18_1 : wr.cell? ⟨gb233, 1, none⟩ = some (.slice none 0 0) := qc BK233 1
           have hfz18_0 := blk_frozen BK233.out 0
           have hfz18_1 := blk_frozen BK233.out 1
           go_wp2
           refine bodyPost_ret (results_ct rfl _ _ gb233 34 #[.bool false, .slice none 0 0] (0, 0) _ rfl (by (with_reducible repeat first|refine qN ?_ _|refine qW ?_|refine qA ?_ _); refine blk_put (cs := #[.bool false, .slice none 0 0]) ?_ 1 _ rfl; (with_reducible repeat first|refine qN ?_ _|refine qW ?_|refine qA ?_ _); refine blk_put (cs := #[.bool x234000_3, .slice none 0 0]) ?_ 0 _ rfl; (with_reducible repeat first|refine qN ?_ _|refine qW ?_|refine qA ?_ _); exact BK233.out) Tryd.underlying34 rfl (by kernel_rfl)) rfl ?_
           exact ⟨_, by first | rfl | (simp [errW_none, errW_some] <;> rfl) | (simp [*, errW_none, errW_some] <;> rfl), by first | exact Kd.R_nil _ _ _ _ _ | exact Kd.N_nil _ _ _ _ _ | exact Kd.V_nil _ _ _ _ _ | exact Kd.Q_nil _ _ _ _ _ | exact Kd.S_nil _ _ _ _ _, by repeat (first | (with_reducible first | exact HB.out | apply qx | apply qv | apply qw | refine below_set ?_ GE233.out) | exact HB.out)⟩
          ·rw [if_neg c17] at H
           have c17b0 : decide (57 < (bt a0 x5_3)) = false := decide_eq_false c17
           clear c17
           have H' := Aside0.mk H
           clear H
           have p13 : 0 ≤ (x5_3 : Int) := of_decide_eq_true (by first | (with_reducible assumption) | assumption)
           have q13 : x5_3 < (a0.size : Int) := of_decide_eq_true (by first | (with_reducible assumption) | assumption)
           have hx13 := bt_at a0 x5_3
           replace p13 := eq_true p13
           replace q13 := eq_true q13
           have p16 : 0 ≤ (x5_3 : Int) := of_decide_eq_true (by first | (with_reducible assumption) | assumption)
           have q16 : x5_3 < (a0.size : Int) := of_decide_eq_true (by first | (with_reducible assumption) | assumption)
           have hx16 := bt_at a0 x5_3
           replace p16 := eq_true p16
           replace q16 := eq_true q16
           go_wp2
           go_roundg k3
           case measure => have := HJ1.out; have := HJ8.out; have := HK3.out; omega
           case rel => exact ⟨(wrap64 (x5_3 + 1)), (x234000_3), (by first | rfl | (simp; done) | (simp [*]; done)), H', ⟨by have := HJ1.out; have := HJ8.out; have := HK3.out; omega⟩, ⟨qk BK233⟩, ⟨by repeat (first | (with_reducible first | exact HB.out | apply qx | apply qv | apply qw | refine below_set ?_ GE233.out) | exact HB.out)⟩⟩
        ·rw [if_neg c12] at H
         exact absurd H (by simp)
       ·rw [if_neg c11] at H
        have c11b0 : decide (x5_3 < (a0.size : Int)) = false := decide_eq_false c11
        clear c11
        by_cases c19 : x4_8 = (a0.size : Int)
        ·rw [if_pos c19] at H
         have c19b0 : (x4_8 == (a0.size : Int)) = true := beq_iff_eq.mpr c19
         have c19b1 : (x4_8 != (a0.size : Int)) = false := bne_eq_false_iff_eq.mpr c19
         clear c19
         simp only [Option.some.injEq, Prod.mk.injEq] at H
         obtain ⟨rfl, rfl, rfl⟩ := H
         have hcz20_0 : wr.cell? ⟨gb233, 0, none⟩ = some (.bool x234000_3) := qc BK233 0
         have hcz20_1 : wr.cell? ⟨gb233, 1, none⟩ = some (.slice none 0 0) := qc BK233 1
         have hfz20_0 := blk_frozen BK233.out 0
         have hfz20_1 := blk_frozen BK233.out 1
         go_wp2
         refine bodyPost_ret (results_ct rfl _ _ gb233 34 #[.bool false, .slice none 0 0] (0, 0) _ rfl (by (with_reducible repeat first|refine qN ?_ _|refine qW ?_|refine qA ?_ _); refine blk_put (cs := #[.bool false, .slice none 0 0]) ?_ 1 _ rfl; (with_reducible repeat first|refine qN ?_ _|refine qW ?_|refine qA ?_ _); refine blk_put (cs := #[.bool x234000_3, .slice none 0 0]) ?_ 0 _ rfl; (with_reducible repeat first|refine qN ?_ _|refine qW ?_|refine qA ?_ _); exact BK233.out) Tryd.underlying34 rfl (by kernel_rfl)) rfl ?_
         exact ⟨_, by first | rfl | (simp [errW_none, errW_some] <;> rfl) | (simp [*, errW_none, errW_some] <;> rfl), by first | exact Kd.R_nil _ _ _ _ _ | exact Kd.N_nil _ _ _ _ _ | exact Kd.V_nil _ _ _ _ _ | exact Kd.Q_nil _ _ _ _ _ | exact Kd.S_nil _ _ _ _ _, by repeat (first | (with_reducible first | exact HB.out | apply qx | apply qv | apply qw | refine below_set ?_ GE233.out) | exact HB.out)⟩
        ·rw [if_neg c19] at H
         have c19b0 : (x4_8 == (a0.size : Int)) = false := beq_eq_false_iff_ne.mpr c19
         have c19b1 : (x4_8 != (a0.size : Int)) = true := bne_iff_ne.mpr c19
         have H' := Aside0.mk H
         clear H
         go_wp2
         go_loopg [6, 7] k3 (fun kq v6 v7 w' => ∃ (x6_4 : List Int) (x7_4 : Int) (x234000_4 : Bool), v7 = .int .i64 x7_4 ∧ Aside0 (moraineref02_Parse.l1 kq a0 x6_4 x7_4 = some (r1, r2, r3)) ∧ Aside0 (kq ≤ k3) ∧ Aside0 (Kd.R (Kd.int .u8) 5 w' w.heap.size (fun _ => True) v6 x6_4) ∧ Aside0 (w'.heap[gb233]? = some (.cells #[.bool x234000_4, (.slice none 0 0)] 34 (0, 0))) ∧ Aside0 (Below w.heap.size w w'))
         case atStart => exact ⟨(([] : List Int)), (x4_8), (x234000_3), (by first | rfl | (simp; done) | (simp [*]; done)), H', ⟨Nat.le_refl _⟩, ⟨by first | exact Kd.R_nil _ _ _ _ _ | exact Kd.N_nil _ _ _ _ _ | exact Kd.V_nil _ _ _ _ _ | exact Kd.Q_nil _ _ _ _ _ | exact Kd.S_nil _ _ _ _ _⟩, ⟨qk BK233⟩, ⟨by repeat (first | (with_reducible first | exact HB.out | apply qx | apply qv | apply qw | refine below_set ?_ GE233.out) | exact HB.out)⟩⟩
         case round =>
          clear H'
          try clear c1
          try clear p1
          try clear q1
          try clear hx1
          try clear c2
          try clear p2
          try clear c4
          try clear c4b0
          try clear c4b1
          try clear c5
          try clear c5b0
          try clear c5b1
          try clear p6
          try clear q6
          try clear hx6
          try clear qi6
          try clear c7
          try clear c7b0
          try clear c7b1
          try clear p8
          try clear q8
          try clear hx8
          try clear qi8
          try clear c10
          try clear c11
          try clear c11b0
          try clear c12
          try clear c12b0
          try clear p13
          try clear q13
          try clear hx13
          try clear c14
          try clear c14b0
          try clear p16
          try clear q16
          try clear hx16
          try clear c17
          try clear c17b0
          try clear c19
          try clear c19b0
          try clear c19b1
          try clear hcz15_0
          try clear hcz15_1
          try clear hcz18_0
          try clear hcz18_1
          try clear hcz20_0
          try clear hcz20_1
          try clear hfz15_0
          try clear hfz15_1
          try clear hfz18_0
          try clear hfz18_1
          try clear hfz20_0
          try clear hfz20_1
          try clear p13
          try clear p16
          try clear p2
          try clear p6
          try clear p8
          try clear q13
          try clear q16
          try clear q6
          try clear q8
          obtain ⟨x6_4, x7_4, x234000_4, rfl, HA, HK4, HO_6, BK233, HB⟩ := hrel
          cases gk with
          | zero => exact absurd HA.out (by simp [moraineref02_Parse.l1])
          | succ k4 =>
           have H := HA.out
           clear HA
           simp only [moraineref02_Parse.l1] at H
           by_cases c21 : x7_4 < (a0.size : Int)
           ·rw [if_pos c21] at H
            have c21b0 : decide (x7_4 < (a0.size : Int)) = true := decide_eq_true c21
            clear c21
            obtain ⟨y238, hy238⟩ : ∃ y_ : List Int, y_ = (([0, 0, 0] : List Int)) := ⟨_, rfl⟩
            replace H : (if y238.length + x6_4.length < 140737488355328 then ((some (([0] : List Int) : List Int)).bind fun y244 => (if y244.length + x6_4.length < 140737488355328 then ((moraineref02_plus.f k4 (y238 ++ x6_4) (y244 ++ x6_4)).bind fun t250 => (if 0 ≤ x7_4 then ((moraineref02_small.f k4 (((bt a0 x7_4) - 48) % 256)).bind fun t253 => ((moraineref02_plus.f k4 t250 t253).bind fun t256 => (if (t256.length : Int) > 1536 then (some (false, ([] : List Int), 6)) else (moraineref02_Parse.l1 k4 a0 t256 (wrap64 (x7_4 + 1)))))) else (none))) else (none))) else (none)) = some (r1, r2, r3) := by first | (rw [hy238]; with_reducible exact H) | (have H2_ := (Option.bind_some _ _).symm.trans H; rw [hy238]; with_reducible exact H2_) | (have H2_ := (Option.bind_some _ _).symm.trans H; with_reducible exact H2_) | with_reducible exact H | (rw [hy238]; exact H) | exact H
            have Ny238 := Aside0.mk hy238
            clear hy238
            by_cases c22 : y238.length + x6_4.length < 140737488355328
            ·rw [if_pos c22] at H
             have LMc22 := Aside0.mk c22
             clear c22
             obtain ⟨y241, hy241⟩ : ∃ y_ : List Int, y_ = (y238 ++ x6_4) := ⟨_, rfl⟩
             replace H : ((some (([0] : List Int) : List Int)).bind fun y244 => (if y244.length + x6_4.length < 140737488355328 then ((moraineref02_plus.f k4 y241 (y244 ++ x6_4)).bind fun t250 => (if 0 ≤ x7_4 then ((moraineref02_small.f k4 (((bt a0 x7_4) - 48) % 256)).bind fun t253 => ((moraineref02_plus.f k4 t250 t253).bind fun t256 => (if (t256.length : Int) > 1536 then (some (false, ([] : List Int), 6)) else (moraineref02_Parse.l1 k4 a0 t256 (wrap64 (x7_4 + 1)))))) else (none))) else (none))) = some (r1, r2, r3) := by first | (rw [hy241]; with_reducible exact H) | (have H2_ := (Option.bind_some _ _).symm.trans H; rw [hy241]; with_reducible exact H2_) | (have H2_ := (Option.bind_some _ _).symm.trans H; with_reducible exact H2_) | with_reducible exact H | (rw [hy241]; exact H) | exact H
             have Ny241 := Aside0.mk hy241
             clear hy241
             obtain ⟨y244, hy244⟩ : ∃ y_ : List Int, y_ = (([0] : List Int)) := ⟨_, rfl⟩
             replace H : (if y244.length + x6_4.length < 140737488355328 then ((moraineref02_plus.f k4 y241 (y244 ++ x6_4)).bind fun t250 => (if 0 ≤ x7_4 then ((moraineref02_small.f k4 (((bt a0 x7_4) - 48) % 256)).bind fun t253 => ((moraineref02_plus.f k4 t250 t253).bind fun t256 => (if (t256.length : Int) > 1536 then (some (false, ([] : List Int), 6)) else (moraineref02_Parse.l1 k4 a0 t256 (wrap64 (x7_4 + 1)))))) else (none))) else (none)) = some (r1, r2, r3) := by first | (rw [hy244]; with_reducible exact H) | (have H2_ := (Option.bind_some _ _).symm.trans H; rw [hy244]; with_reducible exact H2_) | (have H2_ := (Option.bind_some _ _).symm.trans H; with_reducible exact H2_) | with_reducible exact H | (rw [hy244]; exact H) | exact H
             have Ny244 := Aside0.mk hy244
             clear hy244
             by_cases c23 : y244.length + x6_4.length < 140737488355328
             ·rw [if_pos c23] at H
              have LMc23 := Aside0.mk c23
              clear c23
              obtain ⟨y247, hy247⟩ : ∃ y_ : List Int, y_ = (y244 ++ x6_4) := ⟨_, rfl⟩
              replace H : ((moraineref02_plus.f k4 y241 y247).bind fun t250 => (if 0 ≤ x7_4 then ((moraineref02_small.f k4 (((bt a0 x7_4) - 48) % 256)).bind fun t253 => ((moraineref02_plus.f k4 t250 t253).bind fun t256 => (if (t256.length : Int) > 1536 then (some (false, ([] : List Int), 6)) else (moraineref02_Parse.l1 k4 a0 t256 (wrap64 (x7_4 + 1)))))) else (none))) = some (r1, r2, r3) := by first | (rw [hy247]; with_reducible exact H) | (have H2_ := (Option.bind_some _ _).symm.trans H; rw [hy247]; with_reducible exact H2_) | (have H2_ := (Option.bind_some _ _).symm.trans H; with_reducible exact H2_) | with_reducible exact H | (rw [hy247]; exact H) | exact H
              have Ny247 := Aside0.mk hy247
              clear hy247
              replace H := Option.bind_eq_some_iff.mp H
              obtain ⟨t250, A240, H⟩ := H
              replace H : (if 0 ≤ x7_4 then ((moraineref02_small.f k4 (((bt a0 x7_4) - 48) % 256)).bind fun t253 => ((moraineref02_plus.f k4 t250 t253).bind fun t256 => (if (t256.length : Int) > 1536 then (some (false, ([] : List Int), 6)) else (moraineref02_Parse.l1 k4 a0 t256 (wrap64 (x7_4 + 1)))))) else (none)) = some (r1, r2, r3) := H
              have A24 := Aside0.mk A240
              clear A240
              by_cases c25 : 0 ≤ x7_4
              ·rw [if_pos c25] at H
               have c25b0 : decide (0 ≤ x7_4) = true := decide_eq_true c25
               clear c25
               replace H := Option.bind_eq_some_iff.mp H
               obtain ⟨t253, A270, H⟩ := H
               replace H : ((moraineref02_plus.f k4 t250 t253).bind fun t256 => (if (t256.length : Int) > 1536 then (some (false, ([] : List Int), 6)) else (moraineref02_Parse.l1 k4 a0 t256 (wrap64 (x7_4 + 1))))) = some (r1, r2, r3) := H
               have A27 := Aside0.mk A270
               clear A270
               replace H := Option.bind_eq_some_iff.mp H
               obtain ⟨t256, A280, H⟩ := H
               replace H : (if (t256.length : Int) > 1536 then (some (false, ([] : List Int), 6)) else (moraineref02_Parse.l1 k4 a0 t256 (wrap64 (x7_4 + 1)))) = some (r1, r2, r3) := H
               have A28 := Aside0.mk A280
               clear A280
               by_cases c29 : (t256.length : Int) > 1536
               ·rw [if_pos c29] at H
                have c29b0 : decide (1536 < (t256.length : Int)) = true := decide_eq_true c29
                have c29b1 : decide (1536 < t256.length) = true := decide_eq_true (by omega)
                clear c29
                simp only [Option.some.injEq, Prod.mk.injEq] at H
                obtain ⟨rfl, rfl, rfl⟩ := H
                try go_wp2_with (first | ((with_reducible refine gate_dst (N := 53) rfl ?_); refine Kd.R_lit (Kd.int .u8) _ 5 ?hg (N := 53) ?hd (xs := ([0, 0, 0] : List Int)) (inner := [.int .u8 0, .int .u8 0, .int .u8 0]) (ok := fun _ => True) (okp := fun _ => True) ?hr ?hp (fun _ hk => hk) trivial (Below.refl _ _) (Nat.le_refl _) (by simp) ?_; (case hd => rfl); (case hg => rfl); (case hr => go_simp <;> rfl); (case hp => exact (Reps.one (show Kd.M (Kd.int .u8) _ _ _ 0 [.int .u8 0] from rfl) (Reps.one (show Kd.M (Kd.int .u8) _ _ _ 0 [.int .u8 0] from rfl) (Reps.one (show Kd.M (Kd.int .u8) _ _ _ 0 [.int .u8 0] from rfl) (Reps.none _ _))))); intro v239 w30 ho31 hb hg_ hnew_; clear hg_ hnew_; (first | rw [← Ny238.out] at ho31 | (simp only [Int.reduceToNat] at ho31; rw [← Ny238.out] at ho31)); have n0_ := Aside0.mk (Kd.R_elder' (by (with_reducible repeat first|apply Kd.R_alloc|apply Kd.R_drewN|apply Kd.R_drew); exact HO_6.out) (Kd.R_base ho31) hb); have n1_ := Aside0.mk (Kd.R_lower (Kd.R_new' ho31 (ql HO_6)) (below_size (by repeat (first | (with_reducible first | exact HB.out | apply qx | apply qv | apply qw | refine below_set ?_ GE233.out) | exact HB.out)))); have n2_ := qb BK233 hb; have n3_ := Aside0.mk (below_step (by repeat (first | (with_reducible first | exact HB.out | apply qx | apply qv | apply qw | refine below_set ?_ GE233.out) | exact HB.out)) hb); clear HO_6; clear BK233; clear HB; have HO_6 := n0_; have HO240 := n1_; have BK233 := n2_; have HB := n3_; clear n0_ n1_ n2_ n3_; clear hb ho31; obtain ⟨Ao33, co33, eo33⟩ := Kd.R_slice HO_6.out; subst eo33) | ((with_reducible refine gate_builtin (b := .append) (xs := #[.tmp 53, .tmp 54]) rfl ?_); at_builtin; refine Kd.R_append_rows (Kd.int .u8) (w0 := w) w.heap.size rfl (.tmp 53) (.tmp 54) 32 5 (.int .u8 0) 1 rfl Tryd.underlying32 info5 rfl (by decide) (by omega) v239 y238 x6_4 _ _ _ (fun k_ => some k_ ≠ (.slice Ao33 x6_4.length co33 : Value).ownBlock) (fun _ => False) rfl rfl ?aO ?aR (fun _ _ h => h) (fun _ h => h.elim) ?aF ?aB ?aS ?aL ?_; (case aR => repeat (first | exact (Kd.R_reads' HO_6.out).2.2 | (with_reducible first|refine Kd.C_alloc ?_ _|refine Kd.C_drewN ?_ _|refine Kd.C_drew ?_))); (case aB => exact (by repeat (first | (with_reducible first | exact HB.out | apply qx | apply qv | apply qw | refine below_set ?_ GE233.out) | exact HB.out))); (case aF => exact (fun k_ hk => Kd.fresh' (ql HO_6) k_ hk)); (case aO => exact (by (with_reducible repeat first|apply Kd.R_alloc|apply Kd.R_drewN|apply Kd.R_drew); exact Kd.R_mono HO240.out (fun _ hk => hk.2))); (case aS => exact (below_size (by repeat (first | (with_reducible first | exact HB.out | apply qx | apply qv | apply qw | refine below_set ?_ GE233.out) | exact HB.out)))); (case aL => have := LMc22.out; omega); intro v242 w32 ho hb hg hat; rw [← Ny241.out] at ho; have n0_ := Aside0.mk (Kd.R_after (ok := (fun _ => True)) (by (with_reducible repeat first|apply Kd.R_alloc|apply Kd.R_drewN|apply Kd.R_drew); exact HO_6.out) hg hat); have n1_ := Aside0.mk (blk_grown (g := gb233) (o := .cells #[.bool x234000_4, .slice none 0 0] 34 (0, 0)) (by (with_reducible repeat first|refine qN ?_ _|refine qW ?_|refine qA ?_ _); exact BK233.out) hg (Kd.R_ne HO240.out BK233.out (by decide))); have n2_ := Aside0.mk (hb); have n3_ := Aside0.mk (ho); clear HO_6; clear BK233; clear HB; clear HO240; have HO_6 := n0_; have BK233 := n1_; have HB := n2_; have HO243 := n3_; clear n0_ n1_ n2_ n3_; clear ho hb hg hat) | ((with_reducible refine gate_dst (N := 56) rfl ?_); refine Kd.R_lit (Kd.int .u8) _ 5 ?hg (N := 56) ?hd (xs := ([0] : List Int)) (inner := [.int .u8 0]) (ok := fun _ => True) (okp := fun _ => True) ?hr ?hp (fun _ hk => hk) trivial (Below.refl _ _) (Nat.le_refl _) (by simp) ?_; (case hd => rfl); (case hg => rfl); (case hr => go_simp <;> rfl); (case hp => exact (Reps.one (show Kd.M (Kd.int .u8) _ _ _ 0 [.int .u8 0] from rfl) (Reps.none _ _))); intro v245 w34 ho35 hb hg_ hnew_; clear hg_ hnew_; (first | rw [← Ny244.out] at ho35 | (simp only [Int.reduceToNat] at ho35; rw [← Ny244.out] at ho35)); have n0_ := Aside0.mk (Kd.R_elder' (by (with_reducible repeat first|apply Kd.R_alloc|apply Kd.R_drewN|apply Kd.R_drew); exact HO_6.out) (Kd.R_base ho35) hb); have n1_ := Aside0.mk (Kd.R_elder' (by (with_reducible repeat first|apply Kd.R_alloc|apply Kd.R_drewN|apply Kd.R_drew); exact HO243.out) (Kd.R_base ho35) hb); have n2_ := Aside0.mk (Kd.R_lower (Kd.R_new' (Kd.R_new' ho35 (ql HO_6)) (ql HO243)) (below_size (by repeat (first | (with_reducible first | exact HB.out | apply qx | apply qv | apply qw | refine below_set ?_ GE233.out) | exact HB.out)))); have n3_ := qb BK233 hb; have n4_ := Aside0.mk (below_step (by repeat (first | (with_reducible first | exact HB.out | apply qx | apply qv | apply qw | refine below_set ?_ GE233.out) | exact HB.out)) hb); clear HO_6; clear HO243; clear BK233; clear HB; have HO_6 := n0_; have HO243 := n1_; have HO246 := n2_; have BK233 := n3_; have HB := n4_; clear n0_ n1_ n2_ n3_ n4_; clear hb ho35) | ((with_reducible refine gate_builtin (b := .append) (xs := #[.tmp 56, .tmp 57]) rfl ?_); at_builtin; refine Kd.R_append_rows (Kd.int .u8) (w0 := w) w.heap.size rfl (.tmp 56) (.tmp 57) 32 5 (.int .u8 0) 1 rfl Tryd.underlying32 info5 rfl (by decide) (by omega) v245 y244 x6_4 _ _ _ (fun k_ => some k_ ≠ (.slice Ao33 x6_4.length co33 : Value).ownBlock ∧ some k_ ≠ (v242 : Value).ownBlock) (fun _ => False) rfl rfl ?aO ?aR (fun _ _ h => h) (fun _ h => h.elim) ?aF ?aB ?aS ?aL ?_; (case aR => repeat (first | exact (Kd.R_reads' HO_6.out).2.2 | (with_reducible first|refine Kd.C_alloc ?_ _|refine Kd.C_drewN ?_ _|refine Kd.C_drew ?_))); (case aB => exact (by repeat (first | (with_reducible first | exact HB.out | apply qx | apply qv | apply qw | refine below_set ?_ GE233.out) | exact HB.out))); (case aF => exact (fun k_ hk => ⟨Kd.fresh' (ql HO_6) k_ hk, Kd.fresh' (ql HO243) k_ hk⟩)); (case aO => exact (by (with_reducible repeat first|apply Kd.R_alloc|apply Kd.R_drewN|apply Kd.R_drew); exact Kd.R_mono HO246.out (fun _ hk => ⟨hk.1.2, hk.2⟩))); (case aS => exact (below_size (by repeat (first | (with_reducible first | exact HB.out | apply qx | apply qv | apply qw | refine below_set ?_ GE233.out) | exact HB.out)))); (case aL => have := LMc23.out; omega); intro v248 w36 ho hb hg hat; rw [← Ny247.out] at ho; have n0_ := Aside0.mk (Kd.R_after (ok := (fun k_ => some k_ ≠ (v242 : Value).ownBlock)) (by (with_reducible repeat first|apply Kd.R_alloc|apply Kd.R_drewN|apply Kd.R_drew); exact Kd.R_mono HO_6.out (fun _ hk => ⟨hk.1.2, hk.2⟩)) hg hat); have n1_ := Aside0.mk (blk_grown (g := gb233) (o := .cells #[.bool x234000_4, .slice none 0 0] 34 (0, 0)) (by (with_reducible repeat first|refine qN ?_ _|refine qW ?_|refine qA ?_ _); exact BK233.out) hg (Kd.R_ne HO246.out BK233.out (by decide))); have n2_ := Aside0.mk (Kd.R_after (ok := (fun k_ => some k_ ≠ (.slice Ao33 x6_4.length co33 : Value).ownBlock)) (by (with_reducible repeat first|apply Kd.R_alloc|apply Kd.R_drewN|apply Kd.R_drew); exact HO243.out) hg hat); have n3_ := Aside0.mk (hb); have n4_ := Aside0.mk (ho); clear HO_6; clear BK233; clear HO243; clear HB; clear HO246; have HO_6 := n0_; have BK233 := n1_; have HO243 := n2_; have HB := n3_; have HO249 := n4_; clear n0_ n1_ n2_ n3_ n4_; clear ho hb hg hat))
                replace HO_6 := Aside0.mk (Kd.R_drew HO_6.out)
                replace HO243 := Aside0.mk (Kd.R_drew HO243.out)
                replace HO249 := Aside0.mk (Kd.R_drew HO249.out)
                replace BK233 := Aside0.mk (blk_drew BK233.out)
                replace HB := Aside0.mk (below_drew1 HB.out)
                have p26 : 0 ≤ (x7_4 : Int) := of_decide_eq_true (by first | (with_reducible assumption) | assumption)
                have q26 : x7_4 < (a0.size : Int) := of_decide_eq_true (by first | (with_reducible assumption) | assumption)
                have hx26 := bt_at a0 x7_4
                replace p26 := eq_true p26
                replace q26 := eq_true q26
                obtain ⟨Ao38, co38, eo38⟩ := Kd.R_slice HO243.out
                (first | subst eo38 | (injection eo38 with f1_ f2_ f3_; have f4_ := f1_.symm; have f5_ := f3_.symm; clear f1_ f2_ f3_; subst f4_; subst f5_))
                obtain ⟨Ao39, co39, eo39⟩ := Kd.R_slice HO249.out
                (first | subst eo39 | (injection eo39 with f1_ f2_ f3_; have f4_ := f1_.symm; have f5_ := f3_.symm; clear f1_ f2_ f3_; subst f4_; subst f5_))
                refine start_ (n := 11) (S := fun w' => True) (ds := []) #[false, false, false, false, false, false, false, false, false, false, false] (by kernel_rfl) rfl rfl trivial (fun hHeld => ?_); refine with_tabW moraineref02_Parse.tab17 moraineref02_Parse.bits17 (fun HT_ HW_ => ?_)
                generalize w36.drew = w37 at HO_6 HO243 HO249 BK233 HB hHeld ⊢
                refine pure_ (i := 0) (N := some 59) (v := ?_) (a' := ?_) #[true, false, false, false, false, false, false, false, false, false, false] rfl rfl (any_of HT_.out (by kernel_rfl)) (fun _ _ _ h => h) (Or.inl ⟨by rfl, ?_⟩) ?_ ?_
                rotate_left
                ·intro w'
                 go_simp
                 with_reducible rfl
                rotate_left
                ·simp only [Act.put, zA, zB, zC, i64_w, i32_w]
                 rfl
                refine pure_ (i := 1) (N := some 60) (v := ?_) (a' := ?_) #[true, true, false, false, false, false, false, false, false, false, false] rfl rfl (any_of HT_.out (by kernel_rfl)) (fun _ _ _ h => h) (Or.inl ⟨by rfl, ?_⟩) ?_ ?_
                rotate_left
                ·intro w'
                 go_simp
                 with_reducible rfl
                rotate_left
                ·simp only [Act.put, zA, zB, zC, i64_w, i32_w]
                 rfl
                refine pure_ (i := 3) (N := some 62) (v := ?_) (a' := ?_) #[true, true, false, true, false, false, false, false, false, false, false] rfl rfl (any_of HT_.out (by kernel_rfl)) (fun _ _ _ h => h) (Or.inl ⟨by rfl, ?_⟩) ?_ ?_
                rotate_left
                ·intro w'
                 go_simp
                 with_reducible rfl
                rotate_left
                ·simp only [Act.put, zA, zB, zC, i64_w, i32_w]
                 rfl
                refine pure_ (i := 4) (N := some 63) (v := ?_) (a' := ?_) #[true, true, false, true, true, false, false, false, false, false, false] rfl rfl (any_of HT_.out (by kernel_rfl)) (fun _ _ _ h => h) (Or.inl ⟨by rfl, ?_⟩) ?_ ?_
                rotate_left
                ·intro w'
                 go_simp
                 with_reducible rfl
                rotate_left
                ·simp only [Act.put, zA, zB, zC, i64_w, i32_w]
                 rfl
                refine take_ (i := 5) (N := some 64) (v := ?_) (a' := ?_) #[true, true, false, true, true, true, false, false, false, false, false] rfl rfl (take_ofW HT_.out HW_.out (by kernel_rfl)) (fun _ _ _ h => h) (Or.inl ⟨by rfl, ?_⟩) hHeld ?_ ?_
                rotate_left
                ·intro w' _
                 go_simp
                 with_reducible rfl
                rotate_left
                ·simp only [Act.put, zA, zB, zC, i64_w, i32_w]
                 rfl
                refine pure_ (i := 6) (N := some 65) (v := ?_) (a' := ?_) #[true, true, false, true, true, true, true, false, false, false, false] rfl rfl (any_of HT_.out (by kernel_rfl)) (fun _ _ _ h => h) (Or.inl ⟨by rfl, ?_⟩) ?_ ?_
                rotate_left
                ·intro w'
                 go_simp
                 with_reducible rfl
                rotate_left
                ·simp only [Act.put, zA, zB, zC, i64_w, i32_w]
                 rfl
                refine pure_ (i := 7) (N := some 66) (v := ?_) (a' := ?_) #[true, true, false, true, true, true, true, true, false, false, false] rfl rfl (any_of HT_.out (by kernel_rfl)) (fun _ _ _ h => h) (Or.inl ⟨by rfl, ?_⟩) ?_ ?_
                rotate_left
                ·intro w'
                 go_simp
                 with_reducible rfl
                rotate_left
                ·simp only [Act.put, zA, zB, zC, i64_w, i32_w]
                 rfl
                refine one_ (i := 2) (N := some 61) #[true, true, true, true, true, true, true, true, false, false, false] rfl rfl (one_of HT_.out (by kernel_rfl)) (by decide) (fun K hK => ?_)
                refine goes_ Tryd.func68 (by kernel_rfl) rfl #[.slice Ao38 y241.length co38, .slice Ao39 y247.length co39] (by rfl) rfl rfl (by (try simp only [zM, zO, zP]); first|done|rfl) ?_
                with_reducible refine (moraineref02_plus.calls k4 _ _ y241 _ _ y247 t250 _ ?side1 ?side2 ?side3 ?side4 A24.out).mono ?_
                (case side1 => repeat (first | exact (Kd.R_reads' HO243.out).2.2 | (with_reducible first|refine Kd.C_alloc ?_ _|refine Kd.C_drewN ?_ _|refine Kd.C_drew ?_)))
                (case side2 => exact (Kd.R_reads' HO243.out).2.1)
                (case side3 => repeat (first | exact (Kd.R_reads' HO249.out).2.2 | (with_reducible first|refine Kd.C_alloc ?_ _|refine Kd.C_drewN ?_ _|refine Kd.C_drew ?_)))
                (case side4 => exact (Kd.R_reads' HO249.out).2.1)
                rintro e w40 ⟨v251, rfl, ho0, hb⟩
                refine ⟨_, rfl, ?_⟩
                have HO252 := Aside0.mk (Kd.R_lower (Kd.R_new' (Kd.R_new' (Kd.R_new' ho0 (ql HO_6)) (ql HO243)) (ql HO249)) (below_size (by repeat (first | (with_reducible first | exact HB.out | apply qx | apply qv | apply qw | refine below_set ?_ GE233.out) | exact HB.out))))
                replace HO_6 := qe HO_6 ho0 hb
                replace HO243 := qe HO243 ho0 hb
                replace HO249 := qe HO249 ho0 hb
                replace BK233 := qb BK233 hb
                replace HB := Aside0.mk (below_step (by repeat (first | (with_reducible first | exact HB.out | apply qx | apply qv | apply qw | refine below_set ?_ GE233.out) | exact HB.out)) hb)
                (try clear hb)
                (try clear hb2)
                (try clear hk)
                (try clear hi)
                (try clear ho0)
                refine hK.out _ _ trivial (fun hHeld => ?_)
                clear hK K
                refine norm_ (a' := ?_) ?_ ?_
                rotate_left
                ·show Act.put _ (some 61) _ = _
                 simp only [Act.put, zA, zB, zC, i64_w, i32_w]
                 rfl
                refine one_ (i := 8) (N := some 67) #[true, true, true, true, true, true, true, true, true, false, false] rfl rfl (one_of HT_.out (by kernel_rfl)) (by decide) (fun K hK => ?_)
                refine goes_ Tryd.func60 (by kernel_rfl) rfl #[.int .i64 (((bt a0 x7_4) - 48) % 256)] (by rfl) rfl rfl (by (try simp only [zM, zO, zP]); first | done | rfl | (refine congrArg (fun z => (#[Value.int .i64 z] : Array Value)) ?_; exact (show ∀ z : Int, wrap64 (IntKind.u8.wrap z) = z % 256 from fun z => by rw [IntKind.wrap_u8]; unfold wrap64; omega) _)) ?_
                with_reducible refine (moraineref02_small.calls k4 (((bt a0 x7_4) - 48) % 256) t253 _ A27.out).mono ?_
                rintro e w41 ⟨v254, rfl, ho0, hb⟩
                refine ⟨_, rfl, ?_⟩
                have HO255 := Aside0.mk (Kd.R_lower (Kd.R_new' (Kd.R_new' (Kd.R_new' (Kd.R_new' ho0 (ql HO_6)) (ql HO243)) (ql HO249)) (ql HO252)) (below_size (by repeat (first | (with_reducible first | exact HB.out | apply qx | apply qv | apply qw | refine below_set ?_ GE233.out) | exact HB.out))))
                replace HO_6 := qe HO_6 ho0 hb
                replace HO243 := qe HO243 ho0 hb
                replace HO249 := qe HO249 ho0 hb
                replace HO252 := qe HO252 ho0 hb
                replace BK233 := qb BK233 hb
                replace HB := Aside0.mk (below_step (by repeat (first | (with_reducible first | exact HB.out | apply qx | apply qv | apply qw | refine below_set ?_ GE233.out) | exact HB.out)) hb)
                (try clear hb)
                (try clear hb2)
                (try clear hk)
                (try clear hi)
                (try clear ho0)
                obtain ⟨Ao42, co42, eo42⟩ := Kd.R_slice HO252.out
                (first | subst eo42 | (injection eo42 with f1_ f2_ f3_; have f4_ := f1_.symm; have f5_ := f3_.symm; clear f1_ f2_ f3_; subst f4_; subst f5_))
                obtain ⟨Ao43, co43, eo43⟩ := Kd.R_slice HO255.out
                (first | subst eo43 | (injection eo43 with f1_ f2_ f3_; have f4_ := f1_.symm; have f5_ := f3_.symm; clear f1_ f2_ f3_; subst f4_; subst f5_))
                refine hK.out _ _ trivial (fun hHeld => ?_)
                clear hK K
                refine norm_ (a' := ?_) ?_ ?_
                rotate_left
                ·show Act.put _ (some 67) _ = _
                 simp only [Act.put, zA, zB, zC, i64_w, i32_w]
                 rfl
                refine one_ (i := 9) (N := some 68) #[true, true, true, true, true, true, true, true, true, true, false] rfl rfl (one_of HT_.out (by kernel_rfl)) (by decide) (fun K hK => ?_)
                refine goes_ Tryd.func68 (by kernel_rfl) rfl #[.slice Ao42 t250.length co42, .slice Ao43 t253.length co43] (by rfl) rfl rfl (by (try simp only [zM, zO, zP]); first|done|rfl) ?_
                with_reducible refine (moraineref02_plus.calls k4 _ _ t250 _ _ t253 t256 _ ?side1 ?side2 ?side3 ?side4 A28.out).mono ?_
                (case side1 => repeat (first | exact (Kd.R_reads' HO252.out).2.2 | (with_reducible first|refine Kd.C_alloc ?_ _|refine Kd.C_drewN ?_ _|refine Kd.C_drew ?_)))
                (case side2 => exact (Kd.R_reads' HO252.out).2.1)
                (case side3 => repeat (first | exact (Kd.R_reads' HO255.out).2.2 | (with_reducible first|refine Kd.C_alloc ?_ _|refine Kd.C_drewN ?_ _|refine Kd.C_drew ?_)))
                (case side4 => exact (Kd.R_reads' HO255.out).2.1)
                rintro e w44 ⟨v257, rfl, ho0, hb⟩
                refine ⟨_, rfl, ?_⟩
                have HO258 := Aside0.mk (Kd.R_lower (Kd.R_new' (Kd.R_new' (Kd.R_new' (Kd.R_new' (Kd.R_new' ho0 (ql HO_6)) (ql HO243)) (ql HO249)) (ql HO252)) (ql HO255)) (below_size (by repeat (first | (with_reducible first | exact HB.out | apply qx | apply qv | apply qw | refine below_set ?_ GE233.out) | exact HB.out))))
                replace HO_6 := qe HO_6 ho0 hb
                replace HO243 := qe HO243 ho0 hb
                replace HO249 := qe HO249 ho0 hb
                replace HO252 := qe HO252 ho0 hb
                replace HO255 := qe HO255 ho0 hb
                replace BK233 := qb BK233 hb
                replace HB := Aside0.mk (below_step (by repeat (first | (with_reducible first | exact HB.out | apply qx | apply qv | apply qw | refine below_set ?_ GE233.out) | exact HB.out)) hb)
                (try clear hb)
                (try clear hb2)
                (try clear hk)
                (try clear hi)
                (try clear ho0)
                refine hK.out _ _ trivial (fun hHeld => ?_)
                clear hK K
                refine norm_ (a' := ?_) ?_ ?_
                rotate_left
                ·show Act.put _ (some 68) _ = _
                 simp only [Act.put, zA, zB, zC, i64_w, i32_w]
                 rfl
                refine pure_ (i := 10) (N := some 6) (v := ?_) (a' := ?_) #[true, true, true, true, true, true, true, true, true, true, true] rfl rfl (any_of HT_.out (by kernel_rfl)) (fun _ _ _ h => h) (Or.inl ⟨by rfl, ?_⟩) ?_ ?_
                rotate_left
                ·intro w'
                 go_simp
                 with_reducible rfl
                rotate_left
                ·simp only [Act.put, zA, zB, zC, i64_w, i32_w]
                 rfl
                refine done_ (done_of HT_.out (by kernel_rfl)) ?_
                obtain ⟨Ao45, co45, eo45⟩ := Kd.R_slice HO258.out
                subst eo45
                have hcz46_0 : w44.cell? ⟨gb233, 0, none⟩ = some (.bool x234000_4) := qc BK233 0
                have hcz46_1 : w44.cell? ⟨gb233, 1, none⟩ = some (.slice none 0 0) := qc BK233 1
                have hfz46_0 := blk_frozen BK233.out 0
                have hfz46_1 := blk_frozen BK233.out 1
                try go_wp2
                refine bodyPost_ret (results_ct rfl _ _ gb233 34 #[.bool false, .slice none 0 0] (0, 0) _ rfl (by (with_reducible repeat first|refine qN ?_ _|refine qW ?_|refine qA ?_ _); refine blk_put (cs := #[.bool false, .slice none 0 0]) ?_ 1 _ rfl; (with_reducible repeat first|refine qN ?_ _|refine qW ?_|refine qA ?_ _); refine blk_put (cs := #[.bool x234000_4, .slice none 0 0]) ?_ 0 _ rfl; (with_reducible repeat first|refine qN ?_ _|refine qW ?_|refine qA ?_ _); exact BK233.out) Tryd.underlying34 rfl (by kernel_rfl)) rfl ?_
                exact ⟨_, by first | rfl | (simp [errW_none, errW_some] <;> rfl) | (simp [*, errW_none, errW_some] <;> rfl), by first | exact Kd.R_nil _ _ _ _ _ | exact Kd.N_nil _ _ _ _ _ | exact Kd.V_nil _ _ _ _ _ | exact Kd.Q_nil _ _ _ _ _ | exact Kd.S_nil _ _ _ _ _, by repeat (first | (with_reducible first | exact HB.out | apply qx | apply qv | apply qw | refine below_set ?_ GE233.out) | exact HB.out)⟩
               ·rw [if_neg c29] at H
                have c29b0 : decide (1536 < (t256.length : Int)) = false := decide_eq_false c29
                have c29b1 : decide (1536 < t256.length) = false := decide_eq_false (by omega)
                clear c29
                have H' := Aside0.mk H
                clear H
                try go_wp2_with (first | ((with_reducible refine gate_dst (N := 53) rfl ?_); refine Kd.R_lit (Kd.int .u8) _ 5 ?hg (N := 53) ?hd (xs := ([0, 0, 0] : List Int)) (inner := [.int .u8 0, .int .u8 0, .int .u8 0]) (ok := fun _ => True) (okp := fun _ => True) ?hr ?hp (fun _ hk => hk) trivial (Below.refl _ _) (Nat.le_refl _) (by simp) ?_; (case hd => rfl); (case hg => rfl); (case hr => go_simp <;> rfl); (case hp => exact (Reps.one (show Kd.M (Kd.int .u8) _ _ _ 0 [.int .u8 0] from rfl) (Reps.one (show Kd.M (Kd.int .u8) _ _ _ 0 [.int .u8 0] from rfl) (Reps.one (show Kd.M (Kd.int .u8) _ _ _ 0 [.int .u8 0] from rfl) (Reps.none _ _))))); intro v239 w47 ho48 hb hg_ hnew_; clear hg_ hnew_; (first | rw [← Ny238.out] at ho48 | (simp only [Int.reduceToNat] at ho48; rw [← Ny238.out] at ho48)); have n0_ := Aside0.mk (Kd.R_elder' (by (with_reducible repeat first|apply Kd.R_alloc|apply Kd.R_drewN|apply Kd.R_drew); exact HO_6.out) (Kd.R_base ho48) hb); have n1_ := Aside0.mk (Kd.R_lower (Kd.R_new' ho48 (ql HO_6)) (below_size (by repeat (first | (with_reducible first | exact HB.out | apply qx | apply qv | apply qw | refine below_set ?_ GE233.out) | exact HB.out)))); have n2_ := qb BK233 hb; have n3_ := Aside0.mk (below_step (by repeat (first | (with_reducible first | exact HB.out | apply qx | apply qv | apply qw | refine below_set ?_ GE233.out) | exact HB.out)) hb); clear HO_6; clear BK233; clear HB; have HO_6 := n0_; have HO240 := n1_; have BK233 := n2_; have HB := n3_; clear n0_ n1_ n2_ n3_; clear hb ho48; obtain ⟨Ao50, co50, eo50⟩ := Kd.R_slice HO_6.out; subst eo50) | ((with_reducible refine gate_builtin (b := .append) (xs := #[.tmp 53, .tmp 54]) rfl ?_); at_builtin; refine Kd.R_append_rows (Kd.int .u8) (w0 := w) w.heap.size rfl (.tmp 53) (.tmp 54) 32 5 (.int .u8 0) 1 rfl Tryd.underlying32 info5 rfl (by decide) (by omega) v239 y238 x6_4 _ _ _ (fun k_ => some k_ ≠ (.slice Ao50 x6_4.length co50 : Value).ownBlock) (fun _ => False) rfl rfl ?aO ?aR (fun _ _ h => h) (fun _ h => h.elim) ?aF ?aB ?aS ?aL ?_; (case aR => repeat (first | exact (Kd.R_reads' HO_6.out).2.2 | (with_reducible first|refine Kd.C_alloc ?_ _|refine Kd.C_drewN ?_ _|refine Kd.C_drew ?_))); (case aB => exact (by repeat (first | (with_reducible first | exact HB.out | apply qx | apply qv | apply qw | refine below_set ?_ GE233.out) | exact HB.out))); (case aF => exact (fun k_ hk => Kd.fresh' (ql HO_6) k_ hk)); (case aO => exact (by (with_reducible repeat first|apply Kd.R_alloc|apply Kd.R_drewN|apply Kd.R_drew); exact Kd.R_mono HO240.out (fun _ hk => hk.2))); (case aS => exact (below_size (by repeat (first | (with_reducible first | exact HB.out | apply qx | apply qv | apply qw | refine below_set ?_ GE233.out) | exact HB.out)))); (case aL => have := LMc22.out; omega); intro v242 w49 ho hb hg hat; rw [← Ny241.out] at ho; have n0_ := Aside0.mk (Kd.R_after (ok := (fun _ => True)) (by (with_reducible repeat first|apply Kd.R_alloc|apply Kd.R_drewN|apply Kd.R_drew); exact HO_6.out) hg hat); have n1_ := Aside0.mk (blk_grown (g := gb233) (o := .cells #[.bool x234000_4, .slice none 0 0] 34 (0, 0)) (by (with_reducible repeat first|refine qN ?_ _|refine qW ?_|refine qA ?_ _); exact BK233.out) hg (Kd.R_ne HO240.out BK233.out (by decide))); have n2_ := Aside0.mk (hb); have n3_ := Aside0.mk (ho); clear HO_6; clear BK233; clear HB; clear HO240; have HO_6 := n0_; have BK233 := n1_; have HB := n2_; have HO243 := n3_; clear n0_ n1_ n2_ n3_; clear ho hb hg hat) | ((with_reducible refine gate_dst (N := 56) rfl ?_); refine Kd.R_lit (Kd.int .u8) _ 5 ?hg (N := 56) ?hd (xs := ([0] : List Int)) (inner := [.int .u8 0]) (ok := fun _ => True) (okp := fun _ => True) ?hr ?hp (fun _ hk => hk) trivial (Below.refl _ _) (Nat.le_refl _) (by simp) ?_; (case hd => rfl); (case hg => rfl); (case hr => go_simp <;> rfl); (case hp => exact (Reps.one (show Kd.M (Kd.int .u8) _ _ _ 0 [.int .u8 0] from rfl) (Reps.none _ _))); intro v245 w51 ho52 hb hg_ hnew_; clear hg_ hnew_; (first | rw [← Ny244.out] at ho52 | (simp only [Int.reduceToNat] at ho52; rw [← Ny244.out] at ho52)); have n0_ := Aside0.mk (Kd.R_elder' (by (with_reducible repeat first|apply Kd.R_alloc|apply Kd.R_drewN|apply Kd.R_drew); exact HO_6.out) (Kd.R_base ho52) hb); have n1_ := Aside0.mk (Kd.R_elder' (by (with_reducible repeat first|apply Kd.R_alloc|apply Kd.R_drewN|apply Kd.R_drew); exact HO243.out) (Kd.R_base ho52) hb); have n2_ := Aside0.mk (Kd.R_lower (Kd.R_new' (Kd.R_new' ho52 (ql HO_6)) (ql HO243)) (below_size (by repeat (first | (with_reducible first | exact HB.out | apply qx | apply qv | apply qw | refine below_set ?_ GE233.out) | exact HB.out)))); have n3_ := qb BK233 hb; have n4_ := Aside0.mk (below_step (by repeat (first | (with_reducible first | exact HB.out | apply qx | apply qv | apply qw | refine below_set ?_ GE233.out) | exact HB.out)) hb); clear HO_6; clear HO243; clear BK233; clear HB; have HO_6 := n0_; have HO243 := n1_; have HO246 := n2_; have BK233 := n3_; have HB := n4_; clear n0_ n1_ n2_ n3_ n4_; clear hb ho52) | ((with_reducible refine gate_builtin (b := .append) (xs := #[.tmp 56, .tmp 57]) rfl ?_); at_builtin; refine Kd.R_append_rows (Kd.int .u8) (w0 := w) w.heap.size rfl (.tmp 56) (.tmp 57) 32 5 (.int .u8 0) 1 rfl Tryd.underlying32 info5 rfl (by decide) (by omega) v245 y244 x6_4 _ _ _ (fun k_ => some k_ ≠ (.slice Ao50 x6_4.length co50 : Value).ownBlock ∧ some k_ ≠ (v242 : Value).ownBlock) (fun _ => False) rfl rfl ?aO ?aR (fun _ _ h => h) (fun _ h => h.elim) ?aF ?aB ?aS ?aL ?_; (case aR => repeat (first | exact (Kd.R_reads' HO_6.out).2.2 | (with_reducible first|refine Kd.C_alloc ?_ _|refine Kd.C_drewN ?_ _|refine Kd.C_drew ?_))); (case aB => exact (by repeat (first | (with_reducible first | exact HB.out | apply qx | apply qv | apply qw | refine below_set ?_ GE233.out) | exact HB.out))); (case aF => exact (fun k_ hk => ⟨Kd.fresh' (ql HO_6) k_ hk, Kd.fresh' (ql HO243) k_ hk⟩)); (case aO => exact (by (with_reducible repeat first|apply Kd.R_alloc|apply Kd.R_drewN|apply Kd.R_drew); exact Kd.R_mono HO246.out (fun _ hk => ⟨hk.1.2, hk.2⟩))); (case aS => exact (below_size (by repeat (first | (with_reducible first | exact HB.out | apply qx | apply qv | apply qw | refine below_set ?_ GE233.out) | exact HB.out)))); (case aL => have := LMc23.out; omega); intro v248 w53 ho hb hg hat; rw [← Ny247.out] at ho; have n0_ := Aside0.mk (Kd.R_after (ok := (fun k_ => some k_ ≠ (v242 : Value).ownBlock)) (by (with_reducible repeat first|apply Kd.R_alloc|apply Kd.R_drewN|apply Kd.R_drew); exact Kd.R_mono HO_6.out (fun _ hk => ⟨hk.1.2, hk.2⟩)) hg hat); have n1_ := Aside0.mk (blk_grown (g := gb233) (o := .cells #[.bool x234000_4, .slice none 0 0] 34 (0, 0)) (by (with_reducible repeat first|refine qN ?_ _|refine qW ?_|refine qA ?_ _); exact BK233.out) hg (Kd.R_ne HO246.out BK233.out (by decide))); have n2_ := Aside0.mk (Kd.R_after (ok := (fun k_ => some k_ ≠ (.slice Ao50 x6_4.length co50 : Value).ownBlock)) (by (with_reducible repeat first|apply Kd.R_alloc|apply Kd.R_drewN|apply Kd.R_drew); exact HO243.out) hg hat); have n3_ := Aside0.mk (hb); have n4_ := Aside0.mk (ho); clear HO_6; clear BK233; clear HO243; clear HB; clear HO246; have HO_6 := n0_; have BK233 := n1_; have HO243 := n2_; have HB := n3_; have HO249 := n4_; clear n0_ n1_ n2_ n3_ n4_; clear ho hb hg hat))
                replace HO_6 := Aside0.mk (Kd.R_drew HO_6.out)
                replace HO243 := Aside0.mk (Kd.R_drew HO243.out)
                replace HO249 := Aside0.mk (Kd.R_drew HO249.out)
                replace BK233 := Aside0.mk (blk_drew BK233.out)
                replace HB := Aside0.mk (below_drew1 HB.out)
                have p26 : 0 ≤ (x7_4 : Int) := of_decide_eq_true (by first | (with_reducible assumption) | assumption)
                have q26 : x7_4 < (a0.size : Int) := of_decide_eq_true (by first | (with_reducible assumption) | assumption)
                have hx26 := bt_at a0 x7_4
                replace p26 := eq_true p26
                replace q26 := eq_true q26
                obtain ⟨Ao55, co55, eo55⟩ := Kd.R_slice HO243.out
                (first | subst eo55 | (injection eo55 with f1_ f2_ f3_; have f4_ := f1_.symm; have f5_ := f3_.symm; clear f1_ f2_ f3_; subst f4_; subst f5_))
                obtain ⟨Ao56, co56, eo56⟩ := Kd.R_slice HO249.out
                (first | subst eo56 | (injection eo56 with f1_ f2_ f3_; have f4_ := f1_.symm; have f5_ := f3_.symm; clear f1_ f2_ f3_; subst f4_; subst f5_))
                refine start_ (n := 11) (S := fun w' => True) (ds := []) #[false, false, false, false, false, false, false, false, false, false, false] (by kernel_rfl) rfl rfl trivial (fun hHeld => ?_); refine with_tabW moraineref02_Parse.tab17 moraineref02_Parse.bits17 (fun HT_ HW_ => ?_)
                generalize w53.drew = w54 at HO_6 HO243 HO249 BK233 HB hHeld ⊢
                refine pure_ (i := 0) (N := some 59) (v := ?_) (a' := ?_) #[true, false, false, false, false, false, false, false, false, false, false] rfl rfl (any_of HT_.out (by kernel_rfl)) (fun _ _ _ h => h) (Or.inl ⟨by rfl, ?_⟩) ?_ ?_
                rotate_left
                ·intro w'
                 go_simp
                 with_reducible rfl
                rotate_left
                ·simp only [Act.put, zA, zB, zC, i64_w, i32_w]
                 rfl
                refine pure_ (i := 1) (N := some 60) (v := ?_) (a' := ?_) #[true, true, false, false, false, false, false, false, false, false, false] rfl rfl (any_of HT_.out (by kernel_rfl)) (fun _ _ _ h => h) (Or.inl ⟨by rfl, ?_⟩) ?_ ?_
                rotate_left
                ·intro w'
                 go_simp
                 with_reducible rfl
                rotate_left
                ·simp only [Act.put, zA, zB, zC, i64_w, i32_w]
                 rfl
                refine pure_ (i := 3) (N := some 62) (v := ?_) (a' := ?_) #[true, true, false, true, false, false, false, false, false, false, false] rfl rfl (any_of HT_.out (by kernel_rfl)) (fun _ _ _ h => h) (Or.inl ⟨by rfl, ?_⟩) ?_ ?_
                rotate_left
                ·intro w'
                 go_simp
                 with_reducible rfl
                rotate_left
                ·simp only [Act.put, zA, zB, zC, i64_w, i32_w]
                 rfl
                refine pure_ (i := 4) (N := some 63) (v := ?_) (a' := ?_) #[true, true, false, true, true, false, false, false, false, false, false] rfl rfl (any_of HT_.out (by kernel_rfl)) (fun _ _ _ h => h) (Or.inl ⟨by rfl, ?_⟩) ?_ ?_
                rotate_left
                ·intro w'
                 go_simp
                 with_reducible rfl
                rotate_left
                ·simp only [Act.put, zA, zB, zC, i64_w, i32_w]
                 rfl
                refine take_ (i := 5) (N := some 64) (v := ?_) (a' := ?_) #[true, true, false, true, true, true, false, false, false, false, false] rfl rfl (take_ofW HT_.out HW_.out (by kernel_rfl)) (fun _ _ _ h => h) (Or.inl ⟨by rfl, ?_⟩) hHeld ?_ ?_
                rotate_left
                ·intro w' _
                 go_simp
                 with_reducible rfl
                rotate_left
                ·simp only [Act.put, zA, zB, zC, i64_w, i32_w]
                 rfl
                refine pure_ (i := 6) (N := some 65) (v := ?_) (a' := ?_) #[true, true, false, true, true, true, true, false, false, false, false] rfl rfl (any_of HT_.out (by kernel_rfl)) (fun _ _ _ h => h) (Or.inl ⟨by rfl, ?_⟩) ?_ ?_
                rotate_left
                ·intro w'
                 go_simp
                 with_reducible rfl
                rotate_left
                ·simp only [Act.put, zA, zB, zC, i64_w, i32_w]
                 rfl
                refine pure_ (i := 7) (N := some 66) (v := ?_) (a' := ?_) #[true, true, false, true, true, true, true, true, false, false, false] rfl rfl (any_of HT_.out (by kernel_rfl)) (fun _ _ _ h => h) (Or.inl ⟨by rfl, ?_⟩) ?_ ?_
                rotate_left
                ·intro w'
                 go_simp
                 with_reducible rfl
                rotate_left
                ·simp only [Act.put, zA, zB, zC, i64_w, i32_w]
                 rfl
                refine one_ (i := 2) (N := some 61) #[true, true, true, true, true, true, true, true, false, false, false] rfl rfl (one_of HT_.out (by kernel_rfl)) (by decide) (fun K hK => ?_)
                refine goes_ Tryd.func68 (by kernel_rfl) rfl #[.slice Ao55 y241.length co55, .slice Ao56 y247.length co56] (by rfl) rfl rfl (by (try simp only [zM, zO, zP]); first|done|rfl) ?_
                with_reducible refine (moraineref02_plus.calls k4 _ _ y241 _ _ y247 t250 _ ?side1 ?side2 ?side3 ?side4 A24.out).mono ?_
                (case side1 => repeat (first | exact (Kd.R_reads' HO243.out).2.2 | (with_reducible first|refine Kd.C_alloc ?_ _|refine Kd.C_drewN ?_ _|refine Kd.C_drew ?_)))
                (case side2 => exact (Kd.R_reads' HO243.out).2.1)
                (case side3 => repeat (first | exact (Kd.R_reads' HO249.out).2.2 | (with_reducible first|refine Kd.C_alloc ?_ _|refine Kd.C_drewN ?_ _|refine Kd.C_drew ?_)))
                (case side4 => exact (Kd.R_reads' HO249.out).2.1)
                rintro e w57 ⟨v251, rfl, ho0, hb⟩
                refine ⟨_, rfl, ?_⟩
                have HO252 := Aside0.mk (Kd.R_lower (Kd.R_new' (Kd.R_new' (Kd.R_new' ho0 (ql HO_6)) (ql HO243)) (ql HO249)) (below_size (by repeat (first | (with_reducible first | exact HB.out | apply qx | apply qv | apply qw | refine below_set ?_ GE233.out) | exact HB.out))))
                replace HO_6 := qe HO_6 ho0 hb
                replace HO243 := qe HO243 ho0 hb
                replace HO249 := qe HO249 ho0 hb
                replace BK233 := qb BK233 hb
                replace HB := Aside0.mk (below_step (by repeat (first | (with_reducible first | exact HB.out | apply qx | apply qv | apply qw | refine below_set ?_ GE233.out) | exact HB.out)) hb)
                (try clear hb)
                (try clear hb2)
                (try clear hk)
                (try clear hi)
                (try clear ho0)
                refine hK.out _ _ trivial (fun hHeld => ?_)
                clear hK K
                refine norm_ (a' := ?_) ?_ ?_
                rotate_left
                ·show Act.put _ (some 61) _ = _
                 simp only [Act.put, zA, zB, zC, i64_w, i32_w]
                 rfl
                refine one_ (i := 8) (N := some 67) #[true, true, true, true, true, true, true, true, true, false, false] rfl rfl (one_of HT_.out (by kernel_rfl)) (by decide) (fun K hK => ?_)
                refine goes_ Tryd.func60 (by kernel_rfl) rfl #[.int .i64 (((bt a0 x7_4) - 48) % 256)] (by rfl) rfl rfl (by (try simp only [zM, zO, zP]); first | done | rfl | (refine congrArg (fun z => (#[Value.int .i64 z] : Array Value)) ?_; exact (show ∀ z : Int, wrap64 (IntKind.u8.wrap z) = z % 256 from fun z => by rw [IntKind.wrap_u8]; unfold wrap64; omega) _)) ?_
                with_reducible refine (moraineref02_small.calls k4 (((bt a0 x7_4) - 48) % 256) t253 _ A27.out).mono ?_
                rintro e w58 ⟨v254, rfl, ho0, hb⟩
                refine ⟨_, rfl, ?_⟩
                have HO255 := Aside0.mk (Kd.R_lower (Kd.R_new' (Kd.R_new' (Kd.R_new' (Kd.R_new' ho0 (ql HO_6)) (ql HO243)) (ql HO249)) (ql HO252)) (below_size (by repeat (first | (with_reducible first | exact HB.out | apply qx | apply qv | apply qw | refine below_set ?_ GE233.out) | exact HB.out))))
                replace HO_6 := qe HO_6 ho0 hb
                replace HO243 := qe HO243 ho0 hb
                replace HO249 := qe HO249 ho0 hb
                replace HO252 := qe HO252 ho0 hb
                replace BK233 := qb BK233 hb
                replace HB := Aside0.mk (below_step (by repeat (first | (with_reducible first | exact HB.out | apply qx | apply qv | apply qw | refine below_set ?_ GE233.out) | exact HB.out)) hb)
                (try clear hb)
                (try clear hb2)
                (try clear hk)
                (try clear hi)
                (try clear ho0)
                obtain ⟨Ao59, co59, eo59⟩ := Kd.R_slice HO252.out
                (first | subst eo59 | (injection eo59 with f1_ f2_ f3_; have f4_ := f1_.symm; have f5_ := f3_.symm; clear f1_ f2_ f3_; subst f4_; subst f5_))
                obtain ⟨Ao60, co60, eo60⟩ := Kd.R_slice HO255.out
                (first | subst eo60 | (injection eo60 with f1_ f2_ f3_; have f4_ := f1_.symm; have f5_ := f3_.symm; clear f1_ f2_ f3_; subst f4_; subst f5_))
                refine hK.out _ _ trivial (fun hHeld => ?_)
                clear hK K
                refine norm_ (a' := ?_) ?_ ?_
                rotate_left
                ·show Act.put _ (some 67) _ = _
                 simp only [Act.put, zA, zB, zC, i64_w, i32_w]
                 rfl
                refine one_ (i := 9) (N := some 68) #[true, true, true, true, true, true, true, true, true, true, false] rfl rfl (one_of HT_.out (by kernel_rfl)) (by decide) (fun K hK => ?_)
                refine goes_ Tryd.func68 (by kernel_rfl) rfl #[.slice Ao59 t250.length co59, .slice Ao60 t253.length co60] (by rfl) rfl rfl (by (try simp only [zM, zO, zP]); first|done|rfl) ?_
                with_reducible refine (moraineref02_plus.calls k4 _ _ t250 _ _ t253 t256 _ ?side1 ?side2 ?side3 ?side4 A28.out).mono ?_
                (case side1 => repeat (first | exact (Kd.R_reads' HO252.out).2.2 | (with_reducible first|refine Kd.C_alloc ?_ _|refine Kd.C_drewN ?_ _|refine Kd.C_drew ?_)))
                (case side2 => exact (Kd.R_reads' HO252.out).2.1)
                (case side3 => repeat (first | exact (Kd.R_reads' HO255.out).2.2 | (with_reducible first|refine Kd.C_alloc ?_ _|refine Kd.C_drewN ?_ _|refine Kd.C_drew ?_)))
                (case side4 => exact (Kd.R_reads' HO255.out).2.1)
                rintro e w61 ⟨v257, rfl, ho0, hb⟩
                refine ⟨_, rfl, ?_⟩
                have HO258 := Aside0.mk (Kd.R_lower (Kd.R_new' (Kd.R_new' (Kd.R_new' (Kd.R_new' (Kd.R_new' ho0 (ql HO_6)) (ql HO243)) (ql HO249)) (ql HO252)) (ql HO255)) (below_size (by repeat (first | (with_reducible first | exact HB.out | apply qx | apply qv | apply qw | refine below_set ?_ GE233.out) | exact HB.out))))
                replace HO_6 := qe HO_6 ho0 hb
                replace HO243 := qe HO243 ho0 hb
                replace HO249 := qe HO249 ho0 hb
                replace HO252 := qe HO252 ho0 hb
                replace HO255 := qe HO255 ho0 hb
                replace BK233 := qb BK233 hb
                replace HB := Aside0.mk (below_step (by repeat (first | (with_reducible first | exact HB.out | apply qx | apply qv | apply qw | refine below_set ?_ GE233.out) | exact HB.out)) hb)
                (try clear hb)
                (try clear hb2)
                (try clear hk)
                (try clear hi)
                (try clear ho0)
                refine hK.out _ _ trivial (fun hHeld => ?_)
                clear hK K
                refine norm_ (a' := ?_) ?_ ?_
                rotate_left
                ·show Act.put _ (some 68) _ = _
                 simp only [Act.put, zA, zB, zC, i64_w, i32_w]
                 rfl
                refine pure_ (i := 10) (N := some 6) (v := ?_) (a' := ?_) #[true, true, true, true, true, true, true, true, true, true, true] rfl rfl (any_of HT_.out (by kernel_rfl)) (fun _ _ _ h => h) (Or.inl ⟨by rfl, ?_⟩) ?_ ?_
                rotate_left
                ·intro w'
                 go_simp
                 with_reducible rfl
                rotate_left
                ·simp only [Act.put, zA, zB, zC, i64_w, i32_w]
                 rfl
                refine done_ (done_of HT_.out (by kernel_rfl)) ?_
                obtain ⟨Ao62, co62, eo62⟩ := Kd.R_slice HO258.out
                subst eo62
                try go_wp2
                go_roundg k4
                case measure => have := HJ1.out; have := HJ8.out; have := HK3.out; have := HK4.out; omega
                case rel => exact ⟨(t256), (wrap64 (x7_4 + 1)), (x234000_4), (by first | rfl | (simp; done) | (simp [*]; done)), H', ⟨by have := HJ1.out; have := HJ8.out; have := HK3.out; have := HK4.out; omega⟩, ⟨by (with_reducible repeat first|apply Kd.R_alloc|apply Kd.R_drewN|apply Kd.R_drew); exact Kd.R_mono HO258.out (fun _ hk => trivial)⟩, ⟨qk BK233⟩, ⟨by repeat (first | (with_reducible first | exact HB.out | apply qx | apply qv | apply qw | refine below_set ?_ GE233.out) | exact HB.out)⟩⟩
              ·rw [if_neg c25] at H
               exact absurd H (by simp)
             ·rw [if_neg c23] at H
              exact absurd H (by simp)
            ·rw [if_neg c22] at H
             exact absurd H (by simp)
           ·rw [if_neg c21] at H
            have c21b0 : decide (x7_4 < (a0.size : Int)) = false := decide_eq_false c21
            clear c21
            by_cases c63 : 0 < (a0.size : Int)
            ·rw [if_pos c63] at H
             have c63b0 : decide (0 < (a0.size : Int)) = true := decide_eq_true c63
             have c63b1 : decide (0 < a0.size) = true := decide_eq_true (by omega)
             clear c63
             replace H := Option.bind_eq_some_iff.mp H
             obtain ⟨⟨t234, t235⟩, A650, H⟩ := H
             replace H : (some (t234, t235, 0)) = some (r1, r2, r3) := H
             have A65 := Aside0.mk A650
             clear A650
             simp only [Option.some.injEq, Prod.mk.injEq] at H
             obtain ⟨rfl, rfl, rfl⟩ := H
             have p64 : 0 ≤ (0 : Int) := (by omega)
             have q64 : 0 < a0.size := (by have : (0 : Int) < (a0.size : Int) := of_decide_eq_true (by first | (with_reducible assumption) | assumption); omega)
             have hx64 : ∀ h : 0 < a0.size, ((a0[0]'h).toNat : Int) = bt a0 0 := bt_at a0 0
             clear p64
             have qi64 : (0 < (a0.size : Int)) = True := eq_true (of_decide_eq_true (by first | (with_reducible assumption) | assumption))
             replace q64 := eq_true q64
             obtain ⟨Ao66, co66, eo66⟩ := Kd.R_slice HO_6.out
             subst eo66
             go_wp2_with (first | ((with_reducible refine gate_callee (f := 62) rfl ?_); refine goesL_ (some 77) rfl rfl Tryd.func62 (by kernel_rfl) rfl #[.bool ((bt a0 0) == 45), .slice Ao66 x6_4.length co66] rfl (by (try simp only [zM, zO, zP]); first|done|rfl) ?_; (with_reducible refine (moraineref02_value.calls k4 ((bt a0 0) == 45) (fun k_ => some k_ = (.slice Ao66 x6_4.length co66 : Value).ownBlock) (.slice Ao66 x6_4.length co66) x6_4 t234 t235 w _ ?side1 ?side2 A65.out).mono ?_); (case side1 => repeat (first | (with_reducible first | exact HB.out | apply qx | apply qv | apply qw | refine below_set ?_ GE233.out) | exact HB.out)); (case side2 => exact Kd.R_tight rfl HO_6.out); rintro e w67 ⟨v236, rfl, ho0, hb, hkp⟩; refine ⟨_, rfl, ?_⟩; have n0_ := Aside0.mk (blk_kept (by (with_reducible repeat first|refine qN ?_ _|refine qW ?_|refine qA ?_ _); exact BK233.out) hkp (fun hs_ => (fun e_ => (Kd.R_ne HO_6.out BK233.out (by decide)) e_) hs_)); have n1_ := Aside0.mk (Kd.R_mono (ok' := fun k_ => True) ho0 (fun k_ hk_ => trivial)); have n2_ := Aside0.mk (hb); clear BK233; clear HB; clear HO_6; have BK233 := n0_; have HO237 := n1_; have HB := n2_; clear n0_ n1_ n2_; (try clear hb); (try clear hkp); (try clear ho0); have hcz68_0 : w67.cell? ⟨gb233, 0, none⟩ = some (.bool x234000_4) := qc BK233 0; have hcz68_1 : w67.cell? ⟨gb233, 1, none⟩ = some (.slice none 0 0) := qc BK233 1; have hfz68_0 := blk_frozen BK233.out 0; have hfz68_1 := blk_frozen BK233.out 1; obtain ⟨Ao69, co69, eo69⟩ := Kd.R_slice HO237.out; subst eo69))
             refine bodyPost_ret (results_ct rfl _ _ gb233 34 #[.bool t234, .slice Ao69 t235.length co69] (0, 0) _ rfl (by (with_reducible repeat first|refine qN ?_ _|refine qW ?_|refine qA ?_ _); refine blk_put (cs := #[.bool t234, .slice none 0 0]) ?_ 1 _ rfl; (with_reducible repeat first|refine qN ?_ _|refine qW ?_|refine qA ?_ _); refine blk_put (cs := #[.bool x234000_4, .slice none 0 0]) ?_ 0 _ rfl; (with_reducible repeat first|refine qN ?_ _|refine qW ?_|refine qA ?_ _); exact BK233.out) Tryd.underlying34 rfl (by kernel_rfl)) rfl ?_
             exact ⟨_, by first | rfl | (simp [errW_none, errW_some] <;> rfl) | (simp [*, errW_none, errW_some] <;> rfl), by (with_reducible repeat first|apply Kd.R_alloc|apply Kd.R_drewN|apply Kd.R_drew); exact Kd.R_mono (qz HO237 BK233 (by decide) (.bool t234) (.slice Ao69 t235.length co69)) (fun _ hk => trivial), by repeat (first | (with_reducible first | exact HB.out | apply qx | apply qv | apply qw | refine below_set ?_ GE233.out) | exact HB.out)⟩
            ·rw [if_neg c63] at H
             exact absurd H (by simp)
end Go.Proofs.YthhpnlbeniihhaaDoor.PRef
-- Printed by a program of this session's (wip/tools/printr.py, over the kit's print program).
namespace Go.Proofs.YthhpnlbeniihhaaDoor.PRText
open Go.RowKit Go.Proofs.YthhpnlbeniihhaaDoorW.PrintWords Go.Proofs.YthhpnlbeniihhaaDoorW.PrintLast Go.Proofs.YthhpnlbeniihhaaDoorW.PrintMore
attribute [local go_sem] max2_int min2_int max_two min_two max_three min_three max_four min_four   -- for this text's walks alone
set_option linter.unusedVariables false
set_option linter.unusedSimpArgs false
def errW : Option Int → Value
  | none => .nilIface
  | some c => .iface 0 (.int .i64 c)
theorem errW_none : errW none = .nilIface := rfl
theorem errW_some (c : Int) : errW (some c) = .iface 0 (.int .i64 c) := rfl
theorem info5 : (Tryd.prog.info? 5).map (fun i => (i.zero, i.size, i.bytes)) = some (some (.int .u8 0), 1, 1) := by kernel_rfl
-- the values' own types
end Go.Proofs.YthhpnlbeniihhaaDoor.PRText
namespace Go.Proofs.YthhpnlbeniihhaaDoor.PRText
end Go.Proofs.YthhpnlbeniihhaaDoor.PRText
namespace Go.Proofs.YthhpnlbeniihhaaDoor.RefT
open Go.Proofs.YthhpnlbeniihhaaDoor Go.Proofs.YthhpnlbeniihhaaDoor.Vals Go.RowKit Go.Proofs.YthhpnlbeniihhaaDoorW.PrintWords Go.Proofs.YthhpnlbeniihhaaDoorW.PrintLast Go.Proofs.YthhpnlbeniihhaaDoorW.PrintMore Go.Proofs.YthhpnlbeniihhaaDoor.Limb Go.Proofs.YthhpnlbeniihhaaDoor.Bit Go.Proofs.YthhpnlbeniihhaaDoor.NumA Go.Proofs.YthhpnlbeniihhaaDoor.NumE Go.Proofs.YthhpnlbeniihhaaDoor.NumG Go.Proofs.YthhpnlbeniihhaaDoor.NumJ Go.Proofs.YthhpnlbeniihhaaDoor.NumW Go.Proofs.YthhpnlbeniihhaaDoor.Text Go.Proofs.YthhpnlbeniihhaaDoor.Digits Go.Proofs.YthhpnlbeniihhaaDoor.RefA Go.Proofs.YthhpnlbeniihhaaDoor.RefB Go.Proofs.YthhpnlbeniihhaaDoor.RefC Go.Proofs.YthhpnlbeniihhaaDoor.PRef Go.Lib
set_option linter.unusedVariables false
set_option linter.unusedSimpArgs false
theorem small_from (n : Nat) : ∀ (b : List Int), n < 4611686018427387904 → b.length + (Bit.bits n).length < 140737488355328 → Ev (fun k => moraineref02_small.l0 k (n : Int) b) (b ++ Bit.bits n) := by
  induction n using Nat.strongRecOn with
  | ind n ih =>
    intro b hn hl
    by_cases h : n = 0
    · subst h
      rw [bits_zero, List.append_nil]
      refine Ev.step (f := fun _ => some b) (fun k => ?_) (Ev.now _)
      rw [moraineref02_small.l0, if_neg (by omega)]
    · rw [bits_pos h] at hl ⊢
      rw [List.length_cons] at hl
      have e1 : wrap64 (Int.tdiv (n : Int) 2) = ((n / 2 : Nat) : Int) := by rw [Int.tdiv_eq_ediv_of_nonneg (by omega), w64s (by omega) (by omega)]; omega
      have e2 : Int.tmod (n : Int) 2 % 256 = ((n % 2 : Nat) : Int) := w_mod n
      have hr := ih (n / 2) (by omega) (b ++ [((n % 2 : Nat) : Int)]) (by omega) (by rw [List.length_append, List.length_singleton]; omega)
      rw [List.append_assoc] at hr
      refine Ev.step (fun k => ?_) hr
      rw [moraineref02_small.l0, if_pos (by omega), if_pos (by omega), e1, e2]
theorem small_ev (n : Nat) (hn : n < 4611686018427387904) : Ev (fun k => moraineref02_small.f k (n : Int)) (Bit.bits n) := by
  unfold moraineref02_small.f
  refine small_from n [] hn ?_
  have : (Bit.bits n).length ≤ 62 := (bits_len n 62).mpr (by omega)
  rw [List.length_nil]; omega
/-- A sign ahead of digits. -/
def sgn (neg : Bool) (l : List UInt8) : List UInt8 := if neg then 45 :: l else l
end Go.Proofs.YthhpnlbeniihhaaDoor.RefT
namespace Go.Proofs.YthhpnlbeniihhaaDoor.RefP
open Go.Proofs.YthhpnlbeniihhaaDoor Go.Proofs.YthhpnlbeniihhaaDoor.Vals Go.RowKit Go.Proofs.YthhpnlbeniihhaaDoorW.PrintWords Go.Proofs.YthhpnlbeniihhaaDoorW.PrintLast Go.Proofs.YthhpnlbeniihhaaDoorW.PrintMore Go.Proofs.YthhpnlbeniihhaaDoor.Limb Go.Proofs.YthhpnlbeniihhaaDoor.Bit Go.Proofs.YthhpnlbeniihhaaDoor.NumA Go.Proofs.YthhpnlbeniihhaaDoor.NumB Go.Proofs.YthhpnlbeniihhaaDoor.NumE Go.Proofs.YthhpnlbeniihhaaDoor.NumG Go.Proofs.YthhpnlbeniihhaaDoor.NumJ Go.Proofs.YthhpnlbeniihhaaDoor.NumU Go.Proofs.YthhpnlbeniihhaaDoor.Plain Go.Proofs.YthhpnlbeniihhaaDoor.Digits Go.Proofs.YthhpnlbeniihhaaDoor.RefA Go.Proofs.YthhpnlbeniihhaaDoor.RefB Go.Proofs.YthhpnlbeniihhaaDoor.RefC Go.Proofs.YthhpnlbeniihhaaDoor.RefE Go.Proofs.YthhpnlbeniihhaaDoor.RefT Go.Proofs.YthhpnlbeniihhaaDoor.PRef Go.Lib
set_option linter.unusedVariables false
set_option linter.unusedSimpArgs false
theorem bt_list (l : List UInt8) (i : Nat) (h : i < l.length) : bt ⟨l.toArray⟩ (i : Int) = (((l[i]).toNat : Nat) : Int) := by
  have hs : ((i : Int)).toNat < (⟨l.toArray⟩ : ByteArray).size := by rw [ba_size, Int.toNat_natCast]; exact h
  rw [← bt_at _ _ hs]
  rfl
/-- One digit more. -/
def dstep (a : Nat) (b : UInt8) : Nat := 10 * a + (b.toNat - 48)
theorem decv_fold (l : List UInt8) : decv l = l.foldl dstep 0 := rfl
theorem fold_ge (l : List UInt8) : ∀ v, v ≤ l.foldl dstep v := by
  induction l with
  | nil => intro v; exact Nat.le_refl _
  | cons b l ih => intro v; exact Nat.le_trans (show v ≤ dstep v b by unfold dstep; omega) (ih _)
theorem dig_iff (b : UInt8) : isDig b = true ↔ 48 ≤ b.toNat ∧ b.toNat ≤ 57 := by unfold isDig; exact decide_eq_true_iff
theorem check_ok (l : List UInt8) (hl : l.length ≤ 1000) (at_ : Nat) (R : Bool × List Int × Int) (h : Ev (fun k => if (at_ : Int) = (((⟨l.toArray⟩ : ByteArray).size : Nat) : Int) then some (false, ([] : List Int), 9) else moraineref02_Parse.l1 k ⟨l.toArray⟩ [] (at_ : Int)) R) (d : Nat) :
    ∀ i, i + d = l.length → (l.drop i).all isDig = true → Ev (fun k => moraineref02_Parse.l0 k ⟨l.toArray⟩ (at_ : Int) (i : Int)) R := by
  induction d with
  | zero =>
    intro i hi hd
    refine Ev.step (fun k => ?_) h
    rw [moraineref02_Parse.l0, if_neg (by rw [ba_size]; omega)]
  | succ d ih =>
    intro i hi hd
    have hlt : i < l.length := by omega
    rw [List.drop_eq_getElem_cons hlt, List.all_cons, Bool.and_eq_true, dig_iff] at hd
    refine Ev.step (fun k => ?_) (ih (i + 1) (by omega) hd.2)
    rw [moraineref02_Parse.l0, if_pos (by rw [ba_size]; omega), if_pos (by omega), bt_list l i hlt, if_neg (by omega), if_neg (by omega), w_next i (by omega)]
theorem check_bad (l : List UInt8) (hl : l.length ≤ 1000) (at_ : Nat) (d : Nat) :
    ∀ i, i + d = l.length → (l.drop i).all isDig = false → Ev (fun k => moraineref02_Parse.l0 k ⟨l.toArray⟩ (at_ : Int) (i : Int)) (false, [], 9) := by
  induction d with
  | zero =>
    intro i hi hd
    rw [List.drop_eq_nil_of_le (by omega)] at hd
    exact absurd hd (by decide)
  | succ d ih =>
    intro i hi hd
    have hlt : i < l.length := by omega
    rw [List.drop_eq_getElem_cons hlt, List.all_cons] at hd
    by_cases h1 : l[i].toNat < 48
    · refine Ev.step (f := fun _ => some (false, [], 9)) (fun k => ?_) (Ev.now _)
      rw [moraineref02_Parse.l0, if_pos (by rw [ba_size]; omega), if_pos (by omega), bt_list l i hlt, if_pos (by omega)]
    · by_cases h2 : 57 < l[i].toNat
      · refine Ev.step (f := fun _ => some (false, [], 9)) (fun k => ?_) (Ev.now _)
        rw [moraineref02_Parse.l0, if_pos (by rw [ba_size]; omega), if_pos (by omega), bt_list l i hlt, if_neg (by omega), if_pos (by omega)]
      · have e : isDig l[i] = true := (dig_iff _).mpr ⟨by omega, by omega⟩
        rw [e, Bool.true_and] at hd
        refine Ev.step (fun k => ?_) (ih (i + 1) (by omega) hd)
        rw [moraineref02_Parse.l0, if_pos (by rw [ba_size]; omega), if_pos (by omega), bt_list l i hlt, if_neg (by omega), if_neg (by omega), w_next i (by omega)]
/-- The answer of a sign and a value. -/
def resV (neg : Bool) (v : Nat) : Bool × List Int × Int := if (Bit.bits v).length ≤ 1536 then (neg && decide (v ≠ 0), Bit.bits v, 0) else (false, [], 6)
theorem bits_mono {m n : Nat} (h : m ≤ n) : (Bit.bits m).length ≤ (Bit.bits n).length := by
  rw [bits_len]
  exact Nat.lt_of_le_of_lt h ((bits_len n _).mp (Nat.le_refl _))
theorem bv_three (l : List Int) : bv ([0, 0, 0] ++ l) = 8 * bv l := by
  show (0 : Int).toNat + 2 * ((0 : Int).toNat + 2 * ((0 : Int).toNat + 2 * bv l)) = _
  have : (0 : Int).toNat = 0 := rfl
  omega
theorem bv_one (l : List Int) : bv ([0] ++ l) = 2 * bv l := by
  show (0 : Int).toNat + 2 * bv l = _
  have : (0 : Int).toNat = 0 := rfl
  omega
theorem len_ten {v L : Nat} (h : (Bit.bits v).length ≤ L) : (Bit.bits (10 * v)).length ≤ L + 4 := by
  rw [bits_len] at h ⊢
  rw [Nat.pow_add]
  generalize 2 ^ L = K at *
  omega
theorem digits_from (l : List UInt8) (hl : l.length ≤ 1000) (neg : Bool) (h0 : 0 < l.length) (hn : (bt ⟨l.toArray⟩ 0 == 45) = neg) (d : Nat) :
    ∀ (i v : Nat), i + d = l.length → (l.drop i).all isDig = true → (Bit.bits v).length ≤ 1536 → Ev (fun k => moraineref02_Parse.l1 k ⟨l.toArray⟩ (Bit.bits v) (i : Int)) (resV neg ((l.drop i).foldl dstep v)) := by
  induction d with
  | zero =>
    intro i v hi hd hv
    rw [List.drop_eq_nil_of_le (by omega)]
    show Ev _ (resV neg v)
    have hval := value_ev neg (Bit.bits v) (by omega)
    rw [tr_of_bits, RefC.bits_pos] at hval
    refine Ev.step (f := fun k => (moraineref02_value.f k neg (Bit.bits v)).bind fun bt => some (bt.1, bt.2, 0)) (fun k => ?_) ?_
    · rw [moraineref02_Parse.l1, if_neg (by rw [ba_size]; omega), if_pos (by rw [ba_size]; omega), hn]
    · refine Ev.rbind hval ?_
      unfold resV
      rw [if_pos hv]
      exact Ev.now _
  | succ d ih =>
    intro i v hi hd hv
    have hlt : i < l.length := by omega
    rw [List.drop_eq_getElem_cons hlt, List.all_cons, Bool.and_eq_true, dig_iff] at hd
    rw [List.drop_eq_getElem_cons hlt, List.foldl_cons]
    have e8 : OkB ([0, 0, 0] ++ Bit.bits v) := okB_cons (okB_cons (okB_cons (ok_bits v) 0 (by decide)) 0 (by decide)) 0 (by decide)
    have e2 : OkB ([0] ++ Bit.bits v) := okB_cons (ok_bits v) 0 (by decide)
    have p1 := plus_ev ([0, 0, 0] ++ Bit.bits v) ([0] ++ Bit.bits v) e8 e2 (by simp; omega) (by simp; omega)
    rw [bv_three, bv_one, bv_bits, show 8 * v + 2 * v = 10 * v by omega] at p1
    obtain ⟨dg, hdg⟩ : ∃ dg, l[i].toNat - 48 = dg := ⟨_, rfl⟩
    have eb : (bt ⟨l.toArray⟩ (i : Int) - 48) % 256 = (dg : Int) := by rw [bt_list l i hlt]; omega
    have s1 := small_ev dg (by omega)
    have l10 : (Bit.bits (10 * v)).length ≤ 1536 + 4 := len_ten hv
    have ld : (Bit.bits dg).length ≤ 4 := (bits_len dg 4).mpr (by omega)
    have p2 := plus_ev (Bit.bits (10 * v)) (Bit.bits dg) (ok_bits _) (ok_bits _) (by omega) (by omega)
    rw [bv_bits, bv_bits] at p2
    have ed : dstep v l[i] = 10 * v + dg := by unfold dstep; rw [hdg]
    rw [ed]
    refine Ev.step (f := fun k => (moraineref02_plus.f k ([0, 0, 0] ++ Bit.bits v) ([0] ++ Bit.bits v)).bind fun t250 => (moraineref02_small.f k (dg : Int)).bind fun t253 => (moraineref02_plus.f k t250 t253).bind fun t256 => (if (t256.length : Int) > 1536 then (some (false, ([] : List Int), 6)) else (moraineref02_Parse.l1 k ⟨l.toArray⟩ t256 ((i + 1 : Nat) : Int)))) (fun k => ?_) ?_
    · rw [moraineref02_Parse.l1, if_pos (by rw [ba_size]; omega), bsome, if_pos (by simp; omega), bsome, if_pos (by simp; omega)]
      refine congrArg (Option.bind _) (funext fun t250 => ?_)
      rw [if_pos (by omega), eb, w_next i (by omega)]
    · refine Ev.rbind p1 (Ev.rbind s1 (Ev.rbind p2 ?_))
      by_cases hb : (Bit.bits (10 * v + dg)).length ≤ 1536
      · have hr := ih (i + 1) (10 * v + dg) (by omega) hd.2 hb
        refine Ev.congr (fun k => ?_) hr
        rw [if_neg (by omega)]
      · refine Ev.congr (f := fun _ => some (false, [], 6)) (fun k => ?_) ?_
        · rw [if_pos (by omega)]
        · unfold resV
          rw [if_neg (by have := bits_mono (fold_ge (l.drop (i + 1)) (10 * v + dg)); omega)]
          exact Ev.now _
/-- What Parse answers of a value. -/
def refR (z : Int) : Bool × List Int × Int := if Fits z then (vb z, vl z, 0) else (false, [], 6)
theorem resV_neg (v : Nat) : resV true v = refR (-(v : Int)) := by
  have e : (-(v : Int)).natAbs = v := by omega
  have hf : (Bit.bits v).length ≤ 1536 ↔ Fits (-(v : Int)) := by
    unfold Fits
    rw [e]
    exact (bits_len v 1536).trans (pow_words v 48 1536 rfl)
  unfold resV refR
  by_cases h : Fits (-(v : Int))
  · rw [if_pos h, if_pos (hf.mpr h)]
    unfold vb vl
    rw [e, show (true && decide (v ≠ 0)) = decide (-(v : Int) < 0) by rw [Bool.true_and, decide_eq_decide]; omega]
  · rw [if_neg h, if_neg (fun g => h (hf.mp g))]
theorem resV_pos (v : Nat) : resV false v = refR (v : Int) := by
  have e : ((v : Int)).natAbs = v := by omega
  have hf : (Bit.bits v).length ≤ 1536 ↔ Fits (v : Int) := by
    unfold Fits
    rw [e]
    exact (bits_len v 1536).trans (pow_words v 48 1536 rfl)
  unfold resV refR
  by_cases h : Fits (v : Int)
  · rw [if_pos h, if_pos (hf.mpr h)]
    unfold vb vl
    rw [e, show (false && decide (v ≠ 0)) = decide ((v : Int) < 0) by rw [Bool.false_and]; exact (decide_eq_false (by omega)).symm]
  · rw [if_neg h, if_neg (fun g => h (hf.mp g))]
theorem mk_z (neg : Bool) (v : Nat) : ∃ z, resV neg v = refR z ∧ mk neg v = mkI z := by
  cases neg with
  | true => exact ⟨-(v : Int), resV_neg v, mk_true v⟩
  | false => exact ⟨(v : Int), resV_pos v, mk_false v⟩
/-- From the sign on. -/
theorem tail_at (l : List UInt8) (hl : l.length ≤ 1000) (at_ : Nat) (ha : at_ ≤ l.length) (neg : Bool) (hn : (l.drop at_) ≠ [] → (l.drop at_).all isDig = true → (bt ⟨l.toArray⟩ 0 == 45) = neg) :
    ∃ r, Ev (fun k => moraineref02_Parse.l0 k ⟨l.toArray⟩ (at_ : Int) (at_ : Int)) r ∧ ((r = (false, [], 9) ∧ digR neg (l.drop at_) = (false, [], 9)) ∨ ∃ z, r = refR z ∧ digR neg (l.drop at_) = mkI z) := by
  by_cases hd : (l.drop at_).all isDig = true
  · by_cases he : l.drop at_ = []
    · have e0 : at_ = l.length := by have := List.drop_eq_nil_iff.mp he; omega
      refine ⟨(false, [], 9), check_ok l hl at_ _ ?_ (l.length - at_) at_ (by omega) hd, .inl ⟨rfl, ?_⟩⟩
      · refine Ev.congr (f := fun _ => some (false, [], 9)) (fun k => ?_) (Ev.now _)
        rw [if_pos (by rw [ba_size, e0])]
      · unfold digR
        rw [if_neg (fun h => h.1 he)]
    · have e0 : at_ < l.length := by
        rcases Nat.lt_or_ge at_ l.length with h | h
        · exact h
        · exact absurd (List.drop_eq_nil_of_le h) he
      have hr := digits_from l hl neg (by omega) (hn he hd) (l.length - at_) at_ 0 (by omega) hd (by rw [bits_zero]; decide)
      rw [bits_zero, ← decv_fold] at hr
      obtain ⟨z, h1, h2⟩ := mk_z neg (decv (l.drop at_))
      refine ⟨resV neg (decv (l.drop at_)), check_ok l hl at_ _ ?_ (l.length - at_) at_ (by omega) hd, .inr ⟨z, h1, ?_⟩⟩
      · refine Ev.congr (fun k => ?_) hr
        rw [if_neg (by rw [ba_size]; omega)]
      · unfold digR
        rw [if_pos ⟨he, hd⟩, h2]
  · have hd' : (l.drop at_).all isDig = false := by simpa using hd
    refine ⟨(false, [], 9), check_bad l hl at_ (l.length - at_) at_ (by omega) hd', .inl ⟨rfl, ?_⟩⟩
    unfold digR
    rw [if_neg (fun h => hd h.2)]
theorem j_at (l : List UInt8) (at_ : Nat) (sg : Bool) (x : Nat) (hx : x = if sg then 1 else at_) (r : Bool × List Int × Int) (h : Ev (fun k => moraineref02_Parse.l0 k ⟨l.toArray⟩ (x : Int) (x : Int)) r) : Ev (fun k => moraineref02_Parse.j0 k ⟨l.toArray⟩ (at_ : Int) sg) r := by
  cases sg with
  | true =>
    have hx1 : x = 1 := by simpa using hx
    subst hx1
    refine Ev.step (f := fun k => moraineref02_Parse.j1 k ⟨l.toArray⟩ 1) (fun k => ?_) ?_
    · rw [moraineref02_Parse.j0, if_pos rfl]
    · exact Ev.step (fun k => by rw [moraineref02_Parse.j1]; rfl) h
  | false =>
    have hx1 : x = at_ := by simpa using hx
    subst hx1
    refine Ev.step (f := fun k => moraineref02_Parse.j1 k ⟨l.toArray⟩ (x : Int)) (fun k => ?_) ?_
    · rw [moraineref02_Parse.j0, if_neg (by decide)]
    · exact Ev.step (fun k => by rw [moraineref02_Parse.j1]) h
/-- Parse: the number of a text, or none; as the program's. -/
theorem Parse_at (l : List UInt8) (hl : l.length ≤ 1000) :
    ∃ r, Ev (fun k => moraineref02_Parse.f k ⟨l.toArray⟩) r ∧ ((r = (false, [], 9) ∧ parseR l = (false, [], 9)) ∨ ∃ z, r = refR z ∧ parseR l = mkI z) := by
  cases l with
  | nil =>
    obtain ⟨r, h1, h2⟩ := tail_at [] hl 0 (by decide) false (fun h => absurd rfl h)
    refine ⟨r, ?_, h2⟩
    unfold moraineref02_Parse.f
    refine Ev.congr (fun k => ?_) (j_at [] 0 false 0 rfl r h1)
    rw [if_neg (by rw [ba_size]; decide)]
    rfl
  | cons b t =>
    have hb : bt ⟨(b :: t).toArray⟩ 0 = ((b.toNat : Nat) : Int) := bt_list (b :: t) 0 (by simp)
    have hs : (((⟨(b :: t).toArray⟩ : ByteArray).size : Nat) : Int) > 0 := by rw [ba_size, List.length_cons]; omega
    have hb45 : b = 45 ↔ b.toNat = 45 := by rw [← UInt8.toNat_inj]; rfl
    have hb43 : b = 43 ↔ b.toNat = 43 := by rw [← UInt8.toNat_inj]; rfl
    by_cases h45 : b = 45
    · obtain ⟨r, h1, h2⟩ := tail_at (b :: t) hl 1 (by simp) true (fun _ _ => by rw [hb, hb45.mp h45]; rfl)
      refine ⟨r, ?_, ?_⟩
      · unfold moraineref02_Parse.f
        refine Ev.congr (fun k => ?_) (j_at (b :: t) 0 true 1 rfl r h1)
        rw [if_pos hs, if_pos hs, if_pos (by rw [hb, hb45.mp h45]; rfl)]
        rfl
      · show (r = _ ∧ (if b = 45 then digR true t else if b = 43 then digR false t else digR false (b :: t)) = _) ∨ ∃ z, r = _ ∧ (if b = 45 then digR true t else if b = 43 then digR false t else digR false (b :: t)) = _
        rw [if_pos h45]
        exact h2
    · have hne : ¬ (bt ⟨(b :: t).toArray⟩ 0 = 45) := by rw [hb]; intro h; exact h45 (hb45.mpr (by omega))
      by_cases h43 : b = 43
      · obtain ⟨r, h1, h2⟩ := tail_at (b :: t) hl 1 (by simp) false (fun _ _ => by rw [hb, hb43.mp h43]; rfl)
        refine ⟨r, ?_, ?_⟩
        · unfold moraineref02_Parse.f
          refine Ev.congr (fun k => ?_) (j_at (b :: t) 0 true 1 rfl r h1)
          rw [if_pos hs, if_pos hs, if_neg hne, hb, hb43.mp h43]
          rfl
        · show (r = _ ∧ (if b = 45 then digR true t else if b = 43 then digR false t else digR false (b :: t)) = _) ∨ ∃ z, r = _ ∧ (if b = 45 then digR true t else if b = 43 then digR false t else digR false (b :: t)) = _
          rw [if_neg h45, if_pos h43]
          exact h2
      · obtain ⟨r, h1, h2⟩ := tail_at (b :: t) hl 0 (by simp) false (fun _ _ => by rw [hb]; exact beq_eq_false_iff_ne.mpr (by intro h; exact h45 (hb45.mpr (by omega))))
        refine ⟨r, ?_, ?_⟩
        · unfold moraineref02_Parse.f
          refine Ev.congr (fun k => ?_) (j_at (b :: t) 0 false 0 rfl r h1)
          rw [if_pos hs, if_pos hs, if_neg hne, hb, show ((((b.toNat : Nat) : Int)) == 43) = false from beq_eq_false_iff_ne.mpr (by intro h; exact h43 (hb43.mpr (by omega)))]
          rfl
        · show (r = _ ∧ (if b = 45 then digR true t else if b = 43 then digR false t else digR false (b :: t)) = _) ∨ ∃ z, r = _ ∧ (if b = 45 then digR true t else if b = 43 then digR false t else digR false (b :: t)) = _
          rw [if_neg h45, if_neg h43]
          exact h2
end Go.Proofs.YthhpnlbeniihhaaDoor.RefP
namespace Go.Proofs.YthhpnlbeniihhaaDoor
open Go.RowKit Go.Proofs.YthhpnlbeniihhaaDoorW.PrintWords Go.Proofs.YthhpnlbeniihhaaDoorW.PrintLast Go.Proofs.YthhpnlbeniihhaaDoorW.PrintMore Go.Proofs.YthhpnlbeniihhaaDoor.Limb Go.Proofs.YthhpnlbeniihhaaDoor.Bit Go.Proofs.YthhpnlbeniihhaaDoor.NumA Go.Proofs.YthhpnlbeniihhaaDoor.NumB Go.Proofs.YthhpnlbeniihhaaDoor.NumJ Go.Proofs.YthhpnlbeniihhaaDoor.NumU Go.Proofs.YthhpnlbeniihhaaDoor.Vals Go.Proofs.YthhpnlbeniihhaaDoor.Plain Go.Proofs.YthhpnlbeniihhaaDoor.RefC Go.Proofs.YthhpnlbeniihhaaDoor.RefP
set_option linter.unusedVariables false
set_option linter.unusedSimpArgs false
/-- What the reference's Parse answers, out of what the program's answers. -/
def refP (l : List UInt8) : Bool × List Int × Int := if (parseR l).2.2 = 0 then ((parseR l).1, Bit.bits (mag (parseR l).2.1), 0) else (false, [], (parseR l).2.2)
theorem refP_form {l : List UInt8} (h : parseR l = (false, [], 9)) : refP l = (false, [], 9) := by unfold refP; rw [h]; rfl
theorem refP_val {l : List UInt8} {z : Int} (h : parseR l = mkI z) : refP l = refR z := by
  unfold refP refR
  rw [h]
  by_cases hf : Fits z
  · rw [if_pos hf, mkI_fits hf, if_pos rfl]
    show (sb z, Bit.bits (mag (sl z)), 0) = _
    unfold sl vl
    rw [mag_limbs]
    rfl
  · rw [if_neg hf, mkI_big hf, if_neg (by decide)]
def moraineref02_Parse.f (a0 : ByteArray) : Option (Bool × List Int × Int) := if a0.size ≤ 1000 then some (refP a0.data.toList) else none
theorem moraineref02_Parse.calls (a0 : ByteArray) (r1 : Bool) (r2 : List Int) (r3 : Int) (w : World) (h : moraineref02_Parse.f a0 = some (r1, r2, r3)) :
    Calls Tryd.prog 26 #[.string a0] w fun e w' => ∃ v1_ : Value, e = .returned (.tuple #[.agg #[.bool r1, v1_], .int .i64 r3]) ∧ Kd.R (Kd.int .u8) 5 w' w.heap.size (fun _ => True) v1_ r2 ∧ Below w.heap.size w w' := by
  unfold moraineref02_Parse.f at h
  by_cases hg : a0.size ≤ 1000
  · rw [if_pos hg] at h
    obtain ⟨r, hr, hc⟩ := Parse_at a0.data.toList (by simpa using hg)
    have e : refP a0.data.toList = r := by
      rcases hc with ⟨rfl, h2⟩ | ⟨z, rfl, h2⟩
      · exact refP_form h2
      · exact refP_val h2
    obtain ⟨k, hk⟩ := hr.rounds
    have ea : (⟨a0.data.toList.toArray⟩ : ByteArray) = a0 := ByteArray.ext (by simp)
    rw [ea, ← e] at hk
    exact PRef.moraineref02_Parse.calls k a0 r1 r2 r3 w (hk.trans h)
  · rw [if_neg hg] at h; cases h
end Go.Proofs.YthhpnlbeniihhaaDoor
-- Printed by a program of this session's (wip/tools/printr.py, over the kit's print program).
namespace Go.Proofs.YthhpnlbeniihhaaDoor.PNumParses
open Go.RowKit Go.Proofs.YthhpnlbeniihhaaDoorW.PrintWords Go.Proofs.YthhpnlbeniihhaaDoorW.PrintLast Go.Proofs.YthhpnlbeniihhaaDoorW.PrintMore
attribute [local go_sem] max2_int min2_int max_two min_two max_three min_three max_four min_four   -- for this text's walks alone
set_option linter.unusedVariables false
set_option linter.unusedSimpArgs false
def errW : Option Int → Value
  | none => .nilIface
  | some c => .iface 0 (.int .i64 c)
theorem errW_none : errW none = .nilIface := rfl
theorem errW_some (c : Int) : errW (some c) = .iface 0 (.int .i64 c) := rfl

-- the values' own types
end Go.Proofs.YthhpnlbeniihhaaDoor.PNumParses
