/- Of any two numbers: their product is the document's, and they stay (law NumMuls). Conditions: none. -/
import Derived.Test.YthhpnlbeniihhaaDoorTie
import Derived.WalkKit
import Derived.ProofKit
import Derived.OpenShut
import Derived.Deep.DeepHandedRow
import Derived.Carry
import Derived.Test.YthhpnlbeniihhaaDoorCNumMuls4
-- Printed by a program of this session's (wip/tools/printr.py, over the kit's print program).
namespace Go.Proofs.YthhpnlbeniihhaaDoor.PNumMuls
open Go.RowKit Go.Proofs.YthhpnlbeniihhaaDoorW.PrintWords Go.Proofs.YthhpnlbeniihhaaDoorW.PrintLast Go.Proofs.YthhpnlbeniihhaaDoorW.PrintMore
attribute [local go_sem] max2_int min2_int max_two min_two max_three min_three max_four min_four   -- for this text's walks alone
set_option linter.unusedVariables false
set_option linter.unusedSimpArgs false
def morainelaw02_NumMuls.j0 : Nat → Bool → Bool → List Int → Bool → List Int → Option (Bool)
  | 0, _, _, _, _, _ => none
  | k + 1, x14, x115000, x115001, x116000, x116001 => if x14 = true then ((morainelaw02_awake.f).bind fun t118 => (some t118)) else ((moraineref02_Copy.f x115000 x115001).bind fun bt119 => ((moraineref02_Copy.f x116000 x116001).bind fun bt123 => ((num_Mul.f x115000 x115001 x116000 x116001).bind fun bt129 => ((moraineref02_Value.f bt119.1 bt119.2).bind fun bt135 => ((moraineref02_Value.f bt123.1 bt123.2).bind fun bt139 => ((moraineref02_Mul.f bt135.1 bt135.2 bt139.1 bt139.2).bind fun bt143 => ((morainelaw02_is.f bt129.1 bt129.2.1 bt129.2.2 bt143.1 bt143.2).bind fun t147 => (if t147 = true then ((morainelaw02_spoil.f k bt129.1 bt129.2.1).bind fun t148 => ((moraineref02_Same.f x115000 x115001 bt119.1 bt119.2).bind fun t149 => (if t149 = true then ((moraineref02_Same.f x116000 x116001 bt123.1 bt123.2).bind fun t150 => (if t150 = true then ((morainelaw02_awake.f).bind fun t151 => (some t151)) else (some false))) else (some false)))) else (some false)))))))))
def morainelaw02_NumMuls.f (k : Nat) (a0_0 : Bool) (l0_1 : List Int) (a1_0 : Bool) (l1_1 : List Int) : Option (Bool) := (morainelaw02_long.f a0_0 l0_1).bind fun t116 => (if t116 = true then (morainelaw02_NumMuls.j0 k true a0_0 l0_1 a1_0 l1_1) else ((morainelaw02_long.f a1_0 l1_1).bind fun t117 => (morainelaw02_NumMuls.j0 k t117 a0_0 l0_1 a1_0 l1_1)))
def morainelaw02_NumMuls.T3 : Bool × List (List Nat × List Nat) := (true, [([], []), ([0], [0]), ([], []), ([2, 1], [2]), ([], []), ([], []), ([4, 1, 3, 0, 1, 4, 5], [1, 4]), ([5, 3, 6, 0, 1, 2, 3, 4, 5, 6], [3, 5])])
def morainelaw02_NumMuls.B3 : List Nat := [0, 1, 0, 7, 0, 0, 63, 127]
theorem morainelaw02_NumMuls.tab3 : rtab .any (opsOf Tryd.f8 3) = morainelaw02_NumMuls.T3 := by kernel_rfl
theorem morainelaw02_NumMuls.bits3 : waitsOk morainelaw02_NumMuls.T3.2 morainelaw02_NumMuls.B3 = true := by kernel_rfl
def morainelaw02_NumMuls.T5 : Bool × List (List Nat × List Nat) := (true, [([], []), ([], []), ([], []), ([2], [2]), ([], []), ([4, 3], [4]), ([3, 5, 5], [3, 5]), ([0, 1, 6, 6], [0, 1, 6]), ([7], [7])])
def morainelaw02_NumMuls.B5 : List Nat := [0, 0, 0, 4, 0, 28, 60, 127, 255]
theorem morainelaw02_NumMuls.tab5 : rtab .any (opsOf Tryd.f8 5) = morainelaw02_NumMuls.T5 := by kernel_rfl
theorem morainelaw02_NumMuls.bits5 : waitsOk morainelaw02_NumMuls.T5.2 morainelaw02_NumMuls.B5 = true := by kernel_rfl
set_option maxHeartbeats 8000000 in
set_option maxRecDepth 100000 in
theorem morainelaw02_NumMuls.calls (k : Nat) (a0_0 : Bool) (A0_1 : Option Addr) (c0_1 : Nat) (l0_1 : List Int) (a1_0 : Bool) (A1_1 : Option Addr) (c1_1 : Nat) (l1_1 : List Int) (r : Bool) (w : World) (hr : r = true) (hr0_1 : Kd.C (Kd.int .u32) w A0_1 l0_1.length l0_1) (hc0_1 : l0_1.length ≤ c0_1) (hr1_1 : Kd.C (Kd.int .u32) w A1_1 l1_1.length l1_1) (hc1_1 : l1_1.length ≤ c1_1) (h : morainelaw02_NumMuls.f k a0_0 l0_1 a1_0 l1_1 = some r) (ht : NumV.Tab w) :
    Calls Tryd.prog 8 #[.agg #[.bool a0_0, .slice A0_1 l0_1.length c0_1], .agg #[.bool a1_0, .slice A1_1 l1_1.length c1_1]] w fun e w' => e = .returned (.bool r) ∧ Below w.heap.size w w' := by
  have HT := Aside0.mk ht
  clear ht
  have hu25 := Tryd.underlying25
  have HR0_1 := Aside0.mk hr0_1
  have HC0_1 := Aside0.mk hc0_1
  clear hr0_1 hc0_1
  have HR1_1 := Aside0.mk hr1_1
  have HC1_1 := Aside0.mk hc1_1
  clear hr1_1 hc1_1
  have HB := Aside0.mk (Below.refl w.heap.size w)
  have H : ((morainelaw02_long.f a0_0 l0_1).bind fun t116 => (if t116 = true then (morainelaw02_NumMuls.j0 k true a0_0 l0_1 a1_0 l1_1) else ((morainelaw02_long.f a1_0 l1_1).bind fun t117 => (morainelaw02_NumMuls.j0 k t117 a0_0 l0_1 a1_0 l1_1)))) = some r := h
  clear h
  have HC3 := Aside0.mk H
  clear H
  go_enter Tryd.func8, Tryd.ntmps8
  go_upto_region 1 with (first | ((with_reducible refine gate_dst (N := 2) rfl ?_); refine box_event ?hg (N := 2) ?hd (cs := #[.bool a0_0, .slice A0_1 l0_1.length c0_1]) (t := 25) ?hr ?_; (case hd => rfl); (case hg => rfl); (case hr => first | (go_simp; done) | (go_simp; rfl)); intro gb114 hg w4 hbox hb; have BK114 := Aside0.mk (hbox); have GW114 := qg hg (by repeat (first | (with_reducible first | exact HB.out | apply below_alloc | apply pw_below_drewN | apply below_drew1) | exact HB.out)); have GE114 := qg hg (by repeat (first | (with_reducible first | exact HB.out | apply below_alloc | apply pw_below_drewN | apply below_drew1) | exact HB.out)); replace HB := Aside0.mk (below_step (by repeat (first | (with_reducible first | exact HB.out | apply below_alloc | apply pw_below_drewN | apply below_drew1) | exact HB.out)) hb); clear hb hbox hg) | ((with_reducible refine gate_dst (N := 3) rfl ?_); refine box_event ?hg (N := 3) ?hd (cs := #[.bool a1_0, .slice A1_1 l1_1.length c1_1]) (t := 25) ?hr ?_; (case hd => rfl); (case hg => rfl); (case hr => first | (go_simp; done) | (go_simp; rfl)); intro gb115 hg w5 hbox hb; have BK115 := Aside0.mk (hbox); have GW115 := qg hg (by repeat (first | (with_reducible first | exact HB.out | apply below_alloc | apply pw_below_drewN | apply below_drew1 | refine below_set ?_ GE114.out) | exact HB.out)); have GE115 := qg hg (by repeat (first | (with_reducible first | exact HB.out | apply below_alloc | apply pw_below_drewN | apply below_drew1 | refine below_set ?_ GE114.out) | exact HB.out)); replace HB := Aside0.mk (below_step (by repeat (first | (with_reducible first | exact HB.out | apply below_alloc | apply pw_below_drewN | apply below_drew1 | refine below_set ?_ GE114.out) | exact HB.out)) hb); have NB114_115 := qn BK114 hg; have NB115_114 := qm BK114 hg; replace BK114 := qb BK114 hb; clear hb hbox hg))
  (try simp only [Act.put, List.setIfInBounds_toArray, List.set_cons_zero, List.set_cons_succ])
  go_cut [14] (fun v14 wc => ∃ (kq : Nat) (x14_2 : Bool), v14 = .bool x14_2 ∧ Aside0 (morainelaw02_NumMuls.j0 kq x14_2 a0_0 l0_1 a1_0 l1_1 = some r) ∧ Aside0 (kq ≤ k) ∧ Aside0 (wc.heap[gb114]? = some (.cells #[.bool a0_0, (.slice A0_1 l0_1.length c0_1)] 25 (0, 0))) ∧ Aside0 (wc.heap[gb115]? = some (.cells #[.bool a1_0, (.slice A1_1 l1_1.length c1_1)] 25 (0, 0))) ∧ Aside0 (Below w.heap.size w wc))
  case first =>
    have H := HC3.out
    clear HC3
    replace H := Option.bind_eq_some_iff.mp H
    obtain ⟨t116, A60, H⟩ := H
    replace H : (if t116 = true then (morainelaw02_NumMuls.j0 k true a0_0 l0_1 a1_0 l1_1) else ((morainelaw02_long.f a1_0 l1_1).bind fun t117 => (morainelaw02_NumMuls.j0 k t117 a0_0 l0_1 a1_0 l1_1))) = some r := H
    have A6 := Aside0.mk A60
    clear A60
    by_cases c7 : t116 = true
    · subst c7
      have H1 : (morainelaw02_NumMuls.j0 k true a0_0 l0_1 a1_0 l1_1) = some r := by rw [if_pos rfl] at H; exact H
      clear H
      have H := H1
      clear H1
      have H' := Aside0.mk H
      clear H
      have hnb8 := NB114_115.out
      have hnc8 := NB115_114.out
      have hcz9_0 : w5.cell? ⟨gb114, 0, none⟩ = some (.bool a0_0) := (blk_cell BK114.out 0).trans rfl
      have hcz9_1 : w5.cell? ⟨gb114, 1, none⟩ = some (.slice A0_1 l0_1.length c0_1) := (blk_cell BK114.out 1).trans rfl
      have hfz9_0 := blk_frozen BK114.out 0
      have hfz9_1 := blk_frozen BK114.out 1
      go_wp2_with (first | ((with_reducible refine gate_callee (f := 21) rfl ?_); refine goesL_ (some 10) rfl rfl Tryd.func21 (by kernel_rfl) rfl #[.agg #[.bool a0_0, .slice A0_1 l0_1.length c0_1]] rfl (by (try simp only [List.map_toArray, List.map_cons, List.map_nil]); first | done | rfl | (simp only [List.length_drop, List.length_take]; rfl)) ?_; (with_reducible refine (morainelaw02_long.calls a0_0 _ _ l0_1 true _ ?side1 ?side2 A6.out).mono ?_); (case side1 => repeat (first | exact (Kd.C_below HR0_1.out HB.out) | (with_reducible refine Kd.C_alloc ?_ _) | (with_reducible refine Kd.C_drewN ?_ _) | (with_reducible refine Kd.C_drew ?_))); (case side2 => exact HC0_1.out); rintro e w10 ⟨rfl, hb⟩; refine ⟨_, rfl, ?_⟩; replace BK114 := qb BK114 hb; replace BK115 := qb BK115 hb; replace HB := Aside0.mk (below_step (by repeat (first | (with_reducible first | exact HB.out | apply below_alloc | apply pw_below_drewN | apply below_drew1 | refine qs ?_ (by assumption)) | exact HB.out)) hb); (try clear hb); (try clear hb2); (try clear hk); (try clear hi)))
      go_meet
      case rel => exact ⟨_, (true), (by first | rfl | (simp; done) | (simp [*]; done)), H', ⟨by first | omega | exact Nat.le_refl _⟩, ⟨qk BK114⟩, ⟨qk BK115⟩, ⟨by repeat (first | (with_reducible first | exact HB.out | apply below_alloc | apply pw_below_drewN | apply below_drew1 | refine qs ?_ (by assumption)) | exact HB.out)⟩⟩
    · replace c7 := Bool.eq_false_iff.mpr c7
      subst c7
      have H1 : ((morainelaw02_long.f a1_0 l1_1).bind fun t117 => (morainelaw02_NumMuls.j0 k t117 a0_0 l0_1 a1_0 l1_1)) = some r := by rw [if_neg (show ¬ (false = true) by decide)] at H; exact H
      clear H
      have H := H1
      clear H1
      replace H := Option.bind_eq_some_iff.mp H
      obtain ⟨t117, A110, H⟩ := H
      replace H : (morainelaw02_NumMuls.j0 k t117 a0_0 l0_1 a1_0 l1_1) = some r := H
      have A11 := Aside0.mk A110
      clear A110
      have H' := Aside0.mk H
      clear H
      have hnb12 := NB114_115.out
      have hnc12 := NB115_114.out
      have hcz13_0 : w5.cell? ⟨gb114, 0, none⟩ = some (.bool a0_0) := (blk_cell BK114.out 0).trans rfl
      have hcz13_1 : w5.cell? ⟨gb114, 1, none⟩ = some (.slice A0_1 l0_1.length c0_1) := (blk_cell BK114.out 1).trans rfl
      have hfz13_0 := blk_frozen BK114.out 0
      have hfz13_1 := blk_frozen BK114.out 1
      go_wp2_with (first | ((with_reducible refine gate_callee (f := 21) rfl ?_); refine goesL_ (some 10) rfl rfl Tryd.func21 (by kernel_rfl) rfl #[.agg #[.bool a0_0, .slice A0_1 l0_1.length c0_1]] rfl (by (try simp only [List.map_toArray, List.map_cons, List.map_nil]); first | done | rfl | (simp only [List.length_drop, List.length_take]; rfl)) ?_; (with_reducible refine (morainelaw02_long.calls a0_0 _ _ l0_1 false _ ?side1 ?side2 A6.out).mono ?_); (case side1 => repeat (first | exact (Kd.C_below HR0_1.out HB.out) | (with_reducible refine Kd.C_alloc ?_ _) | (with_reducible refine Kd.C_drewN ?_ _) | (with_reducible refine Kd.C_drew ?_))); (case side2 => exact HC0_1.out); rintro e w14 ⟨rfl, hb⟩; refine ⟨_, rfl, ?_⟩; replace BK114 := qb BK114 hb; replace BK115 := qb BK115 hb; replace HB := Aside0.mk (below_step (by repeat (first | (with_reducible first | exact HB.out | apply below_alloc | apply pw_below_drewN | apply below_drew1 | refine qs ?_ (by assumption)) | exact HB.out)) hb); (try clear hb); (try clear hb2); (try clear hk); (try clear hi); have hcz15_0 : w14.cell? ⟨gb115, 0, none⟩ = some (.bool a1_0) := (blk_cell BK115.out 0).trans rfl; have hcz15_1 : w14.cell? ⟨gb115, 1, none⟩ = some (.slice A1_1 l1_1.length c1_1) := (blk_cell BK115.out 1).trans rfl; have hfz15_0 := blk_frozen BK115.out 0; have hfz15_1 := blk_frozen BK115.out 1) | (go_at_call 21; (with_reducible refine (morainelaw02_long.calls a1_0 _ _ l1_1 t117 _ ?side1 ?side2 A11.out).mono ?_); (case side1 => repeat (first | exact (Kd.C_below HR1_1.out HB.out) | (with_reducible refine Kd.C_alloc ?_ _) | (with_reducible refine Kd.C_drewN ?_ _) | (with_reducible refine Kd.C_drew ?_))); (case side2 => exact HC1_1.out); rintro e w16 ⟨rfl, hb⟩; replace BK114 := qb BK114 hb; replace BK115 := qb BK115 hb; replace HB := Aside0.mk (below_step (by repeat (first | (with_reducible first | exact HB.out | apply below_alloc | apply pw_below_drewN | apply below_drew1 | refine qs ?_ (by assumption)) | exact HB.out)) hb); (try clear hb); (try clear hb2); (try clear hk); (try clear hi)))
      go_meet
      case rel => exact ⟨_, (t117), (by first | rfl | (simp; done) | (simp [*]; done)), H', ⟨by first | omega | exact Nat.le_refl _⟩, ⟨qk BK114⟩, ⟨qk BK115⟩, ⟨by repeat (first | (with_reducible first | exact HB.out | apply below_alloc | apply pw_below_drewN | apply below_drew1 | refine qs ?_ (by assumption)) | exact HB.out)⟩⟩
  case rest =>
    clear HC3
    try clear c1
    try clear c2
    try clear p2
    try clear c7
    try clear c8
    try clear c12
    try clear hcz13_0
    try clear hcz13_1
    try clear hcz15_0
    try clear hcz15_1
    try clear hcz9_0
    try clear hcz9_1
    try clear hfz13_0
    try clear hfz13_1
    try clear hfz15_0
    try clear hfz15_1
    try clear hfz9_0
    try clear hfz9_1
    obtain ⟨kq, x14_2, rfl, HA, HJ2, BK114, BK115, HB⟩ := hcut
    cases kq with
    | zero => exact absurd HA.out (by simp [morainelaw02_NumMuls.j0])
    | succ kj2 =>
      have H := HA.out
      clear HA
      simp only [morainelaw02_NumMuls.j0] at H
      by_cases c17 : x14_2 = true
      · subst c17
        have H1 : ((morainelaw02_awake.f).bind fun t118 => (some t118)) = some r := by rw [if_pos rfl] at H; exact H
        clear H
        have H := H1
        clear H1
        replace H := Option.bind_eq_some_iff.mp H
        obtain ⟨t118, A180, H⟩ := H
        replace H : (some t118) = some r := H
        have A18 := Aside0.mk A180
        clear A180
        obtain rfl := Option.some.inj H
        go_wp2_with (first | ((with_reducible refine gate_callee (f := 20) rfl ?_); refine goesL_ (some 15) rfl rfl Tryd.func20 (by kernel_rfl) rfl #[] rfl (by (try simp only [List.map_toArray, List.map_cons, List.map_nil]); first | done | rfl | (simp only [List.length_drop, List.length_take]; rfl)) ?_; (with_reducible refine (morainelaw02_awake.calls  t118 _ A18.out (NumV.Tab.below HT.out (by repeat (first | exact HB.out | apply below_alloc | apply pw_below_drewN | apply below_drew1 | refine below_set ?_ (Aside0.out (by assumption)))))).mono ?_); rintro e w19 ⟨rfl, hb⟩; refine ⟨_, rfl, ?_⟩; replace BK114 := qb BK114 hb; replace BK115 := qb BK115 hb; replace HB := Aside0.mk (below_step (by repeat (first | (with_reducible first | exact HB.out | apply below_alloc | apply pw_below_drewN | apply below_drew1 | refine qs ?_ (by assumption)) | exact HB.out)) hb); (try clear hb); (try clear hb2); (try clear hk); (try clear hi)))
        go_ret
        exact ⟨by first | rfl | (simp [errW_none, errW_some] <;> rfl) | (simp [*, errW_none, errW_some] <;> rfl), by repeat (first | (with_reducible first | exact HB.out | apply below_alloc | apply pw_below_drewN | apply below_drew1 | refine qs ?_ (by assumption)) | exact HB.out)⟩
      · replace c17 := Bool.eq_false_iff.mpr c17
        subst c17
        have H1 : ((moraineref02_Copy.f a0_0 l0_1).bind fun bt119 => ((moraineref02_Copy.f a1_0 l1_1).bind fun bt123 => ((num_Mul.f a0_0 l0_1 a1_0 l1_1).bind fun bt129 => ((moraineref02_Value.f bt119.1 bt119.2).bind fun bt135 => ((moraineref02_Value.f bt123.1 bt123.2).bind fun bt139 => ((moraineref02_Mul.f bt135.1 bt135.2 bt139.1 bt139.2).bind fun bt143 => ((morainelaw02_is.f bt129.1 bt129.2.1 bt129.2.2 bt143.1 bt143.2).bind fun t147 => (if t147 = true then ((morainelaw02_spoil.f kj2 bt129.1 bt129.2.1).bind fun t148 => ((moraineref02_Same.f a0_0 l0_1 bt119.1 bt119.2).bind fun t149 => (if t149 = true then ((moraineref02_Same.f a1_0 l1_1 bt123.1 bt123.2).bind fun t150 => (if t150 = true then ((morainelaw02_awake.f).bind fun t151 => (some t151)) else (some false))) else (some false)))) else (some false))))))))) = some r := by rw [if_neg (show ¬ (false = true) by decide)] at H; exact H
        clear H
        have H := H1
        clear H1
        replace H := Option.bind_eq_some_iff.mp H
        obtain ⟨⟨t119, t120⟩, A200, H⟩ := H
        replace H : ((moraineref02_Copy.f a1_0 l1_1).bind fun bt123 => ((num_Mul.f a0_0 l0_1 a1_0 l1_1).bind fun bt129 => ((moraineref02_Value.f t119 t120).bind fun bt135 => ((moraineref02_Value.f bt123.1 bt123.2).bind fun bt139 => ((moraineref02_Mul.f bt135.1 bt135.2 bt139.1 bt139.2).bind fun bt143 => ((morainelaw02_is.f bt129.1 bt129.2.1 bt129.2.2 bt143.1 bt143.2).bind fun t147 => (if t147 = true then ((morainelaw02_spoil.f kj2 bt129.1 bt129.2.1).bind fun t148 => ((moraineref02_Same.f a0_0 l0_1 t119 t120).bind fun t149 => (if t149 = true then ((moraineref02_Same.f a1_0 l1_1 bt123.1 bt123.2).bind fun t150 => (if t150 = true then ((morainelaw02_awake.f).bind fun t151 => (some t151)) else (some false))) else (some false)))) else (some false)))))))) = some r := H
        have A20 := Aside0.mk A200
        clear A200
        replace H := Option.bind_eq_some_iff.mp H
        obtain ⟨⟨t123, t124⟩, A210, H⟩ := H
        replace H : ((num_Mul.f a0_0 l0_1 a1_0 l1_1).bind fun bt129 => ((moraineref02_Value.f t119 t120).bind fun bt135 => ((moraineref02_Value.f t123 t124).bind fun bt139 => ((moraineref02_Mul.f bt135.1 bt135.2 bt139.1 bt139.2).bind fun bt143 => ((morainelaw02_is.f bt129.1 bt129.2.1 bt129.2.2 bt143.1 bt143.2).bind fun t147 => (if t147 = true then ((morainelaw02_spoil.f kj2 bt129.1 bt129.2.1).bind fun t148 => ((moraineref02_Same.f a0_0 l0_1 t119 t120).bind fun t149 => (if t149 = true then ((moraineref02_Same.f a1_0 l1_1 t123 t124).bind fun t150 => (if t150 = true then ((morainelaw02_awake.f).bind fun t151 => (some t151)) else (some false))) else (some false)))) else (some false))))))) = some r := H
        have A21 := Aside0.mk A210
        clear A210
        replace H := Option.bind_eq_some_iff.mp H
        obtain ⟨⟨t129, t130, t133⟩, A220, H⟩ := H
        replace H : ((moraineref02_Value.f t119 t120).bind fun bt135 => ((moraineref02_Value.f t123 t124).bind fun bt139 => ((moraineref02_Mul.f bt135.1 bt135.2 bt139.1 bt139.2).bind fun bt143 => ((morainelaw02_is.f t129 t130 t133 bt143.1 bt143.2).bind fun t147 => (if t147 = true then ((morainelaw02_spoil.f kj2 t129 t130).bind fun t148 => ((moraineref02_Same.f a0_0 l0_1 t119 t120).bind fun t149 => (if t149 = true then ((moraineref02_Same.f a1_0 l1_1 t123 t124).bind fun t150 => (if t150 = true then ((morainelaw02_awake.f).bind fun t151 => (some t151)) else (some false))) else (some false)))) else (some false)))))) = some r := H
        have A22 := Aside0.mk A220
        clear A220
        replace H := Option.bind_eq_some_iff.mp H
        obtain ⟨⟨t135, t136⟩, A230, H⟩ := H
        replace H : ((moraineref02_Value.f t123 t124).bind fun bt139 => ((moraineref02_Mul.f t135 t136 bt139.1 bt139.2).bind fun bt143 => ((morainelaw02_is.f t129 t130 t133 bt143.1 bt143.2).bind fun t147 => (if t147 = true then ((morainelaw02_spoil.f kj2 t129 t130).bind fun t148 => ((moraineref02_Same.f a0_0 l0_1 t119 t120).bind fun t149 => (if t149 = true then ((moraineref02_Same.f a1_0 l1_1 t123 t124).bind fun t150 => (if t150 = true then ((morainelaw02_awake.f).bind fun t151 => (some t151)) else (some false))) else (some false)))) else (some false))))) = some r := H
        have A23 := Aside0.mk A230
        clear A230
        replace H := Option.bind_eq_some_iff.mp H
        obtain ⟨⟨t139, t140⟩, A240, H⟩ := H
        replace H : ((moraineref02_Mul.f t135 t136 t139 t140).bind fun bt143 => ((morainelaw02_is.f t129 t130 t133 bt143.1 bt143.2).bind fun t147 => (if t147 = true then ((morainelaw02_spoil.f kj2 t129 t130).bind fun t148 => ((moraineref02_Same.f a0_0 l0_1 t119 t120).bind fun t149 => (if t149 = true then ((moraineref02_Same.f a1_0 l1_1 t123 t124).bind fun t150 => (if t150 = true then ((morainelaw02_awake.f).bind fun t151 => (some t151)) else (some false))) else (some false)))) else (some false)))) = some r := H
        have A24 := Aside0.mk A240
        clear A240
        replace H := Option.bind_eq_some_iff.mp H
        obtain ⟨⟨t143, t144⟩, A250, H⟩ := H
        replace H : ((morainelaw02_is.f t129 t130 t133 t143 t144).bind fun t147 => (if t147 = true then ((morainelaw02_spoil.f kj2 t129 t130).bind fun t148 => ((moraineref02_Same.f a0_0 l0_1 t119 t120).bind fun t149 => (if t149 = true then ((moraineref02_Same.f a1_0 l1_1 t123 t124).bind fun t150 => (if t150 = true then ((morainelaw02_awake.f).bind fun t151 => (some t151)) else (some false))) else (some false)))) else (some false))) = some r := H
        have A25 := Aside0.mk A250
        clear A250
        replace H := Option.bind_eq_some_iff.mp H
        obtain ⟨t147, A260, H⟩ := H
        replace H : (if t147 = true then ((morainelaw02_spoil.f kj2 t129 t130).bind fun t148 => ((moraineref02_Same.f a0_0 l0_1 t119 t120).bind fun t149 => (if t149 = true then ((moraineref02_Same.f a1_0 l1_1 t123 t124).bind fun t150 => (if t150 = true then ((morainelaw02_awake.f).bind fun t151 => (some t151)) else (some false))) else (some false)))) else (some false)) = some r := H
        have A26 := Aside0.mk A260
        clear A260
        by_cases c27 : t147 = true
        · subst c27
          have H1 : ((morainelaw02_spoil.f kj2 t129 t130).bind fun t148 => ((moraineref02_Same.f a0_0 l0_1 t119 t120).bind fun t149 => (if t149 = true then ((moraineref02_Same.f a1_0 l1_1 t123 t124).bind fun t150 => (if t150 = true then ((morainelaw02_awake.f).bind fun t151 => (some t151)) else (some false))) else (some false)))) = some r := by rw [if_pos rfl] at H; exact H
          clear H
          have H := H1
          clear H1
          replace H := Option.bind_eq_some_iff.mp H
          obtain ⟨t148, A280, H⟩ := H
          replace H : ((moraineref02_Same.f a0_0 l0_1 t119 t120).bind fun t149 => (if t149 = true then ((moraineref02_Same.f a1_0 l1_1 t123 t124).bind fun t150 => (if t150 = true then ((morainelaw02_awake.f).bind fun t151 => (some t151)) else (some false))) else (some false))) = some r := H
          have A28 := Aside0.mk A280
          clear A280
          replace H := Option.bind_eq_some_iff.mp H
          obtain ⟨t149, A290, H⟩ := H
          replace H : (if t149 = true then ((moraineref02_Same.f a1_0 l1_1 t123 t124).bind fun t150 => (if t150 = true then ((morainelaw02_awake.f).bind fun t151 => (some t151)) else (some false))) else (some false)) = some r := H
          have A29 := Aside0.mk A290
          clear A290
          by_cases c30 : t149 = true
          · subst c30
            have H1 : ((moraineref02_Same.f a1_0 l1_1 t123 t124).bind fun t150 => (if t150 = true then ((morainelaw02_awake.f).bind fun t151 => (some t151)) else (some false))) = some r := by rw [if_pos rfl] at H; exact H
            clear H
            have H := H1
            clear H1
            replace H := Option.bind_eq_some_iff.mp H
            obtain ⟨t150, A310, H⟩ := H
            replace H : (if t150 = true then ((morainelaw02_awake.f).bind fun t151 => (some t151)) else (some false)) = some r := H
            have A31 := Aside0.mk A310
            clear A310
            by_cases c32 : t150 = true
            · subst c32
              have H1 : ((morainelaw02_awake.f).bind fun t151 => (some t151)) = some r := by rw [if_pos rfl] at H; exact H
              clear H
              have H := H1
              clear H1
              replace H := Option.bind_eq_some_iff.mp H
              obtain ⟨t151, A330, H⟩ := H
              replace H : (some t151) = some r := H
              have A33 := Aside0.mk A330
              clear A330
              obtain rfl := Option.some.inj H
              try go_wp2
              have n0_ := Aside0.mk (blk_drew BK114.out)
              have n1_ := Aside0.mk (blk_drew BK115.out)
              have n2_ := Aside0.mk (below_drew1 HB.out)
              clear BK114
              clear BK115
              clear HB
              have BK114 := n0_
              have BK115 := n1_
              have HB := n2_
              clear n0_ n1_ n2_
              refine start_ (n := 8) (S := fun w' => w'.cell? ⟨gb114, 0, none⟩ = some (.bool a0_0) ∧ w'.cell? ⟨gb114, 1, none⟩ = some (.slice A0_1 l0_1.length c0_1) ∧ w'.cell? ⟨gb115, 0, none⟩ = some (.bool a1_0) ∧ w'.cell? ⟨gb115, 1, none⟩ = some (.slice A1_1 l1_1.length c1_1)) (ds := []) #[false, false, false, false, false, false, false, false] (by kernel_rfl) rfl rfl ⟨(blk_cell BK114.out 0).trans rfl, (blk_cell BK114.out 1).trans rfl, (blk_cell BK115.out 0).trans rfl, (blk_cell BK115.out 1).trans rfl⟩ (fun hHeld => ?_); refine with_tabW morainelaw02_NumMuls.tab3 morainelaw02_NumMuls.bits3 (fun HT_ HW_ => ?_)
              generalize wc.drew = w34 at BK114 BK115 HB hHeld ⊢
              refine take_ (i := 0) (N := some 16) (v := ?_) (a' := ?_) #[true, false, false, false, false, false, false, false] rfl rfl (take_ofW HT_.out HW_.out (by kernel_rfl)) (fun _ _ _ h => h) (Or.inl ⟨by rfl, ?_⟩) hHeld ?_ ?_
              rotate_left
              · rintro w' ⟨s0, s1, s2, s3⟩
                go_simp
                with_reducible rfl
              rotate_left
              · simp only [Act.put, List.setIfInBounds_toArray, List.set_cons_zero, List.set_cons_succ, i64_w, i32_w]
                rfl
              refine take_ (i := 2) (N := some 18) (v := ?_) (a' := ?_) #[true, false, true, false, false, false, false, false] rfl rfl (take_ofW HT_.out HW_.out (by kernel_rfl)) (fun _ _ _ h => h) (Or.inl ⟨by rfl, ?_⟩) hHeld ?_ ?_
              rotate_left
              · rintro w' ⟨s0, s1, s2, s3⟩
                go_simp
                with_reducible rfl
              rotate_left
              · simp only [Act.put, List.setIfInBounds_toArray, List.set_cons_zero, List.set_cons_succ, i64_w, i32_w]
                rfl
              refine join_ (σ := Value × Value × Nat × Nat) 2 #[true, true, true, true, true, true, false, false] (fun s_ => [(17, .agg #[.bool t119, s_.1]), (19, .agg #[.bool t123, s_.2.1]), (5, .pointer (some ⟨s_.2.2.1, 0, none⟩)), (6, .pointer (some ⟨s_.2.2.2, 0, none⟩))]) (fun s_ w' => (w'.cell? ⟨gb114, 0, none⟩ = some (.bool a0_0) ∧ w'.cell? ⟨gb114, 1, none⟩ = some (.slice A0_1 l0_1.length c0_1) ∧ w'.cell? ⟨gb115, 0, none⟩ = some (.bool a1_0) ∧ w'.cell? ⟨gb115, 1, none⟩ = some (.slice A1_1 l1_1.length c1_1)) ∧ (Kd.R (Kd.int .u32) 63 w' w.heap.size (fun k_ => some k_ ≠ (s_.2.1 : Value).ownBlock) s_.1 t120) ∧ (Kd.R (Kd.int .u32) 63 w' w.heap.size (fun k_ => some k_ ≠ (s_.1 : Value).ownBlock) s_.2.1 t124) ∧ (w'.heap[gb114]? = some (.cells #[.bool a0_0, .slice A0_1 l0_1.length c0_1] 25 (0, 0))) ∧ (w'.heap[gb115]? = some (.cells #[.bool a1_0, .slice A1_1 l1_1.length c1_1] 25 (0, 0))) ∧ (w'.heap[s_.2.2.1]? = some (.cells #[.bool false, .slice none 0 0] 25 (0, 0))) ∧ (w'.heap[s_.2.2.2]? = some (.cells #[.bool false, .slice none 0 0] 25 (0, 0))) ∧ (w.heap.size ≤ s_.2.2.1) ∧ (w.heap.size ≤ s_.2.2.1) ∧ (gb114 ≠ s_.2.2.1) ∧ (s_.2.2.1 ≠ gb114) ∧ (gb115 ≠ s_.2.2.1) ∧ (s_.2.2.1 ≠ gb115) ∧ (s_.2.2.2 ≠ s_.2.2.1) ∧ (s_.2.2.1 ≠ s_.2.2.2) ∧ (w.heap.size ≤ s_.2.2.2) ∧ (w.heap.size ≤ s_.2.2.2) ∧ (gb114 ≠ s_.2.2.2) ∧ (s_.2.2.2 ≠ gb114) ∧ (gb115 ≠ s_.2.2.2) ∧ (s_.2.2.2 ≠ gb115) ∧ (Below w.heap.size w w')) ?_ ?_
              rotate_left
              · intro hJ1_3_4_5
                refine join_ (σ := Value × Value × Nat) 3 #[true, true, true, true, true, false, false, false] (fun s_ => [(17, .agg #[.bool t119, s_.1]), (19, .agg #[.bool t123, s_.2.1]), (5, .pointer (some ⟨s_.2.2, 0, none⟩))]) (fun s_ w' => (w'.cell? ⟨gb114, 0, none⟩ = some (.bool a0_0) ∧ w'.cell? ⟨gb114, 1, none⟩ = some (.slice A0_1 l0_1.length c0_1) ∧ w'.cell? ⟨gb115, 0, none⟩ = some (.bool a1_0) ∧ w'.cell? ⟨gb115, 1, none⟩ = some (.slice A1_1 l1_1.length c1_1)) ∧ (Kd.R (Kd.int .u32) 63 w' w.heap.size (fun k_ => some k_ ≠ (s_.2.1 : Value).ownBlock) s_.1 t120) ∧ (Kd.R (Kd.int .u32) 63 w' w.heap.size (fun k_ => some k_ ≠ (s_.1 : Value).ownBlock) s_.2.1 t124) ∧ (w'.heap[gb114]? = some (.cells #[.bool a0_0, .slice A0_1 l0_1.length c0_1] 25 (0, 0))) ∧ (w'.heap[gb115]? = some (.cells #[.bool a1_0, .slice A1_1 l1_1.length c1_1] 25 (0, 0))) ∧ (w'.heap[s_.2.2]? = some (.cells #[.bool false, .slice none 0 0] 25 (0, 0))) ∧ (w.heap.size ≤ s_.2.2) ∧ (w.heap.size ≤ s_.2.2) ∧ (gb114 ≠ s_.2.2) ∧ (s_.2.2 ≠ gb114) ∧ (gb115 ≠ s_.2.2) ∧ (s_.2.2 ≠ gb115) ∧ (Below w.heap.size w w')) ?_ ?_
                rotate_left
                · intro hJ1_3_4
                  refine join_ (σ := Value × Value × Nat) 3 #[true, true, true, true, false, true, false, false] (fun s_ => [(17, .agg #[.bool t119, s_.1]), (19, .agg #[.bool t123, s_.2.1]), (6, .pointer (some ⟨s_.2.2, 0, none⟩))]) (fun s_ w' => (w'.cell? ⟨gb114, 0, none⟩ = some (.bool a0_0) ∧ w'.cell? ⟨gb114, 1, none⟩ = some (.slice A0_1 l0_1.length c0_1) ∧ w'.cell? ⟨gb115, 0, none⟩ = some (.bool a1_0) ∧ w'.cell? ⟨gb115, 1, none⟩ = some (.slice A1_1 l1_1.length c1_1)) ∧ (Kd.R (Kd.int .u32) 63 w' w.heap.size (fun k_ => some k_ ≠ (s_.2.1 : Value).ownBlock) s_.1 t120) ∧ (Kd.R (Kd.int .u32) 63 w' w.heap.size (fun k_ => some k_ ≠ (s_.1 : Value).ownBlock) s_.2.1 t124) ∧ (w'.heap[gb114]? = some (.cells #[.bool a0_0, .slice A0_1 l0_1.length c0_1] 25 (0, 0))) ∧ (w'.heap[gb115]? = some (.cells #[.bool a1_0, .slice A1_1 l1_1.length c1_1] 25 (0, 0))) ∧ (w'.heap[s_.2.2]? = some (.cells #[.bool false, .slice none 0 0] 25 (0, 0))) ∧ (w.heap.size ≤ s_.2.2) ∧ (w.heap.size ≤ s_.2.2) ∧ (gb114 ≠ s_.2.2) ∧ (s_.2.2 ≠ gb114) ∧ (gb115 ≠ s_.2.2) ∧ (s_.2.2 ≠ gb115) ∧ (Below w.heap.size w w')) ?_ ?_
                  rotate_left
                  · intro hJ1_3_5
                    refine join_ (σ := Value × Nat × Nat) 3 #[true, true, true, false, true, true, false, false] (fun s_ => [(17, .agg #[.bool t119, s_.1]), (5, .pointer (some ⟨s_.2.1, 0, none⟩)), (6, .pointer (some ⟨s_.2.2, 0, none⟩))]) (fun s_ w' => (w'.cell? ⟨gb114, 0, none⟩ = some (.bool a0_0) ∧ w'.cell? ⟨gb114, 1, none⟩ = some (.slice A0_1 l0_1.length c0_1) ∧ w'.cell? ⟨gb115, 0, none⟩ = some (.bool a1_0) ∧ w'.cell? ⟨gb115, 1, none⟩ = some (.slice A1_1 l1_1.length c1_1)) ∧ (Kd.R (Kd.int .u32) 63 w' w.heap.size (fun _ => True) s_.1 t120) ∧ (w'.heap[gb114]? = some (.cells #[.bool a0_0, .slice A0_1 l0_1.length c0_1] 25 (0, 0))) ∧ (w'.heap[gb115]? = some (.cells #[.bool a1_0, .slice A1_1 l1_1.length c1_1] 25 (0, 0))) ∧ (w'.heap[s_.2.1]? = some (.cells #[.bool false, .slice none 0 0] 25 (0, 0))) ∧ (w'.heap[s_.2.2]? = some (.cells #[.bool false, .slice none 0 0] 25 (0, 0))) ∧ (w.heap.size ≤ s_.2.1) ∧ (w.heap.size ≤ s_.2.1) ∧ (gb114 ≠ s_.2.1) ∧ (s_.2.1 ≠ gb114) ∧ (gb115 ≠ s_.2.1) ∧ (s_.2.1 ≠ gb115) ∧ (s_.2.2 ≠ s_.2.1) ∧ (s_.2.1 ≠ s_.2.2) ∧ (w.heap.size ≤ s_.2.2) ∧ (w.heap.size ≤ s_.2.2) ∧ (gb114 ≠ s_.2.2) ∧ (s_.2.2 ≠ gb114) ∧ (gb115 ≠ s_.2.2) ∧ (s_.2.2 ≠ gb115) ∧ (Below w.heap.size w w')) ?_ ?_
                    rotate_left
                    · intro hJ1_4_5
                      refine join_ (σ := Value × Value) 4 #[true, true, true, true, false, false, false, false] (fun s_ => [(17, .agg #[.bool t119, s_.1]), (19, .agg #[.bool t123, s_.2])]) (fun s_ w' => (w'.cell? ⟨gb114, 0, none⟩ = some (.bool a0_0) ∧ w'.cell? ⟨gb114, 1, none⟩ = some (.slice A0_1 l0_1.length c0_1) ∧ w'.cell? ⟨gb115, 0, none⟩ = some (.bool a1_0) ∧ w'.cell? ⟨gb115, 1, none⟩ = some (.slice A1_1 l1_1.length c1_1)) ∧ (Kd.R (Kd.int .u32) 63 w' w.heap.size (fun k_ => some k_ ≠ (s_.2 : Value).ownBlock) s_.1 t120) ∧ (Kd.R (Kd.int .u32) 63 w' w.heap.size (fun k_ => some k_ ≠ (s_.1 : Value).ownBlock) s_.2 t124) ∧ (w'.heap[gb114]? = some (.cells #[.bool a0_0, .slice A0_1 l0_1.length c0_1] 25 (0, 0))) ∧ (w'.heap[gb115]? = some (.cells #[.bool a1_0, .slice A1_1 l1_1.length c1_1] 25 (0, 0))) ∧ (Below w.heap.size w w')) ?_ ?_
                      rotate_left
                      · intro hJ1_3
                        refine join_ (σ := Value × Nat) 4 #[true, true, true, false, true, false, false, false] (fun s_ => [(17, .agg #[.bool t119, s_.1]), (5, .pointer (some ⟨s_.2, 0, none⟩))]) (fun s_ w' => (w'.cell? ⟨gb114, 0, none⟩ = some (.bool a0_0) ∧ w'.cell? ⟨gb114, 1, none⟩ = some (.slice A0_1 l0_1.length c0_1) ∧ w'.cell? ⟨gb115, 0, none⟩ = some (.bool a1_0) ∧ w'.cell? ⟨gb115, 1, none⟩ = some (.slice A1_1 l1_1.length c1_1)) ∧ (Kd.R (Kd.int .u32) 63 w' w.heap.size (fun _ => True) s_.1 t120) ∧ (w'.heap[gb114]? = some (.cells #[.bool a0_0, .slice A0_1 l0_1.length c0_1] 25 (0, 0))) ∧ (w'.heap[gb115]? = some (.cells #[.bool a1_0, .slice A1_1 l1_1.length c1_1] 25 (0, 0))) ∧ (w'.heap[s_.2]? = some (.cells #[.bool false, .slice none 0 0] 25 (0, 0))) ∧ (w.heap.size ≤ s_.2) ∧ (w.heap.size ≤ s_.2) ∧ (gb114 ≠ s_.2) ∧ (s_.2 ≠ gb114) ∧ (gb115 ≠ s_.2) ∧ (s_.2 ≠ gb115) ∧ (Below w.heap.size w w')) ?_ ?_
                        rotate_left
                        · intro hJ1_4
                          refine join_ (σ := Value × Nat) 4 #[true, true, true, false, false, true, false, false] (fun s_ => [(17, .agg #[.bool t119, s_.1]), (6, .pointer (some ⟨s_.2, 0, none⟩))]) (fun s_ w' => (w'.cell? ⟨gb114, 0, none⟩ = some (.bool a0_0) ∧ w'.cell? ⟨gb114, 1, none⟩ = some (.slice A0_1 l0_1.length c0_1) ∧ w'.cell? ⟨gb115, 0, none⟩ = some (.bool a1_0) ∧ w'.cell? ⟨gb115, 1, none⟩ = some (.slice A1_1 l1_1.length c1_1)) ∧ (Kd.R (Kd.int .u32) 63 w' w.heap.size (fun _ => True) s_.1 t120) ∧ (w'.heap[gb114]? = some (.cells #[.bool a0_0, .slice A0_1 l0_1.length c0_1] 25 (0, 0))) ∧ (w'.heap[gb115]? = some (.cells #[.bool a1_0, .slice A1_1 l1_1.length c1_1] 25 (0, 0))) ∧ (w'.heap[s_.2]? = some (.cells #[.bool false, .slice none 0 0] 25 (0, 0))) ∧ (w.heap.size ≤ s_.2) ∧ (w.heap.size ≤ s_.2) ∧ (gb114 ≠ s_.2) ∧ (s_.2 ≠ gb114) ∧ (gb115 ≠ s_.2) ∧ (s_.2 ≠ gb115) ∧ (Below w.heap.size w w')) ?_ ?_
                          rotate_left
                          · intro hJ1_5
                            refine join_ (σ := Nat × Nat) 4 #[true, false, true, false, true, true, false, false] (fun s_ => [(5, .pointer (some ⟨s_.1, 0, none⟩)), (6, .pointer (some ⟨s_.2, 0, none⟩))]) (fun s_ w' => (w'.cell? ⟨gb114, 0, none⟩ = some (.bool a0_0) ∧ w'.cell? ⟨gb114, 1, none⟩ = some (.slice A0_1 l0_1.length c0_1) ∧ w'.cell? ⟨gb115, 0, none⟩ = some (.bool a1_0) ∧ w'.cell? ⟨gb115, 1, none⟩ = some (.slice A1_1 l1_1.length c1_1)) ∧ (w'.heap[gb114]? = some (.cells #[.bool a0_0, .slice A0_1 l0_1.length c0_1] 25 (0, 0))) ∧ (w'.heap[gb115]? = some (.cells #[.bool a1_0, .slice A1_1 l1_1.length c1_1] 25 (0, 0))) ∧ (w'.heap[s_.1]? = some (.cells #[.bool false, .slice none 0 0] 25 (0, 0))) ∧ (w'.heap[s_.2]? = some (.cells #[.bool false, .slice none 0 0] 25 (0, 0))) ∧ (w.heap.size ≤ s_.1) ∧ (w.heap.size ≤ s_.1) ∧ (gb114 ≠ s_.1) ∧ (s_.1 ≠ gb114) ∧ (gb115 ≠ s_.1) ∧ (s_.1 ≠ gb115) ∧ (s_.2 ≠ s_.1) ∧ (s_.1 ≠ s_.2) ∧ (w.heap.size ≤ s_.2) ∧ (w.heap.size ≤ s_.2) ∧ (gb114 ≠ s_.2) ∧ (s_.2 ≠ gb114) ∧ (gb115 ≠ s_.2) ∧ (s_.2 ≠ gb115) ∧ (Below w.heap.size w w')) ?_ ?_
                            rotate_left
                            · intro hJ4_5
                              refine join_ (σ := Value) 5 #[true, true, true, false, false, false, false, false] (fun s_ => [(17, .agg #[.bool t119, s_])]) (fun s_ w' => (w'.cell? ⟨gb114, 0, none⟩ = some (.bool a0_0) ∧ w'.cell? ⟨gb114, 1, none⟩ = some (.slice A0_1 l0_1.length c0_1) ∧ w'.cell? ⟨gb115, 0, none⟩ = some (.bool a1_0) ∧ w'.cell? ⟨gb115, 1, none⟩ = some (.slice A1_1 l1_1.length c1_1)) ∧ (Kd.R (Kd.int .u32) 63 w' w.heap.size (fun _ => True) s_ t120) ∧ (w'.heap[gb114]? = some (.cells #[.bool a0_0, .slice A0_1 l0_1.length c0_1] 25 (0, 0))) ∧ (w'.heap[gb115]? = some (.cells #[.bool a1_0, .slice A1_1 l1_1.length c1_1] 25 (0, 0))) ∧ (Below w.heap.size w w')) ?_ ?_
                              rotate_left
                              · intro hJ1
                                refine join_ (σ := Nat) 5 #[true, false, true, false, true, false, false, false] (fun s_ => [(5, .pointer (some ⟨s_, 0, none⟩))]) (fun s_ w' => (w'.cell? ⟨gb114, 0, none⟩ = some (.bool a0_0) ∧ w'.cell? ⟨gb114, 1, none⟩ = some (.slice A0_1 l0_1.length c0_1) ∧ w'.cell? ⟨gb115, 0, none⟩ = some (.bool a1_0) ∧ w'.cell? ⟨gb115, 1, none⟩ = some (.slice A1_1 l1_1.length c1_1)) ∧ (w'.heap[gb114]? = some (.cells #[.bool a0_0, .slice A0_1 l0_1.length c0_1] 25 (0, 0))) ∧ (w'.heap[gb115]? = some (.cells #[.bool a1_0, .slice A1_1 l1_1.length c1_1] 25 (0, 0))) ∧ (w'.heap[s_]? = some (.cells #[.bool false, .slice none 0 0] 25 (0, 0))) ∧ (w.heap.size ≤ s_) ∧ (w.heap.size ≤ s_) ∧ (gb114 ≠ s_) ∧ (s_ ≠ gb114) ∧ (gb115 ≠ s_) ∧ (s_ ≠ gb115) ∧ (Below w.heap.size w w')) ?_ ?_
                                rotate_left
                                · intro hJ4
                                  refine join_ (σ := Nat) 5 #[true, false, true, false, false, true, false, false] (fun s_ => [(6, .pointer (some ⟨s_, 0, none⟩))]) (fun s_ w' => (w'.cell? ⟨gb114, 0, none⟩ = some (.bool a0_0) ∧ w'.cell? ⟨gb114, 1, none⟩ = some (.slice A0_1 l0_1.length c0_1) ∧ w'.cell? ⟨gb115, 0, none⟩ = some (.bool a1_0) ∧ w'.cell? ⟨gb115, 1, none⟩ = some (.slice A1_1 l1_1.length c1_1)) ∧ (w'.heap[gb114]? = some (.cells #[.bool a0_0, .slice A0_1 l0_1.length c0_1] 25 (0, 0))) ∧ (w'.heap[gb115]? = some (.cells #[.bool a1_0, .slice A1_1 l1_1.length c1_1] 25 (0, 0))) ∧ (w'.heap[s_]? = some (.cells #[.bool false, .slice none 0 0] 25 (0, 0))) ∧ (w.heap.size ≤ s_) ∧ (w.heap.size ≤ s_) ∧ (gb114 ≠ s_) ∧ (s_ ≠ gb114) ∧ (gb115 ≠ s_) ∧ (s_ ≠ gb115) ∧ (Below w.heap.size w w')) ?_ ?_
                                  rotate_left
                                  · intro hJ5
                                    refine three_ (i := 1) (j := 4) (k := 5) (Ni := some 17) (Nj := some 5) (Nk := some 6) #[true, true, true, false, false, false, false, false] #[true, false, true, false, true, false, false, false] #[true, false, true, false, false, true, false, false] rfl rfl rfl rfl rfl rfl (three_of HT_.out (by kernel_rfl)) (by decide) (by decide) (by decide) (fun K hK => ?_) (fun K hK => ?_) (fun K hK => ?_)
                                    · skip
                                      refine goes_ Tryd.func28 (by kernel_rfl) rfl #[.agg #[.bool a0_0, .slice A0_1 l0_1.length c0_1]] (by rfl) rfl rfl (by (try simp only [List.map_toArray, List.map_cons, List.map_nil]); first | done | rfl | (simp only [List.length_drop, List.length_take]; rfl)) ?_
                                      with_reducible refine (moraineref02_Copy.calls a0_0 _ _ l0_1 t119 t120 _ ?side1 ?side2 A20.out).mono ?_
                                      (case side1 => repeat (first | exact (Kd.C_below HR0_1.out HB.out) | (with_reducible refine Kd.C_alloc ?_ _) | (with_reducible refine Kd.C_drewN ?_ _) | (with_reducible refine Kd.C_drew ?_)))
                                      (case side2 => exact HC0_1.out)
                                      rintro e w35 ⟨v121, rfl, ho0, hb⟩
                                      refine ⟨_, rfl, ?_⟩
                                      have n0_ := Aside0.mk (Kd.R_lower ho0 (below_size (by repeat (first | (with_reducible first | exact HB.out | apply below_alloc | apply pw_below_drewN | apply below_drew1 | refine qs ?_ (by assumption)) | exact HB.out))))
                                      have n1_ := qb BK114 hb
                                      have n2_ := qb BK115 hb
                                      have n3_ := Aside0.mk (below_step (by repeat (first | (with_reducible first | exact HB.out | apply below_alloc | apply pw_below_drewN | apply below_drew1 | refine qs ?_ (by assumption)) | exact HB.out)) hb)
                                      clear BK114
                                      clear BK115
                                      clear HB
                                      have HO122 := n0_
                                      have BK114 := n1_
                                      have BK115 := n2_
                                      have HB := n3_
                                      clear n0_ n1_ n2_ n3_
                                      (try clear hb)
                                      (try clear hb2)
                                      (try clear hk)
                                      (try clear hi)
                                      (try clear ho0)
                                      refine hK.out _ _ ⟨(blk_cell BK114.out 0).trans rfl, (blk_cell BK114.out 1).trans rfl, (blk_cell BK115.out 0).trans rfl, (blk_cell BK115.out 1).trans rfl⟩ (fun hHeld => ?_)
                                      clear hK K
                                      refine norm_ (a' := ?_) ?_ ?_
                                      rotate_left
                                      · show Act.put _ (some 17) _ = _
                                        simp only [Act.put, List.setIfInBounds_toArray, List.set_cons_zero, List.set_cons_succ, i64_w, i32_w]
                                        rfl
                                      exact norm_ (by first | (simp only [putAll, Act.put, List.setIfInBounds_toArray, List.set_cons_zero, List.set_cons_succ]; done) | (simp only [putAll, Act.put, List.setIfInBounds_toArray, List.set_cons_zero, List.set_cons_succ]; rfl)) (hJ1 (v121) _ ⟨hHeld, (by (with_reducible repeat (first | apply Kd.R_alloc | apply Kd.R_drewN | apply Kd.R_drew)); exact HO122.out), (by (with_reducible repeat (first | refine qN ?_ _ | refine qW ?_ | refine qA ?_ _)); exact BK114.out), (by (with_reducible repeat (first | refine qN ?_ _ | refine qW ?_ | refine qA ?_ _)); exact BK115.out), (by repeat (first | (with_reducible first | exact HB.out | apply below_alloc | apply pw_below_drewN | apply below_drew1 | refine qs ?_ (by assumption)) | exact HB.out))⟩)
                                    · skip
                                      refine box_step ?hg (N := 5) ?hd (cs := #[.bool false, .slice none 0 0]) (t := 25) ?hr ?_; (case hd => rfl); (case hg => rfl); (case hr => first | (go_simp; done) | (go_simp; rfl))
                                      intro gb127 hg w35 hbox hb
                                      have n0_ := qb BK114 hb
                                      have n1_ := qb BK115 hb
                                      have n2_ := Aside0.mk (below_step (by repeat (first | (with_reducible first | exact HB.out | apply below_alloc | apply pw_below_drewN | apply below_drew1 | refine qs ?_ (by assumption)) | exact HB.out)) hb)
                                      have n3_ := Aside0.mk (hbox)
                                      have n4_ := qg hg (by repeat (first | (with_reducible first | exact HB.out | apply below_alloc | apply pw_below_drewN | apply below_drew1 | refine qs ?_ (by assumption)) | exact HB.out))
                                      have n5_ := qg hg (by repeat (first | (with_reducible first | exact HB.out | apply below_alloc | apply pw_below_drewN | apply below_drew1 | refine qs ?_ (by assumption)) | exact HB.out))
                                      have n6_ := qn BK114 hg
                                      have n7_ := qm BK114 hg
                                      have n8_ := qn BK115 hg
                                      have n9_ := qm BK115 hg
                                      clear BK114
                                      clear BK115
                                      clear HB
                                      have BK114 := n0_
                                      have BK115 := n1_
                                      have HB := n2_
                                      have BK127 := n3_
                                      have GW127 := n4_
                                      have GE127 := n5_
                                      have NB114_127 := n6_
                                      have NB127_114 := n7_
                                      have NB115_127 := n8_
                                      have NB127_115 := n9_
                                      clear n0_ n1_ n2_ n3_ n4_ n5_ n6_ n7_ n8_ n9_
                                      clear hb hbox hg
                                      refine hK.out _ _ ⟨(blk_cell BK114.out 0).trans rfl, (blk_cell BK114.out 1).trans rfl, (blk_cell BK115.out 0).trans rfl, (blk_cell BK115.out 1).trans rfl⟩ (fun hHeld => ?_)
                                      clear hK K
                                      refine norm_ (a' := ?_) ?_ ?_
                                      rotate_left
                                      · show Act.put _ (some 5) _ = _
                                        simp only [Act.put, List.setIfInBounds_toArray, List.set_cons_zero, List.set_cons_succ, i64_w, i32_w]
                                        rfl
                                      exact norm_ (by first | (simp only [putAll, Act.put, List.setIfInBounds_toArray, List.set_cons_zero, List.set_cons_succ]; done) | (simp only [putAll, Act.put, List.setIfInBounds_toArray, List.set_cons_zero, List.set_cons_succ]; rfl)) (hJ4 (gb127) _ ⟨hHeld, (by (with_reducible repeat (first | refine qN ?_ _ | refine qW ?_ | refine qA ?_ _)); exact BK114.out), (by (with_reducible repeat (first | refine qN ?_ _ | refine qW ?_ | refine qA ?_ _)); exact BK115.out), (by (with_reducible repeat (first | refine qN ?_ _ | refine qW ?_ | refine qA ?_ _)); exact BK127.out), GW127.out, GE127.out, NB114_127.out, NB127_114.out, NB115_127.out, NB127_115.out, (by repeat (first | (with_reducible first | exact HB.out | apply below_alloc | apply pw_below_drewN | apply below_drew1 | refine qs ?_ (by assumption)) | exact HB.out))⟩)
                                    · skip
                                      refine box_step ?hg (N := 6) ?hd (cs := #[.bool false, .slice none 0 0]) (t := 25) ?hr ?_; (case hd => rfl); (case hg => rfl); (case hr => first | (go_simp; done) | (go_simp; rfl))
                                      intro gb128 hg w35 hbox hb
                                      have n0_ := qb BK114 hb
                                      have n1_ := qb BK115 hb
                                      have n2_ := Aside0.mk (below_step (by repeat (first | (with_reducible first | exact HB.out | apply below_alloc | apply pw_below_drewN | apply below_drew1 | refine qs ?_ (by assumption)) | exact HB.out)) hb)
                                      have n3_ := Aside0.mk (hbox)
                                      have n4_ := qg hg (by repeat (first | (with_reducible first | exact HB.out | apply below_alloc | apply pw_below_drewN | apply below_drew1 | refine qs ?_ (by assumption)) | exact HB.out))
                                      have n5_ := qg hg (by repeat (first | (with_reducible first | exact HB.out | apply below_alloc | apply pw_below_drewN | apply below_drew1 | refine qs ?_ (by assumption)) | exact HB.out))
                                      have n6_ := qn BK114 hg
                                      have n7_ := qm BK114 hg
                                      have n8_ := qn BK115 hg
                                      have n9_ := qm BK115 hg
                                      clear BK114
                                      clear BK115
                                      clear HB
                                      have BK114 := n0_
                                      have BK115 := n1_
                                      have HB := n2_
                                      have BK128 := n3_
                                      have GW128 := n4_
                                      have GE128 := n5_
                                      have NB114_128 := n6_
                                      have NB128_114 := n7_
                                      have NB115_128 := n8_
                                      have NB128_115 := n9_
                                      clear n0_ n1_ n2_ n3_ n4_ n5_ n6_ n7_ n8_ n9_
                                      clear hb hbox hg
                                      refine hK.out _ _ ⟨(blk_cell BK114.out 0).trans rfl, (blk_cell BK114.out 1).trans rfl, (blk_cell BK115.out 0).trans rfl, (blk_cell BK115.out 1).trans rfl⟩ (fun hHeld => ?_)
                                      clear hK K
                                      refine norm_ (a' := ?_) ?_ ?_
                                      rotate_left
                                      · show Act.put _ (some 6) _ = _
                                        simp only [Act.put, List.setIfInBounds_toArray, List.set_cons_zero, List.set_cons_succ, i64_w, i32_w]
                                        rfl
                                      exact norm_ (by first | (simp only [putAll, Act.put, List.setIfInBounds_toArray, List.set_cons_zero, List.set_cons_succ]; done) | (simp only [putAll, Act.put, List.setIfInBounds_toArray, List.set_cons_zero, List.set_cons_succ]; rfl)) (hJ5 (gb128) _ ⟨hHeld, (by (with_reducible repeat (first | refine qN ?_ _ | refine qW ?_ | refine qA ?_ _)); exact BK114.out), (by (with_reducible repeat (first | refine qN ?_ _ | refine qW ?_ | refine qA ?_ _)); exact BK115.out), (by (with_reducible repeat (first | refine qN ?_ _ | refine qW ?_ | refine qA ?_ _)); exact BK128.out), GW128.out, GE128.out, NB114_128.out, NB128_114.out, NB115_128.out, NB128_115.out, (by repeat (first | (with_reducible first | exact HB.out | apply below_alloc | apply pw_below_drewN | apply below_drew1 | refine qs ?_ (by assumption)) | exact HB.out))⟩)
                                  · skip
                                    rintro gb128 w36 ⟨hS_, h0_, h1_, h2_, h3_, h4_, h5_, h6_, h7_, h8_, h9_⟩
                                    have n0_ : Aside0 (w36.heap[gb114]? = some (.cells #[.bool a0_0, .slice A0_1 l0_1.length c0_1] 25 (0, 0))) := ⟨h0_⟩
                                    have n1_ : Aside0 (w36.heap[gb115]? = some (.cells #[.bool a1_0, .slice A1_1 l1_1.length c1_1] 25 (0, 0))) := ⟨h1_⟩
                                    have n2_ : Aside0 (w36.heap[gb128]? = some (.cells #[.bool false, .slice none 0 0] 25 (0, 0))) := ⟨h2_⟩
                                    have n3_ : Aside0 (w.heap.size ≤ gb128) := ⟨h3_⟩
                                    have n4_ : Aside0 (w.heap.size ≤ gb128) := ⟨h4_⟩
                                    have n5_ : Aside0 (gb114 ≠ gb128) := ⟨h5_⟩
                                    have n6_ : Aside0 (gb128 ≠ gb114) := ⟨h6_⟩
                                    have n7_ : Aside0 (gb115 ≠ gb128) := ⟨h7_⟩
                                    have n8_ : Aside0 (gb128 ≠ gb115) := ⟨h8_⟩
                                    have n9_ : Aside0 (Below w.heap.size w w36) := ⟨h9_⟩
                                    clear BK114
                                    clear BK115
                                    clear HB
                                    clear h0_ h1_ h2_ h3_ h4_ h5_ h6_ h7_ h8_ h9_
                                    have BK114 := n0_
                                    have BK115 := n1_
                                    have BK128 := n2_
                                    have GW128 := n3_
                                    have GE128 := n4_
                                    have NB114_128 := n5_
                                    have NB128_114 := n6_
                                    have NB115_128 := n7_
                                    have NB128_115 := n8_
                                    have HB := n9_
                                    clear n0_ n1_ n2_ n3_ n4_ n5_ n6_ n7_ n8_ n9_
                                    have hHeld : w36.cell? ⟨gb114, 0, none⟩ = some (.bool a0_0) ∧ w36.cell? ⟨gb114, 1, none⟩ = some (.slice A0_1 l0_1.length c0_1) ∧ w36.cell? ⟨gb115, 0, none⟩ = some (.bool a1_0) ∧ w36.cell? ⟨gb115, 1, none⟩ = some (.slice A1_1 l1_1.length c1_1) := hS_
                                    refine norm_ (a' := ?_) ?_ ?_
                                    rotate_left
                                    · simp only [putAll, Act.put, List.setIfInBounds_toArray, List.set_cons_zero, List.set_cons_succ]
                                      rfl
                                    refine two_ (i := 1) (j := 4) (Ni := some 17) (Nj := some 5) #[true, true, true, false, false, true, false, false] #[true, false, true, false, true, true, false, false] rfl rfl rfl rfl (two_of HT_.out (by kernel_rfl)) (by decide) (by decide) (fun K hK => ?_) (fun K hK => ?_)
                                    · skip
                                      refine goes_ Tryd.func28 (by kernel_rfl) rfl #[.agg #[.bool a0_0, .slice A0_1 l0_1.length c0_1]] (by rfl) rfl rfl (by (try simp only [List.map_toArray, List.map_cons, List.map_nil]); first | done | rfl | (simp only [List.length_drop, List.length_take]; rfl)) ?_
                                      with_reducible refine (moraineref02_Copy.calls a0_0 _ _ l0_1 t119 t120 _ ?side1 ?side2 A20.out).mono ?_
                                      (case side1 => repeat (first | exact (Kd.C_below HR0_1.out HB.out) | (with_reducible refine Kd.C_alloc ?_ _) | (with_reducible refine Kd.C_drewN ?_ _) | (with_reducible refine Kd.C_drew ?_)))
                                      (case side2 => exact HC0_1.out)
                                      rintro e w37 ⟨v121, rfl, ho0, hb⟩
                                      refine ⟨_, rfl, ?_⟩
                                      have n0_ := Aside0.mk (Kd.R_lower ho0 (below_size (by repeat (first | (with_reducible first | exact HB.out | apply below_alloc | apply pw_below_drewN | apply below_drew1 | refine qs ?_ (by assumption)) | exact HB.out))))
                                      have n1_ := qb BK114 hb
                                      have n2_ := qb BK115 hb
                                      have n3_ := qb BK128 hb
                                      have n4_ := Aside0.mk (below_step (by repeat (first | (with_reducible first | exact HB.out | apply below_alloc | apply pw_below_drewN | apply below_drew1 | refine qs ?_ (by assumption)) | exact HB.out)) hb)
                                      clear BK114
                                      clear BK115
                                      clear BK128
                                      clear HB
                                      have HO122 := n0_
                                      have BK114 := n1_
                                      have BK115 := n2_
                                      have BK128 := n3_
                                      have HB := n4_
                                      clear n0_ n1_ n2_ n3_ n4_
                                      (try clear hb)
                                      (try clear hb2)
                                      (try clear hk)
                                      (try clear hi)
                                      (try clear ho0)
                                      refine hK.out _ _ ⟨(blk_cell BK114.out 0).trans rfl, (blk_cell BK114.out 1).trans rfl, (blk_cell BK115.out 0).trans rfl, (blk_cell BK115.out 1).trans rfl⟩ (fun hHeld => ?_)
                                      clear hK K
                                      refine norm_ (a' := ?_) ?_ ?_
                                      rotate_left
                                      · show Act.put _ (some 17) _ = _
                                        simp only [Act.put, List.setIfInBounds_toArray, List.set_cons_zero, List.set_cons_succ, i64_w, i32_w]
                                        rfl
                                      exact norm_ (by first | (simp only [putAll, Act.put, List.setIfInBounds_toArray, List.set_cons_zero, List.set_cons_succ]; done) | (simp only [putAll, Act.put, List.setIfInBounds_toArray, List.set_cons_zero, List.set_cons_succ]; rfl)) (hJ1_5 (v121, gb128) _ ⟨hHeld, (by (with_reducible repeat (first | apply Kd.R_alloc | apply Kd.R_drewN | apply Kd.R_drew)); exact HO122.out), (by (with_reducible repeat (first | refine qN ?_ _ | refine qW ?_ | refine qA ?_ _)); exact BK114.out), (by (with_reducible repeat (first | refine qN ?_ _ | refine qW ?_ | refine qA ?_ _)); exact BK115.out), (by (with_reducible repeat (first | refine qN ?_ _ | refine qW ?_ | refine qA ?_ _)); exact BK128.out), GW128.out, GE128.out, NB114_128.out, NB128_114.out, NB115_128.out, NB128_115.out, (by repeat (first | (with_reducible first | exact HB.out | apply below_alloc | apply pw_below_drewN | apply below_drew1 | refine qs ?_ (by assumption)) | exact HB.out))⟩)
                                    · skip
                                      refine box_step ?hg (N := 5) ?hd (cs := #[.bool false, .slice none 0 0]) (t := 25) ?hr ?_; (case hd => rfl); (case hg => rfl); (case hr => first | (go_simp; done) | (go_simp; rfl))
                                      intro gb127 hg w37 hbox hb
                                      have n0_ := qb BK114 hb
                                      have n1_ := qb BK115 hb
                                      have n2_ := qb BK128 hb
                                      have n3_ := Aside0.mk (below_step (by repeat (first | (with_reducible first | exact HB.out | apply below_alloc | apply pw_below_drewN | apply below_drew1 | refine qs ?_ (by assumption)) | exact HB.out)) hb)
                                      have n4_ := Aside0.mk (hbox)
                                      have n5_ := qg hg (by repeat (first | (with_reducible first | exact HB.out | apply below_alloc | apply pw_below_drewN | apply below_drew1 | refine qs ?_ (by assumption)) | exact HB.out))
                                      have n6_ := qg hg (by repeat (first | (with_reducible first | exact HB.out | apply below_alloc | apply pw_below_drewN | apply below_drew1 | refine qs ?_ (by assumption)) | exact HB.out))
                                      have n7_ := qn BK114 hg
                                      have n8_ := qm BK114 hg
                                      have n9_ := qn BK115 hg
                                      have n10_ := qm BK115 hg
                                      have n11_ := qn BK128 hg
                                      have n12_ := qm BK128 hg
                                      clear BK114
                                      clear BK115
                                      clear BK128
                                      clear HB
                                      have BK114 := n0_
                                      have BK115 := n1_
                                      have BK128 := n2_
                                      have HB := n3_
                                      have BK127 := n4_
                                      have GW127 := n5_
                                      have GE127 := n6_
                                      have NB114_127 := n7_
                                      have NB127_114 := n8_
                                      have NB115_127 := n9_
                                      have NB127_115 := n10_
                                      have NB128_127 := n11_
                                      have NB127_128 := n12_
                                      clear n0_ n1_ n2_ n3_ n4_ n5_ n6_ n7_ n8_ n9_ n10_ n11_ n12_
                                      clear hb hbox hg
                                      refine hK.out _ _ ⟨(blk_cell BK114.out 0).trans rfl, (blk_cell BK114.out 1).trans rfl, (blk_cell BK115.out 0).trans rfl, (blk_cell BK115.out 1).trans rfl⟩ (fun hHeld => ?_)
                                      clear hK K
                                      refine norm_ (a' := ?_) ?_ ?_
                                      rotate_left
                                      · show Act.put _ (some 5) _ = _
                                        simp only [Act.put, List.setIfInBounds_toArray, List.set_cons_zero, List.set_cons_succ, i64_w, i32_w]
                                        rfl
                                      exact norm_ (by first | (simp only [putAll, Act.put, List.setIfInBounds_toArray, List.set_cons_zero, List.set_cons_succ]; done) | (simp only [putAll, Act.put, List.setIfInBounds_toArray, List.set_cons_zero, List.set_cons_succ]; rfl)) (hJ4_5 (gb127, gb128) _ ⟨hHeld, (by (with_reducible repeat (first | refine qN ?_ _ | refine qW ?_ | refine qA ?_ _)); exact BK114.out), (by (with_reducible repeat (first | refine qN ?_ _ | refine qW ?_ | refine qA ?_ _)); exact BK115.out), (by (with_reducible repeat (first | refine qN ?_ _ | refine qW ?_ | refine qA ?_ _)); exact BK127.out), (by (with_reducible repeat (first | refine qN ?_ _ | refine qW ?_ | refine qA ?_ _)); exact BK128.out), GW127.out, GE127.out, NB114_127.out, NB127_114.out, NB115_127.out, NB127_115.out, NB128_127.out, NB127_128.out, GW128.out, GE128.out, NB114_128.out, NB128_114.out, NB115_128.out, NB128_115.out, (by repeat (first | (with_reducible first | exact HB.out | apply below_alloc | apply pw_below_drewN | apply below_drew1 | refine qs ?_ (by assumption)) | exact HB.out))⟩)
                                · skip
                                  rintro gb127 w36 ⟨hS_, h0_, h1_, h2_, h3_, h4_, h5_, h6_, h7_, h8_, h9_⟩
                                  have n0_ : Aside0 (w36.heap[gb114]? = some (.cells #[.bool a0_0, .slice A0_1 l0_1.length c0_1] 25 (0, 0))) := ⟨h0_⟩
                                  have n1_ : Aside0 (w36.heap[gb115]? = some (.cells #[.bool a1_0, .slice A1_1 l1_1.length c1_1] 25 (0, 0))) := ⟨h1_⟩
                                  have n2_ : Aside0 (w36.heap[gb127]? = some (.cells #[.bool false, .slice none 0 0] 25 (0, 0))) := ⟨h2_⟩
                                  have n3_ : Aside0 (w.heap.size ≤ gb127) := ⟨h3_⟩
                                  have n4_ : Aside0 (w.heap.size ≤ gb127) := ⟨h4_⟩
                                  have n5_ : Aside0 (gb114 ≠ gb127) := ⟨h5_⟩
                                  have n6_ : Aside0 (gb127 ≠ gb114) := ⟨h6_⟩
                                  have n7_ : Aside0 (gb115 ≠ gb127) := ⟨h7_⟩
                                  have n8_ : Aside0 (gb127 ≠ gb115) := ⟨h8_⟩
                                  have n9_ : Aside0 (Below w.heap.size w w36) := ⟨h9_⟩
                                  clear BK114
                                  clear BK115
                                  clear HB
                                  clear h0_ h1_ h2_ h3_ h4_ h5_ h6_ h7_ h8_ h9_
                                  have BK114 := n0_
                                  have BK115 := n1_
                                  have BK127 := n2_
                                  have GW127 := n3_
                                  have GE127 := n4_
                                  have NB114_127 := n5_
                                  have NB127_114 := n6_
                                  have NB115_127 := n7_
                                  have NB127_115 := n8_
                                  have HB := n9_
                                  clear n0_ n1_ n2_ n3_ n4_ n5_ n6_ n7_ n8_ n9_
                                  have hHeld : w36.cell? ⟨gb114, 0, none⟩ = some (.bool a0_0) ∧ w36.cell? ⟨gb114, 1, none⟩ = some (.slice A0_1 l0_1.length c0_1) ∧ w36.cell? ⟨gb115, 0, none⟩ = some (.bool a1_0) ∧ w36.cell? ⟨gb115, 1, none⟩ = some (.slice A1_1 l1_1.length c1_1) := hS_
                                  refine norm_ (a' := ?_) ?_ ?_
                                  rotate_left
                                  · simp only [putAll, Act.put, List.setIfInBounds_toArray, List.set_cons_zero, List.set_cons_succ]
                                    rfl
                                  refine two_ (i := 1) (j := 5) (Ni := some 17) (Nj := some 6) #[true, true, true, false, true, false, false, false] #[true, false, true, false, true, true, false, false] rfl rfl rfl rfl (two_of HT_.out (by kernel_rfl)) (by decide) (by decide) (fun K hK => ?_) (fun K hK => ?_)
                                  · skip
                                    refine goes_ Tryd.func28 (by kernel_rfl) rfl #[.agg #[.bool a0_0, .slice A0_1 l0_1.length c0_1]] (by rfl) rfl rfl (by (try simp only [List.map_toArray, List.map_cons, List.map_nil]); first | done | rfl | (simp only [List.length_drop, List.length_take]; rfl)) ?_
                                    with_reducible refine (moraineref02_Copy.calls a0_0 _ _ l0_1 t119 t120 _ ?side1 ?side2 A20.out).mono ?_
                                    (case side1 => repeat (first | exact (Kd.C_below HR0_1.out HB.out) | (with_reducible refine Kd.C_alloc ?_ _) | (with_reducible refine Kd.C_drewN ?_ _) | (with_reducible refine Kd.C_drew ?_)))
                                    (case side2 => exact HC0_1.out)
                                    rintro e w37 ⟨v121, rfl, ho0, hb⟩
                                    refine ⟨_, rfl, ?_⟩
                                    have n0_ := Aside0.mk (Kd.R_lower ho0 (below_size (by repeat (first | (with_reducible first | exact HB.out | apply below_alloc | apply pw_below_drewN | apply below_drew1 | refine qs ?_ (by assumption)) | exact HB.out))))
                                    have n1_ := qb BK114 hb
                                    have n2_ := qb BK115 hb
                                    have n3_ := qb BK127 hb
                                    have n4_ := Aside0.mk (below_step (by repeat (first | (with_reducible first | exact HB.out | apply below_alloc | apply pw_below_drewN | apply below_drew1 | refine qs ?_ (by assumption)) | exact HB.out)) hb)
                                    clear BK114
                                    clear BK115
                                    clear BK127
                                    clear HB
                                    have HO122 := n0_
                                    have BK114 := n1_
                                    have BK115 := n2_
                                    have BK127 := n3_
                                    have HB := n4_
                                    clear n0_ n1_ n2_ n3_ n4_
                                    (try clear hb)
                                    (try clear hb2)
                                    (try clear hk)
                                    (try clear hi)
                                    (try clear ho0)
                                    refine hK.out _ _ ⟨(blk_cell BK114.out 0).trans rfl, (blk_cell BK114.out 1).trans rfl, (blk_cell BK115.out 0).trans rfl, (blk_cell BK115.out 1).trans rfl⟩ (fun hHeld => ?_)
                                    clear hK K
                                    refine norm_ (a' := ?_) ?_ ?_
                                    rotate_left
                                    · show Act.put _ (some 17) _ = _
                                      simp only [Act.put, List.setIfInBounds_toArray, List.set_cons_zero, List.set_cons_succ, i64_w, i32_w]
                                      rfl
                                    exact norm_ (by first | (simp only [putAll, Act.put, List.setIfInBounds_toArray, List.set_cons_zero, List.set_cons_succ]; done) | (simp only [putAll, Act.put, List.setIfInBounds_toArray, List.set_cons_zero, List.set_cons_succ]; rfl)) (hJ1_4 (v121, gb127) _ ⟨hHeld, (by (with_reducible repeat (first | apply Kd.R_alloc | apply Kd.R_drewN | apply Kd.R_drew)); exact HO122.out), (by (with_reducible repeat (first | refine qN ?_ _ | refine qW ?_ | refine qA ?_ _)); exact BK114.out), (by (with_reducible repeat (first | refine qN ?_ _ | refine qW ?_ | refine qA ?_ _)); exact BK115.out), (by (with_reducible repeat (first | refine qN ?_ _ | refine qW ?_ | refine qA ?_ _)); exact BK127.out), GW127.out, GE127.out, NB114_127.out, NB127_114.out, NB115_127.out, NB127_115.out, (by repeat (first | (with_reducible first | exact HB.out | apply below_alloc | apply pw_below_drewN | apply below_drew1 | refine qs ?_ (by assumption)) | exact HB.out))⟩)
                                  · skip
                                    refine box_step ?hg (N := 6) ?hd (cs := #[.bool false, .slice none 0 0]) (t := 25) ?hr ?_; (case hd => rfl); (case hg => rfl); (case hr => first | (go_simp; done) | (go_simp; rfl))
                                    intro gb128 hg w37 hbox hb
                                    have n0_ := qb BK114 hb
                                    have n1_ := qb BK115 hb
                                    have n2_ := qb BK127 hb
                                    have n3_ := Aside0.mk (below_step (by repeat (first | (with_reducible first | exact HB.out | apply below_alloc | apply pw_below_drewN | apply below_drew1 | refine qs ?_ (by assumption)) | exact HB.out)) hb)
                                    have n4_ := Aside0.mk (hbox)
                                    have n5_ := qg hg (by repeat (first | (with_reducible first | exact HB.out | apply below_alloc | apply pw_below_drewN | apply below_drew1 | refine qs ?_ (by assumption)) | exact HB.out))
                                    have n6_ := qg hg (by repeat (first | (with_reducible first | exact HB.out | apply below_alloc | apply pw_below_drewN | apply below_drew1 | refine qs ?_ (by assumption)) | exact HB.out))
                                    have n7_ := qn BK114 hg
                                    have n8_ := qm BK114 hg
                                    have n9_ := qn BK115 hg
                                    have n10_ := qm BK115 hg
                                    have n11_ := qn BK127 hg
                                    have n12_ := qm BK127 hg
                                    clear BK114
                                    clear BK115
                                    clear BK127
                                    clear HB
                                    have BK114 := n0_
                                    have BK115 := n1_
                                    have BK127 := n2_
                                    have HB := n3_
                                    have BK128 := n4_
                                    have GW128 := n5_
                                    have GE128 := n6_
                                    have NB114_128 := n7_
                                    have NB128_114 := n8_
                                    have NB115_128 := n9_
                                    have NB128_115 := n10_
                                    have NB127_128 := n11_
                                    have NB128_127 := n12_
                                    clear n0_ n1_ n2_ n3_ n4_ n5_ n6_ n7_ n8_ n9_ n10_ n11_ n12_
                                    clear hb hbox hg
                                    refine hK.out _ _ ⟨(blk_cell BK114.out 0).trans rfl, (blk_cell BK114.out 1).trans rfl, (blk_cell BK115.out 0).trans rfl, (blk_cell BK115.out 1).trans rfl⟩ (fun hHeld => ?_)
                                    clear hK K
                                    refine norm_ (a' := ?_) ?_ ?_
                                    rotate_left
                                    · show Act.put _ (some 6) _ = _
                                      simp only [Act.put, List.setIfInBounds_toArray, List.set_cons_zero, List.set_cons_succ, i64_w, i32_w]
                                      rfl
                                    exact norm_ (by first | (simp only [putAll, Act.put, List.setIfInBounds_toArray, List.set_cons_zero, List.set_cons_succ]; done) | (simp only [putAll, Act.put, List.setIfInBounds_toArray, List.set_cons_zero, List.set_cons_succ]; rfl)) (hJ4_5 (gb127, gb128) _ ⟨hHeld, (by (with_reducible repeat (first | refine qN ?_ _ | refine qW ?_ | refine qA ?_ _)); exact BK114.out), (by (with_reducible repeat (first | refine qN ?_ _ | refine qW ?_ | refine qA ?_ _)); exact BK115.out), (by (with_reducible repeat (first | refine qN ?_ _ | refine qW ?_ | refine qA ?_ _)); exact BK127.out), (by (with_reducible repeat (first | refine qN ?_ _ | refine qW ?_ | refine qA ?_ _)); exact BK128.out), GW127.out, GE127.out, NB114_127.out, NB127_114.out, NB115_127.out, NB127_115.out, NB128_127.out, NB127_128.out, GW128.out, GE128.out, NB114_128.out, NB128_114.out, NB115_128.out, NB128_115.out, (by repeat (first | (with_reducible first | exact HB.out | apply below_alloc | apply pw_below_drewN | apply below_drew1 | refine qs ?_ (by assumption)) | exact HB.out))⟩)
                              · skip
                                rintro v121 w36 ⟨hS_, h0_, h1_, h2_, h3_⟩
                                have n0_ : Aside0 (Kd.R (Kd.int .u32) 63 w36 w.heap.size (fun _ => True) v121 t120) := ⟨h0_⟩
                                have n1_ : Aside0 (w36.heap[gb114]? = some (.cells #[.bool a0_0, .slice A0_1 l0_1.length c0_1] 25 (0, 0))) := ⟨h1_⟩
                                have n2_ : Aside0 (w36.heap[gb115]? = some (.cells #[.bool a1_0, .slice A1_1 l1_1.length c1_1] 25 (0, 0))) := ⟨h2_⟩
                                have n3_ : Aside0 (Below w.heap.size w w36) := ⟨h3_⟩
                                clear BK114
                                clear BK115
                                clear HB
                                clear h0_ h1_ h2_ h3_
                                have HO122 := n0_
                                have BK114 := n1_
                                have BK115 := n2_
                                have HB := n3_
                                clear n0_ n1_ n2_ n3_
                                have hHeld : w36.cell? ⟨gb114, 0, none⟩ = some (.bool a0_0) ∧ w36.cell? ⟨gb114, 1, none⟩ = some (.slice A0_1 l0_1.length c0_1) ∧ w36.cell? ⟨gb115, 0, none⟩ = some (.bool a1_0) ∧ w36.cell? ⟨gb115, 1, none⟩ = some (.slice A1_1 l1_1.length c1_1) := hS_
                                refine norm_ (a' := ?_) ?_ ?_
                                rotate_left
                                · simp only [putAll, Act.put, List.setIfInBounds_toArray, List.set_cons_zero, List.set_cons_succ]
                                  rfl
                                refine three_ (i := 3) (j := 4) (k := 5) (Ni := some 19) (Nj := some 5) (Nk := some 6) #[true, true, true, true, false, false, false, false] #[true, true, true, false, true, false, false, false] #[true, true, true, false, false, true, false, false] rfl rfl rfl rfl rfl rfl (three_of HT_.out (by kernel_rfl)) (by decide) (by decide) (by decide) (fun K hK => ?_) (fun K hK => ?_) (fun K hK => ?_)
                                · skip
                                  refine goes_ Tryd.func28 (by kernel_rfl) rfl #[.agg #[.bool a1_0, .slice A1_1 l1_1.length c1_1]] (by rfl) rfl rfl (by (try simp only [List.map_toArray, List.map_cons, List.map_nil]); first | done | rfl | (simp only [List.length_drop, List.length_take]; rfl)) ?_
                                  with_reducible refine (moraineref02_Copy.calls a1_0 _ _ l1_1 t123 t124 _ ?side1 ?side2 A21.out).mono ?_
                                  (case side1 => repeat (first | exact (Kd.C_below HR1_1.out HB.out) | (with_reducible refine Kd.C_alloc ?_ _) | (with_reducible refine Kd.C_drewN ?_ _) | (with_reducible refine Kd.C_drew ?_)))
                                  (case side2 => exact HC1_1.out)
                                  rintro e w37 ⟨v125, rfl, ho0, hb⟩
                                  refine ⟨_, rfl, ?_⟩
                                  have n0_ := qe HO122 ho0 hb
                                  have n1_ := Aside0.mk (Kd.R_lower (Kd.R_new' ho0 (ql HO122)) (below_size (by repeat (first | (with_reducible first | exact HB.out | apply below_alloc | apply pw_below_drewN | apply below_drew1 | refine qs ?_ (by assumption)) | exact HB.out))))
                                  have n2_ := qb BK114 hb
                                  have n3_ := qb BK115 hb
                                  have n4_ := Aside0.mk (below_step (by repeat (first | (with_reducible first | exact HB.out | apply below_alloc | apply pw_below_drewN | apply below_drew1 | refine qs ?_ (by assumption)) | exact HB.out)) hb)
                                  clear HO122
                                  clear BK114
                                  clear BK115
                                  clear HB
                                  have HO122 := n0_
                                  have HO126 := n1_
                                  have BK114 := n2_
                                  have BK115 := n3_
                                  have HB := n4_
                                  clear n0_ n1_ n2_ n3_ n4_
                                  (try clear hb)
                                  (try clear hb2)
                                  (try clear hk)
                                  (try clear hi)
                                  (try clear ho0)
                                  refine hK.out _ _ ⟨(blk_cell BK114.out 0).trans rfl, (blk_cell BK114.out 1).trans rfl, (blk_cell BK115.out 0).trans rfl, (blk_cell BK115.out 1).trans rfl⟩ (fun hHeld => ?_)
                                  clear hK K
                                  refine norm_ (a' := ?_) ?_ ?_
                                  rotate_left
                                  · show Act.put _ (some 19) _ = _
                                    simp only [Act.put, List.setIfInBounds_toArray, List.set_cons_zero, List.set_cons_succ, i64_w, i32_w]
                                    rfl
                                  exact norm_ (by first | (simp only [putAll, Act.put, List.setIfInBounds_toArray, List.set_cons_zero, List.set_cons_succ]; done) | (simp only [putAll, Act.put, List.setIfInBounds_toArray, List.set_cons_zero, List.set_cons_succ]; rfl)) (hJ1_3 (v121, v125) _ ⟨hHeld, (by (with_reducible repeat (first | apply Kd.R_alloc | apply Kd.R_drewN | apply Kd.R_drew)); exact Kd.R_mono HO122.out (fun _ hk => hk.2)), (by (with_reducible repeat (first | apply Kd.R_alloc | apply Kd.R_drewN | apply Kd.R_drew)); exact Kd.R_mono HO126.out (fun _ hk => hk.2)), (by (with_reducible repeat (first | refine qN ?_ _ | refine qW ?_ | refine qA ?_ _)); exact BK114.out), (by (with_reducible repeat (first | refine qN ?_ _ | refine qW ?_ | refine qA ?_ _)); exact BK115.out), (by repeat (first | (with_reducible first | exact HB.out | apply below_alloc | apply pw_below_drewN | apply below_drew1 | refine qs ?_ (by assumption)) | exact HB.out))⟩)
                                · skip
                                  refine box_step ?hg (N := 5) ?hd (cs := #[.bool false, .slice none 0 0]) (t := 25) ?hr ?_; (case hd => rfl); (case hg => rfl); (case hr => first | (go_simp; done) | (go_simp; rfl))
                                  intro gb127 hg w37 hbox hb
                                  have n0_ := qr HO122 hb
                                  have n1_ := qb BK114 hb
                                  have n2_ := qb BK115 hb
                                  have n3_ := Aside0.mk (below_step (by repeat (first | (with_reducible first | exact HB.out | apply below_alloc | apply pw_below_drewN | apply below_drew1 | refine qs ?_ (by assumption)) | exact HB.out)) hb)
                                  have n4_ := Aside0.mk (hbox)
                                  have n5_ := qg hg (by repeat (first | (with_reducible first | exact HB.out | apply below_alloc | apply pw_below_drewN | apply below_drew1 | refine qs ?_ (by assumption)) | exact HB.out))
                                  have n6_ := qg hg (by repeat (first | (with_reducible first | exact HB.out | apply below_alloc | apply pw_below_drewN | apply below_drew1 | refine qs ?_ (by assumption)) | exact HB.out))
                                  have n7_ := qn BK114 hg
                                  have n8_ := qm BK114 hg
                                  have n9_ := qn BK115 hg
                                  have n10_ := qm BK115 hg
                                  clear HO122
                                  clear BK114
                                  clear BK115
                                  clear HB
                                  have HO122 := n0_
                                  have BK114 := n1_
                                  have BK115 := n2_
                                  have HB := n3_
                                  have BK127 := n4_
                                  have GW127 := n5_
                                  have GE127 := n6_
                                  have NB114_127 := n7_
                                  have NB127_114 := n8_
                                  have NB115_127 := n9_
                                  have NB127_115 := n10_
                                  clear n0_ n1_ n2_ n3_ n4_ n5_ n6_ n7_ n8_ n9_ n10_
                                  clear hb hbox hg
                                  refine hK.out _ _ ⟨(blk_cell BK114.out 0).trans rfl, (blk_cell BK114.out 1).trans rfl, (blk_cell BK115.out 0).trans rfl, (blk_cell BK115.out 1).trans rfl⟩ (fun hHeld => ?_)
                                  clear hK K
                                  refine norm_ (a' := ?_) ?_ ?_
                                  rotate_left
                                  · show Act.put _ (some 5) _ = _
                                    simp only [Act.put, List.setIfInBounds_toArray, List.set_cons_zero, List.set_cons_succ, i64_w, i32_w]
                                    rfl
                                  exact norm_ (by first | (simp only [putAll, Act.put, List.setIfInBounds_toArray, List.set_cons_zero, List.set_cons_succ]; done) | (simp only [putAll, Act.put, List.setIfInBounds_toArray, List.set_cons_zero, List.set_cons_succ]; rfl)) (hJ1_4 (v121, gb127) _ ⟨hHeld, (by (with_reducible repeat (first | apply Kd.R_alloc | apply Kd.R_drewN | apply Kd.R_drew)); exact HO122.out), (by (with_reducible repeat (first | refine qN ?_ _ | refine qW ?_ | refine qA ?_ _)); exact BK114.out), (by (with_reducible repeat (first | refine qN ?_ _ | refine qW ?_ | refine qA ?_ _)); exact BK115.out), (by (with_reducible repeat (first | refine qN ?_ _ | refine qW ?_ | refine qA ?_ _)); exact BK127.out), GW127.out, GE127.out, NB114_127.out, NB127_114.out, NB115_127.out, NB127_115.out, (by repeat (first | (with_reducible first | exact HB.out | apply below_alloc | apply pw_below_drewN | apply below_drew1 | refine qs ?_ (by assumption)) | exact HB.out))⟩)
                                · skip
                                  refine box_step ?hg (N := 6) ?hd (cs := #[.bool false, .slice none 0 0]) (t := 25) ?hr ?_; (case hd => rfl); (case hg => rfl); (case hr => first | (go_simp; done) | (go_simp; rfl))
                                  intro gb128 hg w37 hbox hb
                                  have n0_ := qr HO122 hb
                                  have n1_ := qb BK114 hb
                                  have n2_ := qb BK115 hb
                                  have n3_ := Aside0.mk (below_step (by repeat (first | (with_reducible first | exact HB.out | apply below_alloc | apply pw_below_drewN | apply below_drew1 | refine qs ?_ (by assumption)) | exact HB.out)) hb)
                                  have n4_ := Aside0.mk (hbox)
                                  have n5_ := qg hg (by repeat (first | (with_reducible first | exact HB.out | apply below_alloc | apply pw_below_drewN | apply below_drew1 | refine qs ?_ (by assumption)) | exact HB.out))
                                  have n6_ := qg hg (by repeat (first | (with_reducible first | exact HB.out | apply below_alloc | apply pw_below_drewN | apply below_drew1 | refine qs ?_ (by assumption)) | exact HB.out))
                                  have n7_ := qn BK114 hg
                                  have n8_ := qm BK114 hg
                                  have n9_ := qn BK115 hg
                                  have n10_ := qm BK115 hg
                                  clear HO122
                                  clear BK114
                                  clear BK115
                                  clear HB
                                  have HO122 := n0_
                                  have BK114 := n1_
                                  have BK115 := n2_
                                  have HB := n3_
                                  have BK128 := n4_
                                  have GW128 := n5_
                                  have GE128 := n6_
                                  have NB114_128 := n7_
                                  have NB128_114 := n8_
                                  have NB115_128 := n9_
                                  have NB128_115 := n10_
                                  clear n0_ n1_ n2_ n3_ n4_ n5_ n6_ n7_ n8_ n9_ n10_
                                  clear hb hbox hg
                                  refine hK.out _ _ ⟨(blk_cell BK114.out 0).trans rfl, (blk_cell BK114.out 1).trans rfl, (blk_cell BK115.out 0).trans rfl, (blk_cell BK115.out 1).trans rfl⟩ (fun hHeld => ?_)
                                  clear hK K
                                  refine norm_ (a' := ?_) ?_ ?_
                                  rotate_left
                                  · show Act.put _ (some 6) _ = _
                                    simp only [Act.put, List.setIfInBounds_toArray, List.set_cons_zero, List.set_cons_succ, i64_w, i32_w]
                                    rfl
                                  exact norm_ (by first | (simp only [putAll, Act.put, List.setIfInBounds_toArray, List.set_cons_zero, List.set_cons_succ]; done) | (simp only [putAll, Act.put, List.setIfInBounds_toArray, List.set_cons_zero, List.set_cons_succ]; rfl)) (hJ1_5 (v121, gb128) _ ⟨hHeld, (by (with_reducible repeat (first | apply Kd.R_alloc | apply Kd.R_drewN | apply Kd.R_drew)); exact HO122.out), (by (with_reducible repeat (first | refine qN ?_ _ | refine qW ?_ | refine qA ?_ _)); exact BK114.out), (by (with_reducible repeat (first | refine qN ?_ _ | refine qW ?_ | refine qA ?_ _)); exact BK115.out), (by (with_reducible repeat (first | refine qN ?_ _ | refine qW ?_ | refine qA ?_ _)); exact BK128.out), GW128.out, GE128.out, NB114_128.out, NB128_114.out, NB115_128.out, NB128_115.out, (by repeat (first | (with_reducible first | exact HB.out | apply below_alloc | apply pw_below_drewN | apply below_drew1 | refine qs ?_ (by assumption)) | exact HB.out))⟩)
                            · skip
                              rintro ⟨gb127, gb128⟩ w37 ⟨hS_, h0_, h1_, h2_, h3_, h4_, h5_, h6_, h7_, h8_, h9_, h10_, h11_, h12_, h13_, h14_, h15_, h16_, h17_, h18_⟩
                              have n0_ : Aside0 (w37.heap[gb114]? = some (.cells #[.bool a0_0, .slice A0_1 l0_1.length c0_1] 25 (0, 0))) := ⟨h0_⟩
                              have n1_ : Aside0 (w37.heap[gb115]? = some (.cells #[.bool a1_0, .slice A1_1 l1_1.length c1_1] 25 (0, 0))) := ⟨h1_⟩
                              have n2_ : Aside0 (w37.heap[gb127]? = some (.cells #[.bool false, .slice none 0 0] 25 (0, 0))) := ⟨h2_⟩
                              have n3_ : Aside0 (w37.heap[gb128]? = some (.cells #[.bool false, .slice none 0 0] 25 (0, 0))) := ⟨h3_⟩
                              have n4_ : Aside0 (w.heap.size ≤ gb127) := ⟨h4_⟩
                              have n5_ : Aside0 (w.heap.size ≤ gb127) := ⟨h5_⟩
                              have n6_ : Aside0 (gb114 ≠ gb127) := ⟨h6_⟩
                              have n7_ : Aside0 (gb127 ≠ gb114) := ⟨h7_⟩
                              have n8_ : Aside0 (gb115 ≠ gb127) := ⟨h8_⟩
                              have n9_ : Aside0 (gb127 ≠ gb115) := ⟨h9_⟩
                              have n10_ : Aside0 (gb128 ≠ gb127) := ⟨h10_⟩
                              have n11_ : Aside0 (gb127 ≠ gb128) := ⟨h11_⟩
                              have n12_ : Aside0 (w.heap.size ≤ gb128) := ⟨h12_⟩
                              have n13_ : Aside0 (w.heap.size ≤ gb128) := ⟨h13_⟩
                              have n14_ : Aside0 (gb114 ≠ gb128) := ⟨h14_⟩
                              have n15_ : Aside0 (gb128 ≠ gb114) := ⟨h15_⟩
                              have n16_ : Aside0 (gb115 ≠ gb128) := ⟨h16_⟩
                              have n17_ : Aside0 (gb128 ≠ gb115) := ⟨h17_⟩
                              have n18_ : Aside0 (Below w.heap.size w w37) := ⟨h18_⟩
                              clear BK114
                              clear BK115
                              clear HB
                              clear h0_ h1_ h2_ h3_ h4_ h5_ h6_ h7_ h8_ h9_ h10_ h11_ h12_ h13_ h14_ h15_ h16_ h17_ h18_
                              have BK114 := n0_
                              have BK115 := n1_
                              have BK127 := n2_
                              have BK128 := n3_
                              have GW127 := n4_
                              have GE127 := n5_
                              have NB114_127 := n6_
                              have NB127_114 := n7_
                              have NB115_127 := n8_
                              have NB127_115 := n9_
                              have NB128_127 := n10_
                              have NB127_128 := n11_
                              have GW128 := n12_
                              have GE128 := n13_
                              have NB114_128 := n14_
                              have NB128_114 := n15_
                              have NB115_128 := n16_
                              have NB128_115 := n17_
                              have HB := n18_
                              clear n0_ n1_ n2_ n3_ n4_ n5_ n6_ n7_ n8_ n9_ n10_ n11_ n12_ n13_ n14_ n15_ n16_ n17_ n18_
                              have hHeld : w37.cell? ⟨gb114, 0, none⟩ = some (.bool a0_0) ∧ w37.cell? ⟨gb114, 1, none⟩ = some (.slice A0_1 l0_1.length c0_1) ∧ w37.cell? ⟨gb115, 0, none⟩ = some (.bool a1_0) ∧ w37.cell? ⟨gb115, 1, none⟩ = some (.slice A1_1 l1_1.length c1_1) := hS_
                              refine norm_ (a' := ?_) ?_ ?_
                              rotate_left
                              · simp only [putAll, Act.put, List.setIfInBounds_toArray, List.set_cons_zero, List.set_cons_succ]
                                rfl
                              refine one_ (i := 1) (N := some 17) #[true, true, true, false, true, true, false, false] rfl rfl (one_of HT_.out (by kernel_rfl)) (by decide) (fun K hK => ?_)
                              refine goes_ Tryd.func28 (by kernel_rfl) rfl #[.agg #[.bool a0_0, .slice A0_1 l0_1.length c0_1]] (by rfl) rfl rfl (by (try simp only [List.map_toArray, List.map_cons, List.map_nil]); first | done | rfl | (simp only [List.length_drop, List.length_take]; rfl)) ?_
                              with_reducible refine (moraineref02_Copy.calls a0_0 _ _ l0_1 t119 t120 _ ?side1 ?side2 A20.out).mono ?_
                              (case side1 => repeat (first | exact (Kd.C_below HR0_1.out HB.out) | (with_reducible refine Kd.C_alloc ?_ _) | (with_reducible refine Kd.C_drewN ?_ _) | (with_reducible refine Kd.C_drew ?_)))
                              (case side2 => exact HC0_1.out)
                              rintro e w38 ⟨v121, rfl, ho0, hb⟩
                              refine ⟨_, rfl, ?_⟩
                              have n0_ := Aside0.mk (Kd.R_lower ho0 (below_size (by repeat (first | (with_reducible first | exact HB.out | apply below_alloc | apply pw_below_drewN | apply below_drew1 | refine qs ?_ (by assumption)) | exact HB.out))))
                              have n1_ := qb BK114 hb
                              have n2_ := qb BK115 hb
                              have n3_ := qb BK127 hb
                              have n4_ := qb BK128 hb
                              have n5_ := Aside0.mk (below_step (by repeat (first | (with_reducible first | exact HB.out | apply below_alloc | apply pw_below_drewN | apply below_drew1 | refine qs ?_ (by assumption)) | exact HB.out)) hb)
                              clear BK114
                              clear BK115
                              clear BK127
                              clear BK128
                              clear HB
                              have HO122 := n0_
                              have BK114 := n1_
                              have BK115 := n2_
                              have BK127 := n3_
                              have BK128 := n4_
                              have HB := n5_
                              clear n0_ n1_ n2_ n3_ n4_ n5_
                              (try clear hb)
                              (try clear hb2)
                              (try clear hk)
                              (try clear hi)
                              (try clear ho0)
                              refine hK.out _ _ ⟨(blk_cell BK114.out 0).trans rfl, (blk_cell BK114.out 1).trans rfl, (blk_cell BK115.out 0).trans rfl, (blk_cell BK115.out 1).trans rfl⟩ (fun hHeld => ?_)
                              clear hK K
                              refine norm_ (a' := ?_) ?_ ?_
                              rotate_left
                              · show Act.put _ (some 17) _ = _
                                simp only [Act.put, List.setIfInBounds_toArray, List.set_cons_zero, List.set_cons_succ, i64_w, i32_w]
                                rfl
                              exact norm_ (by first | (simp only [putAll, Act.put, List.setIfInBounds_toArray, List.set_cons_zero, List.set_cons_succ]; done) | (simp only [putAll, Act.put, List.setIfInBounds_toArray, List.set_cons_zero, List.set_cons_succ]; rfl)) (hJ1_4_5 (v121, gb127, gb128) _ ⟨hHeld, (by (with_reducible repeat (first | apply Kd.R_alloc | apply Kd.R_drewN | apply Kd.R_drew)); exact HO122.out), (by (with_reducible repeat (first | refine qN ?_ _ | refine qW ?_ | refine qA ?_ _)); exact BK114.out), (by (with_reducible repeat (first | refine qN ?_ _ | refine qW ?_ | refine qA ?_ _)); exact BK115.out), (by (with_reducible repeat (first | refine qN ?_ _ | refine qW ?_ | refine qA ?_ _)); exact BK127.out), (by (with_reducible repeat (first | refine qN ?_ _ | refine qW ?_ | refine qA ?_ _)); exact BK128.out), GW127.out, GE127.out, NB114_127.out, NB127_114.out, NB115_127.out, NB127_115.out, NB128_127.out, NB127_128.out, GW128.out, GE128.out, NB114_128.out, NB128_114.out, NB115_128.out, NB128_115.out, (by repeat (first | (with_reducible first | exact HB.out | apply below_alloc | apply pw_below_drewN | apply below_drew1 | refine qs ?_ (by assumption)) | exact HB.out))⟩)
                          · skip
                            rintro ⟨v121, gb128⟩ w37 ⟨hS_, h0_, h1_, h2_, h3_, h4_, h5_, h6_, h7_, h8_, h9_, h10_⟩
                            have n0_ : Aside0 (Kd.R (Kd.int .u32) 63 w37 w.heap.size (fun _ => True) v121 t120) := ⟨h0_⟩
                            have n1_ : Aside0 (w37.heap[gb114]? = some (.cells #[.bool a0_0, .slice A0_1 l0_1.length c0_1] 25 (0, 0))) := ⟨h1_⟩
                            have n2_ : Aside0 (w37.heap[gb115]? = some (.cells #[.bool a1_0, .slice A1_1 l1_1.length c1_1] 25 (0, 0))) := ⟨h2_⟩
                            have n3_ : Aside0 (w37.heap[gb128]? = some (.cells #[.bool false, .slice none 0 0] 25 (0, 0))) := ⟨h3_⟩
                            have n4_ : Aside0 (w.heap.size ≤ gb128) := ⟨h4_⟩
                            have n5_ : Aside0 (w.heap.size ≤ gb128) := ⟨h5_⟩
                            have n6_ : Aside0 (gb114 ≠ gb128) := ⟨h6_⟩
                            have n7_ : Aside0 (gb128 ≠ gb114) := ⟨h7_⟩
                            have n8_ : Aside0 (gb115 ≠ gb128) := ⟨h8_⟩
                            have n9_ : Aside0 (gb128 ≠ gb115) := ⟨h9_⟩
                            have n10_ : Aside0 (Below w.heap.size w w37) := ⟨h10_⟩
                            clear BK114
                            clear BK115
                            clear HB
                            clear h0_ h1_ h2_ h3_ h4_ h5_ h6_ h7_ h8_ h9_ h10_
                            have HO122 := n0_
                            have BK114 := n1_
                            have BK115 := n2_
                            have BK128 := n3_
                            have GW128 := n4_
                            have GE128 := n5_
                            have NB114_128 := n6_
                            have NB128_114 := n7_
                            have NB115_128 := n8_
                            have NB128_115 := n9_
                            have HB := n10_
                            clear n0_ n1_ n2_ n3_ n4_ n5_ n6_ n7_ n8_ n9_ n10_
                            have hHeld : w37.cell? ⟨gb114, 0, none⟩ = some (.bool a0_0) ∧ w37.cell? ⟨gb114, 1, none⟩ = some (.slice A0_1 l0_1.length c0_1) ∧ w37.cell? ⟨gb115, 0, none⟩ = some (.bool a1_0) ∧ w37.cell? ⟨gb115, 1, none⟩ = some (.slice A1_1 l1_1.length c1_1) := hS_
                            refine norm_ (a' := ?_) ?_ ?_
                            rotate_left
                            · simp only [putAll, Act.put, List.setIfInBounds_toArray, List.set_cons_zero, List.set_cons_succ]
                              rfl
                            refine two_ (i := 3) (j := 4) (Ni := some 19) (Nj := some 5) #[true, true, true, true, false, true, false, false] #[true, true, true, false, true, true, false, false] rfl rfl rfl rfl (two_of HT_.out (by kernel_rfl)) (by decide) (by decide) (fun K hK => ?_) (fun K hK => ?_)
                            · skip
                              refine goes_ Tryd.func28 (by kernel_rfl) rfl #[.agg #[.bool a1_0, .slice A1_1 l1_1.length c1_1]] (by rfl) rfl rfl (by (try simp only [List.map_toArray, List.map_cons, List.map_nil]); first | done | rfl | (simp only [List.length_drop, List.length_take]; rfl)) ?_
                              with_reducible refine (moraineref02_Copy.calls a1_0 _ _ l1_1 t123 t124 _ ?side1 ?side2 A21.out).mono ?_
                              (case side1 => repeat (first | exact (Kd.C_below HR1_1.out HB.out) | (with_reducible refine Kd.C_alloc ?_ _) | (with_reducible refine Kd.C_drewN ?_ _) | (with_reducible refine Kd.C_drew ?_)))
                              (case side2 => exact HC1_1.out)
                              rintro e w38 ⟨v125, rfl, ho0, hb⟩
                              refine ⟨_, rfl, ?_⟩
                              have n0_ := qe HO122 ho0 hb
                              have n1_ := Aside0.mk (Kd.R_lower (Kd.R_new' ho0 (ql HO122)) (below_size (by repeat (first | (with_reducible first | exact HB.out | apply below_alloc | apply pw_below_drewN | apply below_drew1 | refine qs ?_ (by assumption)) | exact HB.out))))
                              have n2_ := qb BK114 hb
                              have n3_ := qb BK115 hb
                              have n4_ := qb BK128 hb
                              have n5_ := Aside0.mk (below_step (by repeat (first | (with_reducible first | exact HB.out | apply below_alloc | apply pw_below_drewN | apply below_drew1 | refine qs ?_ (by assumption)) | exact HB.out)) hb)
                              clear HO122
                              clear BK114
                              clear BK115
                              clear BK128
                              clear HB
                              have HO122 := n0_
                              have HO126 := n1_
                              have BK114 := n2_
                              have BK115 := n3_
                              have BK128 := n4_
                              have HB := n5_
                              clear n0_ n1_ n2_ n3_ n4_ n5_
                              (try clear hb)
                              (try clear hb2)
                              (try clear hk)
                              (try clear hi)
                              (try clear ho0)
                              refine hK.out _ _ ⟨(blk_cell BK114.out 0).trans rfl, (blk_cell BK114.out 1).trans rfl, (blk_cell BK115.out 0).trans rfl, (blk_cell BK115.out 1).trans rfl⟩ (fun hHeld => ?_)
                              clear hK K
                              refine norm_ (a' := ?_) ?_ ?_
                              rotate_left
                              · show Act.put _ (some 19) _ = _
                                simp only [Act.put, List.setIfInBounds_toArray, List.set_cons_zero, List.set_cons_succ, i64_w, i32_w]
                                rfl
                              exact norm_ (by first | (simp only [putAll, Act.put, List.setIfInBounds_toArray, List.set_cons_zero, List.set_cons_succ]; done) | (simp only [putAll, Act.put, List.setIfInBounds_toArray, List.set_cons_zero, List.set_cons_succ]; rfl)) (hJ1_3_5 (v121, v125, gb128) _ ⟨hHeld, (by (with_reducible repeat (first | apply Kd.R_alloc | apply Kd.R_drewN | apply Kd.R_drew)); exact Kd.R_mono HO122.out (fun _ hk => hk.2)), (by (with_reducible repeat (first | apply Kd.R_alloc | apply Kd.R_drewN | apply Kd.R_drew)); exact Kd.R_mono HO126.out (fun _ hk => hk.2)), (by (with_reducible repeat (first | refine qN ?_ _ | refine qW ?_ | refine qA ?_ _)); exact BK114.out), (by (with_reducible repeat (first | refine qN ?_ _ | refine qW ?_ | refine qA ?_ _)); exact BK115.out), (by (with_reducible repeat (first | refine qN ?_ _ | refine qW ?_ | refine qA ?_ _)); exact BK128.out), GW128.out, GE128.out, NB114_128.out, NB128_114.out, NB115_128.out, NB128_115.out, (by repeat (first | (with_reducible first | exact HB.out | apply below_alloc | apply pw_below_drewN | apply below_drew1 | refine qs ?_ (by assumption)) | exact HB.out))⟩)
                            · skip
                              refine box_step ?hg (N := 5) ?hd (cs := #[.bool false, .slice none 0 0]) (t := 25) ?hr ?_; (case hd => rfl); (case hg => rfl); (case hr => first | (go_simp; done) | (go_simp; rfl))
                              intro gb127 hg w38 hbox hb
                              have n0_ := qr HO122 hb
                              have n1_ := qb BK114 hb
                              have n2_ := qb BK115 hb
                              have n3_ := qb BK128 hb
                              have n4_ := Aside0.mk (below_step (by repeat (first | (with_reducible first | exact HB.out | apply below_alloc | apply pw_below_drewN | apply below_drew1 | refine qs ?_ (by assumption)) | exact HB.out)) hb)
                              have n5_ := Aside0.mk (hbox)
                              have n6_ := qg hg (by repeat (first | (with_reducible first | exact HB.out | apply below_alloc | apply pw_below_drewN | apply below_drew1 | refine qs ?_ (by assumption)) | exact HB.out))
                              have n7_ := qg hg (by repeat (first | (with_reducible first | exact HB.out | apply below_alloc | apply pw_below_drewN | apply below_drew1 | refine qs ?_ (by assumption)) | exact HB.out))
                              have n8_ := qn BK114 hg
                              have n9_ := qm BK114 hg
                              have n10_ := qn BK115 hg
                              have n11_ := qm BK115 hg
                              have n12_ := qn BK128 hg
                              have n13_ := qm BK128 hg
                              clear HO122
                              clear BK114
                              clear BK115
                              clear BK128
                              clear HB
                              have HO122 := n0_
                              have BK114 := n1_
                              have BK115 := n2_
                              have BK128 := n3_
                              have HB := n4_
                              have BK127 := n5_
                              have GW127 := n6_
                              have GE127 := n7_
                              have NB114_127 := n8_
                              have NB127_114 := n9_
                              have NB115_127 := n10_
                              have NB127_115 := n11_
                              have NB128_127 := n12_
                              have NB127_128 := n13_
                              clear n0_ n1_ n2_ n3_ n4_ n5_ n6_ n7_ n8_ n9_ n10_ n11_ n12_ n13_
                              clear hb hbox hg
                              refine hK.out _ _ ⟨(blk_cell BK114.out 0).trans rfl, (blk_cell BK114.out 1).trans rfl, (blk_cell BK115.out 0).trans rfl, (blk_cell BK115.out 1).trans rfl⟩ (fun hHeld => ?_)
                              clear hK K
                              refine norm_ (a' := ?_) ?_ ?_
                              rotate_left
                              · show Act.put _ (some 5) _ = _
                                simp only [Act.put, List.setIfInBounds_toArray, List.set_cons_zero, List.set_cons_succ, i64_w, i32_w]
                                rfl
                              exact norm_ (by first | (simp only [putAll, Act.put, List.setIfInBounds_toArray, List.set_cons_zero, List.set_cons_succ]; done) | (simp only [putAll, Act.put, List.setIfInBounds_toArray, List.set_cons_zero, List.set_cons_succ]; rfl)) (hJ1_4_5 (v121, gb127, gb128) _ ⟨hHeld, (by (with_reducible repeat (first | apply Kd.R_alloc | apply Kd.R_drewN | apply Kd.R_drew)); exact HO122.out), (by (with_reducible repeat (first | refine qN ?_ _ | refine qW ?_ | refine qA ?_ _)); exact BK114.out), (by (with_reducible repeat (first | refine qN ?_ _ | refine qW ?_ | refine qA ?_ _)); exact BK115.out), (by (with_reducible repeat (first | refine qN ?_ _ | refine qW ?_ | refine qA ?_ _)); exact BK127.out), (by (with_reducible repeat (first | refine qN ?_ _ | refine qW ?_ | refine qA ?_ _)); exact BK128.out), GW127.out, GE127.out, NB114_127.out, NB127_114.out, NB115_127.out, NB127_115.out, NB128_127.out, NB127_128.out, GW128.out, GE128.out, NB114_128.out, NB128_114.out, NB115_128.out, NB128_115.out, (by repeat (first | (with_reducible first | exact HB.out | apply below_alloc | apply pw_below_drewN | apply below_drew1 | refine qs ?_ (by assumption)) | exact HB.out))⟩)
                        · skip
                          rintro ⟨v121, gb127⟩ w37 ⟨hS_, h0_, h1_, h2_, h3_, h4_, h5_, h6_, h7_, h8_, h9_, h10_⟩
                          have n0_ : Aside0 (Kd.R (Kd.int .u32) 63 w37 w.heap.size (fun _ => True) v121 t120) := ⟨h0_⟩
                          have n1_ : Aside0 (w37.heap[gb114]? = some (.cells #[.bool a0_0, .slice A0_1 l0_1.length c0_1] 25 (0, 0))) := ⟨h1_⟩
                          have n2_ : Aside0 (w37.heap[gb115]? = some (.cells #[.bool a1_0, .slice A1_1 l1_1.length c1_1] 25 (0, 0))) := ⟨h2_⟩
                          have n3_ : Aside0 (w37.heap[gb127]? = some (.cells #[.bool false, .slice none 0 0] 25 (0, 0))) := ⟨h3_⟩
                          have n4_ : Aside0 (w.heap.size ≤ gb127) := ⟨h4_⟩
                          have n5_ : Aside0 (w.heap.size ≤ gb127) := ⟨h5_⟩
                          have n6_ : Aside0 (gb114 ≠ gb127) := ⟨h6_⟩
                          have n7_ : Aside0 (gb127 ≠ gb114) := ⟨h7_⟩
                          have n8_ : Aside0 (gb115 ≠ gb127) := ⟨h8_⟩
                          have n9_ : Aside0 (gb127 ≠ gb115) := ⟨h9_⟩
                          have n10_ : Aside0 (Below w.heap.size w w37) := ⟨h10_⟩
                          clear BK114
                          clear BK115
                          clear HB
                          clear h0_ h1_ h2_ h3_ h4_ h5_ h6_ h7_ h8_ h9_ h10_
                          have HO122 := n0_
                          have BK114 := n1_
                          have BK115 := n2_
                          have BK127 := n3_
                          have GW127 := n4_
                          have GE127 := n5_
                          have NB114_127 := n6_
                          have NB127_114 := n7_
                          have NB115_127 := n8_
                          have NB127_115 := n9_
                          have HB := n10_
                          clear n0_ n1_ n2_ n3_ n4_ n5_ n6_ n7_ n8_ n9_ n10_
                          have hHeld : w37.cell? ⟨gb114, 0, none⟩ = some (.bool a0_0) ∧ w37.cell? ⟨gb114, 1, none⟩ = some (.slice A0_1 l0_1.length c0_1) ∧ w37.cell? ⟨gb115, 0, none⟩ = some (.bool a1_0) ∧ w37.cell? ⟨gb115, 1, none⟩ = some (.slice A1_1 l1_1.length c1_1) := hS_
                          refine norm_ (a' := ?_) ?_ ?_
                          rotate_left
                          · simp only [putAll, Act.put, List.setIfInBounds_toArray, List.set_cons_zero, List.set_cons_succ]
                            rfl
                          refine two_ (i := 3) (j := 5) (Ni := some 19) (Nj := some 6) #[true, true, true, true, true, false, false, false] #[true, true, true, false, true, true, false, false] rfl rfl rfl rfl (two_of HT_.out (by kernel_rfl)) (by decide) (by decide) (fun K hK => ?_) (fun K hK => ?_)
                          · skip
                            refine goes_ Tryd.func28 (by kernel_rfl) rfl #[.agg #[.bool a1_0, .slice A1_1 l1_1.length c1_1]] (by rfl) rfl rfl (by (try simp only [List.map_toArray, List.map_cons, List.map_nil]); first | done | rfl | (simp only [List.length_drop, List.length_take]; rfl)) ?_
                            with_reducible refine (moraineref02_Copy.calls a1_0 _ _ l1_1 t123 t124 _ ?side1 ?side2 A21.out).mono ?_
                            (case side1 => repeat (first | exact (Kd.C_below HR1_1.out HB.out) | (with_reducible refine Kd.C_alloc ?_ _) | (with_reducible refine Kd.C_drewN ?_ _) | (with_reducible refine Kd.C_drew ?_)))
                            (case side2 => exact HC1_1.out)
                            rintro e w38 ⟨v125, rfl, ho0, hb⟩
                            refine ⟨_, rfl, ?_⟩
                            have n0_ := qe HO122 ho0 hb
                            have n1_ := Aside0.mk (Kd.R_lower (Kd.R_new' ho0 (ql HO122)) (below_size (by repeat (first | (with_reducible first | exact HB.out | apply below_alloc | apply pw_below_drewN | apply below_drew1 | refine qs ?_ (by assumption)) | exact HB.out))))
                            have n2_ := qb BK114 hb
                            have n3_ := qb BK115 hb
                            have n4_ := qb BK127 hb
                            have n5_ := Aside0.mk (below_step (by repeat (first | (with_reducible first | exact HB.out | apply below_alloc | apply pw_below_drewN | apply below_drew1 | refine qs ?_ (by assumption)) | exact HB.out)) hb)
                            clear HO122
                            clear BK114
                            clear BK115
                            clear BK127
                            clear HB
                            have HO122 := n0_
                            have HO126 := n1_
                            have BK114 := n2_
                            have BK115 := n3_
                            have BK127 := n4_
                            have HB := n5_
                            clear n0_ n1_ n2_ n3_ n4_ n5_
                            (try clear hb)
                            (try clear hb2)
                            (try clear hk)
                            (try clear hi)
                            (try clear ho0)
                            refine hK.out _ _ ⟨(blk_cell BK114.out 0).trans rfl, (blk_cell BK114.out 1).trans rfl, (blk_cell BK115.out 0).trans rfl, (blk_cell BK115.out 1).trans rfl⟩ (fun hHeld => ?_)
                            clear hK K
                            refine norm_ (a' := ?_) ?_ ?_
                            rotate_left
                            · show Act.put _ (some 19) _ = _
                              simp only [Act.put, List.setIfInBounds_toArray, List.set_cons_zero, List.set_cons_succ, i64_w, i32_w]
                              rfl
                            exact norm_ (by first | (simp only [putAll, Act.put, List.setIfInBounds_toArray, List.set_cons_zero, List.set_cons_succ]; done) | (simp only [putAll, Act.put, List.setIfInBounds_toArray, List.set_cons_zero, List.set_cons_succ]; rfl)) (hJ1_3_4 (v121, v125, gb127) _ ⟨hHeld, (by (with_reducible repeat (first | apply Kd.R_alloc | apply Kd.R_drewN | apply Kd.R_drew)); exact Kd.R_mono HO122.out (fun _ hk => hk.2)), (by (with_reducible repeat (first | apply Kd.R_alloc | apply Kd.R_drewN | apply Kd.R_drew)); exact Kd.R_mono HO126.out (fun _ hk => hk.2)), (by (with_reducible repeat (first | refine qN ?_ _ | refine qW ?_ | refine qA ?_ _)); exact BK114.out), (by (with_reducible repeat (first | refine qN ?_ _ | refine qW ?_ | refine qA ?_ _)); exact BK115.out), (by (with_reducible repeat (first | refine qN ?_ _ | refine qW ?_ | refine qA ?_ _)); exact BK127.out), GW127.out, GE127.out, NB114_127.out, NB127_114.out, NB115_127.out, NB127_115.out, (by repeat (first | (with_reducible first | exact HB.out | apply below_alloc | apply pw_below_drewN | apply below_drew1 | refine qs ?_ (by assumption)) | exact HB.out))⟩)
                          · skip
                            refine box_step ?hg (N := 6) ?hd (cs := #[.bool false, .slice none 0 0]) (t := 25) ?hr ?_; (case hd => rfl); (case hg => rfl); (case hr => first | (go_simp; done) | (go_simp; rfl))
                            intro gb128 hg w38 hbox hb
                            have n0_ := qr HO122 hb
                            have n1_ := qb BK114 hb
                            have n2_ := qb BK115 hb
                            have n3_ := qb BK127 hb
                            have n4_ := Aside0.mk (below_step (by repeat (first | (with_reducible first | exact HB.out | apply below_alloc | apply pw_below_drewN | apply below_drew1 | refine qs ?_ (by assumption)) | exact HB.out)) hb)
                            have n5_ := Aside0.mk (hbox)
                            have n6_ := qg hg (by repeat (first | (with_reducible first | exact HB.out | apply below_alloc | apply pw_below_drewN | apply below_drew1 | refine qs ?_ (by assumption)) | exact HB.out))
                            have n7_ := qg hg (by repeat (first | (with_reducible first | exact HB.out | apply below_alloc | apply pw_below_drewN | apply below_drew1 | refine qs ?_ (by assumption)) | exact HB.out))
                            have n8_ := qn BK114 hg
                            have n9_ := qm BK114 hg
                            have n10_ := qn BK115 hg
                            have n11_ := qm BK115 hg
                            have n12_ := qn BK127 hg
                            have n13_ := qm BK127 hg
                            clear HO122
                            clear BK114
                            clear BK115
                            clear BK127
                            clear HB
                            have HO122 := n0_
                            have BK114 := n1_
                            have BK115 := n2_
                            have BK127 := n3_
                            have HB := n4_
                            have BK128 := n5_
                            have GW128 := n6_
                            have GE128 := n7_
                            have NB114_128 := n8_
                            have NB128_114 := n9_
                            have NB115_128 := n10_
                            have NB128_115 := n11_
                            have NB127_128 := n12_
                            have NB128_127 := n13_
                            clear n0_ n1_ n2_ n3_ n4_ n5_ n6_ n7_ n8_ n9_ n10_ n11_ n12_ n13_
                            clear hb hbox hg
                            refine hK.out _ _ ⟨(blk_cell BK114.out 0).trans rfl, (blk_cell BK114.out 1).trans rfl, (blk_cell BK115.out 0).trans rfl, (blk_cell BK115.out 1).trans rfl⟩ (fun hHeld => ?_)
                            clear hK K
                            refine norm_ (a' := ?_) ?_ ?_
                            rotate_left
                            · show Act.put _ (some 6) _ = _
                              simp only [Act.put, List.setIfInBounds_toArray, List.set_cons_zero, List.set_cons_succ, i64_w, i32_w]
                              rfl
                            exact norm_ (by first | (simp only [putAll, Act.put, List.setIfInBounds_toArray, List.set_cons_zero, List.set_cons_succ]; done) | (simp only [putAll, Act.put, List.setIfInBounds_toArray, List.set_cons_zero, List.set_cons_succ]; rfl)) (hJ1_4_5 (v121, gb127, gb128) _ ⟨hHeld, (by (with_reducible repeat (first | apply Kd.R_alloc | apply Kd.R_drewN | apply Kd.R_drew)); exact HO122.out), (by (with_reducible repeat (first | refine qN ?_ _ | refine qW ?_ | refine qA ?_ _)); exact BK114.out), (by (with_reducible repeat (first | refine qN ?_ _ | refine qW ?_ | refine qA ?_ _)); exact BK115.out), (by (with_reducible repeat (first | refine qN ?_ _ | refine qW ?_ | refine qA ?_ _)); exact BK127.out), (by (with_reducible repeat (first | refine qN ?_ _ | refine qW ?_ | refine qA ?_ _)); exact BK128.out), GW127.out, GE127.out, NB114_127.out, NB127_114.out, NB115_127.out, NB127_115.out, NB128_127.out, NB127_128.out, GW128.out, GE128.out, NB114_128.out, NB128_114.out, NB115_128.out, NB128_115.out, (by repeat (first | (with_reducible first | exact HB.out | apply below_alloc | apply pw_below_drewN | apply below_drew1 | refine qs ?_ (by assumption)) | exact HB.out))⟩)
                      · skip
                        rintro ⟨v121, v125⟩ w37 ⟨hS_, h0_, h1_, h2_, h3_, h4_⟩
                        have n0_ : Aside0 (Kd.R (Kd.int .u32) 63 w37 w.heap.size (fun k_ => some k_ ≠ (v125 : Value).ownBlock) v121 t120) := ⟨h0_⟩
                        have n1_ : Aside0 (Kd.R (Kd.int .u32) 63 w37 w.heap.size (fun k_ => some k_ ≠ (v121 : Value).ownBlock) v125 t124) := ⟨h1_⟩
                        have n2_ : Aside0 (w37.heap[gb114]? = some (.cells #[.bool a0_0, .slice A0_1 l0_1.length c0_1] 25 (0, 0))) := ⟨h2_⟩
                        have n3_ : Aside0 (w37.heap[gb115]? = some (.cells #[.bool a1_0, .slice A1_1 l1_1.length c1_1] 25 (0, 0))) := ⟨h3_⟩
                        have n4_ : Aside0 (Below w.heap.size w w37) := ⟨h4_⟩
                        clear BK114
                        clear BK115
                        clear HB
                        clear h0_ h1_ h2_ h3_ h4_
                        have HO122 := n0_
                        have HO126 := n1_
                        have BK114 := n2_
                        have BK115 := n3_
                        have HB := n4_
                        clear n0_ n1_ n2_ n3_ n4_
                        have hHeld : w37.cell? ⟨gb114, 0, none⟩ = some (.bool a0_0) ∧ w37.cell? ⟨gb114, 1, none⟩ = some (.slice A0_1 l0_1.length c0_1) ∧ w37.cell? ⟨gb115, 0, none⟩ = some (.bool a1_0) ∧ w37.cell? ⟨gb115, 1, none⟩ = some (.slice A1_1 l1_1.length c1_1) := hS_
                        refine norm_ (a' := ?_) ?_ ?_
                        rotate_left
                        · simp only [putAll, Act.put, List.setIfInBounds_toArray, List.set_cons_zero, List.set_cons_succ]
                          rfl
                        refine two_ (i := 4) (j := 5) (Ni := some 5) (Nj := some 6) #[true, true, true, true, true, false, false, false] #[true, true, true, true, false, true, false, false] rfl rfl rfl rfl (two_of HT_.out (by kernel_rfl)) (by decide) (by decide) (fun K hK => ?_) (fun K hK => ?_)
                        · skip
                          refine box_step ?hg (N := 5) ?hd (cs := #[.bool false, .slice none 0 0]) (t := 25) ?hr ?_; (case hd => rfl); (case hg => rfl); (case hr => first | (go_simp; done) | (go_simp; rfl))
                          intro gb127 hg w38 hbox hb
                          have n0_ := qr HO122 hb
                          have n1_ := qr HO126 hb
                          have n2_ := qb BK114 hb
                          have n3_ := qb BK115 hb
                          have n4_ := Aside0.mk (below_step (by repeat (first | (with_reducible first | exact HB.out | apply below_alloc | apply pw_below_drewN | apply below_drew1 | refine qs ?_ (by assumption)) | exact HB.out)) hb)
                          have n5_ := Aside0.mk (hbox)
                          have n6_ := qg hg (by repeat (first | (with_reducible first | exact HB.out | apply below_alloc | apply pw_below_drewN | apply below_drew1 | refine qs ?_ (by assumption)) | exact HB.out))
                          have n7_ := qg hg (by repeat (first | (with_reducible first | exact HB.out | apply below_alloc | apply pw_below_drewN | apply below_drew1 | refine qs ?_ (by assumption)) | exact HB.out))
                          have n8_ := qn BK114 hg
                          have n9_ := qm BK114 hg
                          have n10_ := qn BK115 hg
                          have n11_ := qm BK115 hg
                          clear HO122
                          clear HO126
                          clear BK114
                          clear BK115
                          clear HB
                          have HO122 := n0_
                          have HO126 := n1_
                          have BK114 := n2_
                          have BK115 := n3_
                          have HB := n4_
                          have BK127 := n5_
                          have GW127 := n6_
                          have GE127 := n7_
                          have NB114_127 := n8_
                          have NB127_114 := n9_
                          have NB115_127 := n10_
                          have NB127_115 := n11_
                          clear n0_ n1_ n2_ n3_ n4_ n5_ n6_ n7_ n8_ n9_ n10_ n11_
                          clear hb hbox hg
                          refine hK.out _ _ ⟨(blk_cell BK114.out 0).trans rfl, (blk_cell BK114.out 1).trans rfl, (blk_cell BK115.out 0).trans rfl, (blk_cell BK115.out 1).trans rfl⟩ (fun hHeld => ?_)
                          clear hK K
                          refine norm_ (a' := ?_) ?_ ?_
                          rotate_left
                          · show Act.put _ (some 5) _ = _
                            simp only [Act.put, List.setIfInBounds_toArray, List.set_cons_zero, List.set_cons_succ, i64_w, i32_w]
                            rfl
                          exact norm_ (by first | (simp only [putAll, Act.put, List.setIfInBounds_toArray, List.set_cons_zero, List.set_cons_succ]; done) | (simp only [putAll, Act.put, List.setIfInBounds_toArray, List.set_cons_zero, List.set_cons_succ]; rfl)) (hJ1_3_4 (v121, v125, gb127) _ ⟨hHeld, (by (with_reducible repeat (first | apply Kd.R_alloc | apply Kd.R_drewN | apply Kd.R_drew)); exact HO122.out), (by (with_reducible repeat (first | apply Kd.R_alloc | apply Kd.R_drewN | apply Kd.R_drew)); exact HO126.out), (by (with_reducible repeat (first | refine qN ?_ _ | refine qW ?_ | refine qA ?_ _)); exact BK114.out), (by (with_reducible repeat (first | refine qN ?_ _ | refine qW ?_ | refine qA ?_ _)); exact BK115.out), (by (with_reducible repeat (first | refine qN ?_ _ | refine qW ?_ | refine qA ?_ _)); exact BK127.out), GW127.out, GE127.out, NB114_127.out, NB127_114.out, NB115_127.out, NB127_115.out, (by repeat (first | (with_reducible first | exact HB.out | apply below_alloc | apply pw_below_drewN | apply below_drew1 | refine qs ?_ (by assumption)) | exact HB.out))⟩)
                        · skip
                          refine box_step ?hg (N := 6) ?hd (cs := #[.bool false, .slice none 0 0]) (t := 25) ?hr ?_; (case hd => rfl); (case hg => rfl); (case hr => first | (go_simp; done) | (go_simp; rfl))
                          intro gb128 hg w38 hbox hb
                          have n0_ := qr HO122 hb
                          have n1_ := qr HO126 hb
                          have n2_ := qb BK114 hb
                          have n3_ := qb BK115 hb
                          have n4_ := Aside0.mk (below_step (by repeat (first | (with_reducible first | exact HB.out | apply below_alloc | apply pw_below_drewN | apply below_drew1 | refine qs ?_ (by assumption)) | exact HB.out)) hb)
                          have n5_ := Aside0.mk (hbox)
                          have n6_ := qg hg (by repeat (first | (with_reducible first | exact HB.out | apply below_alloc | apply pw_below_drewN | apply below_drew1 | refine qs ?_ (by assumption)) | exact HB.out))
                          have n7_ := qg hg (by repeat (first | (with_reducible first | exact HB.out | apply below_alloc | apply pw_below_drewN | apply below_drew1 | refine qs ?_ (by assumption)) | exact HB.out))
                          have n8_ := qn BK114 hg
                          have n9_ := qm BK114 hg
                          have n10_ := qn BK115 hg
                          have n11_ := qm BK115 hg
                          clear HO122
                          clear HO126
                          clear BK114
                          clear BK115
                          clear HB
                          have HO122 := n0_
                          have HO126 := n1_
                          have BK114 := n2_
                          have BK115 := n3_
                          have HB := n4_
                          have BK128 := n5_
                          have GW128 := n6_
                          have GE128 := n7_
                          have NB114_128 := n8_
                          have NB128_114 := n9_
                          have NB115_128 := n10_
                          have NB128_115 := n11_
                          clear n0_ n1_ n2_ n3_ n4_ n5_ n6_ n7_ n8_ n9_ n10_ n11_
                          clear hb hbox hg
                          refine hK.out _ _ ⟨(blk_cell BK114.out 0).trans rfl, (blk_cell BK114.out 1).trans rfl, (blk_cell BK115.out 0).trans rfl, (blk_cell BK115.out 1).trans rfl⟩ (fun hHeld => ?_)
                          clear hK K
                          refine norm_ (a' := ?_) ?_ ?_
                          rotate_left
                          · show Act.put _ (some 6) _ = _
                            simp only [Act.put, List.setIfInBounds_toArray, List.set_cons_zero, List.set_cons_succ, i64_w, i32_w]
                            rfl
                          exact norm_ (by first | (simp only [putAll, Act.put, List.setIfInBounds_toArray, List.set_cons_zero, List.set_cons_succ]; done) | (simp only [putAll, Act.put, List.setIfInBounds_toArray, List.set_cons_zero, List.set_cons_succ]; rfl)) (hJ1_3_5 (v121, v125, gb128) _ ⟨hHeld, (by (with_reducible repeat (first | apply Kd.R_alloc | apply Kd.R_drewN | apply Kd.R_drew)); exact HO122.out), (by (with_reducible repeat (first | apply Kd.R_alloc | apply Kd.R_drewN | apply Kd.R_drew)); exact HO126.out), (by (with_reducible repeat (first | refine qN ?_ _ | refine qW ?_ | refine qA ?_ _)); exact BK114.out), (by (with_reducible repeat (first | refine qN ?_ _ | refine qW ?_ | refine qA ?_ _)); exact BK115.out), (by (with_reducible repeat (first | refine qN ?_ _ | refine qW ?_ | refine qA ?_ _)); exact BK128.out), GW128.out, GE128.out, NB114_128.out, NB128_114.out, NB115_128.out, NB128_115.out, (by repeat (first | (with_reducible first | exact HB.out | apply below_alloc | apply pw_below_drewN | apply below_drew1 | refine qs ?_ (by assumption)) | exact HB.out))⟩)
                    · skip
                      rintro ⟨v121, gb127, gb128⟩ w38 ⟨hS_, h0_, h1_, h2_, h3_, h4_, h5_, h6_, h7_, h8_, h9_, h10_, h11_, h12_, h13_, h14_, h15_, h16_, h17_, h18_, h19_⟩
                      have n0_ : Aside0 (Kd.R (Kd.int .u32) 63 w38 w.heap.size (fun _ => True) v121 t120) := ⟨h0_⟩
                      have n1_ : Aside0 (w38.heap[gb114]? = some (.cells #[.bool a0_0, .slice A0_1 l0_1.length c0_1] 25 (0, 0))) := ⟨h1_⟩
                      have n2_ : Aside0 (w38.heap[gb115]? = some (.cells #[.bool a1_0, .slice A1_1 l1_1.length c1_1] 25 (0, 0))) := ⟨h2_⟩
                      have n3_ : Aside0 (w38.heap[gb127]? = some (.cells #[.bool false, .slice none 0 0] 25 (0, 0))) := ⟨h3_⟩
                      have n4_ : Aside0 (w38.heap[gb128]? = some (.cells #[.bool false, .slice none 0 0] 25 (0, 0))) := ⟨h4_⟩
                      have n5_ : Aside0 (w.heap.size ≤ gb127) := ⟨h5_⟩
                      have n6_ : Aside0 (w.heap.size ≤ gb127) := ⟨h6_⟩
                      have n7_ : Aside0 (gb114 ≠ gb127) := ⟨h7_⟩
                      have n8_ : Aside0 (gb127 ≠ gb114) := ⟨h8_⟩
                      have n9_ : Aside0 (gb115 ≠ gb127) := ⟨h9_⟩
                      have n10_ : Aside0 (gb127 ≠ gb115) := ⟨h10_⟩
                      have n11_ : Aside0 (gb128 ≠ gb127) := ⟨h11_⟩
                      have n12_ : Aside0 (gb127 ≠ gb128) := ⟨h12_⟩
                      have n13_ : Aside0 (w.heap.size ≤ gb128) := ⟨h13_⟩
                      have n14_ : Aside0 (w.heap.size ≤ gb128) := ⟨h14_⟩
                      have n15_ : Aside0 (gb114 ≠ gb128) := ⟨h15_⟩
                      have n16_ : Aside0 (gb128 ≠ gb114) := ⟨h16_⟩
                      have n17_ : Aside0 (gb115 ≠ gb128) := ⟨h17_⟩
                      have n18_ : Aside0 (gb128 ≠ gb115) := ⟨h18_⟩
                      have n19_ : Aside0 (Below w.heap.size w w38) := ⟨h19_⟩
                      clear BK114
                      clear BK115
                      clear HB
                      clear h0_ h1_ h2_ h3_ h4_ h5_ h6_ h7_ h8_ h9_ h10_ h11_ h12_ h13_ h14_ h15_ h16_ h17_ h18_ h19_
                      have HO122 := n0_
                      have BK114 := n1_
                      have BK115 := n2_
                      have BK127 := n3_
                      have BK128 := n4_
                      have GW127 := n5_
                      have GE127 := n6_
                      have NB114_127 := n7_
                      have NB127_114 := n8_
                      have NB115_127 := n9_
                      have NB127_115 := n10_
                      have NB128_127 := n11_
                      have NB127_128 := n12_
                      have GW128 := n13_
                      have GE128 := n14_
                      have NB114_128 := n15_
                      have NB128_114 := n16_
                      have NB115_128 := n17_
                      have NB128_115 := n18_
                      have HB := n19_
                      clear n0_ n1_ n2_ n3_ n4_ n5_ n6_ n7_ n8_ n9_ n10_ n11_ n12_ n13_ n14_ n15_ n16_ n17_ n18_ n19_
                      have hHeld : w38.cell? ⟨gb114, 0, none⟩ = some (.bool a0_0) ∧ w38.cell? ⟨gb114, 1, none⟩ = some (.slice A0_1 l0_1.length c0_1) ∧ w38.cell? ⟨gb115, 0, none⟩ = some (.bool a1_0) ∧ w38.cell? ⟨gb115, 1, none⟩ = some (.slice A1_1 l1_1.length c1_1) := hS_
                      refine norm_ (a' := ?_) ?_ ?_
                      rotate_left
                      · simp only [putAll, Act.put, List.setIfInBounds_toArray, List.set_cons_zero, List.set_cons_succ]
                        rfl
                      refine one_ (i := 3) (N := some 19) #[true, true, true, true, true, true, false, false] rfl rfl (one_of HT_.out (by kernel_rfl)) (by decide) (fun K hK => ?_)
                      refine goes_ Tryd.func28 (by kernel_rfl) rfl #[.agg #[.bool a1_0, .slice A1_1 l1_1.length c1_1]] (by rfl) rfl rfl (by (try simp only [List.map_toArray, List.map_cons, List.map_nil]); first | done | rfl | (simp only [List.length_drop, List.length_take]; rfl)) ?_
                      with_reducible refine (moraineref02_Copy.calls a1_0 _ _ l1_1 t123 t124 _ ?side1 ?side2 A21.out).mono ?_
                      (case side1 => repeat (first | exact (Kd.C_below HR1_1.out HB.out) | (with_reducible refine Kd.C_alloc ?_ _) | (with_reducible refine Kd.C_drewN ?_ _) | (with_reducible refine Kd.C_drew ?_)))
                      (case side2 => exact HC1_1.out)
                      rintro e w39 ⟨v125, rfl, ho0, hb⟩
                      refine ⟨_, rfl, ?_⟩
                      have n0_ := qe HO122 ho0 hb
                      have n1_ := Aside0.mk (Kd.R_lower (Kd.R_new' ho0 (ql HO122)) (below_size (by repeat (first | (with_reducible first | exact HB.out | apply below_alloc | apply pw_below_drewN | apply below_drew1 | refine qs ?_ (by assumption)) | exact HB.out))))
                      have n2_ := qb BK114 hb
                      have n3_ := qb BK115 hb
                      have n4_ := qb BK127 hb
                      have n5_ := qb BK128 hb
                      have n6_ := Aside0.mk (below_step (by repeat (first | (with_reducible first | exact HB.out | apply below_alloc | apply pw_below_drewN | apply below_drew1 | refine qs ?_ (by assumption)) | exact HB.out)) hb)
                      clear HO122
                      clear BK114
                      clear BK115
                      clear BK127
                      clear BK128
                      clear HB
                      have HO122 := n0_
                      have HO126 := n1_
                      have BK114 := n2_
                      have BK115 := n3_
                      have BK127 := n4_
                      have BK128 := n5_
                      have HB := n6_
                      clear n0_ n1_ n2_ n3_ n4_ n5_ n6_
                      (try clear hb)
                      (try clear hb2)
                      (try clear hk)
                      (try clear hi)
                      (try clear ho0)
                      refine hK.out _ _ ⟨(blk_cell BK114.out 0).trans rfl, (blk_cell BK114.out 1).trans rfl, (blk_cell BK115.out 0).trans rfl, (blk_cell BK115.out 1).trans rfl⟩ (fun hHeld => ?_)
                      clear hK K
                      refine norm_ (a' := ?_) ?_ ?_
                      rotate_left
                      · show Act.put _ (some 19) _ = _
                        simp only [Act.put, List.setIfInBounds_toArray, List.set_cons_zero, List.set_cons_succ, i64_w, i32_w]
                        rfl
                      exact norm_ (by first | (simp only [putAll, Act.put, List.setIfInBounds_toArray, List.set_cons_zero, List.set_cons_succ]; done) | (simp only [putAll, Act.put, List.setIfInBounds_toArray, List.set_cons_zero, List.set_cons_succ]; rfl)) (hJ1_3_4_5 (v121, v125, gb127, gb128) _ ⟨hHeld, (by (with_reducible repeat (first | apply Kd.R_alloc | apply Kd.R_drewN | apply Kd.R_drew)); exact Kd.R_mono HO122.out (fun _ hk => hk.2)), (by (with_reducible repeat (first | apply Kd.R_alloc | apply Kd.R_drewN | apply Kd.R_drew)); exact Kd.R_mono HO126.out (fun _ hk => hk.2)), (by (with_reducible repeat (first | refine qN ?_ _ | refine qW ?_ | refine qA ?_ _)); exact BK114.out), (by (with_reducible repeat (first | refine qN ?_ _ | refine qW ?_ | refine qA ?_ _)); exact BK115.out), (by (with_reducible repeat (first | refine qN ?_ _ | refine qW ?_ | refine qA ?_ _)); exact BK127.out), (by (with_reducible repeat (first | refine qN ?_ _ | refine qW ?_ | refine qA ?_ _)); exact BK128.out), GW127.out, GE127.out, NB114_127.out, NB127_114.out, NB115_127.out, NB127_115.out, NB128_127.out, NB127_128.out, GW128.out, GE128.out, NB114_128.out, NB128_114.out, NB115_128.out, NB128_115.out, (by repeat (first | (with_reducible first | exact HB.out | apply below_alloc | apply pw_below_drewN | apply below_drew1 | refine qs ?_ (by assumption)) | exact HB.out))⟩)
                  · skip
                    rintro ⟨v121, v125, gb128⟩ w38 ⟨hS_, h0_, h1_, h2_, h3_, h4_, h5_, h6_, h7_, h8_, h9_, h10_, h11_⟩
                    have n0_ : Aside0 (Kd.R (Kd.int .u32) 63 w38 w.heap.size (fun k_ => some k_ ≠ (v125 : Value).ownBlock) v121 t120) := ⟨h0_⟩
                    have n1_ : Aside0 (Kd.R (Kd.int .u32) 63 w38 w.heap.size (fun k_ => some k_ ≠ (v121 : Value).ownBlock) v125 t124) := ⟨h1_⟩
                    have n2_ : Aside0 (w38.heap[gb114]? = some (.cells #[.bool a0_0, .slice A0_1 l0_1.length c0_1] 25 (0, 0))) := ⟨h2_⟩
                    have n3_ : Aside0 (w38.heap[gb115]? = some (.cells #[.bool a1_0, .slice A1_1 l1_1.length c1_1] 25 (0, 0))) := ⟨h3_⟩
                    have n4_ : Aside0 (w38.heap[gb128]? = some (.cells #[.bool false, .slice none 0 0] 25 (0, 0))) := ⟨h4_⟩
                    have n5_ : Aside0 (w.heap.size ≤ gb128) := ⟨h5_⟩
                    have n6_ : Aside0 (w.heap.size ≤ gb128) := ⟨h6_⟩
                    have n7_ : Aside0 (gb114 ≠ gb128) := ⟨h7_⟩
                    have n8_ : Aside0 (gb128 ≠ gb114) := ⟨h8_⟩
                    have n9_ : Aside0 (gb115 ≠ gb128) := ⟨h9_⟩
                    have n10_ : Aside0 (gb128 ≠ gb115) := ⟨h10_⟩
                    have n11_ : Aside0 (Below w.heap.size w w38) := ⟨h11_⟩
                    clear BK114
                    clear BK115
                    clear HB
                    clear h0_ h1_ h2_ h3_ h4_ h5_ h6_ h7_ h8_ h9_ h10_ h11_
                    have HO122 := n0_
                    have HO126 := n1_
                    have BK114 := n2_
                    have BK115 := n3_
                    have BK128 := n4_
                    have GW128 := n5_
                    have GE128 := n6_
                    have NB114_128 := n7_
                    have NB128_114 := n8_
                    have NB115_128 := n9_
                    have NB128_115 := n10_
                    have HB := n11_
                    clear n0_ n1_ n2_ n3_ n4_ n5_ n6_ n7_ n8_ n9_ n10_ n11_
                    have hHeld : w38.cell? ⟨gb114, 0, none⟩ = some (.bool a0_0) ∧ w38.cell? ⟨gb114, 1, none⟩ = some (.slice A0_1 l0_1.length c0_1) ∧ w38.cell? ⟨gb115, 0, none⟩ = some (.bool a1_0) ∧ w38.cell? ⟨gb115, 1, none⟩ = some (.slice A1_1 l1_1.length c1_1) := hS_
                    refine norm_ (a' := ?_) ?_ ?_
                    rotate_left
                    · simp only [putAll, Act.put, List.setIfInBounds_toArray, List.set_cons_zero, List.set_cons_succ]
                      rfl
                    refine one_ (i := 4) (N := some 5) #[true, true, true, true, true, true, false, false] rfl rfl (one_of HT_.out (by kernel_rfl)) (by decide) (fun K hK => ?_)
                    refine box_step ?hg (N := 5) ?hd (cs := #[.bool false, .slice none 0 0]) (t := 25) ?hr ?_; (case hd => rfl); (case hg => rfl); (case hr => first | (go_simp; done) | (go_simp; rfl))
                    intro gb127 hg w39 hbox hb
                    have n0_ := qr HO122 hb
                    have n1_ := qr HO126 hb
                    have n2_ := qb BK114 hb
                    have n3_ := qb BK115 hb
                    have n4_ := qb BK128 hb
                    have n5_ := Aside0.mk (below_step (by repeat (first | (with_reducible first | exact HB.out | apply below_alloc | apply pw_below_drewN | apply below_drew1 | refine qs ?_ (by assumption)) | exact HB.out)) hb)
                    have n6_ := Aside0.mk (hbox)
                    have n7_ := qg hg (by repeat (first | (with_reducible first | exact HB.out | apply below_alloc | apply pw_below_drewN | apply below_drew1 | refine qs ?_ (by assumption)) | exact HB.out))
                    have n8_ := qg hg (by repeat (first | (with_reducible first | exact HB.out | apply below_alloc | apply pw_below_drewN | apply below_drew1 | refine qs ?_ (by assumption)) | exact HB.out))
                    have n9_ := qn BK114 hg
                    have n10_ := qm BK114 hg
                    have n11_ := qn BK115 hg
                    have n12_ := qm BK115 hg
                    have n13_ := qn BK128 hg
                    have n14_ := qm BK128 hg
                    clear HO122
                    clear HO126
                    clear BK114
                    clear BK115
                    clear BK128
                    clear HB
                    have HO122 := n0_
                    have HO126 := n1_
                    have BK114 := n2_
                    have BK115 := n3_
                    have BK128 := n4_
                    have HB := n5_
                    have BK127 := n6_
                    have GW127 := n7_
                    have GE127 := n8_
                    have NB114_127 := n9_
                    have NB127_114 := n10_
                    have NB115_127 := n11_
                    have NB127_115 := n12_
                    have NB128_127 := n13_
                    have NB127_128 := n14_
                    clear n0_ n1_ n2_ n3_ n4_ n5_ n6_ n7_ n8_ n9_ n10_ n11_ n12_ n13_ n14_
                    clear hb hbox hg
                    refine hK.out _ _ ⟨(blk_cell BK114.out 0).trans rfl, (blk_cell BK114.out 1).trans rfl, (blk_cell BK115.out 0).trans rfl, (blk_cell BK115.out 1).trans rfl⟩ (fun hHeld => ?_)
                    clear hK K
                    refine norm_ (a' := ?_) ?_ ?_
                    rotate_left
                    · show Act.put _ (some 5) _ = _
                      simp only [Act.put, List.setIfInBounds_toArray, List.set_cons_zero, List.set_cons_succ, i64_w, i32_w]
                      rfl
                    exact norm_ (by first | (simp only [putAll, Act.put, List.setIfInBounds_toArray, List.set_cons_zero, List.set_cons_succ]; done) | (simp only [putAll, Act.put, List.setIfInBounds_toArray, List.set_cons_zero, List.set_cons_succ]; rfl)) (hJ1_3_4_5 (v121, v125, gb127, gb128) _ ⟨hHeld, (by (with_reducible repeat (first | apply Kd.R_alloc | apply Kd.R_drewN | apply Kd.R_drew)); exact HO122.out), (by (with_reducible repeat (first | apply Kd.R_alloc | apply Kd.R_drewN | apply Kd.R_drew)); exact HO126.out), (by (with_reducible repeat (first | refine qN ?_ _ | refine qW ?_ | refine qA ?_ _)); exact BK114.out), (by (with_reducible repeat (first | refine qN ?_ _ | refine qW ?_ | refine qA ?_ _)); exact BK115.out), (by (with_reducible repeat (first | refine qN ?_ _ | refine qW ?_ | refine qA ?_ _)); exact BK127.out), (by (with_reducible repeat (first | refine qN ?_ _ | refine qW ?_ | refine qA ?_ _)); exact BK128.out), GW127.out, GE127.out, NB114_127.out, NB127_114.out, NB115_127.out, NB127_115.out, NB128_127.out, NB127_128.out, GW128.out, GE128.out, NB114_128.out, NB128_114.out, NB115_128.out, NB128_115.out, (by repeat (first | (with_reducible first | exact HB.out | apply below_alloc | apply pw_below_drewN | apply below_drew1 | refine qs ?_ (by assumption)) | exact HB.out))⟩)
                · skip
                  rintro ⟨v121, v125, gb127⟩ w38 ⟨hS_, h0_, h1_, h2_, h3_, h4_, h5_, h6_, h7_, h8_, h9_, h10_, h11_⟩
                  have n0_ : Aside0 (Kd.R (Kd.int .u32) 63 w38 w.heap.size (fun k_ => some k_ ≠ (v125 : Value).ownBlock) v121 t120) := ⟨h0_⟩
                  have n1_ : Aside0 (Kd.R (Kd.int .u32) 63 w38 w.heap.size (fun k_ => some k_ ≠ (v121 : Value).ownBlock) v125 t124) := ⟨h1_⟩
                  have n2_ : Aside0 (w38.heap[gb114]? = some (.cells #[.bool a0_0, .slice A0_1 l0_1.length c0_1] 25 (0, 0))) := ⟨h2_⟩
                  have n3_ : Aside0 (w38.heap[gb115]? = some (.cells #[.bool a1_0, .slice A1_1 l1_1.length c1_1] 25 (0, 0))) := ⟨h3_⟩
                  have n4_ : Aside0 (w38.heap[gb127]? = some (.cells #[.bool false, .slice none 0 0] 25 (0, 0))) := ⟨h4_⟩
                  have n5_ : Aside0 (w.heap.size ≤ gb127) := ⟨h5_⟩
                  have n6_ : Aside0 (w.heap.size ≤ gb127) := ⟨h6_⟩
                  have n7_ : Aside0 (gb114 ≠ gb127) := ⟨h7_⟩
                  have n8_ : Aside0 (gb127 ≠ gb114) := ⟨h8_⟩
                  have n9_ : Aside0 (gb115 ≠ gb127) := ⟨h9_⟩
                  have n10_ : Aside0 (gb127 ≠ gb115) := ⟨h10_⟩
                  have n11_ : Aside0 (Below w.heap.size w w38) := ⟨h11_⟩
                  clear BK114
                  clear BK115
                  clear HB
                  clear h0_ h1_ h2_ h3_ h4_ h5_ h6_ h7_ h8_ h9_ h10_ h11_
                  have HO122 := n0_
                  have HO126 := n1_
                  have BK114 := n2_
                  have BK115 := n3_
                  have BK127 := n4_
                  have GW127 := n5_
                  have GE127 := n6_
                  have NB114_127 := n7_
                  have NB127_114 := n8_
                  have NB115_127 := n9_
                  have NB127_115 := n10_
                  have HB := n11_
                  clear n0_ n1_ n2_ n3_ n4_ n5_ n6_ n7_ n8_ n9_ n10_ n11_
                  have hHeld : w38.cell? ⟨gb114, 0, none⟩ = some (.bool a0_0) ∧ w38.cell? ⟨gb114, 1, none⟩ = some (.slice A0_1 l0_1.length c0_1) ∧ w38.cell? ⟨gb115, 0, none⟩ = some (.bool a1_0) ∧ w38.cell? ⟨gb115, 1, none⟩ = some (.slice A1_1 l1_1.length c1_1) := hS_
                  refine norm_ (a' := ?_) ?_ ?_
                  rotate_left
                  · simp only [putAll, Act.put, List.setIfInBounds_toArray, List.set_cons_zero, List.set_cons_succ]
                    rfl
                  refine one_ (i := 5) (N := some 6) #[true, true, true, true, true, true, false, false] rfl rfl (one_of HT_.out (by kernel_rfl)) (by decide) (fun K hK => ?_)
                  refine box_step ?hg (N := 6) ?hd (cs := #[.bool false, .slice none 0 0]) (t := 25) ?hr ?_; (case hd => rfl); (case hg => rfl); (case hr => first | (go_simp; done) | (go_simp; rfl))
                  intro gb128 hg w39 hbox hb
                  have n0_ := qr HO122 hb
                  have n1_ := qr HO126 hb
                  have n2_ := qb BK114 hb
                  have n3_ := qb BK115 hb
                  have n4_ := qb BK127 hb
                  have n5_ := Aside0.mk (below_step (by repeat (first | (with_reducible first | exact HB.out | apply below_alloc | apply pw_below_drewN | apply below_drew1 | refine qs ?_ (by assumption)) | exact HB.out)) hb)
                  have n6_ := Aside0.mk (hbox)
                  have n7_ := qg hg (by repeat (first | (with_reducible first | exact HB.out | apply below_alloc | apply pw_below_drewN | apply below_drew1 | refine qs ?_ (by assumption)) | exact HB.out))
                  have n8_ := qg hg (by repeat (first | (with_reducible first | exact HB.out | apply below_alloc | apply pw_below_drewN | apply below_drew1 | refine qs ?_ (by assumption)) | exact HB.out))
                  have n9_ := qn BK114 hg
                  have n10_ := qm BK114 hg
                  have n11_ := qn BK115 hg
                  have n12_ := qm BK115 hg
                  have n13_ := qn BK127 hg
                  have n14_ := qm BK127 hg
                  clear HO122
                  clear HO126
                  clear BK114
                  clear BK115
                  clear BK127
                  clear HB
                  have HO122 := n0_
                  have HO126 := n1_
                  have BK114 := n2_
                  have BK115 := n3_
                  have BK127 := n4_
                  have HB := n5_
                  have BK128 := n6_
                  have GW128 := n7_
                  have GE128 := n8_
                  have NB114_128 := n9_
                  have NB128_114 := n10_
                  have NB115_128 := n11_
                  have NB128_115 := n12_
                  have NB127_128 := n13_
                  have NB128_127 := n14_
                  clear n0_ n1_ n2_ n3_ n4_ n5_ n6_ n7_ n8_ n9_ n10_ n11_ n12_ n13_ n14_
                  clear hb hbox hg
                  refine hK.out _ _ ⟨(blk_cell BK114.out 0).trans rfl, (blk_cell BK114.out 1).trans rfl, (blk_cell BK115.out 0).trans rfl, (blk_cell BK115.out 1).trans rfl⟩ (fun hHeld => ?_)
                  clear hK K
                  refine norm_ (a' := ?_) ?_ ?_
                  rotate_left
                  · show Act.put _ (some 6) _ = _
                    simp only [Act.put, List.setIfInBounds_toArray, List.set_cons_zero, List.set_cons_succ, i64_w, i32_w]
                    rfl
                  exact norm_ (by first | (simp only [putAll, Act.put, List.setIfInBounds_toArray, List.set_cons_zero, List.set_cons_succ]; done) | (simp only [putAll, Act.put, List.setIfInBounds_toArray, List.set_cons_zero, List.set_cons_succ]; rfl)) (hJ1_3_4_5 (v121, v125, gb127, gb128) _ ⟨hHeld, (by (with_reducible repeat (first | apply Kd.R_alloc | apply Kd.R_drewN | apply Kd.R_drew)); exact HO122.out), (by (with_reducible repeat (first | apply Kd.R_alloc | apply Kd.R_drewN | apply Kd.R_drew)); exact HO126.out), (by (with_reducible repeat (first | refine qN ?_ _ | refine qW ?_ | refine qA ?_ _)); exact BK114.out), (by (with_reducible repeat (first | refine qN ?_ _ | refine qW ?_ | refine qA ?_ _)); exact BK115.out), (by (with_reducible repeat (first | refine qN ?_ _ | refine qW ?_ | refine qA ?_ _)); exact BK127.out), (by (with_reducible repeat (first | refine qN ?_ _ | refine qW ?_ | refine qA ?_ _)); exact BK128.out), GW127.out, GE127.out, NB114_127.out, NB127_114.out, NB115_127.out, NB127_115.out, NB128_127.out, NB127_128.out, GW128.out, GE128.out, NB114_128.out, NB128_114.out, NB115_128.out, NB128_115.out, (by repeat (first | (with_reducible first | exact HB.out | apply below_alloc | apply pw_below_drewN | apply below_drew1 | refine qs ?_ (by assumption)) | exact HB.out))⟩)
              rintro ⟨v121, v125, gb127, gb128⟩ w39 ⟨hS_, h0_, h1_, h2_, h3_, h4_, h5_, h6_, h7_, h8_, h9_, h10_, h11_, h12_, h13_, h14_, h15_, h16_, h17_, h18_, h19_, h20_⟩
              have n0_ : Aside0 (Kd.R (Kd.int .u32) 63 w39 w.heap.size (fun k_ => some k_ ≠ (v125 : Value).ownBlock) v121 t120) := ⟨h0_⟩
              have n1_ : Aside0 (Kd.R (Kd.int .u32) 63 w39 w.heap.size (fun k_ => some k_ ≠ (v121 : Value).ownBlock) v125 t124) := ⟨h1_⟩
              have n2_ : Aside0 (w39.heap[gb114]? = some (.cells #[.bool a0_0, .slice A0_1 l0_1.length c0_1] 25 (0, 0))) := ⟨h2_⟩
              have n3_ : Aside0 (w39.heap[gb115]? = some (.cells #[.bool a1_0, .slice A1_1 l1_1.length c1_1] 25 (0, 0))) := ⟨h3_⟩
              have n4_ : Aside0 (w39.heap[gb127]? = some (.cells #[.bool false, .slice none 0 0] 25 (0, 0))) := ⟨h4_⟩
              have n5_ : Aside0 (w39.heap[gb128]? = some (.cells #[.bool false, .slice none 0 0] 25 (0, 0))) := ⟨h5_⟩
              have n6_ : Aside0 (w.heap.size ≤ gb127) := ⟨h6_⟩
              have n7_ : Aside0 (w.heap.size ≤ gb127) := ⟨h7_⟩
              have n8_ : Aside0 (gb114 ≠ gb127) := ⟨h8_⟩
              have n9_ : Aside0 (gb127 ≠ gb114) := ⟨h9_⟩
              have n10_ : Aside0 (gb115 ≠ gb127) := ⟨h10_⟩
              have n11_ : Aside0 (gb127 ≠ gb115) := ⟨h11_⟩
              have n12_ : Aside0 (gb128 ≠ gb127) := ⟨h12_⟩
              have n13_ : Aside0 (gb127 ≠ gb128) := ⟨h13_⟩
              have n14_ : Aside0 (w.heap.size ≤ gb128) := ⟨h14_⟩
              have n15_ : Aside0 (w.heap.size ≤ gb128) := ⟨h15_⟩
              have n16_ : Aside0 (gb114 ≠ gb128) := ⟨h16_⟩
              have n17_ : Aside0 (gb128 ≠ gb114) := ⟨h17_⟩
              have n18_ : Aside0 (gb115 ≠ gb128) := ⟨h18_⟩
              have n19_ : Aside0 (gb128 ≠ gb115) := ⟨h19_⟩
              have n20_ : Aside0 (Below w.heap.size w w39) := ⟨h20_⟩
              clear BK114
              clear BK115
              clear HB
              clear h0_ h1_ h2_ h3_ h4_ h5_ h6_ h7_ h8_ h9_ h10_ h11_ h12_ h13_ h14_ h15_ h16_ h17_ h18_ h19_ h20_
              have HO122 := n0_
              have HO126 := n1_
              have BK114 := n2_
              have BK115 := n3_
              have BK127 := n4_
              have BK128 := n5_
              have GW127 := n6_
              have GE127 := n7_
              have NB114_127 := n8_
              have NB127_114 := n9_
              have NB115_127 := n10_
              have NB127_115 := n11_
              have NB128_127 := n12_
              have NB127_128 := n13_
              have GW128 := n14_
              have GE128 := n15_
              have NB114_128 := n16_
              have NB128_114 := n17_
              have NB115_128 := n18_
              have NB128_115 := n19_
              have HB := n20_
              clear n0_ n1_ n2_ n3_ n4_ n5_ n6_ n7_ n8_ n9_ n10_ n11_ n12_ n13_ n14_ n15_ n16_ n17_ n18_ n19_ n20_
              have hHeld : w39.cell? ⟨gb114, 0, none⟩ = some (.bool a0_0) ∧ w39.cell? ⟨gb114, 1, none⟩ = some (.slice A0_1 l0_1.length c0_1) ∧ w39.cell? ⟨gb115, 0, none⟩ = some (.bool a1_0) ∧ w39.cell? ⟨gb115, 1, none⟩ = some (.slice A1_1 l1_1.length c1_1) := hS_
              obtain ⟨Ao41, co41, eo41⟩ := Kd.R_slice HO122.out
              (first | subst eo41 | (injection eo41 with f1_ f2_ f3_; have f4_ := f1_.symm; have f5_ := f3_.symm; clear f1_ f2_ f3_; subst f4_; subst f5_))
              obtain ⟨Ao44, co44, eo44⟩ := Kd.R_slice HO126.out
              (first | subst eo44 | (injection eo44 with f1_ f2_ f3_; have f4_ := f1_.symm; have f5_ := f3_.symm; clear f1_ f2_ f3_; subst f4_; subst f5_))
              refine norm_ (a' := ?_) ?_ ?_
              rotate_left
              · simp only [putAll, Act.put, List.setIfInBounds_toArray, List.set_cons_zero, List.set_cons_succ]
                rfl
              refine one_ (i := 6) (N := none) #[true, true, true, true, true, true, true, false] rfl rfl (one_of HT_.out (by kernel_rfl)) (by decide) (fun K hK => ?_)
              have hs40 : w39.cell? ⟨gb127, 0, none⟩ = some (.bool false) := (blk_cell BK127.out 0).trans rfl
              have hfs40 := blk_frozen BK127.out 0
              have hns40_0 := NB114_127.out
              have hns40_1 := NB115_127.out
              have hns40_3 := NB128_127.out
              have hms40_0 := NB127_114.out
              have hms40_1 := NB127_115.out
              have hms40_3 := NB127_128.out
              have hs42 : w39.cell? ⟨gb127, 1, none⟩ = some (.slice none 0 0) := (blk_cell BK127.out 1).trans rfl
              have hfs42 := blk_frozen BK127.out 1
              have hns42_0 := NB114_127.out
              have hns42_1 := NB115_127.out
              have hns42_3 := NB128_127.out
              have hms42_0 := NB127_114.out
              have hms42_1 := NB127_115.out
              have hms42_3 := NB127_128.out
              refine skip_ (w1 := ?_) (by rfl) rfl ?_ ?_
              rotate_left
              · go_simp
                rfl
              refine hK.out _ _ ⟨((cell_far (p := ⟨gb127, _, none⟩) NB114_127.out _).trans (((cell_far (p := ⟨gb127, _, none⟩) NB114_127.out _).trans (hHeld.1)))), ((cell_far (p := ⟨gb127, _, none⟩) NB114_127.out _).trans (((cell_far (p := ⟨gb127, _, none⟩) NB114_127.out _).trans (hHeld.2.1)))), ((cell_far (p := ⟨gb127, _, none⟩) NB115_127.out _).trans (((cell_far (p := ⟨gb127, _, none⟩) NB115_127.out _).trans (hHeld.2.2.1)))), ((cell_far (p := ⟨gb127, _, none⟩) NB115_127.out _).trans (((cell_far (p := ⟨gb127, _, none⟩) NB115_127.out _).trans (hHeld.2.2.2))))⟩ (fun hHeld => ?_)
              clear hK K
              refine one_ (i := 7) (N := none) #[true, true, true, true, true, true, true, true] rfl rfl (one_of HT_.out (by kernel_rfl)) (by decide) (fun K hK => ?_)
              have hs43 : w39.cell? ⟨gb128, 0, none⟩ = some (.bool false) := (blk_cell BK128.out 0).trans rfl
              have hfs43 := blk_frozen BK128.out 0
              have hns43_0 := NB114_128.out
              have hns43_1 := NB115_128.out
              have hns43_2 := NB127_128.out
              have hms43_0 := NB128_114.out
              have hms43_1 := NB128_115.out
              have hms43_2 := NB128_127.out
              have hs45 : w39.cell? ⟨gb128, 1, none⟩ = some (.slice none 0 0) := (blk_cell BK128.out 1).trans rfl
              have hfs45 := blk_frozen BK128.out 1
              have hns45_0 := NB114_128.out
              have hns45_1 := NB115_128.out
              have hns45_2 := NB127_128.out
              have hms45_0 := NB128_114.out
              have hms45_1 := NB128_115.out
              have hms45_2 := NB128_127.out
              refine skip_ (w1 := ?_) (by rfl) rfl ?_ ?_
              rotate_left
              · go_simp
                rfl
              refine hK.out _ _ ⟨((cell_far (p := ⟨gb128, _, none⟩) NB114_128.out _).trans (((cell_far (p := ⟨gb128, _, none⟩) NB114_128.out _).trans (hHeld.1)))), ((cell_far (p := ⟨gb128, _, none⟩) NB114_128.out _).trans (((cell_far (p := ⟨gb128, _, none⟩) NB114_128.out _).trans (hHeld.2.1)))), ((cell_far (p := ⟨gb128, _, none⟩) NB115_128.out _).trans (((cell_far (p := ⟨gb128, _, none⟩) NB115_128.out _).trans (hHeld.2.2.1)))), ((cell_far (p := ⟨gb128, _, none⟩) NB115_128.out _).trans (((cell_far (p := ⟨gb128, _, none⟩) NB115_128.out _).trans (hHeld.2.2.2))))⟩ (fun hHeld => ?_)
              clear hK K
              refine done_ (done_of HT_.out (by kernel_rfl)) ?_
              have hnb46 := NB114_115.out
              have hnc46 := NB115_114.out
              have hnb47 := NB114_127.out
              have hnc47 := NB127_114.out
              have hnb48 := NB114_128.out
              have hnc48 := NB128_114.out
              have hcz49_0 : w39.cell? ⟨gb114, 0, none⟩ = some (.bool a0_0) := (blk_cell BK114.out 0).trans rfl
              have hcz49_1 : w39.cell? ⟨gb114, 1, none⟩ = some (.slice A0_1 l0_1.length c0_1) := (blk_cell BK114.out 1).trans rfl
              have hfz49_0 := blk_frozen BK114.out 0
              have hfz49_1 := blk_frozen BK114.out 1
              have hnb50 := NB115_127.out
              have hnc50 := NB127_115.out
              have hnb51 := NB115_128.out
              have hnc51 := NB128_115.out
              have hcz52_0 : w39.cell? ⟨gb115, 0, none⟩ = some (.bool a1_0) := (blk_cell BK115.out 0).trans rfl
              have hcz52_1 : w39.cell? ⟨gb115, 1, none⟩ = some (.slice A1_1 l1_1.length c1_1) := (blk_cell BK115.out 1).trans rfl
              have hfz52_0 := blk_frozen BK115.out 0
              have hfz52_1 := blk_frozen BK115.out 1
              try go_wp2_with (first | ((with_reducible refine gate_callee (f := 36) rfl ?_); refine goesL_ (some 23) rfl rfl Tryd.func36 (by kernel_rfl) rfl #[.agg #[.bool a0_0, .slice A0_1 l0_1.length c0_1], .agg #[.bool a1_0, .slice A1_1 l1_1.length c1_1]] rfl (by (try simp only [List.map_toArray, List.map_cons, List.map_nil]); first | done | rfl | (simp only [List.length_drop, List.length_take]; rfl)) ?_; (with_reducible refine (num_Mul.calls a0_0 _ _ l0_1 a1_0 _ _ l1_1 t129 t130 t133 _ ?side1 ?side2 ?side3 ?side4 A22.out).mono ?_); (case side1 => exact Kd.C_below HR0_1.out (by repeat (first | (with_reducible first | exact HB.out | apply below_alloc | apply pw_below_drewN | apply below_drew1 | refine qs ?_ (by assumption)) | exact HB.out))); (case side2 => exact HC0_1.out); (case side3 => exact Kd.C_below HR1_1.out (by repeat (first | (with_reducible first | exact HB.out | apply below_alloc | apply pw_below_drewN | apply below_drew1 | refine qs ?_ (by assumption)) | exact HB.out))); (case side4 => exact HC1_1.out); rintro e w53 ⟨v131, rfl, ho0, hb⟩; refine ⟨_, rfl, ?_⟩; have n0_ := Aside0.mk (Kd.R_elder' (by (with_reducible repeat (first | apply Kd.R_alloc | apply Kd.R_drewN | apply Kd.R_drew)); exact (Kd.R_mono (Kd.R_mono (Kd.R_far (p := ⟨gb128, 1, none⟩) (Kd.R_far (p := ⟨gb128, 0, none⟩) (Kd.R_far (p := ⟨gb127, 1, none⟩) (Kd.R_far (p := ⟨gb127, 0, none⟩) (Kd.R_types (Kd.R_types HO122.out BK127.out (by decide)) BK128.out (by decide)) (fun _ hk => hk.1.2) (.bool t119)) (fun _ hk => hk.1.2) (.slice Ao41 t120.length co41)) (fun _ hk => hk.2) (.bool t123)) (fun _ hk => hk.2) (.slice Ao44 t124.length co44)) (fun _ h_ => h_.1)) (fun _ h_ => h_.1))) (Kd.R_base ho0) hb); have n1_ := Aside0.mk (Kd.R_elder' (by (with_reducible repeat (first | apply Kd.R_alloc | apply Kd.R_drewN | apply Kd.R_drew)); exact (Kd.R_mono (Kd.R_mono (Kd.R_far (p := ⟨gb128, 1, none⟩) (Kd.R_far (p := ⟨gb128, 0, none⟩) (Kd.R_far (p := ⟨gb127, 1, none⟩) (Kd.R_far (p := ⟨gb127, 0, none⟩) (Kd.R_types (Kd.R_types HO126.out BK127.out (by decide)) BK128.out (by decide)) (fun _ hk => hk.1.2) (.bool t119)) (fun _ hk => hk.1.2) (.slice Ao41 t120.length co41)) (fun _ hk => hk.2) (.bool t123)) (fun _ hk => hk.2) (.slice Ao44 t124.length co44)) (fun _ h_ => h_.1)) (fun _ h_ => h_.1))) (Kd.R_base ho0) hb); have n2_ := Aside0.mk (Kd.R_lower (Kd.R_new' (Kd.R_new' ho0 (Kd.R_lt (by (with_reducible repeat (first | apply Kd.R_alloc | apply Kd.R_drewN | apply Kd.R_drew)); exact (Kd.R_mono (Kd.R_mono (Kd.R_far (p := ⟨gb128, 1, none⟩) (Kd.R_far (p := ⟨gb128, 0, none⟩) (Kd.R_far (p := ⟨gb127, 1, none⟩) (Kd.R_far (p := ⟨gb127, 0, none⟩) (Kd.R_types (Kd.R_types HO122.out BK127.out (by decide)) BK128.out (by decide)) (fun _ hk => hk.1.2) (.bool t119)) (fun _ hk => hk.1.2) (.slice Ao41 t120.length co41)) (fun _ hk => hk.2) (.bool t123)) (fun _ hk => hk.2) (.slice Ao44 t124.length co44)) (fun _ h_ => h_.1)) (fun _ h_ => h_.1))))) (Kd.R_lt (by (with_reducible repeat (first | apply Kd.R_alloc | apply Kd.R_drewN | apply Kd.R_drew)); exact (Kd.R_mono (Kd.R_mono (Kd.R_far (p := ⟨gb128, 1, none⟩) (Kd.R_far (p := ⟨gb128, 0, none⟩) (Kd.R_far (p := ⟨gb127, 1, none⟩) (Kd.R_far (p := ⟨gb127, 0, none⟩) (Kd.R_types (Kd.R_types HO126.out BK127.out (by decide)) BK128.out (by decide)) (fun _ hk => hk.1.2) (.bool t119)) (fun _ hk => hk.1.2) (.slice Ao41 t120.length co41)) (fun _ hk => hk.2) (.bool t123)) (fun _ hk => hk.2) (.slice Ao44 t124.length co44)) (fun _ h_ => h_.1)) (fun _ h_ => h_.1))))) (below_size (by repeat (first | (with_reducible first | exact HB.out | apply below_alloc | apply pw_below_drewN | apply below_drew1 | refine qs ?_ (by assumption)) | exact HB.out)))); have n3_ := Aside0.mk (blk_below (g := gb114) (o := .cells #[.bool a0_0, .slice A0_1 l0_1.length c0_1] 25 (0, 0)) (by (with_reducible repeat (first | refine qN ?_ _ | refine qW ?_ | refine qA ?_ _)); refine qf ?_ NB114_128; (with_reducible repeat (first | refine qN ?_ _ | refine qW ?_ | refine qA ?_ _)); refine qf ?_ NB114_127; (with_reducible repeat (first | refine qN ?_ _ | refine qW ?_ | refine qA ?_ _)); exact BK114.out) hb); have n4_ := Aside0.mk (blk_below (g := gb115) (o := .cells #[.bool a1_0, .slice A1_1 l1_1.length c1_1] 25 (0, 0)) (by (with_reducible repeat (first | refine qN ?_ _ | refine qW ?_ | refine qA ?_ _)); refine qf ?_ NB115_128; (with_reducible repeat (first | refine qN ?_ _ | refine qW ?_ | refine qA ?_ _)); refine qf ?_ NB115_127; (with_reducible repeat (first | refine qN ?_ _ | refine qW ?_ | refine qA ?_ _)); exact BK115.out) hb); have n5_ := Aside0.mk (blk_below (g := gb127) (o := .cells #[.bool t119, .slice Ao41 t120.length co41] 25 (0, 0)) (by (with_reducible repeat (first | refine qN ?_ _ | refine qW ?_ | refine qA ?_ _)); refine qf ?_ NB127_128; (with_reducible repeat (first | refine qN ?_ _ | refine qW ?_ | refine qA ?_ _)); refine blk_put (cs := #[.bool t119, .slice none 0 0]) ?_ 1 _ rfl; (with_reducible repeat (first | refine qN ?_ _ | refine qW ?_ | refine qA ?_ _)); refine blk_put (cs := #[.bool false, .slice none 0 0]) ?_ 0 _ rfl; (with_reducible repeat (first | refine qN ?_ _ | refine qW ?_ | refine qA ?_ _)); exact BK127.out) hb); have n6_ := Aside0.mk (blk_below (g := gb128) (o := .cells #[.bool t123, .slice Ao44 t124.length co44] 25 (0, 0)) (by (with_reducible repeat (first | refine qN ?_ _ | refine qW ?_ | refine qA ?_ _)); refine blk_put (cs := #[.bool t123, .slice none 0 0]) ?_ 1 _ rfl; (with_reducible repeat (first | refine qN ?_ _ | refine qW ?_ | refine qA ?_ _)); refine blk_put (cs := #[.bool false, .slice none 0 0]) ?_ 0 _ rfl; (with_reducible repeat (first | refine qN ?_ _ | refine qW ?_ | refine qA ?_ _)); refine qf ?_ NB128_127; (with_reducible repeat (first | refine qN ?_ _ | refine qW ?_ | refine qA ?_ _)); exact BK128.out) hb); have n7_ := Aside0.mk (below_step (by repeat (first | (with_reducible first | exact HB.out | apply below_alloc | apply pw_below_drewN | apply below_drew1 | refine qs ?_ (by assumption)) | exact HB.out)) hb); clear HO122; clear HO126; clear BK114; clear BK115; clear BK127; clear BK128; clear HB; have HO122 := n0_; have HO126 := n1_; have HO132 := n2_; have BK114 := n3_; have BK115 := n4_; have BK127 := n5_; have BK128 := n6_; have HB := n7_; clear n0_ n1_ n2_ n3_ n4_ n5_ n6_ n7_; (try clear hb); (try clear hb2); (try clear hk); (try clear hi); (try clear ho0)) | ((with_reducible refine gate_dst (N := 7) rfl ?_); refine box_event ?hg (N := 7) ?hd (cs := #[.bool false, .slice none 0 0]) (t := 25) ?hr ?_; (case hd => rfl); (case hg => rfl); (case hr => first | (go_simp; done) | (go_simp; rfl)); intro gb134 hg w54 hbox hb; replace HO122 := qr HO122 hb; replace HO126 := qr HO126 hb; replace HO132 := qr HO132 hb; have BK134 := Aside0.mk (hbox); have GW134 := qg hg (by repeat (first | (with_reducible first | exact HB.out | apply below_alloc | apply pw_below_drewN | apply below_drew1 | refine qs ?_ (by assumption)) | exact HB.out)); have GE134 := qg hg (by repeat (first | (with_reducible first | exact HB.out | apply below_alloc | apply pw_below_drewN | apply below_drew1 | refine qs ?_ (by assumption)) | exact HB.out)); replace HB := Aside0.mk (below_step (by repeat (first | (with_reducible first | exact HB.out | apply below_alloc | apply pw_below_drewN | apply below_drew1 | refine qs ?_ (by assumption)) | exact HB.out)) hb); have NB114_134 := qn BK114 hg; have NB134_114 := qm BK114 hg; replace BK114 := qb BK114 hb; have NB115_134 := qn BK115 hg; have NB134_115 := qm BK115 hg; replace BK115 := qb BK115 hb; have NB127_134 := qn BK127 hg; have NB134_127 := qm BK127 hg; replace BK127 := qb BK127 hb; have NB128_134 := qn BK128 hg; have NB134_128 := qm BK128 hg; replace BK128 := qb BK128 hb; clear hb hbox hg; have hnb55 := NB134_114.out; have hnc55 := NB114_134.out; have hnb56 := NB134_115.out; have hnc56 := NB115_134.out; have hnb57 := NB134_127.out; have hnc57 := NB127_134.out; have hnb58 := NB134_128.out; have hnc58 := NB128_134.out; have hcz59_0 : w54.cell? ⟨gb134, 0, none⟩ = some (.bool false) := (blk_cell BK134.out 0).trans rfl; have hcz59_1 : w54.cell? ⟨gb134, 1, none⟩ = some (.slice none 0 0) := (blk_cell BK134.out 1).trans rfl; have hfz59_0 := blk_frozen BK134.out 0; have hfz59_1 := blk_frozen BK134.out 1; obtain ⟨Ao60, co60, eo60⟩ := Kd.R_slice HO132.out; subst eo60))
              have n0_ : Aside0 (Kd.R (Kd.int .u32) 63 ((w54.setCell ⟨gb134, 0, none⟩ (.bool t129)).setCell ⟨gb134, 1, none⟩ (.slice Ao60 t130.length co60)) w.heap.size (fun k_ => some k_ ≠ (.slice Ao44 t124.length co44 : Value).ownBlock ∧ some k_ ≠ (.slice Ao60 t130.length co60 : Value).ownBlock) (.slice Ao41 t120.length co41) t120) := ⟨by (with_reducible repeat (first | apply Kd.R_alloc | apply Kd.R_drewN | apply Kd.R_drew)); exact Kd.R_mono (qz HO122 BK134 (by decide) (.bool t129) (.slice Ao60 t130.length co60)) (fun _ hk => ⟨hk.1.1, hk.1.2⟩)⟩
              have n1_ : Aside0 (Kd.R (Kd.int .u32) 63 ((w54.setCell ⟨gb134, 0, none⟩ (.bool t129)).setCell ⟨gb134, 1, none⟩ (.slice Ao60 t130.length co60)) w.heap.size (fun k_ => some k_ ≠ (.slice Ao41 t120.length co41 : Value).ownBlock ∧ some k_ ≠ (.slice Ao60 t130.length co60 : Value).ownBlock) (.slice Ao44 t124.length co44) t124) := ⟨by (with_reducible repeat (first | apply Kd.R_alloc | apply Kd.R_drewN | apply Kd.R_drew)); exact Kd.R_mono (qz HO126 BK134 (by decide) (.bool t129) (.slice Ao60 t130.length co60)) (fun _ hk => ⟨hk.1.1, hk.1.2⟩)⟩
              have n2_ : Aside0 (Kd.R (Kd.int .u32) 63 ((w54.setCell ⟨gb134, 0, none⟩ (.bool t129)).setCell ⟨gb134, 1, none⟩ (.slice Ao60 t130.length co60)) w.heap.size (fun k_ => some k_ ≠ (.slice Ao41 t120.length co41 : Value).ownBlock ∧ some k_ ≠ (.slice Ao44 t124.length co44 : Value).ownBlock) (.slice Ao60 t130.length co60) t130) := ⟨by (with_reducible repeat (first | apply Kd.R_alloc | apply Kd.R_drewN | apply Kd.R_drew)); exact Kd.R_mono (qz HO132 BK134 (by decide) (.bool t129) (.slice Ao60 t130.length co60)) (fun _ hk => ⟨hk.1.1.2, hk.1.2⟩)⟩
              have n3_ : Aside0 (((w54.setCell ⟨gb134, 0, none⟩ (.bool t129)).setCell ⟨gb134, 1, none⟩ (.slice Ao60 t130.length co60)).heap[gb114]? = some (.cells #[.bool a0_0, .slice A0_1 l0_1.length c0_1] 25 (0, 0))) := ⟨by (with_reducible repeat (first | refine qN ?_ _ | refine qW ?_ | refine qA ?_ _)); refine qf ?_ NB114_134; (with_reducible repeat (first | refine qN ?_ _ | refine qW ?_ | refine qA ?_ _)); exact BK114.out⟩
              have n4_ : Aside0 (((w54.setCell ⟨gb134, 0, none⟩ (.bool t129)).setCell ⟨gb134, 1, none⟩ (.slice Ao60 t130.length co60)).heap[gb115]? = some (.cells #[.bool a1_0, .slice A1_1 l1_1.length c1_1] 25 (0, 0))) := ⟨by (with_reducible repeat (first | refine qN ?_ _ | refine qW ?_ | refine qA ?_ _)); refine qf ?_ NB115_134; (with_reducible repeat (first | refine qN ?_ _ | refine qW ?_ | refine qA ?_ _)); exact BK115.out⟩
              have n5_ : Aside0 (((w54.setCell ⟨gb134, 0, none⟩ (.bool t129)).setCell ⟨gb134, 1, none⟩ (.slice Ao60 t130.length co60)).heap[gb127]? = some (.cells #[.bool t119, .slice Ao41 t120.length co41] 25 (0, 0))) := ⟨by (with_reducible repeat (first | refine qN ?_ _ | refine qW ?_ | refine qA ?_ _)); refine qf ?_ NB127_134; (with_reducible repeat (first | refine qN ?_ _ | refine qW ?_ | refine qA ?_ _)); exact BK127.out⟩
              have n6_ : Aside0 (((w54.setCell ⟨gb134, 0, none⟩ (.bool t129)).setCell ⟨gb134, 1, none⟩ (.slice Ao60 t130.length co60)).heap[gb128]? = some (.cells #[.bool t123, .slice Ao44 t124.length co44] 25 (0, 0))) := ⟨by (with_reducible repeat (first | refine qN ?_ _ | refine qW ?_ | refine qA ?_ _)); refine qf ?_ NB128_134; (with_reducible repeat (first | refine qN ?_ _ | refine qW ?_ | refine qA ?_ _)); exact BK128.out⟩
              have n7_ : Aside0 (((w54.setCell ⟨gb134, 0, none⟩ (.bool t129)).setCell ⟨gb134, 1, none⟩ (.slice Ao60 t130.length co60)).heap[gb134]? = some (.cells #[.bool t129, .slice Ao60 t130.length co60] 25 (0, 0))) := ⟨by (with_reducible repeat (first | refine qN ?_ _ | refine qW ?_ | refine qA ?_ _)); refine blk_put (cs := #[.bool t129, .slice none 0 0]) ?_ 1 _ rfl; (with_reducible repeat (first | refine qN ?_ _ | refine qW ?_ | refine qA ?_ _)); refine blk_put (cs := #[.bool false, .slice none 0 0]) ?_ 0 _ rfl; (with_reducible repeat (first | refine qN ?_ _ | refine qW ?_ | refine qA ?_ _)); exact BK134.out⟩
              have n8_ : Aside0 (Below w.heap.size w ((w54.setCell ⟨gb134, 0, none⟩ (.bool t129)).setCell ⟨gb134, 1, none⟩ (.slice Ao60 t130.length co60))) := ⟨by repeat (first | (with_reducible first | exact HB.out | apply below_alloc | apply pw_below_drewN | apply below_drew1 | refine qs ?_ (by assumption)) | exact HB.out)⟩
              (try clear HO122)
              (try clear HO126)
              (try clear HO132)
              (try clear BK114)
              (try clear BK115)
              (try clear BK127)
              (try clear BK128)
              (try clear BK134)
              (try clear HB)
              generalize ((w54.setCell ⟨gb134, 0, none⟩ (.bool t129)).setCell ⟨gb134, 1, none⟩ (.slice Ao60 t130.length co60)) = w61 at n0_ n1_ n2_ n3_ n4_ n5_ n6_ n7_ n8_ ⊢
              have HO122 := n0_
              have HO126 := n1_
              have HO132 := n2_
              have BK114 := n3_
              have BK115 := n4_
              have BK127 := n5_
              have BK128 := n6_
              have BK134 := n7_
              have HB := n8_
              clear n0_ n1_ n2_ n3_ n4_ n5_ n6_ n7_ n8_
              have n0_ := Aside0.mk (Kd.R_drew HO122.out)
              have n1_ := Aside0.mk (Kd.R_drew HO126.out)
              have n2_ := Aside0.mk (Kd.R_drew HO132.out)
              have n3_ := Aside0.mk (blk_drew BK114.out)
              have n4_ := Aside0.mk (blk_drew BK115.out)
              have n5_ := Aside0.mk (blk_drew BK127.out)
              have n6_ := Aside0.mk (blk_drew BK128.out)
              have n7_ := Aside0.mk (blk_drew BK134.out)
              have n8_ := Aside0.mk (below_drew1 HB.out)
              clear HO122
              clear HO126
              clear HO132
              clear BK114
              clear BK115
              clear BK127
              clear BK128
              clear BK134
              clear HB
              have HO122 := n0_
              have HO126 := n1_
              have HO132 := n2_
              have BK114 := n3_
              have BK115 := n4_
              have BK127 := n5_
              have BK128 := n6_
              have BK134 := n7_
              have HB := n8_
              clear n0_ n1_ n2_ n3_ n4_ n5_ n6_ n7_ n8_
              refine start_ (n := 9) (S := fun w' => w'.cell? ⟨gb134, 0, none⟩ = some (.bool t129) ∧ w'.cell? ⟨gb134, 1, none⟩ = some (.slice Ao60 t130.length co60) ∧ w'.cell? ⟨gb127, 0, none⟩ = some (.bool t119) ∧ w'.cell? ⟨gb127, 1, none⟩ = some (.slice Ao41 t120.length co41) ∧ w'.cell? ⟨gb128, 0, none⟩ = some (.bool t123) ∧ w'.cell? ⟨gb128, 1, none⟩ = some (.slice Ao44 t124.length co44)) (ds := []) #[false, false, false, false, false, false, false, false, false] (by kernel_rfl) rfl rfl ⟨(blk_cell BK134.out 0).trans rfl, (blk_cell BK134.out 1).trans rfl, (blk_cell BK127.out 0).trans rfl, (blk_cell BK127.out 1).trans rfl, (blk_cell BK128.out 0).trans rfl, (blk_cell BK128.out 1).trans rfl⟩ (fun hHeld => ?_); refine with_tabW morainelaw02_NumMuls.tab5 morainelaw02_NumMuls.bits5 (fun HT_ HW_ => ?_)
              generalize w61.drew = w62 at HO122 HO126 HO132 BK114 BK115 BK127 BK128 BK134 HB hHeld ⊢
              refine pure_ (i := 1) (N := some 27) (v := ?_) (a' := ?_) #[false, true, false, false, false, false, false, false, false] rfl rfl (any_of HT_.out (by kernel_rfl)) (fun _ _ _ h => h) (Or.inl ⟨by rfl, ?_⟩) ?_ ?_
              rotate_left
              · intro w'
                go_simp
                with_reducible rfl
              rotate_left
              · simp only [Act.put, List.setIfInBounds_toArray, List.set_cons_zero, List.set_cons_succ, i64_w, i32_w]
                rfl
              refine take_ (i := 0) (N := some 26) (v := ?_) (a' := ?_) #[true, true, false, false, false, false, false, false, false] rfl rfl (take_ofW HT_.out HW_.out (by kernel_rfl)) (fun _ _ _ h => h) (Or.inl ⟨by rfl, ?_⟩) hHeld ?_ ?_
              rotate_left
              · rintro w' ⟨s0, s1, s2, s3, s4, s5⟩
                go_simp
                with_reducible rfl
              rotate_left
              · simp only [Act.put, List.setIfInBounds_toArray, List.set_cons_zero, List.set_cons_succ, i64_w, i32_w]
                rfl
              refine take_ (i := 2) (N := some 28) (v := ?_) (a' := ?_) #[true, true, true, false, false, false, false, false, false] rfl rfl (take_ofW HT_.out HW_.out (by kernel_rfl)) (fun _ _ _ h => h) (Or.inl ⟨by rfl, ?_⟩) hHeld ?_ ?_
              rotate_left
              · rintro w' ⟨s0, s1, s2, s3, s4, s5⟩
                go_simp
                with_reducible rfl
              rotate_left
              · simp only [Act.put, List.setIfInBounds_toArray, List.set_cons_zero, List.set_cons_succ, i64_w, i32_w]
                rfl
              refine take_ (i := 4) (N := some 30) (v := ?_) (a' := ?_) #[true, true, true, false, true, false, false, false, false] rfl rfl (take_ofW HT_.out HW_.out (by kernel_rfl)) (fun _ _ _ h => h) (Or.inl ⟨by rfl, ?_⟩) hHeld ?_ ?_
              rotate_left
              · rintro w' ⟨s0, s1, s2, s3, s4, s5⟩
                go_simp
                with_reducible rfl
              rotate_left
              · simp only [Act.put, List.setIfInBounds_toArray, List.set_cons_zero, List.set_cons_succ, i64_w, i32_w]
                rfl
              refine one_ (i := 3) (N := some 29) #[true, true, true, true, true, false, false, false, false] rfl rfl (one_of HT_.out (by kernel_rfl)) (by decide) (fun K hK => ?_)
              refine goes_ Tryd.func24 (by kernel_rfl) rfl #[.agg #[.bool t119, .slice Ao41 t120.length co41]] (by rfl) rfl rfl (by (try simp only [List.map_toArray, List.map_cons, List.map_nil]); first | done | rfl | (simp only [List.length_drop, List.length_take]; rfl)) ?_
              with_reducible refine (moraineref02_Value.calls t119 _ _ t120 t135 t136 _ ?side1 ?side2 A23.out).mono ?_
              (case side1 => repeat (first | exact (Kd.R_reads' HO122.out).2.2 | (with_reducible refine Kd.C_alloc ?_ _) | (with_reducible refine Kd.C_drewN ?_ _) | (with_reducible refine Kd.C_drew ?_)))
              (case side2 => exact (Kd.R_reads' HO122.out).2.1)
              rintro e w63 ⟨v137, rfl, ho0, hb⟩
              refine ⟨_, rfl, ?_⟩
              have n0_ := qr HO122 hb
              have n1_ := qr HO126 hb
              have n2_ := qr HO132 hb
              have n3_ := Aside0.mk (Kd.R_lower ho0 (below_size (by repeat (first | (with_reducible first | exact HB.out | apply below_alloc | apply pw_below_drewN | apply below_drew1 | refine qs ?_ (by assumption)) | exact HB.out))))
              have n4_ := qb BK114 hb
              have n5_ := qb BK115 hb
              have n6_ := qb BK127 hb
              have n7_ := qb BK128 hb
              have n8_ := qb BK134 hb
              have n9_ := Aside0.mk (below_step (by repeat (first | (with_reducible first | exact HB.out | apply below_alloc | apply pw_below_drewN | apply below_drew1 | refine qs ?_ (by assumption)) | exact HB.out)) hb)
              clear HO122
              clear HO126
              clear HO132
              clear BK114
              clear BK115
              clear BK127
              clear BK128
              clear BK134
              clear HB
              have HO122 := n0_
              have HO126 := n1_
              have HO132 := n2_
              have HO138 := n3_
              have BK114 := n4_
              have BK115 := n5_
              have BK127 := n6_
              have BK128 := n7_
              have BK134 := n8_
              have HB := n9_
              clear n0_ n1_ n2_ n3_ n4_ n5_ n6_ n7_ n8_ n9_
              (try clear hb)
              (try clear hb2)
              (try clear hk)
              (try clear hi)
              (try clear ho0)
              refine hK.out _ _ ⟨(blk_cell BK134.out 0).trans rfl, (blk_cell BK134.out 1).trans rfl, (blk_cell BK127.out 0).trans rfl, (blk_cell BK127.out 1).trans rfl, (blk_cell BK128.out 0).trans rfl, (blk_cell BK128.out 1).trans rfl⟩ (fun hHeld => ?_)
              clear hK K
              refine norm_ (a' := ?_) ?_ ?_
              rotate_left
              · show Act.put _ (some 29) _ = _
                simp only [Act.put, List.setIfInBounds_toArray, List.set_cons_zero, List.set_cons_succ, i64_w, i32_w]
                rfl
              refine one_ (i := 5) (N := some 31) #[true, true, true, true, true, true, false, false, false] rfl rfl (one_of HT_.out (by kernel_rfl)) (by decide) (fun K hK => ?_)
              refine goes_ Tryd.func24 (by kernel_rfl) rfl #[.agg #[.bool t123, .slice Ao44 t124.length co44]] (by rfl) rfl rfl (by (try simp only [List.map_toArray, List.map_cons, List.map_nil]); first | done | rfl | (simp only [List.length_drop, List.length_take]; rfl)) ?_
              with_reducible refine (moraineref02_Value.calls t123 _ _ t124 t139 t140 _ ?side1 ?side2 A24.out).mono ?_
              (case side1 => repeat (first | exact (Kd.R_reads' HO126.out).2.2 | (with_reducible refine Kd.C_alloc ?_ _) | (with_reducible refine Kd.C_drewN ?_ _) | (with_reducible refine Kd.C_drew ?_)))
              (case side2 => exact (Kd.R_reads' HO126.out).2.1)
              rintro e w64 ⟨v141, rfl, ho0, hb⟩
              refine ⟨_, rfl, ?_⟩
              have n0_ := qr HO122 hb
              have n1_ := qr HO126 hb
              have n2_ := qr HO132 hb
              have n3_ := qe HO138 ho0 hb
              have n4_ := Aside0.mk (Kd.R_lower (Kd.R_new' ho0 (ql HO138)) (below_size (by repeat (first | (with_reducible first | exact HB.out | apply below_alloc | apply pw_below_drewN | apply below_drew1 | refine qs ?_ (by assumption)) | exact HB.out))))
              have n5_ := qb BK114 hb
              have n6_ := qb BK115 hb
              have n7_ := qb BK127 hb
              have n8_ := qb BK128 hb
              have n9_ := qb BK134 hb
              have n10_ := Aside0.mk (below_step (by repeat (first | (with_reducible first | exact HB.out | apply below_alloc | apply pw_below_drewN | apply below_drew1 | refine qs ?_ (by assumption)) | exact HB.out)) hb)
              clear HO122
              clear HO126
              clear HO132
              clear HO138
              clear BK114
              clear BK115
              clear BK127
              clear BK128
              clear BK134
              clear HB
              have HO122 := n0_
              have HO126 := n1_
              have HO132 := n2_
              have HO138 := n3_
              have HO142 := n4_
              have BK114 := n5_
              have BK115 := n6_
              have BK127 := n7_
              have BK128 := n8_
              have BK134 := n9_
              have HB := n10_
              clear n0_ n1_ n2_ n3_ n4_ n5_ n6_ n7_ n8_ n9_ n10_
              (try clear hb)
              (try clear hb2)
              (try clear hk)
              (try clear hi)
              (try clear ho0)
              obtain ⟨Ao65, co65, eo65⟩ := Kd.R_slice HO138.out
              (first | subst eo65 | (injection eo65 with f1_ f2_ f3_; have f4_ := f1_.symm; have f5_ := f3_.symm; clear f1_ f2_ f3_; subst f4_; subst f5_))
              obtain ⟨Ao66, co66, eo66⟩ := Kd.R_slice HO142.out
              (first | subst eo66 | (injection eo66 with f1_ f2_ f3_; have f4_ := f1_.symm; have f5_ := f3_.symm; clear f1_ f2_ f3_; subst f4_; subst f5_))
              refine hK.out _ _ ⟨(blk_cell BK134.out 0).trans rfl, (blk_cell BK134.out 1).trans rfl, (blk_cell BK127.out 0).trans rfl, (blk_cell BK127.out 1).trans rfl, (blk_cell BK128.out 0).trans rfl, (blk_cell BK128.out 1).trans rfl⟩ (fun hHeld => ?_)
              clear hK K
              refine norm_ (a' := ?_) ?_ ?_
              rotate_left
              · show Act.put _ (some 31) _ = _
                simp only [Act.put, List.setIfInBounds_toArray, List.set_cons_zero, List.set_cons_succ, i64_w, i32_w]
                rfl
              refine one_ (i := 6) (N := some 32) #[true, true, true, true, true, true, true, false, false] rfl rfl (one_of HT_.out (by kernel_rfl)) (by decide) (fun K hK => ?_)
              refine goes_ Tryd.func37 (by kernel_rfl) rfl #[.agg #[.bool t135, .slice Ao65 t136.length co65], .agg #[.bool t139, .slice Ao66 t140.length co66]] (by rfl) rfl rfl (by (try simp only [List.map_toArray, List.map_cons, List.map_nil]); first | done | rfl | (simp only [List.length_drop, List.length_take]; rfl)) ?_
              with_reducible refine (moraineref02_Mul.calls t135 _ _ t136 t139 _ _ t140 t143 t144 _ ?side1 ?side2 ?side3 ?side4 A25.out).mono ?_
              (case side1 => repeat (first | exact (Kd.R_reads' HO138.out).2.2 | (with_reducible refine Kd.C_alloc ?_ _) | (with_reducible refine Kd.C_drewN ?_ _) | (with_reducible refine Kd.C_drew ?_)))
              (case side2 => exact (Kd.R_reads' HO138.out).2.1)
              (case side3 => repeat (first | exact (Kd.R_reads' HO142.out).2.2 | (with_reducible refine Kd.C_alloc ?_ _) | (with_reducible refine Kd.C_drewN ?_ _) | (with_reducible refine Kd.C_drew ?_)))
              (case side4 => exact (Kd.R_reads' HO142.out).2.1)
              rintro e w67 ⟨v145, rfl, ho0, hb⟩
              refine ⟨_, rfl, ?_⟩
              have n0_ := qr HO122 hb
              have n1_ := qr HO126 hb
              have n2_ := qr HO132 hb
              have n3_ := qe HO138 ho0 hb
              have n4_ := qe HO142 ho0 hb
              have n5_ := Aside0.mk (Kd.R_lower (Kd.R_new' (Kd.R_new' ho0 (ql HO138)) (ql HO142)) (below_size (by repeat (first | (with_reducible first | exact HB.out | apply below_alloc | apply pw_below_drewN | apply below_drew1 | refine qs ?_ (by assumption)) | exact HB.out))))
              have n6_ := qb BK114 hb
              have n7_ := qb BK115 hb
              have n8_ := qb BK127 hb
              have n9_ := qb BK128 hb
              have n10_ := qb BK134 hb
              have n11_ := Aside0.mk (below_step (by repeat (first | (with_reducible first | exact HB.out | apply below_alloc | apply pw_below_drewN | apply below_drew1 | refine qs ?_ (by assumption)) | exact HB.out)) hb)
              clear HO122
              clear HO126
              clear HO132
              clear HO138
              clear HO142
              clear BK114
              clear BK115
              clear BK127
              clear BK128
              clear BK134
              clear HB
              have HO122 := n0_
              have HO126 := n1_
              have HO132 := n2_
              have HO138 := n3_
              have HO142 := n4_
              have HO146 := n5_
              have BK114 := n6_
              have BK115 := n7_
              have BK127 := n8_
              have BK128 := n9_
              have BK134 := n10_
              have HB := n11_
              clear n0_ n1_ n2_ n3_ n4_ n5_ n6_ n7_ n8_ n9_ n10_ n11_
              (try clear hb)
              (try clear hb2)
              (try clear hk)
              (try clear hi)
              (try clear ho0)
              obtain ⟨Ao68, co68, eo68⟩ := Kd.R_slice HO146.out
              (first | subst eo68 | (injection eo68 with f1_ f2_ f3_; have f4_ := f1_.symm; have f5_ := f3_.symm; clear f1_ f2_ f3_; subst f4_; subst f5_))
              refine hK.out _ _ ⟨(blk_cell BK134.out 0).trans rfl, (blk_cell BK134.out 1).trans rfl, (blk_cell BK127.out 0).trans rfl, (blk_cell BK127.out 1).trans rfl, (blk_cell BK128.out 0).trans rfl, (blk_cell BK128.out 1).trans rfl⟩ (fun hHeld => ?_)
              clear hK K
              refine norm_ (a' := ?_) ?_ ?_
              rotate_left
              · show Act.put _ (some 32) _ = _
                simp only [Act.put, List.setIfInBounds_toArray, List.set_cons_zero, List.set_cons_succ, i64_w, i32_w]
                rfl
              refine one_ (i := 7) (N := some 33) #[true, true, true, true, true, true, true, true, false] rfl rfl (one_of HT_.out (by kernel_rfl)) (by decide) (fun K hK => ?_)
              refine goes_ Tryd.func27 (by kernel_rfl) rfl #[.agg #[.bool t129, .slice Ao60 t130.length co60], .int .i64 t133, .agg #[.bool t143, .slice Ao68 t144.length co68]] (by rfl) rfl rfl (by (try simp only [List.map_toArray, List.map_cons, List.map_nil]); first | done | rfl | (simp only [List.length_drop, List.length_take]; rfl)) ?_
              with_reducible refine (morainelaw02_is.calls t129 _ _ t130 t133 t143 _ _ t144 true _ ?side1 ?side2 ?side3 ?side4 A26.out).mono ?_
              (case side1 => repeat (first | exact (Kd.R_reads' HO132.out).2.2 | (with_reducible refine Kd.C_alloc ?_ _) | (with_reducible refine Kd.C_drewN ?_ _) | (with_reducible refine Kd.C_drew ?_)))
              (case side2 => exact (Kd.R_reads' HO132.out).2.1)
              (case side3 => repeat (first | exact (Kd.R_reads' HO146.out).2.2 | (with_reducible refine Kd.C_alloc ?_ _) | (with_reducible refine Kd.C_drewN ?_ _) | (with_reducible refine Kd.C_drew ?_)))
              (case side4 => exact (Kd.R_reads' HO146.out).2.1)
              rintro e w69 ⟨rfl, hb⟩
              refine ⟨_, rfl, ?_⟩
              have n0_ := qr HO122 hb
              have n1_ := qr HO126 hb
              have n2_ := qr HO132 hb
              have n3_ := qr HO138 hb
              have n4_ := qr HO142 hb
              have n5_ := qr HO146 hb
              have n6_ := qb BK114 hb
              have n7_ := qb BK115 hb
              have n8_ := qb BK127 hb
              have n9_ := qb BK128 hb
              have n10_ := qb BK134 hb
              have n11_ := Aside0.mk (below_step (by repeat (first | (with_reducible first | exact HB.out | apply below_alloc | apply pw_below_drewN | apply below_drew1 | refine qs ?_ (by assumption)) | exact HB.out)) hb)
              clear HO122
              clear HO126
              clear HO132
              clear HO138
              clear HO142
              clear HO146
              clear BK114
              clear BK115
              clear BK127
              clear BK128
              clear BK134
              clear HB
              have HO122 := n0_
              have HO126 := n1_
              have HO132 := n2_
              have HO138 := n3_
              have HO142 := n4_
              have HO146 := n5_
              have BK114 := n6_
              have BK115 := n7_
              have BK127 := n8_
              have BK128 := n9_
              have BK134 := n10_
              have HB := n11_
              clear n0_ n1_ n2_ n3_ n4_ n5_ n6_ n7_ n8_ n9_ n10_ n11_
              (try clear hb)
              (try clear hb2)
              (try clear hk)
              (try clear hi)
              refine hK.out _ _ ⟨(blk_cell BK134.out 0).trans rfl, (blk_cell BK134.out 1).trans rfl, (blk_cell BK127.out 0).trans rfl, (blk_cell BK127.out 1).trans rfl, (blk_cell BK128.out 0).trans rfl, (blk_cell BK128.out 1).trans rfl⟩ (fun hHeld => ?_)
              clear hK K
              refine norm_ (a' := ?_) ?_ ?_
              rotate_left
              · show Act.put _ (some 33) _ = _
                simp only [Act.put, List.setIfInBounds_toArray, List.set_cons_zero, List.set_cons_succ, i64_w, i32_w]
                rfl
              refine pure_ (i := 8) (N := some 34) (v := ?_) (a' := ?_) #[true, true, true, true, true, true, true, true, true] rfl rfl (any_of HT_.out (by kernel_rfl)) (fun _ _ _ h => h) (Or.inl ⟨by rfl, ?_⟩) ?_ ?_
              rotate_left
              · intro w'
                go_simp
                with_reducible rfl
              rotate_left
              · simp only [Act.put, List.setIfInBounds_toArray, List.set_cons_zero, List.set_cons_succ, i64_w, i32_w]
                rfl
              refine done_ (done_of HT_.out (by kernel_rfl)) ?_
              have hcz70_0 : w69.cell? ⟨gb134, 0, none⟩ = some (.bool t129) := (blk_cell BK134.out 0).trans rfl
              have hcz70_1 : w69.cell? ⟨gb134, 1, none⟩ = some (.slice Ao60 t130.length co60) := (blk_cell BK134.out 1).trans rfl
              have hfz70_0 := blk_frozen BK134.out 0
              have hfz70_1 := blk_frozen BK134.out 1
              try go_wp2_with (first | ((with_reducible refine gate_callee (f := 33) rfl ?_); refine goesL_ (some 36) rfl rfl Tryd.func33 (by kernel_rfl) rfl #[.agg #[.bool t129, .slice Ao60 t130.length co60]] rfl (by (try simp only [List.map_toArray, List.map_cons, List.map_nil]); first | done | rfl | (simp only [List.length_drop, List.length_take]; rfl)) ?_; (with_reducible refine (morainelaw02_spoil.calls kj2 t129 (fun k_ => some k_ = (.slice Ao60 t130.length co60 : Value).ownBlock) (.slice Ao60 t130.length co60) t130 t148 w _ ?side1 ?side2 A28.out).mono ?_); (case side1 => repeat (first | (with_reducible first | exact HB.out | apply below_alloc | apply pw_below_drewN | apply below_drew1 | refine qs ?_ (by assumption)) | exact HB.out)); (case side2 => exact Kd.R_tight rfl HO132.out); rintro e w71 ⟨rfl, hy0, hb, hkp⟩; refine ⟨_, rfl, ?_⟩; have n0_ := Aside0.mk (blk_kept (by (with_reducible repeat (first | refine qN ?_ _ | refine qW ?_ | refine qA ?_ _)); exact BK114.out) hkp (fun hs_ => (fun e_ => (Kd.R_ne HO132.out BK114.out (by decide)) e_) hs_)); have n1_ := Aside0.mk (blk_kept (by (with_reducible repeat (first | refine qN ?_ _ | refine qW ?_ | refine qA ?_ _)); exact BK115.out) hkp (fun hs_ => (fun e_ => (Kd.R_ne HO132.out BK115.out (by decide)) e_) hs_)); have n2_ := Aside0.mk (Kd.R_mono (ok' := fun k_ => some k_ ≠ (.slice Ao44 t124.length co44 : Value).ownBlock ∧ some k_ ≠ (.slice Ao60 t130.length co60 : Value).ownBlock) (Kd.R_keptB (HO122.out) hkp (fun k_ hk_ hs_ => (hk_.2) hs_)) (fun k_ hk_ => ⟨hk_.1.1, hk_.1.2⟩)); have n3_ := Aside0.mk (Kd.R_mono (ok' := fun k_ => some k_ ≠ (.slice Ao41 t120.length co41 : Value).ownBlock ∧ some k_ ≠ (.slice Ao60 t130.length co60 : Value).ownBlock) (Kd.R_keptB (HO126.out) hkp (fun k_ hk_ hs_ => (hk_.2) hs_)) (fun k_ hk_ => ⟨hk_.1.1, hk_.1.2⟩)); have n4_ := Aside0.mk (blk_kept (by (with_reducible repeat (first | refine qN ?_ _ | refine qW ?_ | refine qA ?_ _)); exact BK127.out) hkp (fun hs_ => (fun e_ => (Kd.R_ne HO132.out BK127.out (by decide)) e_) hs_)); have n5_ := Aside0.mk (blk_kept (by (with_reducible repeat (first | refine qN ?_ _ | refine qW ?_ | refine qA ?_ _)); exact BK128.out) hkp (fun hs_ => (fun e_ => (Kd.R_ne HO132.out BK128.out (by decide)) e_) hs_)); have n6_ := Aside0.mk (Kd.R_reok rfl hy0 (fun k_ e_ => HO132.out.1 k_ e_)); have n7_ := Aside0.mk (blk_kept (by (with_reducible repeat (first | refine qN ?_ _ | refine qW ?_ | refine qA ?_ _)); exact BK134.out) hkp (fun hs_ => (fun e_ => (Kd.R_ne HO132.out BK134.out (by decide)) e_) hs_)); have n8_ := Aside0.mk (Kd.R_mono (ok' := fun k_ => some k_ ≠ (.slice Ao66 t140.length co66 : Value).ownBlock ∧ some k_ ≠ (.slice Ao68 t144.length co68 : Value).ownBlock) (Kd.R_keptB ((Kd.R_apart' HO138.out (Kd.R_typed HO132.out) (by decide))) hkp (fun k_ hk_ hs_ => (hk_.2) hs_)) (fun k_ hk_ => ⟨hk_.1.1.1.2, hk_.1.1.2⟩)); have n9_ := Aside0.mk (Kd.R_mono (ok' := fun k_ => some k_ ≠ (.slice Ao65 t136.length co65 : Value).ownBlock ∧ some k_ ≠ (.slice Ao68 t144.length co68 : Value).ownBlock) (Kd.R_keptB ((Kd.R_apart' HO142.out (Kd.R_typed HO132.out) (by decide))) hkp (fun k_ hk_ hs_ => (hk_.2) hs_)) (fun k_ hk_ => ⟨hk_.1.1.1.2, hk_.1.1.2⟩)); have n10_ := Aside0.mk (Kd.R_mono (ok' := fun k_ => some k_ ≠ (.slice Ao65 t136.length co65 : Value).ownBlock ∧ some k_ ≠ (.slice Ao66 t140.length co66 : Value).ownBlock) (Kd.R_keptB ((Kd.R_apart' HO146.out (Kd.R_typed HO132.out) (by decide))) hkp (fun k_ hk_ hs_ => (hk_.2) hs_)) (fun k_ hk_ => ⟨hk_.1.1.1.2, hk_.1.1.2⟩)); have n11_ := Aside0.mk (hb); clear BK114; clear BK115; clear HO122; clear HO126; clear BK127; clear BK128; clear HO132; clear BK134; clear HO138; clear HO142; clear HO146; clear HB; have BK114 := n0_; have BK115 := n1_; have HO122 := n2_; have HO126 := n3_; have BK127 := n4_; have BK128 := n5_; have HO132 := n6_; have BK134 := n7_; have HO138 := n8_; have HO142 := n9_; have HO146 := n10_; have HB := n11_; clear n0_ n1_ n2_ n3_ n4_ n5_ n6_ n7_ n8_ n9_ n10_ n11_; (try clear hb); (try clear hkp); (try clear hy0); have hcz72_0 : w71.cell? ⟨gb114, 0, none⟩ = some (.bool a0_0) := (blk_cell BK114.out 0).trans rfl; have hcz72_1 : w71.cell? ⟨gb114, 1, none⟩ = some (.slice A0_1 l0_1.length c0_1) := (blk_cell BK114.out 1).trans rfl; have hfz72_0 := blk_frozen BK114.out 0; have hfz72_1 := blk_frozen BK114.out 1; have hnb73 := NB127_128.out; have hnc73 := NB128_127.out; have hcz74_0 : w71.cell? ⟨gb127, 0, none⟩ = some (.bool t119) := (blk_cell BK127.out 0).trans rfl; have hcz74_1 : w71.cell? ⟨gb127, 1, none⟩ = some (.slice Ao41 t120.length co41) := (blk_cell BK127.out 1).trans rfl; have hfz74_0 := blk_frozen BK127.out 0; have hfz74_1 := blk_frozen BK127.out 1) | ((with_reducible refine gate_callee (f := 17) rfl ?_); refine goesL_ (some 39) rfl rfl Tryd.func17 (by kernel_rfl) rfl #[.agg #[.bool a0_0, .slice A0_1 l0_1.length c0_1], .agg #[.bool t119, .slice Ao41 t120.length co41]] rfl (by (try simp only [List.map_toArray, List.map_cons, List.map_nil]); first | done | rfl | (simp only [List.length_drop, List.length_take]; rfl)) ?_; (with_reducible refine (moraineref02_Same.calls a0_0 _ _ l0_1 t119 _ _ t120 true _ ?side1 ?side2 ?side3 ?side4 A29.out).mono ?_); (case side1 => repeat (first | exact (Kd.C_below HR0_1.out HB.out) | (with_reducible refine Kd.C_alloc ?_ _) | (with_reducible refine Kd.C_drewN ?_ _) | (with_reducible refine Kd.C_drew ?_))); (case side2 => exact HC0_1.out); (case side3 => repeat (first | exact (Kd.R_reads' HO122.out).2.2 | (with_reducible refine Kd.C_alloc ?_ _) | (with_reducible refine Kd.C_drewN ?_ _) | (with_reducible refine Kd.C_drew ?_))); (case side4 => exact (Kd.R_reads' HO122.out).2.1); rintro e w75 ⟨rfl, hb⟩; refine ⟨_, rfl, ?_⟩; replace HO122 := qr HO122 hb; replace HO126 := qr HO126 hb; replace HO132 := qr HO132 hb; replace HO138 := qr HO138 hb; replace HO142 := qr HO142 hb; replace HO146 := qr HO146 hb; replace BK114 := qb BK114 hb; replace BK115 := qb BK115 hb; replace BK127 := qb BK127 hb; replace BK128 := qb BK128 hb; replace BK134 := qb BK134 hb; replace HB := Aside0.mk (below_step (by repeat (first | (with_reducible first | exact HB.out | apply below_alloc | apply pw_below_drewN | apply below_drew1 | refine qs ?_ (by assumption)) | exact HB.out)) hb); (try clear hb); (try clear hb2); (try clear hk); (try clear hi); have hcz76_0 : w75.cell? ⟨gb115, 0, none⟩ = some (.bool a1_0) := (blk_cell BK115.out 0).trans rfl; have hcz76_1 : w75.cell? ⟨gb115, 1, none⟩ = some (.slice A1_1 l1_1.length c1_1) := (blk_cell BK115.out 1).trans rfl; have hfz76_0 := blk_frozen BK115.out 0; have hfz76_1 := blk_frozen BK115.out 1; have hcz77_0 : w75.cell? ⟨gb128, 0, none⟩ = some (.bool t123) := (blk_cell BK128.out 0).trans rfl; have hcz77_1 : w75.cell? ⟨gb128, 1, none⟩ = some (.slice Ao44 t124.length co44) := (blk_cell BK128.out 1).trans rfl; have hfz77_0 := blk_frozen BK128.out 0; have hfz77_1 := blk_frozen BK128.out 1) | (go_at_call 17; (with_reducible refine (moraineref02_Same.calls a1_0 _ _ l1_1 t123 _ _ t124 true _ ?side1 ?side2 ?side3 ?side4 A31.out).mono ?_); (case side1 => repeat (first | exact (Kd.C_below HR1_1.out HB.out) | (with_reducible refine Kd.C_alloc ?_ _) | (with_reducible refine Kd.C_drewN ?_ _) | (with_reducible refine Kd.C_drew ?_))); (case side2 => exact HC1_1.out); (case side3 => repeat (first | exact (Kd.R_reads' HO126.out).2.2 | (with_reducible refine Kd.C_alloc ?_ _) | (with_reducible refine Kd.C_drewN ?_ _) | (with_reducible refine Kd.C_drew ?_))); (case side4 => exact (Kd.R_reads' HO126.out).2.1); rintro e w78 ⟨rfl, hb⟩; replace HO122 := qr HO122 hb; replace HO126 := qr HO126 hb; replace HO132 := qr HO132 hb; replace HO138 := qr HO138 hb; replace HO142 := qr HO142 hb; replace HO146 := qr HO146 hb; replace BK114 := qb BK114 hb; replace BK115 := qb BK115 hb; replace BK127 := qb BK127 hb; replace BK128 := qb BK128 hb; replace BK134 := qb BK134 hb; replace HB := Aside0.mk (below_step (by repeat (first | (with_reducible first | exact HB.out | apply below_alloc | apply pw_below_drewN | apply below_drew1 | refine qs ?_ (by assumption)) | exact HB.out)) hb); (try clear hb); (try clear hb2); (try clear hk); (try clear hi)) | (go_at_call 20; (with_reducible refine (morainelaw02_awake.calls  t151 _ A33.out (NumV.Tab.below HT.out (by repeat (first | exact HB.out | apply below_alloc | apply pw_below_drewN | apply below_drew1 | refine below_set ?_ (Aside0.out (by assumption)))))).mono ?_); rintro e w79 ⟨rfl, hb⟩; replace HO122 := qr HO122 hb; replace HO126 := qr HO126 hb; replace HO132 := qr HO132 hb; replace HO138 := qr HO138 hb; replace HO142 := qr HO142 hb; replace HO146 := qr HO146 hb; replace BK114 := qb BK114 hb; replace BK115 := qb BK115 hb; replace BK127 := qb BK127 hb; replace BK128 := qb BK128 hb; replace BK134 := qb BK134 hb; replace HB := Aside0.mk (below_step (by repeat (first | (with_reducible first | exact HB.out | apply below_alloc | apply pw_below_drewN | apply below_drew1 | refine qs ?_ (by assumption)) | exact HB.out)) hb); (try clear hb); (try clear hb2); (try clear hk); (try clear hi)))
              go_ret
              exact ⟨by first | rfl | (simp [errW_none, errW_some] <;> rfl) | (simp [*, errW_none, errW_some] <;> rfl), by repeat (first | (with_reducible first | exact HB.out | apply below_alloc | apply pw_below_drewN | apply below_drew1 | refine qs ?_ (by assumption)) | exact HB.out)⟩
            · replace c32 := Bool.eq_false_iff.mpr c32
              subst c32
              have H1 : (some false) = some r := by rw [if_neg (show ¬ (false = true) by decide)] at H; exact H
              clear H
              have H := H1
              clear H1
              exact absurd ((Option.some.inj H).trans hr) (by decide)
          · replace c30 := Bool.eq_false_iff.mpr c30
            subst c30
            have H1 : (some false) = some r := by rw [if_neg (show ¬ (false = true) by decide)] at H; exact H
            clear H
            have H := H1
            clear H1
            exact absurd ((Option.some.inj H).trans hr) (by decide)
        · replace c27 := Bool.eq_false_iff.mpr c27
          subst c27
          have H1 : (some false) = some r := by rw [if_neg (show ¬ (false = true) by decide)] at H; exact H
          clear H
          have H := H1
          clear H1
          exact absurd ((Option.some.inj H).trans hr) (by decide)
end Go.Proofs.YthhpnlbeniihhaaDoor.PNumMuls
namespace Go.Proofs.YthhpnlbeniihhaaDoor.Ref
open Go.RowKit Go.Proofs.YthhpnlbeniihhaaDoorW.PrintWords Go.Proofs.YthhpnlbeniihhaaDoorW.PrintLast Go.Proofs.YthhpnlbeniihhaaDoorW.PrintMore Go.Proofs.YthhpnlbeniihhaaDoor Go.Proofs.YthhpnlbeniihhaaDoor.Limb Go.Proofs.YthhpnlbeniihhaaDoor.Bit Go.Proofs.YthhpnlbeniihhaaDoor.NumA Go.Proofs.YthhpnlbeniihhaaDoor.NumB Go.Proofs.YthhpnlbeniihhaaDoor.NumG Go.Proofs.YthhpnlbeniihhaaDoor.NumJ Go.Proofs.YthhpnlbeniihhaaDoor.Vals Go.Proofs.YthhpnlbeniihhaaDoor.Plain Go.Proofs.YthhpnlbeniihhaaDoor.Raw Go.Proofs.YthhpnlbeniihhaaDoor.RefC
theorem same_self (a : Bool) (l : List Int) (h : l.length < 1073741824) : moraineref02_Same.f a l a l = some true := by
  unfold moraineref02_Same.f; rw [if_pos h]; simp
theorem value_raw {n : Bool} {l : List Int} (h : okN l) : moraineref02_Value.f n l = some (vb (val n l), vl (val n l)) := by unfold moraineref02_Value.f; rw [if_pos h]
theorem copy_raw {n : Bool} {l : List Int} (h : okN l) : moraineref02_Copy.f n l = some (n, l) := by unfold moraineref02_Copy.f; rw [if_pos h.2]
theorem num_at {z : Int} (h : (vl z).length < 1073741824) : moraineref02_Num.f (vb z) (vl z) = some (mkI z) := by unfold moraineref02_Num.f; rw [if_pos (canV_v h), bval_v]
theorem vlen {z : Int} {k : Nat} (h : z.natAbs < 4294967296 ^ k) : (vl z).length ≤ 32 * k := by
  unfold vl
  rw [bits_len, Nat.pow_mul]
  exact h
section
variable {y z : Int} (hy : (vl y).length < 1073741824) (hz : (vl z).length < 1073741824)
include hy hz
theorem rmul_at : moraineref02_Mul.f (vb y) (vl y) (vb z) (vl z) = some (vb (y * z), vl (y * z)) := by unfold moraineref02_Mul.f; rw [if_pos ⟨canV_v hy, canV_v hz⟩, bval_v, bval_v]
end
end Go.Proofs.YthhpnlbeniihhaaDoor.Ref
namespace Go.Proofs.YthhpnlbeniihhaaDoor.PureMuls
open Go.RowKit Go.Proofs.YthhpnlbeniihhaaDoorW.PrintWords Go.Proofs.YthhpnlbeniihhaaDoorW.PrintLast Go.Proofs.YthhpnlbeniihhaaDoorW.PrintMore Go.Proofs.YthhpnlbeniihhaaDoor Go.Proofs.YthhpnlbeniihhaaDoor.Limb Go.Proofs.YthhpnlbeniihhaaDoor.NumA Go.Proofs.YthhpnlbeniihhaaDoor.NumB Go.Proofs.YthhpnlbeniihhaaDoor.NumG Go.Proofs.YthhpnlbeniihhaaDoor.NumJ Go.Proofs.YthhpnlbeniihhaaDoor.Vals Go.Proofs.YthhpnlbeniihhaaDoor.Plain Go.Proofs.YthhpnlbeniihhaaDoor.Raw Go.Proofs.YthhpnlbeniihhaaDoor.Ref Go.Proofs.YthhpnlbeniihhaaDoor.RefC Go.Proofs.YthhpnlbeniihhaaDoor.PNumMuls
theorem spoil_from (a : Bool) (d : Nat) : ∀ (i k : Nat) (l : List Int), i + d = l.length → d < k → l.length < 1073741824 → ∃ r, morainelaw02_spoil.l0 k (i : Int) a l = some r := by
  induction d with
  | zero =>
    intro i k l hi hk hl
    obtain ⟨k, rfl⟩ : ∃ j, k = j + 1 := ⟨k - 1, by omega⟩
    rw [morainelaw02_spoil.l0, if_neg (by omega)]
    exact ⟨_, rfl⟩
  | succ d ih =>
    intro i k l hi hk hl
    obtain ⟨k, rfl⟩ : ∃ j, k = j + 1 := ⟨k - 1, by omega⟩
    rw [morainelaw02_spoil.l0, if_pos (by omega), if_pos (by omega), show wrap64 ((i : Int) + 1) = ((i + 1 : Nat) : Int) by unfold wrap64; omega]
    exact ih (i + 1) k _ (by rw [List.length_set]; omega) (by omega) (by rw [List.length_set]; exact hl)
theorem spoil_some (a : Bool) (l : List Int) (k : Nat) (hk : l.length < k) (hl : l.length < 1073741824) : ∃ r, morainelaw02_spoil.f k a l = some r := spoil_from a l.length 0 k l (by omega) hk hl
theorem is_at {z : Int} (h : (vl z).length < 1073741824) : morainelaw02_is.f (mkI z).1 (mkI z).2.1 (mkI z).2.2 (vb z) (vl z) = some true := by
  unfold morainelaw02_is.f
  rw [num_at h, bsome, if_pos rfl, same_self _ _ (okN_mkI z).2, bsome]
theorem len_mkI (z : Int) : (mkI z).2.1.length ≤ 48 := by
  by_cases h : Fits z
  · rw [mkI_fits h]; exact len_sl h
  · rw [mkI_big h]; decide
theorem pure (a b : Bool) (l m : List Int) (ol : OkL l) (om : OkL m) : morainelaw02_NumMuls.f 60 a l b m = some true := by
  have j0t : ∀ x y z u, morainelaw02_NumMuls.j0 60 true x y z u = some true := by
    intro x y z u
    rw [morainelaw02_NumMuls.j0, if_pos rfl]; exact aw
  unfold morainelaw02_NumMuls.f morainelaw02_long.f
  rw [bsome, bsome]
  by_cases h1 : (l.length : Int) > 60
  · rw [if_pos (decide_eq_true h1)]; exact j0t _ _ _ _
  rw [if_neg (by simpa using h1)]
  by_cases h2 : (m.length : Int) > 60
  · rw [decide_eq_true h2]; exact j0t _ _ _ _
  rw [decide_eq_false h2]
  have kl : okN l := ⟨ol, by omega⟩
  have km : okN m := ⟨om, by omega⟩
  have vx : (vl (val a l)).length ≤ 32 * 60 := vlen (val_lt ol (by omega))
  have vy : (vl (val b m)).length ≤ 32 * 60 := vlen (val_lt om (by omega))
  have vp : (vl (val a l * val b m)).length ≤ 32 * 120 := vlen (by
    rw [Int.natAbs_mul]
    have e1 := val_lt (n := a) ol (k := 60) (by omega)
    have e2 := val_lt (n := b) om (k := 60) (by omega)
    have e3 := Nat.mul_lt_mul'' e1 e2
    rw [← Nat.pow_add] at e3
    exact e3)
  rw [morainelaw02_NumMuls.j0, if_neg (by decide), copy_raw kl, bsome, copy_raw km, bsome, mul_raw kl km, bsome, value_raw kl, bsome, value_raw km, bsome]
  dsimp only
  rw [rmul_at (by omega) (by omega), bsome]
  dsimp only
  rw [is_at (by omega), bsome, if_pos rfl]
  obtain ⟨r, hr⟩ := spoil_some (mkI (val a l * val b m)).1 (mkI (val a l * val b m)).2.1 59 (by have := len_mkI (val a l * val b m); omega) (okN_mkI _).2
  rw [hr, bsome, same_self _ _ kl.2, bsome, if_pos rfl, same_self _ _ km.2, bsome, if_pos rfl]
  exact aw
end Go.Proofs.YthhpnlbeniihhaaDoor.PureMuls
namespace Go.Proofs.YthhpnlbeniihhaaDoor.numMuls
open Go.ChangeShapes Go.WideShapes Go.ChangeAt Go.RowKit Go.Proofs.YthhpnlbeniihhaaDoor.Limb Go.Proofs.YthhpnlbeniihhaaDoor.Row
open Go.ChangeMaps (open_string shut_string)
set_option linter.unusedVariables false
theorem own : ownKnob Tryd.prog.godebug = none := by kernel_rfl
set_option maxRecDepth 100000 in
theorem contract (H : Type) (enc : TypeId × Value → H) (W : World) (base : Nat) (args : Array Value) (ds gs : List (DataW H)) (before : List MemPlace)
    (hval : ∀ (j : Nat) t v, Tryd.f8.params[j]? = some t → args[j]? = some v → Value.okWide Tryd.prog W .any base t v)
    (hW : DataW.Whole enc Tryd.prog Tryd.f8.params.toList Rows.numMulsSpec.vars false W args.toList ds gs before)
    (hsz0 : (DataW.weightsEach Tryd.prog (Tryd.f8.params.toList ++ Rows.numMulsSpec.plain.varTypes Tryd.prog) (ds ++ gs)).all (· ≤ reachBytes) = true) (hL : laidMetH Tryd.prog Rows.numMulsRow.laid W) :
    Calls Tryd.prog 8 args W fun e W' => ∃ v, e = .returned v ∧ Rows.numMulsSpec.post enc Tryd.prog Tryd.f8 false true false false W args v W' := by
  have ht : NumV.Tab W := tab hL
  have hsz : (DataW.weightsEach Tryd.prog (Tryd.f8.params.toList ++ Rows.numMulsSpec.plain.varTypes Tryd.prog) (ds ++ gs)).all (· ≤ reachBytes) = true := hsz0
  have hW' := hW
  obtain ⟨p, q, hA0, hV, rfl, hfz, hnd⟩ := hW
  have hA : DataW.TrodAll enc Tryd.prog W 0 (fun _ => true) true Tryd.f8.params.toList args.toList ds p := hA0
  rw [Tryd.params8] at hA hval hsz
  obtain ⟨v0, vs0, d0, ds0, p0, q0, hargs, rfl, rfl, h0, r0⟩ := trodAll_cons hA
  obtain ⟨v1, vs1, d1, ds1, p1, q1, rfl, rfl, rfl, h1, r1⟩ := trodAll_cons r0
  obtain ⟨rfl, rfl, rfl⟩ := trodAll_nil r1
  obtain rfl : args = #[v0, v1] := by cases args; simp_all
  obtain ⟨rfl, rfl⟩ := trodVars_none hV
  have k0 := h0
  have lt0 : ∀ x ∈ p0, x.block < W.heap.size := by obtain ⟨m, hm⟩ := k0; exact DataW.trod_lt m _ _ _ hm
  obtain ⟨n0, A0, c0, l0, rfl, ok0, hc0, hr0, bg0⟩ := open_num (hval 0 25 v0 rfl rfl) h0
  have k1 := h1
  have lt1 : ∀ x ∈ p1, x.block < W.heap.size := by obtain ⟨m, hm⟩ := k1; exact DataW.trod_lt m _ _ _ hm
  obtain ⟨n1, A1, c1, l1, rfl, ok1, hc1, hr1, bg1⟩ := open_num (hval 1 25 v1 rfl rfl) h1
  refine (PNumMuls.morainelaw02_NumMuls.calls 60 n0 A0 c0 l0 n1 A1 c1 l1 true W rfl hr0 hc0 hr1 hc1 (PureMuls.pure n0 n1 l0 l1 ok0 ok1) ht).mono fun e W' ⟨he, bel⟩ => ?_
  subst he
  exact ⟨_, rfl, _, _, _, [], _, [], hW', trodAll_mk1 (shut_bool Tryd.underlying4 _), (trodAll_cons_mk (Below.trod laidOut (by kernel_rfl) (of_decide_eq_true (by kernel_rfl)) k0 bel lt0) (trodAll_cons_mk (Below.trod laidOut (by kernel_rfl) (of_decide_eq_true (by kernel_rfl)) k1 bel lt1) trodAll_mk0)), rfl, bel.frame _, fun h => by cases h⟩
theorem reads (os : Os) {H : Type} (enc : TypeId × Value → H) : ∃ places, DataW.whole enc Tryd.prog ((laidWorld os).forCall (fun _ _ => 0) ⟨#[], #[.agg #[.bool false, .slice none 0 0], .agg #[.bool false, .slice none 0 0]], []⟩).memory Tryd.f8.params.toList Rows.numMulsSpec.vars false (#[.agg #[.bool false, .slice none 0 0], .agg #[.bool false, .slice none 0 0]] : Array Value).toList 8 = some ([.agg [.lit (.bool false), .nil], .agg [.lit (.bool false), .nil]], [], places) :=
  ⟨[], by kernel_rfl⟩
set_option maxRecDepth 100000 in
theorem lifted (os : Os) (started : os.Started) (H : Type) (enc : TypeId × Value → H) (F : Stop.Interp) :
    ReturnsInHanded {} Tryd.checked os 8 .any ((OpenSpec.ofChange Rows.numMulsSpec).preRow enc Tryd.prog Tryd.f8 Rows.numMulsRow.domain false Rows.numMulsRow.laid) (((OpenSpec.ofChange Rows.numMulsSpec).at F).post enc Tryd.prog Tryd.f8 false true false false) := by
  obtain ⟨places, hx⟩ := reads os enc
  refine returnsInHanded_of_row (C := Tryd.checked) (s := OpenSpec.ofChange Rows.numMulsSpec) own started (by kernel_rfl) Tryd.func8
    (witness_row_at (enc := enc) (C := Tryd.checked) false (laidWorld os) #[.agg #[.bool false, .slice none 0 0], .agg #[.bool false, .slice none 0 0]] rfl (by kernel_rfl) (by kernel_rfl) (by kernel_rfl)
      (OpenSpec.preRow_of_cond 8 hx (by kernel_rfl) (fun k hk => by cases hk) (by kernel_rfl) (laid_met os _))) ?_
  intro W base args ds gs before hval hW _ _ hsz hL _ _
  exact contract H enc W base args ds gs before hval hW hsz hL
theorem said : Rows.NumMulsSaid :=
  OpenClaim.holds_of_cond 8 Tryd.f8 rfl rfl rfl rfl rfl rfl rfl ⟨rfl, rfl, rfl, rfl, rfl⟩ rfl rfl rfl rfl rfl (by kernel_rfl) Tryd.func8 (by kernel_rfl)
    (of_decide_eq_true (by kernel_rfl)) (by unfold Func.isWrapper; first | (rw [if_pos (by decide +kernel)]; kernel_rfl) | (rw [if_neg (by decide +kernel)]; exact ⟨rfl, rfl⟩))
    (fun os started H enc _ F => by rw [OpenClaim.pre_eq_preRow]; exact lifted os started H enc F)
theorem plain (f : FuncId) (fn : Func) (hf : Tryd.pinned.checked.prog.funcNamed "moraine/morainelaw02.NumMuls" = some f) (hfn : Tryd.pinned.checked.prog.funcs[f]? = some fn) :
    false = Tryd.pinned.checked.prog.looks [] ∧ ∀ (j : Nat) t, fn.params[j]? = some t → Tryd.pinned.checked.prog.wantsStandIn t = false := by
  obtain rfl : f = 8 := Option.some.inj ((show Tryd.prog.funcNamed "moraine/morainelaw02.NumMuls" = some 8 by kernel_rfl).symm.trans hf) |>.symm
  obtain rfl : fn = Tryd.f8 := (Option.some.inj (Tryd.func8.symm.trans hfn)).symm
  refine ⟨by kernel_rfl, fun j t ht => ?_⟩
  rw [Tryd.params8] at ht
  have hm : t ∈ (#[25, 25] : Array TypeId) := Array.mem_of_getElem? ht
  obtain rfl : t = 25 := by simpa using hm
  exact (show Tryd.prog.wantsStandIn 25 = false by kernel_rfl)
/-- The tied card. -/
theorem card : Rows.NumMulsCardSaid :=
  Claim7.holds_tied_plain_at .later [] _ _ _ _ said (fun _ h => by cases h) (by kernel_rfl) (fun _ h => by cases h) numMuls_row_tie rfl ⟨rfl, rfl⟩ (by kernel_rfl) rfl plain (by kernel_rfl)
end Go.Proofs.YthhpnlbeniihhaaDoor.numMuls
namespace Go.Proofs.YthhpnlbeniihhaaDoor
/-- Of any two numbers: their product is the document's, and they stay (law NumMuls). -/
theorem numMuls_holds : Rows.NumMulsCardSaid := numMuls.card
end Go.Proofs.YthhpnlbeniihhaaDoor
