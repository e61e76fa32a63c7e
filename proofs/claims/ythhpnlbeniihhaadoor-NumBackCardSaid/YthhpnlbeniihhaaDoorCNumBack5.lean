/- Of any number, whole number and byte: a number's text is read as it, a number of 61 bits is itself again, noughts ahead of digits make no difference (law NumBack). Conditions: none. -/
import Derived.Test.YthhpnlbeniihhaaDoorTie
import Derived.WalkKit
import Derived.ProofKit
import Derived.OpenShut
import Derived.Deep.DeepHandedRow
import Derived.Carry
import Derived.Test.YthhpnlbeniihhaaDoorCNumBack4
-- Printed by a program of this session's (wip/tools/printr.py, over the kit's print program).
namespace Go.Proofs.YthhpnlbeniihhaaDoor.PNumBack
open Go.RowKit Go.Proofs.YthhpnlbeniihhaaDoorW.PrintWords Go.Proofs.YthhpnlbeniihhaaDoorW.PrintLast Go.Proofs.YthhpnlbeniihhaaDoorW.PrintMore
attribute [local go_sem] max2_int min2_int max_two min_two max_three min_three max_four min_four   -- for this text's walks alone
set_option linter.unusedVariables false
set_option linter.unusedSimpArgs false
mutual
def morainelaw02_NumBack.j0 : Nat → Int → Int → Bool → Bool → List Int → Bool → List Int → Option (Bool)
  | 0, _, _, _, _, _, _, _ => none
  | k + 1, x1, x2, x30, x103000, x103001, x109000, x109001 => if x30 = true then ((morainelaw02_awake.f).bind fun t110 => (some t110)) else ((num_Text.f x109000 x109001).bind fun t111 => ((num_Parse.f t111).bind fun bt112 => (if bt112.2.2 = 0 then ((moraineref02_Same.f bt112.1 bt112.2.1 x109000 x109001).bind fun t118 => (if t118 = true then ((num_Text.f x103000 x103001).bind fun t119 => (morainelaw02_NumBack.j1 k x1 x2 t111 (t119.toList != t111.toList) x109000 x109001)) else (morainelaw02_NumBack.j1 k x1 x2 t111 true x109000 x109001))) else (morainelaw02_NumBack.j1 k x1 x2 t111 true x109000 x109001))))
def morainelaw02_NumBack.j1 : Nat → Int → Int → ByteArray → Bool → Bool → List Int → Option (Bool)
  | 0, _, _, _, _, _, _ => none
  | k + 1, x1, x2, x9, x52, x109000, x109001 => if x52 = true then (some false) else ((num_Sign.f x109000 x109001).bind fun t120 => (if t120 < 0 then (if 1 ≤ (x9.size : Int) then (morainelaw02_NumBack.j2 k x1 x2 (⟨#[45]⟩ : ByteArray) (x9.extract 1 x9.size) x109000 x109001) else (none)) else (morainelaw02_NumBack.j2 k x1 x2 (⟨#[43]⟩ : ByteArray) x9 x109000 x109001)))
def morainelaw02_NumBack.j2 : Nat → Int → Int → ByteArray → ByteArray → Bool → List Int → Option (Bool)
  | 0, _, _, _, _, _, _ => none
  | k + 1, x1, x2, x12, x13, x109000, x109001 => morainelaw02_NumBack.l0 k x1 x2 x12 x13 0 x109000 x109001
def morainelaw02_NumBack.l0 : Nat → Int → Int → ByteArray → ByteArray → Int → Bool → List Int → Option (Bool)
  | 0, _, _, _, _, _, _, _ => none
  | k + 1, x1, x2, x12, x13, x14, x109000, x109001 => if x14 < (Int.tmod (wrap64 (x2)) 9) then (if 1 + x13.size ≤ 9223372036854775807 then (morainelaw02_NumBack.l0 k x1 x2 x12 ((⟨#[48]⟩ : ByteArray) ++ x13) (wrap64 (x14 + 1)) x109000 x109001) else (none)) else (if x12.size + x13.size ≤ 9223372036854775807 then ((num_Parse.f (x12 ++ x13)).bind fun bt121 => (if bt121.2.2 = 0 then ((moraineref02_Same.f bt121.1 bt121.2.1 x109000 x109001).bind fun t127 => (morainelaw02_NumBack.j4 k x1 (!t127))) else (morainelaw02_NumBack.j4 k x1 true))) else (none))
def morainelaw02_NumBack.j4 : Nat → Int → Bool → Option (Bool)
  | 0, _, _ => none
  | k + 1, x1, x82 => if x82 = true then (some false) else ((num_Of.f x1).bind fun bt128 => ((num_Fix.f bt128.1 bt128.2).bind fun bt132 => (if x1 ≥ (-1152921504606846976) then (if (bt132.2 == (decide (x1 < 1152921504606846976))) = true then (if bt132.2 = true then (if bt132.1 = x1 then ((morainelaw02_awake.f).bind fun t134 => (some t134)) else (some false)) else ((morainelaw02_awake.f).bind fun t135 => (some t135))) else (some false)) else (if (bt132.2 == false) = true then (if bt132.2 = true then (if bt132.1 = x1 then ((morainelaw02_awake.f).bind fun t136 => (some t136)) else (some false)) else ((morainelaw02_awake.f).bind fun t137 => (some t137))) else (some false)))))
end
def morainelaw02_NumBack.f (k : Nat) (a0_0 : Bool) (l0_1 : List Int) (a1 : Int) (a2 : Int) : Option (Bool) := (num_Norm.f a0_0 l0_1).bind fun bt103 => ((morainelaw02_long.f a0_0 l0_1).bind fun t109 => (if t109 = true then (morainelaw02_NumBack.j0 k a1 a2 true a0_0 l0_1 bt103.1 bt103.2.1) else (morainelaw02_NumBack.j0 k a1 a2 (bt103.2.2 != 0) a0_0 l0_1 bt103.1 bt103.2.1)))
theorem morainelaw02_NumBack.mono_l : ∀ k, (∀ y0 y1 y2 y3 y4 y5 y6, LeO (morainelaw02_NumBack.j0 k y0 y1 y2 y3 y4 y5 y6) (morainelaw02_NumBack.j0 (k + 1) y0 y1 y2 y3 y4 y5 y6)) ∧ (∀ y0 y1 y2 y3 y4 y5, LeO (morainelaw02_NumBack.j1 k y0 y1 y2 y3 y4 y5) (morainelaw02_NumBack.j1 (k + 1) y0 y1 y2 y3 y4 y5)) ∧ (∀ y0 y1 y2 y3 y4 y5, LeO (morainelaw02_NumBack.j2 k y0 y1 y2 y3 y4 y5) (morainelaw02_NumBack.j2 (k + 1) y0 y1 y2 y3 y4 y5)) ∧ (∀ y0 y1 y2 y3 y4 y5 y6, LeO (morainelaw02_NumBack.l0 k y0 y1 y2 y3 y4 y5 y6) (morainelaw02_NumBack.l0 (k + 1) y0 y1 y2 y3 y4 y5 y6)) ∧ (∀ y0 y1, LeO (morainelaw02_NumBack.j4 k y0 y1) (morainelaw02_NumBack.j4 (k + 1) y0 y1))
  | 0 => ⟨fun _ _ _ _ _ _ _ r h => by simp [morainelaw02_NumBack.j0] at h, fun _ _ _ _ _ _ r h => by simp [morainelaw02_NumBack.j1] at h, fun _ _ _ _ _ _ r h => by simp [morainelaw02_NumBack.j2] at h, fun _ _ _ _ _ _ _ r h => by simp [morainelaw02_NumBack.l0] at h, fun _ _ r h => by simp [morainelaw02_NumBack.j4] at h⟩
  | k + 1 => by
    obtain ⟨ih0, ih1, ih2, ih3, ih4⟩ := morainelaw02_NumBack.mono_l k
    refine ⟨?_, ?_, ?_, ?_, ?_⟩
    · intro y0 y1 y2 y3 y4 y5 y6
      unfold morainelaw02_NumBack.j0
      repeat' first
      | (with_reducible exact ih0 _ _ _ _ _ _ _)
      | (with_reducible exact ih1 _ _ _ _ _ _)
      | (with_reducible exact ih2 _ _ _ _ _ _)
      | (with_reducible exact ih3 _ _ _ _ _ _ _)
      | (with_reducible exact ih4 _ _)
      | (with_reducible exact LeO.refl _)
      | (with_reducible exact LeO.none _)
      | (with_reducible refine LeO.ite ?_ ?_)
      | (with_reducible refine LeO.bind ?_ (fun _ => ?_))
      | exact ih0 _ _ _ _ _ _ _
      | exact ih1 _ _ _ _ _ _
      | exact ih2 _ _ _ _ _ _
      | exact ih3 _ _ _ _ _ _ _
      | exact ih4 _ _
      | exact LeO.none _
      | refine LeO.ite ?_ ?_
      | refine LeO.bind ?_ (fun _ => ?_)
    · intro y0 y1 y2 y3 y4 y5
      unfold morainelaw02_NumBack.j1
      repeat' first
      | (with_reducible exact ih0 _ _ _ _ _ _ _)
      | (with_reducible exact ih1 _ _ _ _ _ _)
      | (with_reducible exact ih2 _ _ _ _ _ _)
      | (with_reducible exact ih3 _ _ _ _ _ _ _)
      | (with_reducible exact ih4 _ _)
      | (with_reducible exact LeO.refl _)
      | (with_reducible exact LeO.none _)
      | (with_reducible refine LeO.ite ?_ ?_)
      | (with_reducible refine LeO.bind ?_ (fun _ => ?_))
      | exact ih0 _ _ _ _ _ _ _
      | exact ih1 _ _ _ _ _ _
      | exact ih2 _ _ _ _ _ _
      | exact ih3 _ _ _ _ _ _ _
      | exact ih4 _ _
      | exact LeO.none _
      | refine LeO.ite ?_ ?_
      | refine LeO.bind ?_ (fun _ => ?_)
    · intro y0 y1 y2 y3 y4 y5
      unfold morainelaw02_NumBack.j2
      repeat' first
      | (with_reducible exact ih0 _ _ _ _ _ _ _)
      | (with_reducible exact ih1 _ _ _ _ _ _)
      | (with_reducible exact ih2 _ _ _ _ _ _)
      | (with_reducible exact ih3 _ _ _ _ _ _ _)
      | (with_reducible exact ih4 _ _)
      | (with_reducible exact LeO.refl _)
      | (with_reducible exact LeO.none _)
      | (with_reducible refine LeO.ite ?_ ?_)
      | (with_reducible refine LeO.bind ?_ (fun _ => ?_))
      | exact ih0 _ _ _ _ _ _ _
      | exact ih1 _ _ _ _ _ _
      | exact ih2 _ _ _ _ _ _
      | exact ih3 _ _ _ _ _ _ _
      | exact ih4 _ _
      | exact LeO.none _
      | refine LeO.ite ?_ ?_
      | refine LeO.bind ?_ (fun _ => ?_)
    · intro y0 y1 y2 y3 y4 y5 y6
      unfold morainelaw02_NumBack.l0
      repeat' first
      | (with_reducible exact ih0 _ _ _ _ _ _ _)
      | (with_reducible exact ih1 _ _ _ _ _ _)
      | (with_reducible exact ih2 _ _ _ _ _ _)
      | (with_reducible exact ih3 _ _ _ _ _ _ _)
      | (with_reducible exact ih4 _ _)
      | (with_reducible exact LeO.refl _)
      | (with_reducible exact LeO.none _)
      | (with_reducible refine LeO.ite ?_ ?_)
      | (with_reducible refine LeO.bind ?_ (fun _ => ?_))
      | exact ih0 _ _ _ _ _ _ _
      | exact ih1 _ _ _ _ _ _
      | exact ih2 _ _ _ _ _ _
      | exact ih3 _ _ _ _ _ _ _
      | exact ih4 _ _
      | exact LeO.none _
      | refine LeO.ite ?_ ?_
      | refine LeO.bind ?_ (fun _ => ?_)
    · intro y0 y1
      unfold morainelaw02_NumBack.j4
      repeat' first
      | (with_reducible exact ih0 _ _ _ _ _ _ _)
      | (with_reducible exact ih1 _ _ _ _ _ _)
      | (with_reducible exact ih2 _ _ _ _ _ _)
      | (with_reducible exact ih3 _ _ _ _ _ _ _)
      | (with_reducible exact ih4 _ _)
      | (with_reducible exact LeO.refl _)
      | (with_reducible exact LeO.none _)
      | (with_reducible refine LeO.ite ?_ ?_)
      | (with_reducible refine LeO.bind ?_ (fun _ => ?_))
      | exact ih0 _ _ _ _ _ _ _
      | exact ih1 _ _ _ _ _ _
      | exact ih2 _ _ _ _ _ _
      | exact ih3 _ _ _ _ _ _ _
      | exact ih4 _ _
      | exact LeO.none _
      | refine LeO.ite ?_ ?_
      | refine LeO.bind ?_ (fun _ => ?_)
theorem morainelaw02_NumBack.mono : ∀ a0 a1 a2 a3 k, LeO (morainelaw02_NumBack.f k a0 a1 a2 a3) (morainelaw02_NumBack.f (k + 1) a0 a1 a2 a3) := by
  intro a0 a1 a2 a3 k
  obtain ⟨ih0, ih1, ih2, ih3, ih4⟩ := morainelaw02_NumBack.mono_l k
  unfold morainelaw02_NumBack.f
  repeat' first
      | (with_reducible exact ih0 _ _ _ _ _ _ _)
      | (with_reducible exact ih1 _ _ _ _ _ _)
      | (with_reducible exact ih2 _ _ _ _ _ _)
      | (with_reducible exact ih3 _ _ _ _ _ _ _)
      | (with_reducible exact ih4 _ _)
      | (with_reducible exact LeO.refl _)
      | (with_reducible exact LeO.none _)
      | (with_reducible refine LeO.ite ?_ ?_)
      | (with_reducible refine LeO.bind ?_ (fun _ => ?_))
      | exact ih0 _ _ _ _ _ _ _
      | exact ih1 _ _ _ _ _ _
      | exact ih2 _ _ _ _ _ _
      | exact ih3 _ _ _ _ _ _ _
      | exact ih4 _ _
      | exact LeO.none _
      | refine LeO.ite ?_ ?_
      | refine LeO.bind ?_ (fun _ => ?_)
set_option maxHeartbeats 8000000 in
set_option maxRecDepth 100000 in
theorem morainelaw02_NumBack.calls (k : Nat) (a0_0 : Bool) (A0_1 : Option Addr) (c0_1 : Nat) (l0_1 : List Int) (a1 : Int) (a2 : Int) (r : Bool) (w : World) (hr : r = true) (hr0_1 : Kd.C (Kd.int .u32) w A0_1 l0_1.length l0_1) (hc0_1 : l0_1.length ≤ c0_1) (h : morainelaw02_NumBack.f k a0_0 l0_1 a1 a2 = some r) (ht : NumV.Tab w) :
    Calls Tryd.prog 9 #[.agg #[.bool a0_0, .slice A0_1 l0_1.length c0_1], .int .i64 a1, .int .u8 a2] w fun e w' => e = .returned (.bool r) ∧ Below w.heap.size w w' := by
  have HT := Aside0.mk ht
  clear ht
  have hu25 := Tryd.underlying25
  have HR0_1 := Aside0.mk hr0_1
  have HC0_1 := Aside0.mk hc0_1
  clear hr0_1 hc0_1
  have HB := Aside0.mk (Below.refl w.heap.size w)
  have H : ((num_Norm.f a0_0 l0_1).bind fun bt103 => ((morainelaw02_long.f a0_0 l0_1).bind fun t109 => (if t109 = true then (morainelaw02_NumBack.j0 k a1 a2 true a0_0 l0_1 bt103.1 bt103.2.1) else (morainelaw02_NumBack.j0 k a1 a2 (bt103.2.2 != 0) a0_0 l0_1 bt103.1 bt103.2.1)))) = some r := h
  clear h
  replace H := Option.bind_eq_some_iff.mp H
  obtain ⟨⟨t103, t104, t107⟩, A40, H⟩ := H
  replace H : ((morainelaw02_long.f a0_0 l0_1).bind fun t109 => (if t109 = true then (morainelaw02_NumBack.j0 k a1 a2 true a0_0 l0_1 t103 t104) else (morainelaw02_NumBack.j0 k a1 a2 (t107 != 0) a0_0 l0_1 t103 t104))) = some r := H
  have A4 := Aside0.mk A40
  clear A40
  have HC5 := Aside0.mk H
  clear H
  go_enter Tryd.func9, Tryd.ntmps9
  go_upto_region 2 with (first | ((with_reducible refine gate_dst (N := 3) rfl ?_); refine box_event ?hg (N := 3) ?hd (cs := #[.bool a0_0, .slice A0_1 l0_1.length c0_1]) (t := 25) ?hr ?_; (case hd => rfl); (case hg => rfl); (case hr => first | (go_simp; done) | (go_simp; rfl)); intro gb102 hg w6 hbox hb; have BK102 := Aside0.mk (hbox); have GW102 := qg hg (by repeat (first | (with_reducible first | exact HB.out | apply below_alloc | apply pw_below_drewN | apply below_drew1) | exact HB.out)); have GE102 := qg hg (by repeat (first | (with_reducible first | exact HB.out | apply below_alloc | apply pw_below_drewN | apply below_drew1) | exact HB.out)); replace HB := Aside0.mk (below_step (by repeat (first | (with_reducible first | exact HB.out | apply below_alloc | apply pw_below_drewN | apply below_drew1) | exact HB.out)) hb); clear hb hbox hg; have hcz7_0 : w6.cell? ⟨gb102, 0, none⟩ = some (.bool a0_0) := (blk_cell BK102.out 0).trans rfl; have hcz7_1 : w6.cell? ⟨gb102, 1, none⟩ = some (.slice A0_1 l0_1.length c0_1) := (blk_cell BK102.out 1).trans rfl; have hfz7_0 := blk_frozen BK102.out 0; have hfz7_1 := blk_frozen BK102.out 1) | (go_at_call 38; (with_reducible refine (num_Norm.calls a0_0 _ _ l0_1 t103 t104 t107 _ ?side1 ?side2 A4.out).mono ?_); (case side1 => repeat (first | exact (Kd.C_below HR0_1.out HB.out) | (with_reducible refine Kd.C_alloc ?_ _) | (with_reducible refine Kd.C_drewN ?_ _) | (with_reducible refine Kd.C_drew ?_))); (case side2 => exact HC0_1.out); rintro e w8 ⟨v105, rfl, ho0, hb⟩; have HO106 := Aside0.mk (Kd.R_lower ho0 (below_size (by repeat (first | (with_reducible first | exact HB.out | apply below_alloc | apply pw_below_drewN | apply below_drew1 | refine below_set ?_ GE102.out) | exact HB.out)))); replace BK102 := qb BK102 hb; replace HB := Aside0.mk (below_step (by repeat (first | (with_reducible first | exact HB.out | apply below_alloc | apply pw_below_drewN | apply below_drew1 | refine below_set ?_ GE102.out) | exact HB.out)) hb); (try clear hb); (try clear hb2); (try clear hk); (try clear hi); (try clear ho0)) | ((with_reducible refine gate_dst (N := 7) rfl ?_); refine box_event ?hg (N := 7) ?hd (cs := #[.bool false, .slice none 0 0]) (t := 25) ?hr ?_; (case hd => rfl); (case hg => rfl); (case hr => first | (go_simp; done) | (go_simp; rfl)); intro gb108 hg w9 hbox hb; replace HO106 := qr HO106 hb; have BK108 := Aside0.mk (hbox); have GW108 := qg hg (by repeat (first | (with_reducible first | exact HB.out | apply below_alloc | apply pw_below_drewN | apply below_drew1 | refine below_set ?_ GE102.out) | exact HB.out)); have GE108 := qg hg (by repeat (first | (with_reducible first | exact HB.out | apply below_alloc | apply pw_below_drewN | apply below_drew1 | refine below_set ?_ GE102.out) | exact HB.out)); replace HB := Aside0.mk (below_step (by repeat (first | (with_reducible first | exact HB.out | apply below_alloc | apply pw_below_drewN | apply below_drew1 | refine below_set ?_ GE102.out) | exact HB.out)) hb); have NB102_108 := qn BK102 hg; have NB108_102 := qm BK102 hg; replace BK102 := qb BK102 hb; clear hb hbox hg; have hnb10 := NB108_102.out; have hnc10 := NB102_108.out; have hcz11_0 : w9.cell? ⟨gb108, 0, none⟩ = some (.bool false) := (blk_cell BK108.out 0).trans rfl; have hcz11_1 : w9.cell? ⟨gb108, 1, none⟩ = some (.slice none 0 0) := (blk_cell BK108.out 1).trans rfl; have hfz11_0 := blk_frozen BK108.out 0; have hfz11_1 := blk_frozen BK108.out 1; obtain ⟨Ao12, co12, eo12⟩ := Kd.R_slice HO106.out; subst eo12))
  repeat (go_quiet (first | ((with_reducible refine gate_dst (N := 3) rfl ?_); refine box_event ?hg (N := 3) ?hd (cs := #[.bool a0_0, .slice A0_1 l0_1.length c0_1]) (t := 25) ?hr ?_; (case hd => rfl); (case hg => rfl); (case hr => first | (go_simp; done) | (go_simp; rfl)); intro gb102 hg w6 hbox hb; have BK102 := Aside0.mk (hbox); have GW102 := qg hg (by repeat (first | (with_reducible first | exact HB.out | apply below_alloc | apply pw_below_drewN | apply below_drew1) | exact HB.out)); have GE102 := qg hg (by repeat (first | (with_reducible first | exact HB.out | apply below_alloc | apply pw_below_drewN | apply below_drew1) | exact HB.out)); replace HB := Aside0.mk (below_step (by repeat (first | (with_reducible first | exact HB.out | apply below_alloc | apply pw_below_drewN | apply below_drew1) | exact HB.out)) hb); clear hb hbox hg; have hcz7_0 : w6.cell? ⟨gb102, 0, none⟩ = some (.bool a0_0) := (blk_cell BK102.out 0).trans rfl; have hcz7_1 : w6.cell? ⟨gb102, 1, none⟩ = some (.slice A0_1 l0_1.length c0_1) := (blk_cell BK102.out 1).trans rfl; have hfz7_0 := blk_frozen BK102.out 0; have hfz7_1 := blk_frozen BK102.out 1) | (go_at_call 38; (with_reducible refine (num_Norm.calls a0_0 _ _ l0_1 t103 t104 t107 _ ?side1 ?side2 A4.out).mono ?_); (case side1 => repeat (first | exact (Kd.C_below HR0_1.out HB.out) | (with_reducible refine Kd.C_alloc ?_ _) | (with_reducible refine Kd.C_drewN ?_ _) | (with_reducible refine Kd.C_drew ?_))); (case side2 => exact HC0_1.out); rintro e w8 ⟨v105, rfl, ho0, hb⟩; have HO106 := Aside0.mk (Kd.R_lower ho0 (below_size (by repeat (first | (with_reducible first | exact HB.out | apply below_alloc | apply pw_below_drewN | apply below_drew1 | refine below_set ?_ GE102.out) | exact HB.out)))); replace BK102 := qb BK102 hb; replace HB := Aside0.mk (below_step (by repeat (first | (with_reducible first | exact HB.out | apply below_alloc | apply pw_below_drewN | apply below_drew1 | refine below_set ?_ GE102.out) | exact HB.out)) hb); (try clear hb); (try clear hb2); (try clear hk); (try clear hi); (try clear ho0)) | ((with_reducible refine gate_dst (N := 7) rfl ?_); refine box_event ?hg (N := 7) ?hd (cs := #[.bool false, .slice none 0 0]) (t := 25) ?hr ?_; (case hd => rfl); (case hg => rfl); (case hr => first | (go_simp; done) | (go_simp; rfl)); intro gb108 hg w9 hbox hb; replace HO106 := qr HO106 hb; have BK108 := Aside0.mk (hbox); have GW108 := qg hg (by repeat (first | (with_reducible first | exact HB.out | apply below_alloc | apply pw_below_drewN | apply below_drew1 | refine below_set ?_ GE102.out) | exact HB.out)); have GE108 := qg hg (by repeat (first | (with_reducible first | exact HB.out | apply below_alloc | apply pw_below_drewN | apply below_drew1 | refine below_set ?_ GE102.out) | exact HB.out)); replace HB := Aside0.mk (below_step (by repeat (first | (with_reducible first | exact HB.out | apply below_alloc | apply pw_below_drewN | apply below_drew1 | refine below_set ?_ GE102.out) | exact HB.out)) hb); have NB102_108 := qn BK102 hg; have NB108_102 := qm BK102 hg; replace BK102 := qb BK102 hb; clear hb hbox hg; have hnb10 := NB108_102.out; have hnc10 := NB102_108.out; have hcz11_0 : w9.cell? ⟨gb108, 0, none⟩ = some (.bool false) := (blk_cell BK108.out 0).trans rfl; have hcz11_1 : w9.cell? ⟨gb108, 1, none⟩ = some (.slice none 0 0) := (blk_cell BK108.out 1).trans rfl; have hfz11_0 := blk_frozen BK108.out 0; have hfz11_1 := blk_frozen BK108.out 1; obtain ⟨Ao12, co12, eo12⟩ := Kd.R_slice HO106.out; subst eo12)); go_upto_region 2 with (first | ((with_reducible refine gate_dst (N := 3) rfl ?_); refine box_event ?hg (N := 3) ?hd (cs := #[.bool a0_0, .slice A0_1 l0_1.length c0_1]) (t := 25) ?hr ?_; (case hd => rfl); (case hg => rfl); (case hr => first | (go_simp; done) | (go_simp; rfl)); intro gb102 hg w6 hbox hb; have BK102 := Aside0.mk (hbox); have GW102 := qg hg (by repeat (first | (with_reducible first | exact HB.out | apply below_alloc | apply pw_below_drewN | apply below_drew1) | exact HB.out)); have GE102 := qg hg (by repeat (first | (with_reducible first | exact HB.out | apply below_alloc | apply pw_below_drewN | apply below_drew1) | exact HB.out)); replace HB := Aside0.mk (below_step (by repeat (first | (with_reducible first | exact HB.out | apply below_alloc | apply pw_below_drewN | apply below_drew1) | exact HB.out)) hb); clear hb hbox hg; have hcz7_0 : w6.cell? ⟨gb102, 0, none⟩ = some (.bool a0_0) := (blk_cell BK102.out 0).trans rfl; have hcz7_1 : w6.cell? ⟨gb102, 1, none⟩ = some (.slice A0_1 l0_1.length c0_1) := (blk_cell BK102.out 1).trans rfl; have hfz7_0 := blk_frozen BK102.out 0; have hfz7_1 := blk_frozen BK102.out 1) | (go_at_call 38; (with_reducible refine (num_Norm.calls a0_0 _ _ l0_1 t103 t104 t107 _ ?side1 ?side2 A4.out).mono ?_); (case side1 => repeat (first | exact (Kd.C_below HR0_1.out HB.out) | (with_reducible refine Kd.C_alloc ?_ _) | (with_reducible refine Kd.C_drewN ?_ _) | (with_reducible refine Kd.C_drew ?_))); (case side2 => exact HC0_1.out); rintro e w8 ⟨v105, rfl, ho0, hb⟩; have HO106 := Aside0.mk (Kd.R_lower ho0 (below_size (by repeat (first | (with_reducible first | exact HB.out | apply below_alloc | apply pw_below_drewN | apply below_drew1 | refine below_set ?_ GE102.out) | exact HB.out)))); replace BK102 := qb BK102 hb; replace HB := Aside0.mk (below_step (by repeat (first | (with_reducible first | exact HB.out | apply below_alloc | apply pw_below_drewN | apply below_drew1 | refine below_set ?_ GE102.out) | exact HB.out)) hb); (try clear hb); (try clear hb2); (try clear hk); (try clear hi); (try clear ho0)) | ((with_reducible refine gate_dst (N := 7) rfl ?_); refine box_event ?hg (N := 7) ?hd (cs := #[.bool false, .slice none 0 0]) (t := 25) ?hr ?_; (case hd => rfl); (case hg => rfl); (case hr => first | (go_simp; done) | (go_simp; rfl)); intro gb108 hg w9 hbox hb; replace HO106 := qr HO106 hb; have BK108 := Aside0.mk (hbox); have GW108 := qg hg (by repeat (first | (with_reducible first | exact HB.out | apply below_alloc | apply pw_below_drewN | apply below_drew1 | refine below_set ?_ GE102.out) | exact HB.out)); have GE108 := qg hg (by repeat (first | (with_reducible first | exact HB.out | apply below_alloc | apply pw_below_drewN | apply below_drew1 | refine below_set ?_ GE102.out) | exact HB.out)); replace HB := Aside0.mk (below_step (by repeat (first | (with_reducible first | exact HB.out | apply below_alloc | apply pw_below_drewN | apply below_drew1 | refine below_set ?_ GE102.out) | exact HB.out)) hb); have NB102_108 := qn BK102 hg; have NB108_102 := qm BK102 hg; replace BK102 := qb BK102 hb; clear hb hbox hg; have hnb10 := NB108_102.out; have hnc10 := NB102_108.out; have hcz11_0 : w9.cell? ⟨gb108, 0, none⟩ = some (.bool false) := (blk_cell BK108.out 0).trans rfl; have hcz11_1 : w9.cell? ⟨gb108, 1, none⟩ = some (.slice none 0 0) := (blk_cell BK108.out 1).trans rfl; have hfz11_0 := blk_frozen BK108.out 0; have hfz11_1 := blk_frozen BK108.out 1; obtain ⟨Ao12, co12, eo12⟩ := Kd.R_slice HO106.out; subst eo12)))
  (try simp only [Act.put, List.setIfInBounds_toArray, List.set_cons_zero, List.set_cons_succ])
  go_cut [30] (fun v30 wc => ∃ (kq : Nat) (x30_4 : Bool), v30 = .bool x30_4 ∧ Aside0 (morainelaw02_NumBack.j0 kq a1 a2 x30_4 a0_0 l0_1 t103 t104 = some r) ∧ Aside0 (kq ≤ k) ∧ Aside0 (Kd.R (Kd.int .u32) 63 wc w.heap.size (fun _ => True) (.slice Ao12 t104.length co12) t104) ∧ Aside0 (wc.heap[gb102]? = some (.cells #[.bool a0_0, (.slice A0_1 l0_1.length c0_1)] 25 (0, 0))) ∧ Aside0 (wc.heap[gb108]? = some (.cells #[.bool t103, (.slice Ao12 t104.length co12)] 25 (0, 0))) ∧ Aside0 (Below w.heap.size w wc))
  case first =>
    have H := HC5.out
    clear HC5
    replace H := Option.bind_eq_some_iff.mp H
    obtain ⟨t109, A130, H⟩ := H
    replace H : (if t109 = true then (morainelaw02_NumBack.j0 k a1 a2 true a0_0 l0_1 t103 t104) else (morainelaw02_NumBack.j0 k a1 a2 (t107 != 0) a0_0 l0_1 t103 t104)) = some r := H
    have A13 := Aside0.mk A130
    clear A130
    by_cases c14 : t109 = true
    · subst c14
      have H1 : (morainelaw02_NumBack.j0 k a1 a2 true a0_0 l0_1 t103 t104) = some r := by rw [if_pos rfl] at H; exact H
      clear H
      have H := H1
      clear H1
      have H' := Aside0.mk H
      clear H
      have hnb15 := NB102_108.out
      have hnc15 := NB108_102.out
      have hcz16_0 : w9.cell? ⟨gb102, 0, none⟩ = some (.bool a0_0) := (blk_cell BK102.out 0).trans rfl
      have hcz16_1 : w9.cell? ⟨gb102, 1, none⟩ = some (.slice A0_1 l0_1.length c0_1) := (blk_cell BK102.out 1).trans rfl
      have hfz16_0 := blk_frozen BK102.out 0
      have hfz16_1 := blk_frozen BK102.out 1
      go_wp2_with (first | (go_at_call 21; (with_reducible refine (morainelaw02_long.calls a0_0 _ _ l0_1 true _ ?side1 ?side2 A13.out).mono ?_); (case side1 => exact Kd.C_below HR0_1.out (by repeat (first | (with_reducible first | exact HB.out | apply below_alloc | apply pw_below_drewN | apply below_drew1 | refine qs ?_ (by assumption)) | exact HB.out))); (case side2 => exact HC0_1.out); rintro e w17 ⟨rfl, hb⟩; have n0_ := Aside0.mk (Kd.R_below (by (with_reducible repeat (first | apply Kd.R_alloc | apply Kd.R_drewN | apply Kd.R_drew)); exact (Kd.R_mono (Kd.R_far (p := ⟨gb108, 1, none⟩) (Kd.R_far (p := ⟨gb108, 0, none⟩) (Kd.R_types HO106.out BK108.out (by decide)) (fun _ hk => hk.2) (.bool t103)) (fun _ hk => hk.2) (.slice Ao12 t104.length co12)) (fun _ h_ => h_.1))) hb); have n1_ := Aside0.mk (blk_below (g := gb102) (o := .cells #[.bool a0_0, .slice A0_1 l0_1.length c0_1] 25 (0, 0)) (by (with_reducible repeat (first | refine blk_drewN ?_ _ | refine blk_drew ?_ | refine blk_alloc ?_ _)); refine blk_far ?_ NB102_108.out _; (with_reducible repeat (first | refine blk_drewN ?_ _ | refine blk_drew ?_ | refine blk_alloc ?_ _)); refine blk_far ?_ NB102_108.out _; (with_reducible repeat (first | refine blk_drewN ?_ _ | refine blk_drew ?_ | refine blk_alloc ?_ _)); exact BK102.out) hb); have n2_ := Aside0.mk (blk_below (g := gb108) (o := .cells #[.bool t103, .slice Ao12 t104.length co12] 25 (0, 0)) (by (with_reducible repeat (first | refine blk_drewN ?_ _ | refine blk_drew ?_ | refine blk_alloc ?_ _)); refine blk_put (cs := #[.bool t103, .slice none 0 0]) ?_ 1 _ rfl; (with_reducible repeat (first | refine blk_drewN ?_ _ | refine blk_drew ?_ | refine blk_alloc ?_ _)); refine blk_put (cs := #[.bool false, .slice none 0 0]) ?_ 0 _ rfl; (with_reducible repeat (first | refine blk_drewN ?_ _ | refine blk_drew ?_ | refine blk_alloc ?_ _)); exact BK108.out) hb); have n3_ := Aside0.mk (below_step (by repeat (first | (with_reducible first | exact HB.out | apply below_alloc | apply pw_below_drewN | apply below_drew1 | refine qs ?_ (by assumption)) | exact HB.out)) hb); clear HO106; clear BK102; clear BK108; clear HB; have HO106 := n0_; have BK102 := n1_; have BK108 := n2_; have HB := n3_; clear n0_ n1_ n2_ n3_; (try clear hb); (try clear hb2); (try clear hk); (try clear hi)))
      repeat (go_quiet (first | (go_at_call 21; (with_reducible refine (morainelaw02_long.calls a0_0 _ _ l0_1 true _ ?side1 ?side2 A13.out).mono ?_); (case side1 => exact Kd.C_below HR0_1.out (by repeat (first | (with_reducible first | exact HB.out | apply below_alloc | apply pw_below_drewN | apply below_drew1 | refine qs ?_ (by assumption)) | exact HB.out))); (case side2 => exact HC0_1.out); rintro e w17 ⟨rfl, hb⟩; have n0_ := Aside0.mk (Kd.R_below (by (with_reducible repeat (first | apply Kd.R_alloc | apply Kd.R_drewN | apply Kd.R_drew)); exact (Kd.R_mono (Kd.R_far (p := ⟨gb108, 1, none⟩) (Kd.R_far (p := ⟨gb108, 0, none⟩) (Kd.R_types HO106.out BK108.out (by decide)) (fun _ hk => hk.2) (.bool t103)) (fun _ hk => hk.2) (.slice Ao12 t104.length co12)) (fun _ h_ => h_.1))) hb); have n1_ := Aside0.mk (blk_below (g := gb102) (o := .cells #[.bool a0_0, .slice A0_1 l0_1.length c0_1] 25 (0, 0)) (by (with_reducible repeat (first | refine blk_drewN ?_ _ | refine blk_drew ?_ | refine blk_alloc ?_ _)); refine blk_far ?_ NB102_108.out _; (with_reducible repeat (first | refine blk_drewN ?_ _ | refine blk_drew ?_ | refine blk_alloc ?_ _)); refine blk_far ?_ NB102_108.out _; (with_reducible repeat (first | refine blk_drewN ?_ _ | refine blk_drew ?_ | refine blk_alloc ?_ _)); exact BK102.out) hb); have n2_ := Aside0.mk (blk_below (g := gb108) (o := .cells #[.bool t103, .slice Ao12 t104.length co12] 25 (0, 0)) (by (with_reducible repeat (first | refine blk_drewN ?_ _ | refine blk_drew ?_ | refine blk_alloc ?_ _)); refine blk_put (cs := #[.bool t103, .slice none 0 0]) ?_ 1 _ rfl; (with_reducible repeat (first | refine blk_drewN ?_ _ | refine blk_drew ?_ | refine blk_alloc ?_ _)); refine blk_put (cs := #[.bool false, .slice none 0 0]) ?_ 0 _ rfl; (with_reducible repeat (first | refine blk_drewN ?_ _ | refine blk_drew ?_ | refine blk_alloc ?_ _)); exact BK108.out) hb); have n3_ := Aside0.mk (below_step (by repeat (first | (with_reducible first | exact HB.out | apply below_alloc | apply pw_below_drewN | apply below_drew1 | refine qs ?_ (by assumption)) | exact HB.out)) hb); clear HO106; clear BK102; clear BK108; clear HB; have HO106 := n0_; have BK102 := n1_; have BK108 := n2_; have HB := n3_; clear n0_ n1_ n2_ n3_; (try clear hb); (try clear hb2); (try clear hk); (try clear hi))); try go_wp2_with (first | (go_at_call 21; (with_reducible refine (morainelaw02_long.calls a0_0 _ _ l0_1 true _ ?side1 ?side2 A13.out).mono ?_); (case side1 => exact Kd.C_below HR0_1.out (by repeat (first | (with_reducible first | exact HB.out | apply below_alloc | apply pw_below_drewN | apply below_drew1 | refine qs ?_ (by assumption)) | exact HB.out))); (case side2 => exact HC0_1.out); rintro e w17 ⟨rfl, hb⟩; have n0_ := Aside0.mk (Kd.R_below (by (with_reducible repeat (first | apply Kd.R_alloc | apply Kd.R_drewN | apply Kd.R_drew)); exact (Kd.R_mono (Kd.R_far (p := ⟨gb108, 1, none⟩) (Kd.R_far (p := ⟨gb108, 0, none⟩) (Kd.R_types HO106.out BK108.out (by decide)) (fun _ hk => hk.2) (.bool t103)) (fun _ hk => hk.2) (.slice Ao12 t104.length co12)) (fun _ h_ => h_.1))) hb); have n1_ := Aside0.mk (blk_below (g := gb102) (o := .cells #[.bool a0_0, .slice A0_1 l0_1.length c0_1] 25 (0, 0)) (by (with_reducible repeat (first | refine blk_drewN ?_ _ | refine blk_drew ?_ | refine blk_alloc ?_ _)); refine blk_far ?_ NB102_108.out _; (with_reducible repeat (first | refine blk_drewN ?_ _ | refine blk_drew ?_ | refine blk_alloc ?_ _)); refine blk_far ?_ NB102_108.out _; (with_reducible repeat (first | refine blk_drewN ?_ _ | refine blk_drew ?_ | refine blk_alloc ?_ _)); exact BK102.out) hb); have n2_ := Aside0.mk (blk_below (g := gb108) (o := .cells #[.bool t103, .slice Ao12 t104.length co12] 25 (0, 0)) (by (with_reducible repeat (first | refine blk_drewN ?_ _ | refine blk_drew ?_ | refine blk_alloc ?_ _)); refine blk_put (cs := #[.bool t103, .slice none 0 0]) ?_ 1 _ rfl; (with_reducible repeat (first | refine blk_drewN ?_ _ | refine blk_drew ?_ | refine blk_alloc ?_ _)); refine blk_put (cs := #[.bool false, .slice none 0 0]) ?_ 0 _ rfl; (with_reducible repeat (first | refine blk_drewN ?_ _ | refine blk_drew ?_ | refine blk_alloc ?_ _)); exact BK108.out) hb); have n3_ := Aside0.mk (below_step (by repeat (first | (with_reducible first | exact HB.out | apply below_alloc | apply pw_below_drewN | apply below_drew1 | refine qs ?_ (by assumption)) | exact HB.out)) hb); clear HO106; clear BK102; clear BK108; clear HB; have HO106 := n0_; have BK102 := n1_; have BK108 := n2_; have HB := n3_; clear n0_ n1_ n2_ n3_; (try clear hb); (try clear hb2); (try clear hk); (try clear hi))))
      go_meet
      case rel => exact ⟨_, (true), (by first | rfl | (simp; done) | (simp [*]; done)), H', ⟨by first | omega | exact Nat.le_refl _⟩, ⟨qq HO106⟩, ⟨qk BK102⟩, ⟨qk BK108⟩, ⟨by repeat (first | (with_reducible first | exact HB.out | apply below_alloc | apply pw_below_drewN | apply below_drew1 | refine qs ?_ (by assumption)) | exact HB.out)⟩⟩
    · replace c14 := Bool.eq_false_iff.mpr c14
      subst c14
      have H1 : (morainelaw02_NumBack.j0 k a1 a2 (t107 != 0) a0_0 l0_1 t103 t104) = some r := by rw [if_neg (show ¬ (false = true) by decide)] at H; exact H
      clear H
      have H := H1
      clear H1
      have H' := Aside0.mk H
      clear H
      have hnb18 := NB102_108.out
      have hnc18 := NB108_102.out
      have hcz19_0 : w9.cell? ⟨gb102, 0, none⟩ = some (.bool a0_0) := (blk_cell BK102.out 0).trans rfl
      have hcz19_1 : w9.cell? ⟨gb102, 1, none⟩ = some (.slice A0_1 l0_1.length c0_1) := (blk_cell BK102.out 1).trans rfl
      have hfz19_0 := blk_frozen BK102.out 0
      have hfz19_1 := blk_frozen BK102.out 1
      go_wp2_with (first | (go_at_call 21; (with_reducible refine (morainelaw02_long.calls a0_0 _ _ l0_1 false _ ?side1 ?side2 A13.out).mono ?_); (case side1 => exact Kd.C_below HR0_1.out (by repeat (first | (with_reducible first | exact HB.out | apply below_alloc | apply pw_below_drewN | apply below_drew1 | refine qs ?_ (by assumption)) | exact HB.out))); (case side2 => exact HC0_1.out); rintro e w20 ⟨rfl, hb⟩; have n0_ := Aside0.mk (Kd.R_below (by (with_reducible repeat (first | apply Kd.R_alloc | apply Kd.R_drewN | apply Kd.R_drew)); exact (Kd.R_mono (Kd.R_far (p := ⟨gb108, 1, none⟩) (Kd.R_far (p := ⟨gb108, 0, none⟩) (Kd.R_types HO106.out BK108.out (by decide)) (fun _ hk => hk.2) (.bool t103)) (fun _ hk => hk.2) (.slice Ao12 t104.length co12)) (fun _ h_ => h_.1))) hb); have n1_ := Aside0.mk (blk_below (g := gb102) (o := .cells #[.bool a0_0, .slice A0_1 l0_1.length c0_1] 25 (0, 0)) (by (with_reducible repeat (first | refine blk_drewN ?_ _ | refine blk_drew ?_ | refine blk_alloc ?_ _)); refine blk_far ?_ NB102_108.out _; (with_reducible repeat (first | refine blk_drewN ?_ _ | refine blk_drew ?_ | refine blk_alloc ?_ _)); refine blk_far ?_ NB102_108.out _; (with_reducible repeat (first | refine blk_drewN ?_ _ | refine blk_drew ?_ | refine blk_alloc ?_ _)); exact BK102.out) hb); have n2_ := Aside0.mk (blk_below (g := gb108) (o := .cells #[.bool t103, .slice Ao12 t104.length co12] 25 (0, 0)) (by (with_reducible repeat (first | refine blk_drewN ?_ _ | refine blk_drew ?_ | refine blk_alloc ?_ _)); refine blk_put (cs := #[.bool t103, .slice none 0 0]) ?_ 1 _ rfl; (with_reducible repeat (first | refine blk_drewN ?_ _ | refine blk_drew ?_ | refine blk_alloc ?_ _)); refine blk_put (cs := #[.bool false, .slice none 0 0]) ?_ 0 _ rfl; (with_reducible repeat (first | refine blk_drewN ?_ _ | refine blk_drew ?_ | refine blk_alloc ?_ _)); exact BK108.out) hb); have n3_ := Aside0.mk (below_step (by repeat (first | (with_reducible first | exact HB.out | apply below_alloc | apply pw_below_drewN | apply below_drew1 | refine qs ?_ (by assumption)) | exact HB.out)) hb); clear HO106; clear BK102; clear BK108; clear HB; have HO106 := n0_; have BK102 := n1_; have BK108 := n2_; have HB := n3_; clear n0_ n1_ n2_ n3_; (try clear hb); (try clear hb2); (try clear hk); (try clear hi)))
      repeat (go_quiet (first | (go_at_call 21; (with_reducible refine (morainelaw02_long.calls a0_0 _ _ l0_1 false _ ?side1 ?side2 A13.out).mono ?_); (case side1 => exact Kd.C_below HR0_1.out (by repeat (first | (with_reducible first | exact HB.out | apply below_alloc | apply pw_below_drewN | apply below_drew1 | refine qs ?_ (by assumption)) | exact HB.out))); (case side2 => exact HC0_1.out); rintro e w20 ⟨rfl, hb⟩; have n0_ := Aside0.mk (Kd.R_below (by (with_reducible repeat (first | apply Kd.R_alloc | apply Kd.R_drewN | apply Kd.R_drew)); exact (Kd.R_mono (Kd.R_far (p := ⟨gb108, 1, none⟩) (Kd.R_far (p := ⟨gb108, 0, none⟩) (Kd.R_types HO106.out BK108.out (by decide)) (fun _ hk => hk.2) (.bool t103)) (fun _ hk => hk.2) (.slice Ao12 t104.length co12)) (fun _ h_ => h_.1))) hb); have n1_ := Aside0.mk (blk_below (g := gb102) (o := .cells #[.bool a0_0, .slice A0_1 l0_1.length c0_1] 25 (0, 0)) (by (with_reducible repeat (first | refine blk_drewN ?_ _ | refine blk_drew ?_ | refine blk_alloc ?_ _)); refine blk_far ?_ NB102_108.out _; (with_reducible repeat (first | refine blk_drewN ?_ _ | refine blk_drew ?_ | refine blk_alloc ?_ _)); refine blk_far ?_ NB102_108.out _; (with_reducible repeat (first | refine blk_drewN ?_ _ | refine blk_drew ?_ | refine blk_alloc ?_ _)); exact BK102.out) hb); have n2_ := Aside0.mk (blk_below (g := gb108) (o := .cells #[.bool t103, .slice Ao12 t104.length co12] 25 (0, 0)) (by (with_reducible repeat (first | refine blk_drewN ?_ _ | refine blk_drew ?_ | refine blk_alloc ?_ _)); refine blk_put (cs := #[.bool t103, .slice none 0 0]) ?_ 1 _ rfl; (with_reducible repeat (first | refine blk_drewN ?_ _ | refine blk_drew ?_ | refine blk_alloc ?_ _)); refine blk_put (cs := #[.bool false, .slice none 0 0]) ?_ 0 _ rfl; (with_reducible repeat (first | refine blk_drewN ?_ _ | refine blk_drew ?_ | refine blk_alloc ?_ _)); exact BK108.out) hb); have n3_ := Aside0.mk (below_step (by repeat (first | (with_reducible first | exact HB.out | apply below_alloc | apply pw_below_drewN | apply below_drew1 | refine qs ?_ (by assumption)) | exact HB.out)) hb); clear HO106; clear BK102; clear BK108; clear HB; have HO106 := n0_; have BK102 := n1_; have BK108 := n2_; have HB := n3_; clear n0_ n1_ n2_ n3_; (try clear hb); (try clear hb2); (try clear hk); (try clear hi))); try go_wp2_with (first | (go_at_call 21; (with_reducible refine (morainelaw02_long.calls a0_0 _ _ l0_1 false _ ?side1 ?side2 A13.out).mono ?_); (case side1 => exact Kd.C_below HR0_1.out (by repeat (first | (with_reducible first | exact HB.out | apply below_alloc | apply pw_below_drewN | apply below_drew1 | refine qs ?_ (by assumption)) | exact HB.out))); (case side2 => exact HC0_1.out); rintro e w20 ⟨rfl, hb⟩; have n0_ := Aside0.mk (Kd.R_below (by (with_reducible repeat (first | apply Kd.R_alloc | apply Kd.R_drewN | apply Kd.R_drew)); exact (Kd.R_mono (Kd.R_far (p := ⟨gb108, 1, none⟩) (Kd.R_far (p := ⟨gb108, 0, none⟩) (Kd.R_types HO106.out BK108.out (by decide)) (fun _ hk => hk.2) (.bool t103)) (fun _ hk => hk.2) (.slice Ao12 t104.length co12)) (fun _ h_ => h_.1))) hb); have n1_ := Aside0.mk (blk_below (g := gb102) (o := .cells #[.bool a0_0, .slice A0_1 l0_1.length c0_1] 25 (0, 0)) (by (with_reducible repeat (first | refine blk_drewN ?_ _ | refine blk_drew ?_ | refine blk_alloc ?_ _)); refine blk_far ?_ NB102_108.out _; (with_reducible repeat (first | refine blk_drewN ?_ _ | refine blk_drew ?_ | refine blk_alloc ?_ _)); refine blk_far ?_ NB102_108.out _; (with_reducible repeat (first | refine blk_drewN ?_ _ | refine blk_drew ?_ | refine blk_alloc ?_ _)); exact BK102.out) hb); have n2_ := Aside0.mk (blk_below (g := gb108) (o := .cells #[.bool t103, .slice Ao12 t104.length co12] 25 (0, 0)) (by (with_reducible repeat (first | refine blk_drewN ?_ _ | refine blk_drew ?_ | refine blk_alloc ?_ _)); refine blk_put (cs := #[.bool t103, .slice none 0 0]) ?_ 1 _ rfl; (with_reducible repeat (first | refine blk_drewN ?_ _ | refine blk_drew ?_ | refine blk_alloc ?_ _)); refine blk_put (cs := #[.bool false, .slice none 0 0]) ?_ 0 _ rfl; (with_reducible repeat (first | refine blk_drewN ?_ _ | refine blk_drew ?_ | refine blk_alloc ?_ _)); exact BK108.out) hb); have n3_ := Aside0.mk (below_step (by repeat (first | (with_reducible first | exact HB.out | apply below_alloc | apply pw_below_drewN | apply below_drew1 | refine qs ?_ (by assumption)) | exact HB.out)) hb); clear HO106; clear BK102; clear BK108; clear HB; have HO106 := n0_; have BK102 := n1_; have BK108 := n2_; have HB := n3_; clear n0_ n1_ n2_ n3_; (try clear hb); (try clear hb2); (try clear hk); (try clear hi))))
      go_meet
      case rel => exact ⟨_, ((t107 != 0)), (by first | rfl | (simp; done) | (simp [*]; done)), H', ⟨by first | omega | exact Nat.le_refl _⟩, ⟨qq HO106⟩, ⟨qk BK102⟩, ⟨qk BK108⟩, ⟨by repeat (first | (with_reducible first | exact HB.out | apply below_alloc | apply pw_below_drewN | apply below_drew1 | refine qs ?_ (by assumption)) | exact HB.out)⟩⟩
  case rest =>
    clear HC5
    try clear c1
    try clear p2
    try clear c9
    try clear c10
    try clear c14
    try clear c15
    try clear c18
    try clear hcz11_0
    try clear hcz11_1
    try clear hcz16_0
    try clear hcz16_1
    try clear hcz19_0
    try clear hcz19_1
    try clear hcz7_0
    try clear hcz7_1
    try clear hfz11_0
    try clear hfz11_1
    try clear hfz16_0
    try clear hfz16_1
    try clear hfz19_0
    try clear hfz19_1
    try clear hfz7_0
    try clear hfz7_1
    obtain ⟨kq, x30_4, rfl, HA, HJ4, HO_109001, BK102, BK108, HB⟩ := hcut
    cases kq with
    | zero => exact absurd HA.out (by simp [morainelaw02_NumBack.j0])
    | succ kj4 =>
      have H := HA.out
      clear HA
      simp only [morainelaw02_NumBack.j0] at H
      by_cases c21 : x30_4 = true
      · subst c21
        have H1 : ((morainelaw02_awake.f).bind fun t110 => (some t110)) = some r := by rw [if_pos rfl] at H; exact H
        clear H
        have H := H1
        clear H1
        replace H := Option.bind_eq_some_iff.mp H
        obtain ⟨t110, A220, H⟩ := H
        replace H : (some t110) = some r := H
        have A22 := Aside0.mk A220
        clear A220
        obtain rfl := Option.some.inj H
        go_wp2_with (first | (go_at_call 20; (with_reducible refine (morainelaw02_awake.calls  t110 _ A22.out (NumV.Tab.below HT.out (by repeat (first | exact HB.out | apply below_alloc | apply pw_below_drewN | apply below_drew1 | refine below_set ?_ (Aside0.out (by assumption)))))).mono ?_); rintro e w23 ⟨rfl, hb⟩; replace HO_109001 := qr HO_109001 hb; replace BK102 := qb BK102 hb; replace BK108 := qb BK108 hb; replace HB := Aside0.mk (below_step (by repeat (first | (with_reducible first | exact HB.out | apply below_alloc | apply pw_below_drewN | apply below_drew1 | refine qs ?_ (by assumption)) | exact HB.out)) hb); (try clear hb); (try clear hb2); (try clear hk); (try clear hi)))
        repeat (go_quiet (first | (go_at_call 20; (with_reducible refine (morainelaw02_awake.calls  t110 _ A22.out (NumV.Tab.below HT.out (by repeat (first | exact HB.out | apply below_alloc | apply pw_below_drewN | apply below_drew1 | refine below_set ?_ (Aside0.out (by assumption)))))).mono ?_); rintro e w23 ⟨rfl, hb⟩; replace HO_109001 := qr HO_109001 hb; replace BK102 := qb BK102 hb; replace BK108 := qb BK108 hb; replace HB := Aside0.mk (below_step (by repeat (first | (with_reducible first | exact HB.out | apply below_alloc | apply pw_below_drewN | apply below_drew1 | refine qs ?_ (by assumption)) | exact HB.out)) hb); (try clear hb); (try clear hb2); (try clear hk); (try clear hi))); try go_wp2_with (first | (go_at_call 20; (with_reducible refine (morainelaw02_awake.calls  t110 _ A22.out (NumV.Tab.below HT.out (by repeat (first | exact HB.out | apply below_alloc | apply pw_below_drewN | apply below_drew1 | refine below_set ?_ (Aside0.out (by assumption)))))).mono ?_); rintro e w23 ⟨rfl, hb⟩; replace HO_109001 := qr HO_109001 hb; replace BK102 := qb BK102 hb; replace BK108 := qb BK108 hb; replace HB := Aside0.mk (below_step (by repeat (first | (with_reducible first | exact HB.out | apply below_alloc | apply pw_below_drewN | apply below_drew1 | refine qs ?_ (by assumption)) | exact HB.out)) hb); (try clear hb); (try clear hb2); (try clear hk); (try clear hi))))
        go_ret
        exact ⟨by first | rfl | (simp [errW_none, errW_some] <;> rfl) | (simp [*, errW_none, errW_some] <;> rfl), by repeat (first | (with_reducible first | exact HB.out | apply below_alloc | apply pw_below_drewN | apply below_drew1 | refine qs ?_ (by assumption)) | exact HB.out)⟩
      · replace c21 := Bool.eq_false_iff.mpr c21
        subst c21
        have H1 : ((num_Text.f t103 t104).bind fun t111 => ((num_Parse.f t111).bind fun bt112 => (if bt112.2.2 = 0 then ((moraineref02_Same.f bt112.1 bt112.2.1 t103 t104).bind fun t118 => (if t118 = true then ((num_Text.f a0_0 l0_1).bind fun t119 => (morainelaw02_NumBack.j1 kj4 a1 a2 t111 (t119.toList != t111.toList) t103 t104)) else (morainelaw02_NumBack.j1 kj4 a1 a2 t111 true t103 t104))) else (morainelaw02_NumBack.j1 kj4 a1 a2 t111 true t103 t104)))) = some r := by rw [if_neg (show ¬ (false = true) by decide)] at H; exact H
        clear H
        have H := H1
        clear H1
        replace H := Option.bind_eq_some_iff.mp H
        obtain ⟨t111, A240, H⟩ := H
        replace H : ((num_Parse.f t111).bind fun bt112 => (if bt112.2.2 = 0 then ((moraineref02_Same.f bt112.1 bt112.2.1 t103 t104).bind fun t118 => (if t118 = true then ((num_Text.f a0_0 l0_1).bind fun t119 => (morainelaw02_NumBack.j1 kj4 a1 a2 t111 (t119.toList != t111.toList) t103 t104)) else (morainelaw02_NumBack.j1 kj4 a1 a2 t111 true t103 t104))) else (morainelaw02_NumBack.j1 kj4 a1 a2 t111 true t103 t104))) = some r := H
        have A24 := Aside0.mk A240
        clear A240
        replace H := Option.bind_eq_some_iff.mp H
        obtain ⟨⟨t112, t113, t116⟩, A250, H⟩ := H
        replace H : (if t116 = 0 then ((moraineref02_Same.f t112 t113 t103 t104).bind fun t118 => (if t118 = true then ((num_Text.f a0_0 l0_1).bind fun t119 => (morainelaw02_NumBack.j1 kj4 a1 a2 t111 (t119.toList != t111.toList) t103 t104)) else (morainelaw02_NumBack.j1 kj4 a1 a2 t111 true t103 t104))) else (morainelaw02_NumBack.j1 kj4 a1 a2 t111 true t103 t104)) = some r := H
        have A25 := Aside0.mk A250
        clear A250
        have HC26 := Aside0.mk H
        clear H
        have hnb27 := NB108_102.out
        have hnc27 := NB102_108.out
        have hcz28_0 : wc.cell? ⟨gb108, 0, none⟩ = some (.bool t103) := (blk_cell BK108.out 0).trans rfl
        have hcz28_1 : wc.cell? ⟨gb108, 1, none⟩ = some (.slice Ao12 t104.length co12) := (blk_cell BK108.out 1).trans rfl
        have hfz28_0 := blk_frozen BK108.out 0
        have hfz28_1 := blk_frozen BK108.out 1
        go_upto_region 6 with (first | (go_at_call 22; (with_reducible refine (num_Text.calls t103 _ _ t104 t111 _ ?side1 ?side2 A24.out (NumV.Tab.below HT.out (by repeat (first | exact HB.out | apply below_alloc | apply pw_below_drewN | apply below_drew1 | refine below_set ?_ (Aside0.out (by assumption)))))).mono ?_); (case side1 => repeat (first | exact (Kd.R_reads' HO_109001.out).2.2 | (with_reducible refine Kd.C_alloc ?_ _) | (with_reducible refine Kd.C_drewN ?_ _) | (with_reducible refine Kd.C_drew ?_))); (case side2 => exact (Kd.R_reads' HO_109001.out).2.1); rintro e w29 ⟨rfl, hb⟩; replace HO_109001 := qr HO_109001 hb; replace BK102 := qb BK102 hb; replace BK108 := qb BK108 hb; replace HB := Aside0.mk (below_step (by repeat (first | (with_reducible first | exact HB.out | apply below_alloc | apply pw_below_drewN | apply below_drew1 | refine qs ?_ (by assumption)) | exact HB.out)) hb); (try clear hb); (try clear hb2); (try clear hk); (try clear hi)) | (go_at_call 25; (with_reducible refine (num_Parse.calls t111 t112 t113 t116 _ A25.out).mono ?_); rintro e w30 ⟨v114, rfl, ho0, hb⟩; have HO115 := Aside0.mk (Kd.R_lower (Kd.R_new' ho0 (ql HO_109001)) (below_size (by repeat (first | (with_reducible first | exact HB.out | apply below_alloc | apply pw_below_drewN | apply below_drew1 | refine qs ?_ (by assumption)) | exact HB.out)))); replace HO_109001 := qe HO_109001 ho0 hb; replace BK102 := qb BK102 hb; replace BK108 := qb BK108 hb; replace HB := Aside0.mk (below_step (by repeat (first | (with_reducible first | exact HB.out | apply below_alloc | apply pw_below_drewN | apply below_drew1 | refine qs ?_ (by assumption)) | exact HB.out)) hb); (try clear hb); (try clear hb2); (try clear hk); (try clear hi); (try clear ho0)) | ((with_reducible refine gate_dst (N := 10) rfl ?_); refine box_event ?hg (N := 10) ?hd (cs := #[.bool false, .slice none 0 0]) (t := 25) ?hr ?_; (case hd => rfl); (case hg => rfl); (case hr => first | (go_simp; done) | (go_simp; rfl)); intro gb117 hg w31 hbox hb; replace HO_109001 := qr HO_109001 hb; replace HO115 := qr HO115 hb; have BK117 := Aside0.mk (hbox); have GW117 := qg hg (by repeat (first | (with_reducible first | exact HB.out | apply below_alloc | apply pw_below_drewN | apply below_drew1 | refine qs ?_ (by assumption)) | exact HB.out)); have GE117 := qg hg (by repeat (first | (with_reducible first | exact HB.out | apply below_alloc | apply pw_below_drewN | apply below_drew1 | refine qs ?_ (by assumption)) | exact HB.out)); replace HB := Aside0.mk (below_step (by repeat (first | (with_reducible first | exact HB.out | apply below_alloc | apply pw_below_drewN | apply below_drew1 | refine qs ?_ (by assumption)) | exact HB.out)) hb); have NB102_117 := qn BK102 hg; have NB117_102 := qm BK102 hg; replace BK102 := qb BK102 hb; have NB108_117 := qn BK108 hg; have NB117_108 := qm BK108 hg; replace BK108 := qb BK108 hb; clear hb hbox hg; have hnb32 := NB117_102.out; have hnc32 := NB102_117.out; have hnb33 := NB117_108.out; have hnc33 := NB108_117.out; have hcz34_0 : w31.cell? ⟨gb117, 0, none⟩ = some (.bool false) := (blk_cell BK117.out 0).trans rfl; have hcz34_1 : w31.cell? ⟨gb117, 1, none⟩ = some (.slice none 0 0) := (blk_cell BK117.out 1).trans rfl; have hfz34_0 := blk_frozen BK117.out 0; have hfz34_1 := blk_frozen BK117.out 1; obtain ⟨Ao35, co35, eo35⟩ := Kd.R_slice HO115.out; subst eo35))
        repeat (go_quiet (first | (go_at_call 22; (with_reducible refine (num_Text.calls t103 _ _ t104 t111 _ ?side1 ?side2 A24.out (NumV.Tab.below HT.out (by repeat (first | exact HB.out | apply below_alloc | apply pw_below_drewN | apply below_drew1 | refine below_set ?_ (Aside0.out (by assumption)))))).mono ?_); (case side1 => repeat (first | exact (Kd.R_reads' HO_109001.out).2.2 | (with_reducible refine Kd.C_alloc ?_ _) | (with_reducible refine Kd.C_drewN ?_ _) | (with_reducible refine Kd.C_drew ?_))); (case side2 => exact (Kd.R_reads' HO_109001.out).2.1); rintro e w29 ⟨rfl, hb⟩; replace HO_109001 := qr HO_109001 hb; replace BK102 := qb BK102 hb; replace BK108 := qb BK108 hb; replace HB := Aside0.mk (below_step (by repeat (first | (with_reducible first | exact HB.out | apply below_alloc | apply pw_below_drewN | apply below_drew1 | refine qs ?_ (by assumption)) | exact HB.out)) hb); (try clear hb); (try clear hb2); (try clear hk); (try clear hi)) | (go_at_call 25; (with_reducible refine (num_Parse.calls t111 t112 t113 t116 _ A25.out).mono ?_); rintro e w30 ⟨v114, rfl, ho0, hb⟩; have HO115 := Aside0.mk (Kd.R_lower (Kd.R_new' ho0 (ql HO_109001)) (below_size (by repeat (first | (with_reducible first | exact HB.out | apply below_alloc | apply pw_below_drewN | apply below_drew1 | refine qs ?_ (by assumption)) | exact HB.out)))); replace HO_109001 := qe HO_109001 ho0 hb; replace BK102 := qb BK102 hb; replace BK108 := qb BK108 hb; replace HB := Aside0.mk (below_step (by repeat (first | (with_reducible first | exact HB.out | apply below_alloc | apply pw_below_drewN | apply below_drew1 | refine qs ?_ (by assumption)) | exact HB.out)) hb); (try clear hb); (try clear hb2); (try clear hk); (try clear hi); (try clear ho0)) | ((with_reducible refine gate_dst (N := 10) rfl ?_); refine box_event ?hg (N := 10) ?hd (cs := #[.bool false, .slice none 0 0]) (t := 25) ?hr ?_; (case hd => rfl); (case hg => rfl); (case hr => first | (go_simp; done) | (go_simp; rfl)); intro gb117 hg w31 hbox hb; replace HO_109001 := qr HO_109001 hb; replace HO115 := qr HO115 hb; have BK117 := Aside0.mk (hbox); have GW117 := qg hg (by repeat (first | (with_reducible first | exact HB.out | apply below_alloc | apply pw_below_drewN | apply below_drew1 | refine qs ?_ (by assumption)) | exact HB.out)); have GE117 := qg hg (by repeat (first | (with_reducible first | exact HB.out | apply below_alloc | apply pw_below_drewN | apply below_drew1 | refine qs ?_ (by assumption)) | exact HB.out)); replace HB := Aside0.mk (below_step (by repeat (first | (with_reducible first | exact HB.out | apply below_alloc | apply pw_below_drewN | apply below_drew1 | refine qs ?_ (by assumption)) | exact HB.out)) hb); have NB102_117 := qn BK102 hg; have NB117_102 := qm BK102 hg; replace BK102 := qb BK102 hb; have NB108_117 := qn BK108 hg; have NB117_108 := qm BK108 hg; replace BK108 := qb BK108 hb; clear hb hbox hg; have hnb32 := NB117_102.out; have hnc32 := NB102_117.out; have hnb33 := NB117_108.out; have hnc33 := NB108_117.out; have hcz34_0 : w31.cell? ⟨gb117, 0, none⟩ = some (.bool false) := (blk_cell BK117.out 0).trans rfl; have hcz34_1 : w31.cell? ⟨gb117, 1, none⟩ = some (.slice none 0 0) := (blk_cell BK117.out 1).trans rfl; have hfz34_0 := blk_frozen BK117.out 0; have hfz34_1 := blk_frozen BK117.out 1; obtain ⟨Ao35, co35, eo35⟩ := Kd.R_slice HO115.out; subst eo35)); go_upto_region 6 with (first | (go_at_call 22; (with_reducible refine (num_Text.calls t103 _ _ t104 t111 _ ?side1 ?side2 A24.out (NumV.Tab.below HT.out (by repeat (first | exact HB.out | apply below_alloc | apply pw_below_drewN | apply below_drew1 | refine below_set ?_ (Aside0.out (by assumption)))))).mono ?_); (case side1 => repeat (first | exact (Kd.R_reads' HO_109001.out).2.2 | (with_reducible refine Kd.C_alloc ?_ _) | (with_reducible refine Kd.C_drewN ?_ _) | (with_reducible refine Kd.C_drew ?_))); (case side2 => exact (Kd.R_reads' HO_109001.out).2.1); rintro e w29 ⟨rfl, hb⟩; replace HO_109001 := qr HO_109001 hb; replace BK102 := qb BK102 hb; replace BK108 := qb BK108 hb; replace HB := Aside0.mk (below_step (by repeat (first | (with_reducible first | exact HB.out | apply below_alloc | apply pw_below_drewN | apply below_drew1 | refine qs ?_ (by assumption)) | exact HB.out)) hb); (try clear hb); (try clear hb2); (try clear hk); (try clear hi)) | (go_at_call 25; (with_reducible refine (num_Parse.calls t111 t112 t113 t116 _ A25.out).mono ?_); rintro e w30 ⟨v114, rfl, ho0, hb⟩; have HO115 := Aside0.mk (Kd.R_lower (Kd.R_new' ho0 (ql HO_109001)) (below_size (by repeat (first | (with_reducible first | exact HB.out | apply below_alloc | apply pw_below_drewN | apply below_drew1 | refine qs ?_ (by assumption)) | exact HB.out)))); replace HO_109001 := qe HO_109001 ho0 hb; replace BK102 := qb BK102 hb; replace BK108 := qb BK108 hb; replace HB := Aside0.mk (below_step (by repeat (first | (with_reducible first | exact HB.out | apply below_alloc | apply pw_below_drewN | apply below_drew1 | refine qs ?_ (by assumption)) | exact HB.out)) hb); (try clear hb); (try clear hb2); (try clear hk); (try clear hi); (try clear ho0)) | ((with_reducible refine gate_dst (N := 10) rfl ?_); refine box_event ?hg (N := 10) ?hd (cs := #[.bool false, .slice none 0 0]) (t := 25) ?hr ?_; (case hd => rfl); (case hg => rfl); (case hr => first | (go_simp; done) | (go_simp; rfl)); intro gb117 hg w31 hbox hb; replace HO_109001 := qr HO_109001 hb; replace HO115 := qr HO115 hb; have BK117 := Aside0.mk (hbox); have GW117 := qg hg (by repeat (first | (with_reducible first | exact HB.out | apply below_alloc | apply pw_below_drewN | apply below_drew1 | refine qs ?_ (by assumption)) | exact HB.out)); have GE117 := qg hg (by repeat (first | (with_reducible first | exact HB.out | apply below_alloc | apply pw_below_drewN | apply below_drew1 | refine qs ?_ (by assumption)) | exact HB.out)); replace HB := Aside0.mk (below_step (by repeat (first | (with_reducible first | exact HB.out | apply below_alloc | apply pw_below_drewN | apply below_drew1 | refine qs ?_ (by assumption)) | exact HB.out)) hb); have NB102_117 := qn BK102 hg; have NB117_102 := qm BK102 hg; replace BK102 := qb BK102 hb; have NB108_117 := qn BK108 hg; have NB117_108 := qm BK108 hg; replace BK108 := qb BK108 hb; clear hb hbox hg; have hnb32 := NB117_102.out; have hnc32 := NB102_117.out; have hnb33 := NB117_108.out; have hnc33 := NB108_117.out; have hcz34_0 : w31.cell? ⟨gb117, 0, none⟩ = some (.bool false) := (blk_cell BK117.out 0).trans rfl; have hcz34_1 : w31.cell? ⟨gb117, 1, none⟩ = some (.slice none 0 0) := (blk_cell BK117.out 1).trans rfl; have hfz34_0 := blk_frozen BK117.out 0; have hfz34_1 := blk_frozen BK117.out 1; obtain ⟨Ao35, co35, eo35⟩ := Kd.R_slice HO115.out; subst eo35)))
        (try simp only [Act.put, List.setIfInBounds_toArray, List.set_cons_zero, List.set_cons_succ])
        go_cut [52] (fun v52 wc => ∃ (kq : Nat) (x52_25 : Bool), v52 = .bool x52_25 ∧ Aside0 (morainelaw02_NumBack.j1 kq a1 a2 t111 x52_25 t103 t104 = some r) ∧ Aside0 (kq ≤ kj4) ∧ Aside0 (Kd.R (Kd.int .u32) 63 wc w.heap.size (fun k_ => some k_ ≠ ((.slice Ao35 t113.length co35) : Value).ownBlock) (.slice Ao12 t104.length co12) t104) ∧ Aside0 (Kd.R (Kd.int .u32) 63 wc w.heap.size (fun k_ => some k_ ≠ ((.slice Ao12 t104.length co12) : Value).ownBlock) (.slice Ao35 t113.length co35) t113) ∧ Aside0 (wc.heap[gb102]? = some (.cells #[.bool a0_0, (.slice A0_1 l0_1.length c0_1)] 25 (0, 0))) ∧ Aside0 (wc.heap[gb108]? = some (.cells #[.bool t103, (.slice Ao12 t104.length co12)] 25 (0, 0))) ∧ Aside0 (wc.heap[gb117]? = some (.cells #[.bool t112, (.slice Ao35 t113.length co35)] 25 (0, 0))) ∧ Aside0 (Below w.heap.size w wc))
        case first =>
          have H := HC26.out
          clear HC26
          by_cases c36 : t116 = 0
          · rw [if_pos c36] at H
            have c36b0 : (t116 == 0) = true := beq_iff_eq.mpr c36
            have c36b1 : (t116 != 0) = false := bne_eq_false_iff_eq.mpr c36
            clear c36
            (first | rw [c36b0] | (simp only [i64_w, i32_w]; rw [c36b0]) | skip)
            replace H := Option.bind_eq_some_iff.mp H
            obtain ⟨t118, A370, H⟩ := H
            replace H : (if t118 = true then ((num_Text.f a0_0 l0_1).bind fun t119 => (morainelaw02_NumBack.j1 kj4 a1 a2 t111 (t119.toList != t111.toList) t103 t104)) else (morainelaw02_NumBack.j1 kj4 a1 a2 t111 true t103 t104)) = some r := H
            have A37 := Aside0.mk A370
            clear A370
            by_cases c38 : t118 = true
            · subst c38
              have H1 : ((num_Text.f a0_0 l0_1).bind fun t119 => (morainelaw02_NumBack.j1 kj4 a1 a2 t111 (t119.toList != t111.toList) t103 t104)) = some r := by rw [if_pos rfl] at H; exact H
              clear H
              have H := H1
              clear H1
              replace H := Option.bind_eq_some_iff.mp H
              obtain ⟨t119, A390, H⟩ := H
              replace H : (morainelaw02_NumBack.j1 kj4 a1 a2 t111 (t119.toList != t111.toList) t103 t104) = some r := H
              have A39 := Aside0.mk A390
              clear A390
              have H' := Aside0.mk H
              clear H
              have hnb40 := NB117_102.out
              have hnc40 := NB102_117.out
              have hnb41 := NB117_108.out
              have hnc41 := NB108_117.out
              have hcz42_0 : w31.cell? ⟨gb117, 0, none⟩ = some (.bool false) := (blk_cell BK117.out 0).trans rfl
              have hcz42_1 : w31.cell? ⟨gb117, 1, none⟩ = some (.slice none 0 0) := (blk_cell BK117.out 1).trans rfl
              have hfz42_0 := blk_frozen BK117.out 0
              have hfz42_1 := blk_frozen BK117.out 1
              have hnb43 := NB108_102.out
              have hnc43 := NB102_108.out
              have hcz44_0 : w31.cell? ⟨gb108, 0, none⟩ = some (.bool t103) := (blk_cell BK108.out 0).trans rfl
              have hcz44_1 : w31.cell? ⟨gb108, 1, none⟩ = some (.slice Ao12 t104.length co12) := (blk_cell BK108.out 1).trans rfl
              have hfz44_0 := blk_frozen BK108.out 0
              have hfz44_1 := blk_frozen BK108.out 1
              go_wp2_with (first | (go_at_call 17; (with_reducible refine (moraineref02_Same.calls t112 _ _ t113 t103 _ _ t104 true _ ?side1 ?side2 ?side3 ?side4 A37.out).mono ?_); (case side1 => refine (Kd.R_reads' (e := 63) (base := w.heap.size) (ok := fun k_ => (True ∧ some k_ ≠ (.slice Ao12 t104.length co12 : Value).ownBlock)) (n := t113.length) (c := co35) ?_).2.2; exact (by (with_reducible repeat (first | apply Kd.R_alloc | apply Kd.R_drewN | apply Kd.R_drew)); exact (Kd.R_mono (Kd.R_far (p := ⟨gb117, 1, none⟩) (Kd.R_far (p := ⟨gb117, 0, none⟩) (Kd.R_types HO115.out BK117.out (by decide)) (fun _ hk => hk.2) (.bool t112)) (fun _ hk => hk.2) (.slice Ao35 t113.length co35)) (fun _ h_ => h_.1)))); (case side2 => exact (Kd.R_reads' HO115.out).2.1); (case side3 => refine (Kd.R_reads' (e := 63) (base := w.heap.size) (ok := fun k_ => (True ∧ some k_ ≠ (.slice Ao35 t113.length co35 : Value).ownBlock)) (n := t104.length) (c := co12) ?_).2.2; exact (by (with_reducible repeat (first | apply Kd.R_alloc | apply Kd.R_drewN | apply Kd.R_drew)); exact (Kd.R_mono (Kd.R_far (p := ⟨gb117, 1, none⟩) (Kd.R_far (p := ⟨gb117, 0, none⟩) (Kd.R_types HO_109001.out BK117.out (by decide)) (fun _ hk => hk.2) (.bool t112)) (fun _ hk => hk.2) (.slice Ao35 t113.length co35)) (fun _ h_ => h_.1)))); (case side4 => exact (Kd.R_reads' HO_109001.out).2.1); rintro e w45 ⟨rfl, hb⟩; have n0_ := Aside0.mk (Kd.R_below (by (with_reducible repeat (first | apply Kd.R_alloc | apply Kd.R_drewN | apply Kd.R_drew)); exact (Kd.R_mono (Kd.R_far (p := ⟨gb117, 1, none⟩) (Kd.R_far (p := ⟨gb117, 0, none⟩) (Kd.R_types HO_109001.out BK117.out (by decide)) (fun _ hk => hk.2) (.bool t112)) (fun _ hk => hk.2) (.slice Ao35 t113.length co35)) (fun _ h_ => h_.1))) hb); have n1_ := Aside0.mk (Kd.R_below (by (with_reducible repeat (first | apply Kd.R_alloc | apply Kd.R_drewN | apply Kd.R_drew)); exact (Kd.R_mono (Kd.R_far (p := ⟨gb117, 1, none⟩) (Kd.R_far (p := ⟨gb117, 0, none⟩) (Kd.R_types HO115.out BK117.out (by decide)) (fun _ hk => hk.2) (.bool t112)) (fun _ hk => hk.2) (.slice Ao35 t113.length co35)) (fun _ h_ => h_.1))) hb); have n2_ := Aside0.mk (blk_below (g := gb102) (o := .cells #[.bool a0_0, .slice A0_1 l0_1.length c0_1] 25 (0, 0)) (by (with_reducible repeat (first | refine blk_drewN ?_ _ | refine blk_drew ?_ | refine blk_alloc ?_ _)); refine blk_far ?_ NB102_117.out _; (with_reducible repeat (first | refine blk_drewN ?_ _ | refine blk_drew ?_ | refine blk_alloc ?_ _)); refine blk_far ?_ NB102_117.out _; (with_reducible repeat (first | refine blk_drewN ?_ _ | refine blk_drew ?_ | refine blk_alloc ?_ _)); exact BK102.out) hb); have n3_ := Aside0.mk (blk_below (g := gb108) (o := .cells #[.bool t103, .slice Ao12 t104.length co12] 25 (0, 0)) (by (with_reducible repeat (first | refine blk_drewN ?_ _ | refine blk_drew ?_ | refine blk_alloc ?_ _)); refine blk_far ?_ NB108_117.out _; (with_reducible repeat (first | refine blk_drewN ?_ _ | refine blk_drew ?_ | refine blk_alloc ?_ _)); refine blk_far ?_ NB108_117.out _; (with_reducible repeat (first | refine blk_drewN ?_ _ | refine blk_drew ?_ | refine blk_alloc ?_ _)); exact BK108.out) hb); have n4_ := Aside0.mk (blk_below (g := gb117) (o := .cells #[.bool t112, .slice Ao35 t113.length co35] 25 (0, 0)) (by (with_reducible repeat (first | refine blk_drewN ?_ _ | refine blk_drew ?_ | refine blk_alloc ?_ _)); refine blk_put (cs := #[.bool t112, .slice none 0 0]) ?_ 1 _ rfl; (with_reducible repeat (first | refine blk_drewN ?_ _ | refine blk_drew ?_ | refine blk_alloc ?_ _)); refine blk_put (cs := #[.bool false, .slice none 0 0]) ?_ 0 _ rfl; (with_reducible repeat (first | refine blk_drewN ?_ _ | refine blk_drew ?_ | refine blk_alloc ?_ _)); exact BK117.out) hb); have n5_ := Aside0.mk (below_step (by repeat (first | (with_reducible first | exact HB.out | apply below_alloc | apply pw_below_drewN | apply below_drew1 | refine qs ?_ (by assumption)) | exact HB.out)) hb); clear HO_109001; clear HO115; clear BK102; clear BK108; clear BK117; clear HB; have HO_109001 := n0_; have HO115 := n1_; have BK102 := n2_; have BK108 := n3_; have BK117 := n4_; have HB := n5_; clear n0_ n1_ n2_ n3_ n4_ n5_; (try clear hb); (try clear hb2); (try clear hk); (try clear hi); have hcz46_0 : w45.cell? ⟨gb102, 0, none⟩ = some (.bool a0_0) := (blk_cell BK102.out 0).trans rfl; have hcz46_1 : w45.cell? ⟨gb102, 1, none⟩ = some (.slice A0_1 l0_1.length c0_1) := (blk_cell BK102.out 1).trans rfl; have hfz46_0 := blk_frozen BK102.out 0; have hfz46_1 := blk_frozen BK102.out 1) | (go_at_call 22; (with_reducible refine (num_Text.calls a0_0 _ _ l0_1 t119 _ ?side1 ?side2 A39.out (NumV.Tab.below HT.out (by repeat (first | exact HB.out | apply below_alloc | apply pw_below_drewN | apply below_drew1 | refine below_set ?_ (Aside0.out (by assumption)))))).mono ?_); (case side1 => repeat (first | exact (Kd.C_below HR0_1.out HB.out) | (with_reducible refine Kd.C_alloc ?_ _) | (with_reducible refine Kd.C_drewN ?_ _) | (with_reducible refine Kd.C_drew ?_))); (case side2 => exact HC0_1.out); rintro e w47 ⟨rfl, hb⟩; replace HO_109001 := qr HO_109001 hb; replace HO115 := qr HO115 hb; replace BK102 := qb BK102 hb; replace BK108 := qb BK108 hb; replace BK117 := qb BK117 hb; replace HB := Aside0.mk (below_step (by repeat (first | (with_reducible first | exact HB.out | apply below_alloc | apply pw_below_drewN | apply below_drew1 | refine qs ?_ (by assumption)) | exact HB.out)) hb); (try clear hb); (try clear hb2); (try clear hk); (try clear hi)))
              repeat (go_quiet (first | (go_at_call 17; (with_reducible refine (moraineref02_Same.calls t112 _ _ t113 t103 _ _ t104 true _ ?side1 ?side2 ?side3 ?side4 A37.out).mono ?_); (case side1 => refine (Kd.R_reads' (e := 63) (base := w.heap.size) (ok := fun k_ => (True ∧ some k_ ≠ (.slice Ao12 t104.length co12 : Value).ownBlock)) (n := t113.length) (c := co35) ?_).2.2; exact (by (with_reducible repeat (first | apply Kd.R_alloc | apply Kd.R_drewN | apply Kd.R_drew)); exact (Kd.R_mono (Kd.R_far (p := ⟨gb117, 1, none⟩) (Kd.R_far (p := ⟨gb117, 0, none⟩) (Kd.R_types HO115.out BK117.out (by decide)) (fun _ hk => hk.2) (.bool t112)) (fun _ hk => hk.2) (.slice Ao35 t113.length co35)) (fun _ h_ => h_.1)))); (case side2 => exact (Kd.R_reads' HO115.out).2.1); (case side3 => refine (Kd.R_reads' (e := 63) (base := w.heap.size) (ok := fun k_ => (True ∧ some k_ ≠ (.slice Ao35 t113.length co35 : Value).ownBlock)) (n := t104.length) (c := co12) ?_).2.2; exact (by (with_reducible repeat (first | apply Kd.R_alloc | apply Kd.R_drewN | apply Kd.R_drew)); exact (Kd.R_mono (Kd.R_far (p := ⟨gb117, 1, none⟩) (Kd.R_far (p := ⟨gb117, 0, none⟩) (Kd.R_types HO_109001.out BK117.out (by decide)) (fun _ hk => hk.2) (.bool t112)) (fun _ hk => hk.2) (.slice Ao35 t113.length co35)) (fun _ h_ => h_.1)))); (case side4 => exact (Kd.R_reads' HO_109001.out).2.1); rintro e w45 ⟨rfl, hb⟩; have n0_ := Aside0.mk (Kd.R_below (by (with_reducible repeat (first | apply Kd.R_alloc | apply Kd.R_drewN | apply Kd.R_drew)); exact (Kd.R_mono (Kd.R_far (p := ⟨gb117, 1, none⟩) (Kd.R_far (p := ⟨gb117, 0, none⟩) (Kd.R_types HO_109001.out BK117.out (by decide)) (fun _ hk => hk.2) (.bool t112)) (fun _ hk => hk.2) (.slice Ao35 t113.length co35)) (fun _ h_ => h_.1))) hb); have n1_ := Aside0.mk (Kd.R_below (by (with_reducible repeat (first | apply Kd.R_alloc | apply Kd.R_drewN | apply Kd.R_drew)); exact (Kd.R_mono (Kd.R_far (p := ⟨gb117, 1, none⟩) (Kd.R_far (p := ⟨gb117, 0, none⟩) (Kd.R_types HO115.out BK117.out (by decide)) (fun _ hk => hk.2) (.bool t112)) (fun _ hk => hk.2) (.slice Ao35 t113.length co35)) (fun _ h_ => h_.1))) hb); have n2_ := Aside0.mk (blk_below (g := gb102) (o := .cells #[.bool a0_0, .slice A0_1 l0_1.length c0_1] 25 (0, 0)) (by (with_reducible repeat (first | refine blk_drewN ?_ _ | refine blk_drew ?_ | refine blk_alloc ?_ _)); refine blk_far ?_ NB102_117.out _; (with_reducible repeat (first | refine blk_drewN ?_ _ | refine blk_drew ?_ | refine blk_alloc ?_ _)); refine blk_far ?_ NB102_117.out _; (with_reducible repeat (first | refine blk_drewN ?_ _ | refine blk_drew ?_ | refine blk_alloc ?_ _)); exact BK102.out) hb); have n3_ := Aside0.mk (blk_below (g := gb108) (o := .cells #[.bool t103, .slice Ao12 t104.length co12] 25 (0, 0)) (by (with_reducible repeat (first | refine blk_drewN ?_ _ | refine blk_drew ?_ | refine blk_alloc ?_ _)); refine blk_far ?_ NB108_117.out _; (with_reducible repeat (first | refine blk_drewN ?_ _ | refine blk_drew ?_ | refine blk_alloc ?_ _)); refine blk_far ?_ NB108_117.out _; (with_reducible repeat (first | refine blk_drewN ?_ _ | refine blk_drew ?_ | refine blk_alloc ?_ _)); exact BK108.out) hb); have n4_ := Aside0.mk (blk_below (g := gb117) (o := .cells #[.bool t112, .slice Ao35 t113.length co35] 25 (0, 0)) (by (with_reducible repeat (first | refine blk_drewN ?_ _ | refine blk_drew ?_ | refine blk_alloc ?_ _)); refine blk_put (cs := #[.bool t112, .slice none 0 0]) ?_ 1 _ rfl; (with_reducible repeat (first | refine blk_drewN ?_ _ | refine blk_drew ?_ | refine blk_alloc ?_ _)); refine blk_put (cs := #[.bool false, .slice none 0 0]) ?_ 0 _ rfl; (with_reducible repeat (first | refine blk_drewN ?_ _ | refine blk_drew ?_ | refine blk_alloc ?_ _)); exact BK117.out) hb); have n5_ := Aside0.mk (below_step (by repeat (first | (with_reducible first | exact HB.out | apply below_alloc | apply pw_below_drewN | apply below_drew1 | refine qs ?_ (by assumption)) | exact HB.out)) hb); clear HO_109001; clear HO115; clear BK102; clear BK108; clear BK117; clear HB; have HO_109001 := n0_; have HO115 := n1_; have BK102 := n2_; have BK108 := n3_; have BK117 := n4_; have HB := n5_; clear n0_ n1_ n2_ n3_ n4_ n5_; (try clear hb); (try clear hb2); (try clear hk); (try clear hi); have hcz46_0 : w45.cell? ⟨gb102, 0, none⟩ = some (.bool a0_0) := (blk_cell BK102.out 0).trans rfl; have hcz46_1 : w45.cell? ⟨gb102, 1, none⟩ = some (.slice A0_1 l0_1.length c0_1) := (blk_cell BK102.out 1).trans rfl; have hfz46_0 := blk_frozen BK102.out 0; have hfz46_1 := blk_frozen BK102.out 1) | (go_at_call 22; (with_reducible refine (num_Text.calls a0_0 _ _ l0_1 t119 _ ?side1 ?side2 A39.out (NumV.Tab.below HT.out (by repeat (first | exact HB.out | apply below_alloc | apply pw_below_drewN | apply below_drew1 | refine below_set ?_ (Aside0.out (by assumption)))))).mono ?_); (case side1 => repeat (first | exact (Kd.C_below HR0_1.out HB.out) | (with_reducible refine Kd.C_alloc ?_ _) | (with_reducible refine Kd.C_drewN ?_ _) | (with_reducible refine Kd.C_drew ?_))); (case side2 => exact HC0_1.out); rintro e w47 ⟨rfl, hb⟩; replace HO_109001 := qr HO_109001 hb; replace HO115 := qr HO115 hb; replace BK102 := qb BK102 hb; replace BK108 := qb BK108 hb; replace BK117 := qb BK117 hb; replace HB := Aside0.mk (below_step (by repeat (first | (with_reducible first | exact HB.out | apply below_alloc | apply pw_below_drewN | apply below_drew1 | refine qs ?_ (by assumption)) | exact HB.out)) hb); (try clear hb); (try clear hb2); (try clear hk); (try clear hi))); try go_wp2_with (first | (go_at_call 17; (with_reducible refine (moraineref02_Same.calls t112 _ _ t113 t103 _ _ t104 true _ ?side1 ?side2 ?side3 ?side4 A37.out).mono ?_); (case side1 => refine (Kd.R_reads' (e := 63) (base := w.heap.size) (ok := fun k_ => (True ∧ some k_ ≠ (.slice Ao12 t104.length co12 : Value).ownBlock)) (n := t113.length) (c := co35) ?_).2.2; exact (by (with_reducible repeat (first | apply Kd.R_alloc | apply Kd.R_drewN | apply Kd.R_drew)); exact (Kd.R_mono (Kd.R_far (p := ⟨gb117, 1, none⟩) (Kd.R_far (p := ⟨gb117, 0, none⟩) (Kd.R_types HO115.out BK117.out (by decide)) (fun _ hk => hk.2) (.bool t112)) (fun _ hk => hk.2) (.slice Ao35 t113.length co35)) (fun _ h_ => h_.1)))); (case side2 => exact (Kd.R_reads' HO115.out).2.1); (case side3 => refine (Kd.R_reads' (e := 63) (base := w.heap.size) (ok := fun k_ => (True ∧ some k_ ≠ (.slice Ao35 t113.length co35 : Value).ownBlock)) (n := t104.length) (c := co12) ?_).2.2; exact (by (with_reducible repeat (first | apply Kd.R_alloc | apply Kd.R_drewN | apply Kd.R_drew)); exact (Kd.R_mono (Kd.R_far (p := ⟨gb117, 1, none⟩) (Kd.R_far (p := ⟨gb117, 0, none⟩) (Kd.R_types HO_109001.out BK117.out (by decide)) (fun _ hk => hk.2) (.bool t112)) (fun _ hk => hk.2) (.slice Ao35 t113.length co35)) (fun _ h_ => h_.1)))); (case side4 => exact (Kd.R_reads' HO_109001.out).2.1); rintro e w45 ⟨rfl, hb⟩; have n0_ := Aside0.mk (Kd.R_below (by (with_reducible repeat (first | apply Kd.R_alloc | apply Kd.R_drewN | apply Kd.R_drew)); exact (Kd.R_mono (Kd.R_far (p := ⟨gb117, 1, none⟩) (Kd.R_far (p := ⟨gb117, 0, none⟩) (Kd.R_types HO_109001.out BK117.out (by decide)) (fun _ hk => hk.2) (.bool t112)) (fun _ hk => hk.2) (.slice Ao35 t113.length co35)) (fun _ h_ => h_.1))) hb); have n1_ := Aside0.mk (Kd.R_below (by (with_reducible repeat (first | apply Kd.R_alloc | apply Kd.R_drewN | apply Kd.R_drew)); exact (Kd.R_mono (Kd.R_far (p := ⟨gb117, 1, none⟩) (Kd.R_far (p := ⟨gb117, 0, none⟩) (Kd.R_types HO115.out BK117.out (by decide)) (fun _ hk => hk.2) (.bool t112)) (fun _ hk => hk.2) (.slice Ao35 t113.length co35)) (fun _ h_ => h_.1))) hb); have n2_ := Aside0.mk (blk_below (g := gb102) (o := .cells #[.bool a0_0, .slice A0_1 l0_1.length c0_1] 25 (0, 0)) (by (with_reducible repeat (first | refine blk_drewN ?_ _ | refine blk_drew ?_ | refine blk_alloc ?_ _)); refine blk_far ?_ NB102_117.out _; (with_reducible repeat (first | refine blk_drewN ?_ _ | refine blk_drew ?_ | refine blk_alloc ?_ _)); refine blk_far ?_ NB102_117.out _; (with_reducible repeat (first | refine blk_drewN ?_ _ | refine blk_drew ?_ | refine blk_alloc ?_ _)); exact BK102.out) hb); have n3_ := Aside0.mk (blk_below (g := gb108) (o := .cells #[.bool t103, .slice Ao12 t104.length co12] 25 (0, 0)) (by (with_reducible repeat (first | refine blk_drewN ?_ _ | refine blk_drew ?_ | refine blk_alloc ?_ _)); refine blk_far ?_ NB108_117.out _; (with_reducible repeat (first | refine blk_drewN ?_ _ | refine blk_drew ?_ | refine blk_alloc ?_ _)); refine blk_far ?_ NB108_117.out _; (with_reducible repeat (first | refine blk_drewN ?_ _ | refine blk_drew ?_ | refine blk_alloc ?_ _)); exact BK108.out) hb); have n4_ := Aside0.mk (blk_below (g := gb117) (o := .cells #[.bool t112, .slice Ao35 t113.length co35] 25 (0, 0)) (by (with_reducible repeat (first | refine blk_drewN ?_ _ | refine blk_drew ?_ | refine blk_alloc ?_ _)); refine blk_put (cs := #[.bool t112, .slice none 0 0]) ?_ 1 _ rfl; (with_reducible repeat (first | refine blk_drewN ?_ _ | refine blk_drew ?_ | refine blk_alloc ?_ _)); refine blk_put (cs := #[.bool false, .slice none 0 0]) ?_ 0 _ rfl; (with_reducible repeat (first | refine blk_drewN ?_ _ | refine blk_drew ?_ | refine blk_alloc ?_ _)); exact BK117.out) hb); have n5_ := Aside0.mk (below_step (by repeat (first | (with_reducible first | exact HB.out | apply below_alloc | apply pw_below_drewN | apply below_drew1 | refine qs ?_ (by assumption)) | exact HB.out)) hb); clear HO_109001; clear HO115; clear BK102; clear BK108; clear BK117; clear HB; have HO_109001 := n0_; have HO115 := n1_; have BK102 := n2_; have BK108 := n3_; have BK117 := n4_; have HB := n5_; clear n0_ n1_ n2_ n3_ n4_ n5_; (try clear hb); (try clear hb2); (try clear hk); (try clear hi); have hcz46_0 : w45.cell? ⟨gb102, 0, none⟩ = some (.bool a0_0) := (blk_cell BK102.out 0).trans rfl; have hcz46_1 : w45.cell? ⟨gb102, 1, none⟩ = some (.slice A0_1 l0_1.length c0_1) := (blk_cell BK102.out 1).trans rfl; have hfz46_0 := blk_frozen BK102.out 0; have hfz46_1 := blk_frozen BK102.out 1) | (go_at_call 22; (with_reducible refine (num_Text.calls a0_0 _ _ l0_1 t119 _ ?side1 ?side2 A39.out (NumV.Tab.below HT.out (by repeat (first | exact HB.out | apply below_alloc | apply pw_below_drewN | apply below_drew1 | refine below_set ?_ (Aside0.out (by assumption)))))).mono ?_); (case side1 => repeat (first | exact (Kd.C_below HR0_1.out HB.out) | (with_reducible refine Kd.C_alloc ?_ _) | (with_reducible refine Kd.C_drewN ?_ _) | (with_reducible refine Kd.C_drew ?_))); (case side2 => exact HC0_1.out); rintro e w47 ⟨rfl, hb⟩; replace HO_109001 := qr HO_109001 hb; replace HO115 := qr HO115 hb; replace BK102 := qb BK102 hb; replace BK108 := qb BK108 hb; replace BK117 := qb BK117 hb; replace HB := Aside0.mk (below_step (by repeat (first | (with_reducible first | exact HB.out | apply below_alloc | apply pw_below_drewN | apply below_drew1 | refine qs ?_ (by assumption)) | exact HB.out)) hb); (try clear hb); (try clear hb2); (try clear hk); (try clear hi))))
              go_meet
              case rel => exact ⟨_, ((t119.toList != t111.toList)), (by first | rfl | (simp; done) | (simp [*]; done)), H', ⟨by have := HJ4.out; first | omega | exact Nat.le_refl _⟩, ⟨by (with_reducible repeat (first | apply Kd.R_alloc | apply Kd.R_drewN | apply Kd.R_drew)); exact Kd.R_mono HO_109001.out (fun _ hk => hk.2)⟩, ⟨by (with_reducible repeat (first | apply Kd.R_alloc | apply Kd.R_drewN | apply Kd.R_drew)); exact Kd.R_mono HO115.out (fun _ hk => hk.2)⟩, ⟨qk BK102⟩, ⟨qk BK108⟩, ⟨qk BK117⟩, ⟨by repeat (first | (with_reducible first | exact HB.out | apply below_alloc | apply pw_below_drewN | apply below_drew1 | refine qs ?_ (by assumption)) | exact HB.out)⟩⟩
            · replace c38 := Bool.eq_false_iff.mpr c38
              subst c38
              have H1 : (morainelaw02_NumBack.j1 kj4 a1 a2 t111 true t103 t104) = some r := by rw [if_neg (show ¬ (false = true) by decide)] at H; exact H
              clear H
              have H := H1
              clear H1
              have H' := Aside0.mk H
              clear H
              have hnb48 := NB117_102.out
              have hnc48 := NB102_117.out
              have hnb49 := NB117_108.out
              have hnc49 := NB108_117.out
              have hcz50_0 : w31.cell? ⟨gb117, 0, none⟩ = some (.bool false) := (blk_cell BK117.out 0).trans rfl
              have hcz50_1 : w31.cell? ⟨gb117, 1, none⟩ = some (.slice none 0 0) := (blk_cell BK117.out 1).trans rfl
              have hfz50_0 := blk_frozen BK117.out 0
              have hfz50_1 := blk_frozen BK117.out 1
              have hnb51 := NB108_102.out
              have hnc51 := NB102_108.out
              have hcz52_0 : w31.cell? ⟨gb108, 0, none⟩ = some (.bool t103) := (blk_cell BK108.out 0).trans rfl
              have hcz52_1 : w31.cell? ⟨gb108, 1, none⟩ = some (.slice Ao12 t104.length co12) := (blk_cell BK108.out 1).trans rfl
              have hfz52_0 := blk_frozen BK108.out 0
              have hfz52_1 := blk_frozen BK108.out 1
              go_wp2_with (first | (go_at_call 17; (with_reducible refine (moraineref02_Same.calls t112 _ _ t113 t103 _ _ t104 false _ ?side1 ?side2 ?side3 ?side4 A37.out).mono ?_); (case side1 => refine (Kd.R_reads' (e := 63) (base := w.heap.size) (ok := fun k_ => (True ∧ some k_ ≠ (.slice Ao12 t104.length co12 : Value).ownBlock)) (n := t113.length) (c := co35) ?_).2.2; exact (by (with_reducible repeat (first | apply Kd.R_alloc | apply Kd.R_drewN | apply Kd.R_drew)); exact (Kd.R_mono (Kd.R_far (p := ⟨gb117, 1, none⟩) (Kd.R_far (p := ⟨gb117, 0, none⟩) (Kd.R_types HO115.out BK117.out (by decide)) (fun _ hk => hk.2) (.bool t112)) (fun _ hk => hk.2) (.slice Ao35 t113.length co35)) (fun _ h_ => h_.1)))); (case side2 => exact (Kd.R_reads' HO115.out).2.1); (case side3 => refine (Kd.R_reads' (e := 63) (base := w.heap.size) (ok := fun k_ => (True ∧ some k_ ≠ (.slice Ao35 t113.length co35 : Value).ownBlock)) (n := t104.length) (c := co12) ?_).2.2; exact (by (with_reducible repeat (first | apply Kd.R_alloc | apply Kd.R_drewN | apply Kd.R_drew)); exact (Kd.R_mono (Kd.R_far (p := ⟨gb117, 1, none⟩) (Kd.R_far (p := ⟨gb117, 0, none⟩) (Kd.R_types HO_109001.out BK117.out (by decide)) (fun _ hk => hk.2) (.bool t112)) (fun _ hk => hk.2) (.slice Ao35 t113.length co35)) (fun _ h_ => h_.1)))); (case side4 => exact (Kd.R_reads' HO_109001.out).2.1); rintro e w53 ⟨rfl, hb⟩; have n0_ := Aside0.mk (Kd.R_below (by (with_reducible repeat (first | apply Kd.R_alloc | apply Kd.R_drewN | apply Kd.R_drew)); exact (Kd.R_mono (Kd.R_far (p := ⟨gb117, 1, none⟩) (Kd.R_far (p := ⟨gb117, 0, none⟩) (Kd.R_types HO_109001.out BK117.out (by decide)) (fun _ hk => hk.2) (.bool t112)) (fun _ hk => hk.2) (.slice Ao35 t113.length co35)) (fun _ h_ => h_.1))) hb); have n1_ := Aside0.mk (Kd.R_below (by (with_reducible repeat (first | apply Kd.R_alloc | apply Kd.R_drewN | apply Kd.R_drew)); exact (Kd.R_mono (Kd.R_far (p := ⟨gb117, 1, none⟩) (Kd.R_far (p := ⟨gb117, 0, none⟩) (Kd.R_types HO115.out BK117.out (by decide)) (fun _ hk => hk.2) (.bool t112)) (fun _ hk => hk.2) (.slice Ao35 t113.length co35)) (fun _ h_ => h_.1))) hb); have n2_ := Aside0.mk (blk_below (g := gb102) (o := .cells #[.bool a0_0, .slice A0_1 l0_1.length c0_1] 25 (0, 0)) (by (with_reducible repeat (first | refine blk_drewN ?_ _ | refine blk_drew ?_ | refine blk_alloc ?_ _)); refine blk_far ?_ NB102_117.out _; (with_reducible repeat (first | refine blk_drewN ?_ _ | refine blk_drew ?_ | refine blk_alloc ?_ _)); refine blk_far ?_ NB102_117.out _; (with_reducible repeat (first | refine blk_drewN ?_ _ | refine blk_drew ?_ | refine blk_alloc ?_ _)); exact BK102.out) hb); have n3_ := Aside0.mk (blk_below (g := gb108) (o := .cells #[.bool t103, .slice Ao12 t104.length co12] 25 (0, 0)) (by (with_reducible repeat (first | refine blk_drewN ?_ _ | refine blk_drew ?_ | refine blk_alloc ?_ _)); refine blk_far ?_ NB108_117.out _; (with_reducible repeat (first | refine blk_drewN ?_ _ | refine blk_drew ?_ | refine blk_alloc ?_ _)); refine blk_far ?_ NB108_117.out _; (with_reducible repeat (first | refine blk_drewN ?_ _ | refine blk_drew ?_ | refine blk_alloc ?_ _)); exact BK108.out) hb); have n4_ := Aside0.mk (blk_below (g := gb117) (o := .cells #[.bool t112, .slice Ao35 t113.length co35] 25 (0, 0)) (by (with_reducible repeat (first | refine blk_drewN ?_ _ | refine blk_drew ?_ | refine blk_alloc ?_ _)); refine blk_put (cs := #[.bool t112, .slice none 0 0]) ?_ 1 _ rfl; (with_reducible repeat (first | refine blk_drewN ?_ _ | refine blk_drew ?_ | refine blk_alloc ?_ _)); refine blk_put (cs := #[.bool false, .slice none 0 0]) ?_ 0 _ rfl; (with_reducible repeat (first | refine blk_drewN ?_ _ | refine blk_drew ?_ | refine blk_alloc ?_ _)); exact BK117.out) hb); have n5_ := Aside0.mk (below_step (by repeat (first | (with_reducible first | exact HB.out | apply below_alloc | apply pw_below_drewN | apply below_drew1 | refine qs ?_ (by assumption)) | exact HB.out)) hb); clear HO_109001; clear HO115; clear BK102; clear BK108; clear BK117; clear HB; have HO_109001 := n0_; have HO115 := n1_; have BK102 := n2_; have BK108 := n3_; have BK117 := n4_; have HB := n5_; clear n0_ n1_ n2_ n3_ n4_ n5_; (try clear hb); (try clear hb2); (try clear hk); (try clear hi)))
              repeat (go_quiet (first | (go_at_call 17; (with_reducible refine (moraineref02_Same.calls t112 _ _ t113 t103 _ _ t104 false _ ?side1 ?side2 ?side3 ?side4 A37.out).mono ?_); (case side1 => refine (Kd.R_reads' (e := 63) (base := w.heap.size) (ok := fun k_ => (True ∧ some k_ ≠ (.slice Ao12 t104.length co12 : Value).ownBlock)) (n := t113.length) (c := co35) ?_).2.2; exact (by (with_reducible repeat (first | apply Kd.R_alloc | apply Kd.R_drewN | apply Kd.R_drew)); exact (Kd.R_mono (Kd.R_far (p := ⟨gb117, 1, none⟩) (Kd.R_far (p := ⟨gb117, 0, none⟩) (Kd.R_types HO115.out BK117.out (by decide)) (fun _ hk => hk.2) (.bool t112)) (fun _ hk => hk.2) (.slice Ao35 t113.length co35)) (fun _ h_ => h_.1)))); (case side2 => exact (Kd.R_reads' HO115.out).2.1); (case side3 => refine (Kd.R_reads' (e := 63) (base := w.heap.size) (ok := fun k_ => (True ∧ some k_ ≠ (.slice Ao35 t113.length co35 : Value).ownBlock)) (n := t104.length) (c := co12) ?_).2.2; exact (by (with_reducible repeat (first | apply Kd.R_alloc | apply Kd.R_drewN | apply Kd.R_drew)); exact (Kd.R_mono (Kd.R_far (p := ⟨gb117, 1, none⟩) (Kd.R_far (p := ⟨gb117, 0, none⟩) (Kd.R_types HO_109001.out BK117.out (by decide)) (fun _ hk => hk.2) (.bool t112)) (fun _ hk => hk.2) (.slice Ao35 t113.length co35)) (fun _ h_ => h_.1)))); (case side4 => exact (Kd.R_reads' HO_109001.out).2.1); rintro e w53 ⟨rfl, hb⟩; have n0_ := Aside0.mk (Kd.R_below (by (with_reducible repeat (first | apply Kd.R_alloc | apply Kd.R_drewN | apply Kd.R_drew)); exact (Kd.R_mono (Kd.R_far (p := ⟨gb117, 1, none⟩) (Kd.R_far (p := ⟨gb117, 0, none⟩) (Kd.R_types HO_109001.out BK117.out (by decide)) (fun _ hk => hk.2) (.bool t112)) (fun _ hk => hk.2) (.slice Ao35 t113.length co35)) (fun _ h_ => h_.1))) hb); have n1_ := Aside0.mk (Kd.R_below (by (with_reducible repeat (first | apply Kd.R_alloc | apply Kd.R_drewN | apply Kd.R_drew)); exact (Kd.R_mono (Kd.R_far (p := ⟨gb117, 1, none⟩) (Kd.R_far (p := ⟨gb117, 0, none⟩) (Kd.R_types HO115.out BK117.out (by decide)) (fun _ hk => hk.2) (.bool t112)) (fun _ hk => hk.2) (.slice Ao35 t113.length co35)) (fun _ h_ => h_.1))) hb); have n2_ := Aside0.mk (blk_below (g := gb102) (o := .cells #[.bool a0_0, .slice A0_1 l0_1.length c0_1] 25 (0, 0)) (by (with_reducible repeat (first | refine blk_drewN ?_ _ | refine blk_drew ?_ | refine blk_alloc ?_ _)); refine blk_far ?_ NB102_117.out _; (with_reducible repeat (first | refine blk_drewN ?_ _ | refine blk_drew ?_ | refine blk_alloc ?_ _)); refine blk_far ?_ NB102_117.out _; (with_reducible repeat (first | refine blk_drewN ?_ _ | refine blk_drew ?_ | refine blk_alloc ?_ _)); exact BK102.out) hb); have n3_ := Aside0.mk (blk_below (g := gb108) (o := .cells #[.bool t103, .slice Ao12 t104.length co12] 25 (0, 0)) (by (with_reducible repeat (first | refine blk_drewN ?_ _ | refine blk_drew ?_ | refine blk_alloc ?_ _)); refine blk_far ?_ NB108_117.out _; (with_reducible repeat (first | refine blk_drewN ?_ _ | refine blk_drew ?_ | refine blk_alloc ?_ _)); refine blk_far ?_ NB108_117.out _; (with_reducible repeat (first | refine blk_drewN ?_ _ | refine blk_drew ?_ | refine blk_alloc ?_ _)); exact BK108.out) hb); have n4_ := Aside0.mk (blk_below (g := gb117) (o := .cells #[.bool t112, .slice Ao35 t113.length co35] 25 (0, 0)) (by (with_reducible repeat (first | refine blk_drewN ?_ _ | refine blk_drew ?_ | refine blk_alloc ?_ _)); refine blk_put (cs := #[.bool t112, .slice none 0 0]) ?_ 1 _ rfl; (with_reducible repeat (first | refine blk_drewN ?_ _ | refine blk_drew ?_ | refine blk_alloc ?_ _)); refine blk_put (cs := #[.bool false, .slice none 0 0]) ?_ 0 _ rfl; (with_reducible repeat (first | refine blk_drewN ?_ _ | refine blk_drew ?_ | refine blk_alloc ?_ _)); exact BK117.out) hb); have n5_ := Aside0.mk (below_step (by repeat (first | (with_reducible first | exact HB.out | apply below_alloc | apply pw_below_drewN | apply below_drew1 | refine qs ?_ (by assumption)) | exact HB.out)) hb); clear HO_109001; clear HO115; clear BK102; clear BK108; clear BK117; clear HB; have HO_109001 := n0_; have HO115 := n1_; have BK102 := n2_; have BK108 := n3_; have BK117 := n4_; have HB := n5_; clear n0_ n1_ n2_ n3_ n4_ n5_; (try clear hb); (try clear hb2); (try clear hk); (try clear hi))); try go_wp2_with (first | (go_at_call 17; (with_reducible refine (moraineref02_Same.calls t112 _ _ t113 t103 _ _ t104 false _ ?side1 ?side2 ?side3 ?side4 A37.out).mono ?_); (case side1 => refine (Kd.R_reads' (e := 63) (base := w.heap.size) (ok := fun k_ => (True ∧ some k_ ≠ (.slice Ao12 t104.length co12 : Value).ownBlock)) (n := t113.length) (c := co35) ?_).2.2; exact (by (with_reducible repeat (first | apply Kd.R_alloc | apply Kd.R_drewN | apply Kd.R_drew)); exact (Kd.R_mono (Kd.R_far (p := ⟨gb117, 1, none⟩) (Kd.R_far (p := ⟨gb117, 0, none⟩) (Kd.R_types HO115.out BK117.out (by decide)) (fun _ hk => hk.2) (.bool t112)) (fun _ hk => hk.2) (.slice Ao35 t113.length co35)) (fun _ h_ => h_.1)))); (case side2 => exact (Kd.R_reads' HO115.out).2.1); (case side3 => refine (Kd.R_reads' (e := 63) (base := w.heap.size) (ok := fun k_ => (True ∧ some k_ ≠ (.slice Ao35 t113.length co35 : Value).ownBlock)) (n := t104.length) (c := co12) ?_).2.2; exact (by (with_reducible repeat (first | apply Kd.R_alloc | apply Kd.R_drewN | apply Kd.R_drew)); exact (Kd.R_mono (Kd.R_far (p := ⟨gb117, 1, none⟩) (Kd.R_far (p := ⟨gb117, 0, none⟩) (Kd.R_types HO_109001.out BK117.out (by decide)) (fun _ hk => hk.2) (.bool t112)) (fun _ hk => hk.2) (.slice Ao35 t113.length co35)) (fun _ h_ => h_.1)))); (case side4 => exact (Kd.R_reads' HO_109001.out).2.1); rintro e w53 ⟨rfl, hb⟩; have n0_ := Aside0.mk (Kd.R_below (by (with_reducible repeat (first | apply Kd.R_alloc | apply Kd.R_drewN | apply Kd.R_drew)); exact (Kd.R_mono (Kd.R_far (p := ⟨gb117, 1, none⟩) (Kd.R_far (p := ⟨gb117, 0, none⟩) (Kd.R_types HO_109001.out BK117.out (by decide)) (fun _ hk => hk.2) (.bool t112)) (fun _ hk => hk.2) (.slice Ao35 t113.length co35)) (fun _ h_ => h_.1))) hb); have n1_ := Aside0.mk (Kd.R_below (by (with_reducible repeat (first | apply Kd.R_alloc | apply Kd.R_drewN | apply Kd.R_drew)); exact (Kd.R_mono (Kd.R_far (p := ⟨gb117, 1, none⟩) (Kd.R_far (p := ⟨gb117, 0, none⟩) (Kd.R_types HO115.out BK117.out (by decide)) (fun _ hk => hk.2) (.bool t112)) (fun _ hk => hk.2) (.slice Ao35 t113.length co35)) (fun _ h_ => h_.1))) hb); have n2_ := Aside0.mk (blk_below (g := gb102) (o := .cells #[.bool a0_0, .slice A0_1 l0_1.length c0_1] 25 (0, 0)) (by (with_reducible repeat (first | refine blk_drewN ?_ _ | refine blk_drew ?_ | refine blk_alloc ?_ _)); refine blk_far ?_ NB102_117.out _; (with_reducible repeat (first | refine blk_drewN ?_ _ | refine blk_drew ?_ | refine blk_alloc ?_ _)); refine blk_far ?_ NB102_117.out _; (with_reducible repeat (first | refine blk_drewN ?_ _ | refine blk_drew ?_ | refine blk_alloc ?_ _)); exact BK102.out) hb); have n3_ := Aside0.mk (blk_below (g := gb108) (o := .cells #[.bool t103, .slice Ao12 t104.length co12] 25 (0, 0)) (by (with_reducible repeat (first | refine blk_drewN ?_ _ | refine blk_drew ?_ | refine blk_alloc ?_ _)); refine blk_far ?_ NB108_117.out _; (with_reducible repeat (first | refine blk_drewN ?_ _ | refine blk_drew ?_ | refine blk_alloc ?_ _)); refine blk_far ?_ NB108_117.out _; (with_reducible repeat (first | refine blk_drewN ?_ _ | refine blk_drew ?_ | refine blk_alloc ?_ _)); exact BK108.out) hb); have n4_ := Aside0.mk (blk_below (g := gb117) (o := .cells #[.bool t112, .slice Ao35 t113.length co35] 25 (0, 0)) (by (with_reducible repeat (first | refine blk_drewN ?_ _ | refine blk_drew ?_ | refine blk_alloc ?_ _)); refine blk_put (cs := #[.bool t112, .slice none 0 0]) ?_ 1 _ rfl; (with_reducible repeat (first | refine blk_drewN ?_ _ | refine blk_drew ?_ | refine blk_alloc ?_ _)); refine blk_put (cs := #[.bool false, .slice none 0 0]) ?_ 0 _ rfl; (with_reducible repeat (first | refine blk_drewN ?_ _ | refine blk_drew ?_ | refine blk_alloc ?_ _)); exact BK117.out) hb); have n5_ := Aside0.mk (below_step (by repeat (first | (with_reducible first | exact HB.out | apply below_alloc | apply pw_below_drewN | apply below_drew1 | refine qs ?_ (by assumption)) | exact HB.out)) hb); clear HO_109001; clear HO115; clear BK102; clear BK108; clear BK117; clear HB; have HO_109001 := n0_; have HO115 := n1_; have BK102 := n2_; have BK108 := n3_; have BK117 := n4_; have HB := n5_; clear n0_ n1_ n2_ n3_ n4_ n5_; (try clear hb); (try clear hb2); (try clear hk); (try clear hi))))
              go_meet
              case rel => exact ⟨_, (true), (by first | rfl | (simp; done) | (simp [*]; done)), H', ⟨by have := HJ4.out; first | omega | exact Nat.le_refl _⟩, ⟨by (with_reducible repeat (first | apply Kd.R_alloc | apply Kd.R_drewN | apply Kd.R_drew)); exact Kd.R_mono HO_109001.out (fun _ hk => hk.2)⟩, ⟨by (with_reducible repeat (first | apply Kd.R_alloc | apply Kd.R_drewN | apply Kd.R_drew)); exact Kd.R_mono HO115.out (fun _ hk => hk.2)⟩, ⟨qk BK102⟩, ⟨qk BK108⟩, ⟨qk BK117⟩, ⟨by repeat (first | (with_reducible first | exact HB.out | apply below_alloc | apply pw_below_drewN | apply below_drew1 | refine qs ?_ (by assumption)) | exact HB.out)⟩⟩
          · rw [if_neg c36] at H
            have c36b0 : (t116 == 0) = false := beq_eq_false_iff_ne.mpr c36
            have c36b1 : (t116 != 0) = true := bne_iff_ne.mpr c36
            (first | rw [c36b0] | (simp only [i64_w, i32_w]; rw [c36b0]) | skip)
            have H' := Aside0.mk H
            clear H
            go_wp2
            repeat (go_quiet (fail); try go_wp2)
            go_meet
            case rel => exact ⟨_, (true), (by first | rfl | (simp; done) | (simp [*]; done)), H', ⟨by have := HJ4.out; first | omega | exact Nat.le_refl _⟩, ⟨by (with_reducible repeat (first | apply Kd.R_alloc | apply Kd.R_drewN | apply Kd.R_drew)); exact Kd.R_mono (Kd.R_far (p := ⟨gb117, 1, none⟩) (Kd.R_far (p := ⟨gb117, 0, none⟩) (Kd.R_types HO_109001.out BK117.out (by decide)) (fun _ hk => hk.2) (.bool t112)) (fun _ hk => hk.2) (.slice Ao35 t113.length co35)) (fun _ hk => hk.1.2)⟩, ⟨by (with_reducible repeat (first | apply Kd.R_alloc | apply Kd.R_drewN | apply Kd.R_drew)); exact Kd.R_mono (Kd.R_far (p := ⟨gb117, 1, none⟩) (Kd.R_far (p := ⟨gb117, 0, none⟩) (Kd.R_types HO115.out BK117.out (by decide)) (fun _ hk => hk.2) (.bool t112)) (fun _ hk => hk.2) (.slice Ao35 t113.length co35)) (fun _ hk => hk.1.2)⟩, ⟨by (with_reducible repeat (first | refine blk_drewN ?_ _ | refine blk_drew ?_ | refine blk_alloc ?_ _)); refine blk_far ?_ NB102_117.out _; (with_reducible repeat (first | refine blk_drewN ?_ _ | refine blk_drew ?_ | refine blk_alloc ?_ _)); refine blk_far ?_ NB102_117.out _; (with_reducible repeat (first | refine blk_drewN ?_ _ | refine blk_drew ?_ | refine blk_alloc ?_ _)); exact BK102.out⟩, ⟨by (with_reducible repeat (first | refine blk_drewN ?_ _ | refine blk_drew ?_ | refine blk_alloc ?_ _)); refine blk_far ?_ NB108_117.out _; (with_reducible repeat (first | refine blk_drewN ?_ _ | refine blk_drew ?_ | refine blk_alloc ?_ _)); refine blk_far ?_ NB108_117.out _; (with_reducible repeat (first | refine blk_drewN ?_ _ | refine blk_drew ?_ | refine blk_alloc ?_ _)); exact BK108.out⟩, ⟨by (with_reducible repeat (first | refine blk_drewN ?_ _ | refine blk_drew ?_ | refine blk_alloc ?_ _)); refine blk_put (cs := #[.bool t112, .slice none 0 0]) ?_ 1 _ rfl; (with_reducible repeat (first | refine blk_drewN ?_ _ | refine blk_drew ?_ | refine blk_alloc ?_ _)); refine blk_put (cs := #[.bool false, .slice none 0 0]) ?_ 0 _ rfl; (with_reducible repeat (first | refine blk_drewN ?_ _ | refine blk_drew ?_ | refine blk_alloc ?_ _)); exact BK117.out⟩, ⟨by repeat (first | (with_reducible first | exact HB.out | apply below_alloc | apply pw_below_drewN | apply below_drew1 | refine qs ?_ (by assumption)) | exact HB.out)⟩⟩
        case rest =>
          clear HC26
          try clear c1
          try clear c2
          try clear p2
          try clear c3
          try clear c4
          try clear c5
          try clear c9
          try clear c10
          try clear c14
          try clear c15
          try clear c18
          try clear c21
          try clear c27
          try clear c32
          try clear c33
          try clear c36
          try clear c36b0
          try clear c36b1
          try clear c38
          try clear c40
          try clear c41
          try clear c43
          try clear c48
          try clear c49
          try clear c51
          try clear hcz11_0
          try clear hcz11_1
          try clear hcz16_0
          try clear hcz16_1
          try clear hcz19_0
          try clear hcz19_1
          try clear hcz28_0
          try clear hcz28_1
          try clear hcz34_0
          try clear hcz34_1
          try clear hcz42_0
          try clear hcz42_1
          try clear hcz44_0
          try clear hcz44_1
          try clear hcz46_0
          try clear hcz46_1
          try clear hcz50_0
          try clear hcz50_1
          try clear hcz52_0
          try clear hcz52_1
          try clear hcz7_0
          try clear hcz7_1
          try clear hfz11_0
          try clear hfz11_1
          try clear hfz16_0
          try clear hfz16_1
          try clear hfz19_0
          try clear hfz19_1
          try clear hfz28_0
          try clear hfz28_1
          try clear hfz34_0
          try clear hfz34_1
          try clear hfz42_0
          try clear hfz42_1
          try clear hfz44_0
          try clear hfz44_1
          try clear hfz46_0
          try clear hfz46_1
          try clear hfz50_0
          try clear hfz50_1
          try clear hfz52_0
          try clear hfz52_1
          try clear hfz7_0
          try clear hfz7_1
          try clear p2
          obtain ⟨kq, x52_25, rfl, HA, HJ25, HO_109001, HO_118001, BK102, BK108, BK117, HB⟩ := hcut
          cases kq with
          | zero => exact absurd HA.out (by simp [morainelaw02_NumBack.j1])
          | succ kj25 =>
            have H := HA.out
            clear HA
            simp only [morainelaw02_NumBack.j1] at H
            by_cases c54 : x52_25 = true
            · subst c54
              have H1 : (some false) = some r := by rw [if_pos rfl] at H; exact H
              clear H
              have H := H1
              clear H1
              exact absurd ((Option.some.inj H).trans hr) (by decide)
            · replace c54 := Bool.eq_false_iff.mpr c54
              subst c54
              have H1 : ((num_Sign.f t103 t104).bind fun t120 => (if t120 < 0 then (if 1 ≤ (t111.size : Int) then (morainelaw02_NumBack.j2 kj25 a1 a2 (⟨#[45]⟩ : ByteArray) (t111.extract 1 t111.size) t103 t104) else (none)) else (morainelaw02_NumBack.j2 kj25 a1 a2 (⟨#[43]⟩ : ByteArray) t111 t103 t104))) = some r := by rw [if_neg (show ¬ (false = true) by decide)] at H; exact H
              clear H
              have H := H1
              clear H1
              replace H := Option.bind_eq_some_iff.mp H
              obtain ⟨t120, A550, H⟩ := H
              replace H : (if t120 < 0 then (if 1 ≤ (t111.size : Int) then (morainelaw02_NumBack.j2 kj25 a1 a2 (⟨#[45]⟩ : ByteArray) (t111.extract 1 t111.size) t103 t104) else (none)) else (morainelaw02_NumBack.j2 kj25 a1 a2 (⟨#[43]⟩ : ByteArray) t111 t103 t104)) = some r := H
              have A55 := Aside0.mk A550
              clear A550
              have HC56 := Aside0.mk H
              clear H
              have hnb57 := NB108_102.out
              have hnc57 := NB102_108.out
              have hnb58 := NB108_117.out
              have hnc58 := NB117_108.out
              have hcz59_0 : wc.cell? ⟨gb108, 0, none⟩ = some (.bool t103) := (blk_cell BK108.out 0).trans rfl
              have hcz59_1 : wc.cell? ⟨gb108, 1, none⟩ = some (.slice Ao12 t104.length co12) := (blk_cell BK108.out 1).trans rfl
              have hfz59_0 := blk_frozen BK108.out 0
              have hfz59_1 := blk_frozen BK108.out 1
              go_upto_if 56 with (first | (go_at_call 39; (with_reducible refine (num_Sign.calls t103 _ _ t104 t120 _ ?side1 ?side2 A55.out).mono ?_); (case side1 => repeat (first | exact (Kd.R_reads' HO_109001.out).2.2 | (with_reducible refine Kd.C_alloc ?_ _) | (with_reducible refine Kd.C_drewN ?_ _) | (with_reducible refine Kd.C_drew ?_))); (case side2 => exact (Kd.R_reads' HO_109001.out).2.1); rintro e w60 ⟨rfl, hb⟩; replace HO_109001 := qr HO_109001 hb; replace HO_118001 := qr HO_118001 hb; replace BK102 := qb BK102 hb; replace BK108 := qb BK108 hb; replace BK117 := qb BK117 hb; replace HB := Aside0.mk (below_step (by repeat (first | (with_reducible first | exact HB.out | apply below_alloc | apply pw_below_drewN | apply below_drew1 | refine qs ?_ (by assumption)) | exact HB.out)) hb); (try clear hb); (try clear hb2); (try clear hk); (try clear hi)))
              repeat (go_quiet (first | (go_at_call 39; (with_reducible refine (num_Sign.calls t103 _ _ t104 t120 _ ?side1 ?side2 A55.out).mono ?_); (case side1 => repeat (first | exact (Kd.R_reads' HO_109001.out).2.2 | (with_reducible refine Kd.C_alloc ?_ _) | (with_reducible refine Kd.C_drewN ?_ _) | (with_reducible refine Kd.C_drew ?_))); (case side2 => exact (Kd.R_reads' HO_109001.out).2.1); rintro e w60 ⟨rfl, hb⟩; replace HO_109001 := qr HO_109001 hb; replace HO_118001 := qr HO_118001 hb; replace BK102 := qb BK102 hb; replace BK108 := qb BK108 hb; replace BK117 := qb BK117 hb; replace HB := Aside0.mk (below_step (by repeat (first | (with_reducible first | exact HB.out | apply below_alloc | apply pw_below_drewN | apply below_drew1 | refine qs ?_ (by assumption)) | exact HB.out)) hb); (try clear hb); (try clear hb2); (try clear hk); (try clear hi))); go_upto_if 56 with (first | (go_at_call 39; (with_reducible refine (num_Sign.calls t103 _ _ t104 t120 _ ?side1 ?side2 A55.out).mono ?_); (case side1 => repeat (first | exact (Kd.R_reads' HO_109001.out).2.2 | (with_reducible refine Kd.C_alloc ?_ _) | (with_reducible refine Kd.C_drewN ?_ _) | (with_reducible refine Kd.C_drew ?_))); (case side2 => exact (Kd.R_reads' HO_109001.out).2.1); rintro e w60 ⟨rfl, hb⟩; replace HO_109001 := qr HO_109001 hb; replace HO_118001 := qr HO_118001 hb; replace BK102 := qb BK102 hb; replace BK108 := qb BK108 hb; replace BK117 := qb BK117 hb; replace HB := Aside0.mk (below_step (by repeat (first | (with_reducible first | exact HB.out | apply below_alloc | apply pw_below_drewN | apply below_drew1 | refine qs ?_ (by assumption)) | exact HB.out)) hb); (try clear hb); (try clear hb2); (try clear hk); (try clear hi))))
              (try simp only [Act.put, List.setIfInBounds_toArray, List.set_cons_zero, List.set_cons_succ])
              go_cut [12, 13] (fun v12 v13 wc => ∃ (kq : Nat) (x12_55 : ByteArray) (x13_55 : ByteArray), v12 = .string x12_55 ∧ v13 = .string x13_55 ∧ Aside0 (morainelaw02_NumBack.j2 kq a1 a2 x12_55 x13_55 t103 t104 = some r) ∧ Aside0 (kq ≤ kj25) ∧ Aside0 (Kd.R (Kd.int .u32) 63 wc w.heap.size (fun k_ => some k_ ≠ ((.slice Ao35 t113.length co35) : Value).ownBlock) (.slice Ao12 t104.length co12) t104) ∧ Aside0 (Kd.R (Kd.int .u32) 63 wc w.heap.size (fun k_ => some k_ ≠ ((.slice Ao12 t104.length co12) : Value).ownBlock) (.slice Ao35 t113.length co35) t113) ∧ Aside0 (wc.heap[gb102]? = some (.cells #[.bool a0_0, (.slice A0_1 l0_1.length c0_1)] 25 (0, 0))) ∧ Aside0 (wc.heap[gb108]? = some (.cells #[.bool t103, (.slice Ao12 t104.length co12)] 25 (0, 0))) ∧ Aside0 (wc.heap[gb117]? = some (.cells #[.bool t112, (.slice Ao35 t113.length co35)] 25 (0, 0))) ∧ Aside0 (Below w.heap.size w wc))
              case first =>
                have H := HC56.out
                clear HC56
                by_cases c61 : t120 < 0
                · rw [if_pos c61] at H
                  have c61b0 : decide (t120 < 0) = true := decide_eq_true c61
                  clear c61
                  (first | rw [c61b0] | (simp only [i64_w, i32_w]; rw [c61b0]) | skip)
                  by_cases c62 : 1 ≤ (t111.size : Int)
                  · rw [if_pos c62] at H
                    have c62b0 := eq_true c62
                    have c62b1 : decide (1 ≤ (t111.size : Int)) = true := decide_eq_true c62
                    clear c62
                    have H' := Aside0.mk H
                    clear H
                    go_wp2
                    repeat (go_quiet (fail); try go_wp2)
                    go_meet
                    case rel => exact ⟨_, ((⟨#[45]⟩ : ByteArray)), (t111.extract 1 t111.size), (by first | rfl | (simp; done) | (simp [*]; done)), (by first | rfl | (simp; done) | (simp [*]; done)), H', ⟨by have := HJ4.out; have := HJ25.out; first | omega | exact Nat.le_refl _⟩, ⟨qq HO_109001⟩, ⟨qq HO_118001⟩, ⟨qk BK102⟩, ⟨qk BK108⟩, ⟨qk BK117⟩, ⟨by repeat (first | (with_reducible first | exact HB.out | apply below_alloc | apply pw_below_drewN | apply below_drew1 | refine qs ?_ (by assumption)) | exact HB.out)⟩⟩
                  · rw [if_neg c62] at H
                    exact absurd H (by simp)
                · rw [if_neg c61] at H
                  have c61b0 : decide (t120 < 0) = false := decide_eq_false c61
                  clear c61
                  (first | rw [c61b0] | (simp only [i64_w, i32_w]; rw [c61b0]) | skip)
                  have H' := Aside0.mk H
                  clear H
                  go_wp2
                  repeat (go_quiet (fail); try go_wp2)
                  go_meet
                  case rel => exact ⟨_, ((⟨#[43]⟩ : ByteArray)), (t111), (by first | rfl | (simp; done) | (simp [*]; done)), (by first | rfl | (simp; done) | (simp [*]; done)), H', ⟨by have := HJ4.out; have := HJ25.out; first | omega | exact Nat.le_refl _⟩, ⟨qq HO_109001⟩, ⟨qq HO_118001⟩, ⟨qk BK102⟩, ⟨qk BK108⟩, ⟨qk BK117⟩, ⟨by repeat (first | (with_reducible first | exact HB.out | apply below_alloc | apply pw_below_drewN | apply below_drew1 | refine qs ?_ (by assumption)) | exact HB.out)⟩⟩
              case rest =>
                clear HC56
                try clear c1
                try clear c2
                try clear p2
                try clear c3
                try clear c4
                try clear c5
                try clear c6
                try clear c9
                try clear c10
                try clear c14
                try clear c15
                try clear c18
                try clear c21
                try clear c27
                try clear c32
                try clear c33
                try clear c36
                try clear c36b0
                try clear c36b1
                try clear c38
                try clear c40
                try clear c41
                try clear c43
                try clear c48
                try clear c49
                try clear c51
                try clear c54
                try clear c57
                try clear c58
                try clear c61
                try clear c61b0
                try clear c62
                try clear c62b0
                try clear c62b1
                try clear hcz11_0
                try clear hcz11_1
                try clear hcz16_0
                try clear hcz16_1
                try clear hcz19_0
                try clear hcz19_1
                try clear hcz28_0
                try clear hcz28_1
                try clear hcz34_0
                try clear hcz34_1
                try clear hcz42_0
                try clear hcz42_1
                try clear hcz44_0
                try clear hcz44_1
                try clear hcz46_0
                try clear hcz46_1
                try clear hcz50_0
                try clear hcz50_1
                try clear hcz52_0
                try clear hcz52_1
                try clear hcz59_0
                try clear hcz59_1
                try clear hcz7_0
                try clear hcz7_1
                try clear hfz11_0
                try clear hfz11_1
                try clear hfz16_0
                try clear hfz16_1
                try clear hfz19_0
                try clear hfz19_1
                try clear hfz28_0
                try clear hfz28_1
                try clear hfz34_0
                try clear hfz34_1
                try clear hfz42_0
                try clear hfz42_1
                try clear hfz44_0
                try clear hfz44_1
                try clear hfz46_0
                try clear hfz46_1
                try clear hfz50_0
                try clear hfz50_1
                try clear hfz52_0
                try clear hfz52_1
                try clear hfz59_0
                try clear hfz59_1
                try clear hfz7_0
                try clear hfz7_1
                try clear p2
                obtain ⟨kq, x12_55, x13_55, rfl, rfl, HA, HJ55, HO_109001, HO_118001, BK102, BK108, BK117, HB⟩ := hcut
                cases kq with
                | zero => exact absurd HA.out (by simp [morainelaw02_NumBack.j2])
                | succ kj55 =>
                  have H := HA.out
                  clear HA
                  simp only [morainelaw02_NumBack.j2] at H
                  have H' := Aside0.mk H
                  clear H
                  go_wp2
                  repeat (go_quiet (fail); try go_wp2)
                  go_loopg [13, 14] kj55 (fun kq v13 v14 w' => ∃ (x13_4 : ByteArray) (x14_4 : Int), v13 = .string x13_4 ∧ v14 = .int .i64 x14_4 ∧ Aside0 (morainelaw02_NumBack.l0 kq a1 a2 x12_55 x13_4 x14_4 t103 t104 = some r) ∧ Aside0 (kq ≤ kj55) ∧ Aside0 (Kd.R (Kd.int .u32) 63 w' w.heap.size (fun k_ => some k_ ≠ ((.slice Ao35 t113.length co35) : Value).ownBlock) (.slice Ao12 t104.length co12) t104) ∧ Aside0 (Kd.R (Kd.int .u32) 63 w' w.heap.size (fun k_ => some k_ ≠ ((.slice Ao12 t104.length co12) : Value).ownBlock) (.slice Ao35 t113.length co35) t113) ∧ Aside0 (w'.heap[gb102]? = some (.cells #[.bool a0_0, (.slice A0_1 l0_1.length c0_1)] 25 (0, 0))) ∧ Aside0 (w'.heap[gb108]? = some (.cells #[.bool t103, (.slice Ao12 t104.length co12)] 25 (0, 0))) ∧ Aside0 (w'.heap[gb117]? = some (.cells #[.bool t112, (.slice Ao35 t113.length co35)] 25 (0, 0))) ∧ Aside0 (Below w.heap.size w w'))
                  case atStart => exact ⟨(x13_55), (0), (by first | rfl | (simp; done) | (simp [*]; done)), (by first | rfl | (simp; done) | (simp [*]; done)), H', ⟨Nat.le_refl _⟩, ⟨qq HO_109001⟩, ⟨qq HO_118001⟩, ⟨qk BK102⟩, ⟨qk BK108⟩, ⟨qk BK117⟩, ⟨by repeat (first | (with_reducible first | exact HB.out | apply below_alloc | apply pw_below_drewN | apply below_drew1 | refine qs ?_ (by assumption)) | exact HB.out)⟩⟩
                  case round =>
                    clear H'
                    try clear c1
                    try clear c2
                    try clear p2
                    try clear c3
                    try clear c4
                    try clear c5
                    try clear c6
                    try clear c9
                    try clear c10
                    try clear c14
                    try clear c15
                    try clear c18
                    try clear c21
                    try clear c27
                    try clear c32
                    try clear c33
                    try clear c36
                    try clear c36b0
                    try clear c36b1
                    try clear c38
                    try clear c40
                    try clear c41
                    try clear c43
                    try clear c48
                    try clear c49
                    try clear c51
                    try clear c54
                    try clear c57
                    try clear c58
                    try clear c61
                    try clear c61b0
                    try clear c62
                    try clear c62b0
                    try clear c62b1
                    try clear hcz11_0
                    try clear hcz11_1
                    try clear hcz16_0
                    try clear hcz16_1
                    try clear hcz19_0
                    try clear hcz19_1
                    try clear hcz28_0
                    try clear hcz28_1
                    try clear hcz34_0
                    try clear hcz34_1
                    try clear hcz42_0
                    try clear hcz42_1
                    try clear hcz44_0
                    try clear hcz44_1
                    try clear hcz46_0
                    try clear hcz46_1
                    try clear hcz50_0
                    try clear hcz50_1
                    try clear hcz52_0
                    try clear hcz52_1
                    try clear hcz59_0
                    try clear hcz59_1
                    try clear hcz7_0
                    try clear hcz7_1
                    try clear hfz11_0
                    try clear hfz11_1
                    try clear hfz16_0
                    try clear hfz16_1
                    try clear hfz19_0
                    try clear hfz19_1
                    try clear hfz28_0
                    try clear hfz28_1
                    try clear hfz34_0
                    try clear hfz34_1
                    try clear hfz42_0
                    try clear hfz42_1
                    try clear hfz44_0
                    try clear hfz44_1
                    try clear hfz46_0
                    try clear hfz46_1
                    try clear hfz50_0
                    try clear hfz50_1
                    try clear hfz52_0
                    try clear hfz52_1
                    try clear hfz59_0
                    try clear hfz59_1
                    try clear hfz7_0
                    try clear hfz7_1
                    try clear p2
                    obtain ⟨x13_4, x14_4, rfl, rfl, HA, HK4, HO_109001, HO_118001, BK102, BK108, BK117, HB⟩ := hrel
                    cases gk with
                    | zero => exact absurd HA.out (by simp [morainelaw02_NumBack.l0])
                    | succ k4 =>
                      have H := HA.out
                      clear HA
                      simp only [morainelaw02_NumBack.l0] at H
                      by_cases c63 : x14_4 < (Int.tmod (wrap64 (a2)) 9)
                      · rw [if_pos c63] at H
                        have c63b0 : decide (x14_4 < (Int.tmod (wrap64 (a2)) 9)) = true := decide_eq_true c63
                        clear c63
                        by_cases c64 : 1 + x13_4.size ≤ 9223372036854775807
                        · rw [if_pos c64] at H
                          have c64b0 := eq_true c64
                          have c64b1 : decide (1 + x13_4.size ≤ 9223372036854775807) = true := decide_eq_true c64
                          try have c64b2 : (9223372036854775807 < 1 + x13_4.size) = False := eq_false (Nat.not_lt.2 c64)
                          have H' := Aside0.mk H
                          clear H
                          go_wp2
                          repeat (go_quiet (fail); try go_wp2)
                          go_roundg k4
                          case measure => have := HJ4.out; have := HJ25.out; have := HJ55.out; have := HK4.out; omega
                          case rel => exact ⟨((⟨#[48]⟩ : ByteArray) ++ x13_4), (wrap64 (x14_4 + 1)), (by first | rfl | (simp; done) | (simp [*]; done)), (by first | rfl | (simp; done) | (simp [*]; done)), H', ⟨by have := HJ4.out; have := HJ25.out; have := HJ55.out; have := HK4.out; omega⟩, ⟨qq HO_109001⟩, ⟨qq HO_118001⟩, ⟨qk BK102⟩, ⟨qk BK108⟩, ⟨qk BK117⟩, ⟨by repeat (first | (with_reducible first | exact HB.out | apply below_alloc | apply pw_below_drewN | apply below_drew1 | refine qs ?_ (by assumption)) | exact HB.out)⟩⟩
                        · rw [if_neg c64] at H
                          exact absurd H (by simp)
                      · rw [if_neg c63] at H
                        have c63b0 : decide (x14_4 < (Int.tmod (wrap64 (a2)) 9)) = false := decide_eq_false c63
                        clear c63
                        by_cases c65 : x12_55.size + x13_4.size ≤ 9223372036854775807
                        · rw [if_pos c65] at H
                          have c65b0 := eq_true c65
                          have c65b1 : decide (x12_55.size + x13_4.size ≤ 9223372036854775807) = true := decide_eq_true c65
                          try have c65b2 : (9223372036854775807 < x12_55.size + x13_4.size) = False := eq_false (Nat.not_lt.2 c65)
                          replace H := Option.bind_eq_some_iff.mp H
                          obtain ⟨⟨t121, t122, t125⟩, A660, H⟩ := H
                          replace H : (if t125 = 0 then ((moraineref02_Same.f t121 t122 t103 t104).bind fun t127 => (morainelaw02_NumBack.j4 k4 a1 (!t127))) else (morainelaw02_NumBack.j4 k4 a1 true)) = some r := H
                          have A66 := Aside0.mk A660
                          clear A660
                          have HC67 := Aside0.mk H
                          clear H
                          go_upto_region 16 with (first | (go_at_call 25; (with_reducible refine (num_Parse.calls (x12_55 ++ x13_4) t121 t122 t125 _ A66.out).mono ?_); rintro e w68 ⟨v123, rfl, ho0, hb⟩; have HO124 := Aside0.mk (Kd.R_lower (Kd.R_new' (Kd.R_new' ho0 (ql HO_109001)) (ql HO_118001)) (below_size (by repeat (first | (with_reducible first | exact HB.out | apply below_alloc | apply pw_below_drewN | apply below_drew1 | refine qs ?_ (by assumption)) | exact HB.out)))); replace HO_109001 := qe HO_109001 ho0 hb; replace HO_118001 := qe HO_118001 ho0 hb; replace BK102 := qb BK102 hb; replace BK108 := qb BK108 hb; replace BK117 := qb BK117 hb; replace HB := Aside0.mk (below_step (by repeat (first | (with_reducible first | exact HB.out | apply below_alloc | apply pw_below_drewN | apply below_drew1 | refine qs ?_ (by assumption)) | exact HB.out)) hb); (try clear hb); (try clear hb2); (try clear hk); (try clear hi); (try clear ho0)) | ((with_reducible refine gate_dst (N := 15) rfl ?_); refine box_event ?hg (N := 15) ?hd (cs := #[.bool false, .slice none 0 0]) (t := 25) ?hr ?_; (case hd => rfl); (case hg => rfl); (case hr => first | (go_simp; done) | (go_simp; rfl)); intro gb126 hg w69 hbox hb; replace HO_109001 := qr HO_109001 hb; replace HO_118001 := qr HO_118001 hb; replace HO124 := qr HO124 hb; have BK126 := Aside0.mk (hbox); have GW126 := qg hg (by repeat (first | (with_reducible first | exact HB.out | apply below_alloc | apply pw_below_drewN | apply below_drew1 | refine qs ?_ (by assumption)) | exact HB.out)); have GE126 := qg hg (by repeat (first | (with_reducible first | exact HB.out | apply below_alloc | apply pw_below_drewN | apply below_drew1 | refine qs ?_ (by assumption)) | exact HB.out)); replace HB := Aside0.mk (below_step (by repeat (first | (with_reducible first | exact HB.out | apply below_alloc | apply pw_below_drewN | apply below_drew1 | refine qs ?_ (by assumption)) | exact HB.out)) hb); have NB102_126 := qn BK102 hg; have NB126_102 := qm BK102 hg; replace BK102 := qb BK102 hb; have NB108_126 := qn BK108 hg; have NB126_108 := qm BK108 hg; replace BK108 := qb BK108 hb; have NB117_126 := qn BK117 hg; have NB126_117 := qm BK117 hg; replace BK117 := qb BK117 hb; clear hb hbox hg; have hnb70 := NB126_102.out; have hnc70 := NB102_126.out; have hnb71 := NB126_108.out; have hnc71 := NB108_126.out; have hnb72 := NB126_117.out; have hnc72 := NB117_126.out; have hcz73_0 : w69.cell? ⟨gb126, 0, none⟩ = some (.bool false) := (blk_cell BK126.out 0).trans rfl; have hcz73_1 : w69.cell? ⟨gb126, 1, none⟩ = some (.slice none 0 0) := (blk_cell BK126.out 1).trans rfl; have hfz73_0 := blk_frozen BK126.out 0; have hfz73_1 := blk_frozen BK126.out 1; obtain ⟨Ao74, co74, eo74⟩ := Kd.R_slice HO124.out; subst eo74))
                          repeat (go_quiet (first | (go_at_call 25; (with_reducible refine (num_Parse.calls (x12_55 ++ x13_4) t121 t122 t125 _ A66.out).mono ?_); rintro e w68 ⟨v123, rfl, ho0, hb⟩; have HO124 := Aside0.mk (Kd.R_lower (Kd.R_new' (Kd.R_new' ho0 (ql HO_109001)) (ql HO_118001)) (below_size (by repeat (first | (with_reducible first | exact HB.out | apply below_alloc | apply pw_below_drewN | apply below_drew1 | refine qs ?_ (by assumption)) | exact HB.out)))); replace HO_109001 := qe HO_109001 ho0 hb; replace HO_118001 := qe HO_118001 ho0 hb; replace BK102 := qb BK102 hb; replace BK108 := qb BK108 hb; replace BK117 := qb BK117 hb; replace HB := Aside0.mk (below_step (by repeat (first | (with_reducible first | exact HB.out | apply below_alloc | apply pw_below_drewN | apply below_drew1 | refine qs ?_ (by assumption)) | exact HB.out)) hb); (try clear hb); (try clear hb2); (try clear hk); (try clear hi); (try clear ho0)) | ((with_reducible refine gate_dst (N := 15) rfl ?_); refine box_event ?hg (N := 15) ?hd (cs := #[.bool false, .slice none 0 0]) (t := 25) ?hr ?_; (case hd => rfl); (case hg => rfl); (case hr => first | (go_simp; done) | (go_simp; rfl)); intro gb126 hg w69 hbox hb; replace HO_109001 := qr HO_109001 hb; replace HO_118001 := qr HO_118001 hb; replace HO124 := qr HO124 hb; have BK126 := Aside0.mk (hbox); have GW126 := qg hg (by repeat (first | (with_reducible first | exact HB.out | apply below_alloc | apply pw_below_drewN | apply below_drew1 | refine qs ?_ (by assumption)) | exact HB.out)); have GE126 := qg hg (by repeat (first | (with_reducible first | exact HB.out | apply below_alloc | apply pw_below_drewN | apply below_drew1 | refine qs ?_ (by assumption)) | exact HB.out)); replace HB := Aside0.mk (below_step (by repeat (first | (with_reducible first | exact HB.out | apply below_alloc | apply pw_below_drewN | apply below_drew1 | refine qs ?_ (by assumption)) | exact HB.out)) hb); have NB102_126 := qn BK102 hg; have NB126_102 := qm BK102 hg; replace BK102 := qb BK102 hb; have NB108_126 := qn BK108 hg; have NB126_108 := qm BK108 hg; replace BK108 := qb BK108 hb; have NB117_126 := qn BK117 hg; have NB126_117 := qm BK117 hg; replace BK117 := qb BK117 hb; clear hb hbox hg; have hnb70 := NB126_102.out; have hnc70 := NB102_126.out; have hnb71 := NB126_108.out; have hnc71 := NB108_126.out; have hnb72 := NB126_117.out; have hnc72 := NB117_126.out; have hcz73_0 : w69.cell? ⟨gb126, 0, none⟩ = some (.bool false) := (blk_cell BK126.out 0).trans rfl; have hcz73_1 : w69.cell? ⟨gb126, 1, none⟩ = some (.slice none 0 0) := (blk_cell BK126.out 1).trans rfl; have hfz73_0 := blk_frozen BK126.out 0; have hfz73_1 := blk_frozen BK126.out 1; obtain ⟨Ao74, co74, eo74⟩ := Kd.R_slice HO124.out; subst eo74)); go_upto_region 16 with (first | (go_at_call 25; (with_reducible refine (num_Parse.calls (x12_55 ++ x13_4) t121 t122 t125 _ A66.out).mono ?_); rintro e w68 ⟨v123, rfl, ho0, hb⟩; have HO124 := Aside0.mk (Kd.R_lower (Kd.R_new' (Kd.R_new' ho0 (ql HO_109001)) (ql HO_118001)) (below_size (by repeat (first | (with_reducible first | exact HB.out | apply below_alloc | apply pw_below_drewN | apply below_drew1 | refine qs ?_ (by assumption)) | exact HB.out)))); replace HO_109001 := qe HO_109001 ho0 hb; replace HO_118001 := qe HO_118001 ho0 hb; replace BK102 := qb BK102 hb; replace BK108 := qb BK108 hb; replace BK117 := qb BK117 hb; replace HB := Aside0.mk (below_step (by repeat (first | (with_reducible first | exact HB.out | apply below_alloc | apply pw_below_drewN | apply below_drew1 | refine qs ?_ (by assumption)) | exact HB.out)) hb); (try clear hb); (try clear hb2); (try clear hk); (try clear hi); (try clear ho0)) | ((with_reducible refine gate_dst (N := 15) rfl ?_); refine box_event ?hg (N := 15) ?hd (cs := #[.bool false, .slice none 0 0]) (t := 25) ?hr ?_; (case hd => rfl); (case hg => rfl); (case hr => first | (go_simp; done) | (go_simp; rfl)); intro gb126 hg w69 hbox hb; replace HO_109001 := qr HO_109001 hb; replace HO_118001 := qr HO_118001 hb; replace HO124 := qr HO124 hb; have BK126 := Aside0.mk (hbox); have GW126 := qg hg (by repeat (first | (with_reducible first | exact HB.out | apply below_alloc | apply pw_below_drewN | apply below_drew1 | refine qs ?_ (by assumption)) | exact HB.out)); have GE126 := qg hg (by repeat (first | (with_reducible first | exact HB.out | apply below_alloc | apply pw_below_drewN | apply below_drew1 | refine qs ?_ (by assumption)) | exact HB.out)); replace HB := Aside0.mk (below_step (by repeat (first | (with_reducible first | exact HB.out | apply below_alloc | apply pw_below_drewN | apply below_drew1 | refine qs ?_ (by assumption)) | exact HB.out)) hb); have NB102_126 := qn BK102 hg; have NB126_102 := qm BK102 hg; replace BK102 := qb BK102 hb; have NB108_126 := qn BK108 hg; have NB126_108 := qm BK108 hg; replace BK108 := qb BK108 hb; have NB117_126 := qn BK117 hg; have NB126_117 := qm BK117 hg; replace BK117 := qb BK117 hb; clear hb hbox hg; have hnb70 := NB126_102.out; have hnc70 := NB102_126.out; have hnb71 := NB126_108.out; have hnc71 := NB108_126.out; have hnb72 := NB126_117.out; have hnc72 := NB117_126.out; have hcz73_0 : w69.cell? ⟨gb126, 0, none⟩ = some (.bool false) := (blk_cell BK126.out 0).trans rfl; have hcz73_1 : w69.cell? ⟨gb126, 1, none⟩ = some (.slice none 0 0) := (blk_cell BK126.out 1).trans rfl; have hfz73_0 := blk_frozen BK126.out 0; have hfz73_1 := blk_frozen BK126.out 1; obtain ⟨Ao74, co74, eo74⟩ := Kd.R_slice HO124.out; subst eo74)))
                          (try simp only [Act.put, List.setIfInBounds_toArray, List.set_cons_zero, List.set_cons_succ])
                          go_cut [82] (fun v82 wc => ∃ (kq : Nat) (x82_66 : Bool), v82 = .bool x82_66 ∧ Aside0 (morainelaw02_NumBack.j4 kq a1 x82_66 = some r) ∧ Aside0 (kq ≤ k4) ∧ Aside0 (Kd.R (Kd.int .u32) 63 wc w.heap.size (fun k_ => some k_ ≠ ((.slice Ao35 t113.length co35) : Value).ownBlock ∧ some k_ ≠ ((.slice Ao74 t122.length co74) : Value).ownBlock) (.slice Ao12 t104.length co12) t104) ∧ Aside0 (Kd.R (Kd.int .u32) 63 wc w.heap.size (fun k_ => some k_ ≠ ((.slice Ao12 t104.length co12) : Value).ownBlock ∧ some k_ ≠ ((.slice Ao74 t122.length co74) : Value).ownBlock) (.slice Ao35 t113.length co35) t113) ∧ Aside0 (Kd.R (Kd.int .u32) 63 wc w.heap.size (fun k_ => some k_ ≠ ((.slice Ao12 t104.length co12) : Value).ownBlock ∧ some k_ ≠ ((.slice Ao35 t113.length co35) : Value).ownBlock) (.slice Ao74 t122.length co74) t122) ∧ Aside0 (wc.heap[gb102]? = some (.cells #[.bool a0_0, (.slice A0_1 l0_1.length c0_1)] 25 (0, 0))) ∧ Aside0 (wc.heap[gb108]? = some (.cells #[.bool t103, (.slice Ao12 t104.length co12)] 25 (0, 0))) ∧ Aside0 (wc.heap[gb117]? = some (.cells #[.bool t112, (.slice Ao35 t113.length co35)] 25 (0, 0))) ∧ Aside0 (wc.heap[gb126]? = some (.cells #[.bool t121, (.slice Ao74 t122.length co74)] 25 (0, 0))) ∧ Aside0 (Below w.heap.size w wc))
                          case first =>
                            have H := HC67.out
                            clear HC67
                            by_cases c75 : t125 = 0
                            · rw [if_pos c75] at H
                              have c75b0 : (t125 == 0) = true := beq_iff_eq.mpr c75
                              have c75b1 : (t125 != 0) = false := bne_eq_false_iff_eq.mpr c75
                              clear c75
                              (first | rw [c75b0] | (simp only [i64_w, i32_w]; rw [c75b0]) | skip)
                              replace H := Option.bind_eq_some_iff.mp H
                              obtain ⟨t127, A760, H⟩ := H
                              replace H : (morainelaw02_NumBack.j4 k4 a1 (!t127)) = some r := H
                              have A76 := Aside0.mk A760
                              clear A760
                              have H' := Aside0.mk H
                              clear H
                              have hnb77 := NB126_102.out
                              have hnc77 := NB102_126.out
                              have hnb78 := NB126_108.out
                              have hnc78 := NB108_126.out
                              have hnb79 := NB126_117.out
                              have hnc79 := NB117_126.out
                              have hcz80_0 : w69.cell? ⟨gb126, 0, none⟩ = some (.bool false) := (blk_cell BK126.out 0).trans rfl
                              have hcz80_1 : w69.cell? ⟨gb126, 1, none⟩ = some (.slice none 0 0) := (blk_cell BK126.out 1).trans rfl
                              have hfz80_0 := blk_frozen BK126.out 0
                              have hfz80_1 := blk_frozen BK126.out 1
                              have hnb81 := NB108_102.out
                              have hnc81 := NB102_108.out
                              have hnb82 := NB108_117.out
                              have hnc82 := NB117_108.out
                              have hcz83_0 : w69.cell? ⟨gb108, 0, none⟩ = some (.bool t103) := (blk_cell BK108.out 0).trans rfl
                              have hcz83_1 : w69.cell? ⟨gb108, 1, none⟩ = some (.slice Ao12 t104.length co12) := (blk_cell BK108.out 1).trans rfl
                              have hfz83_0 := blk_frozen BK108.out 0
                              have hfz83_1 := blk_frozen BK108.out 1
                              go_wp2_with (first | (go_at_call 17; (with_reducible refine (moraineref02_Same.calls t121 _ _ t122 t103 _ _ t104 t127 _ ?side1 ?side2 ?side3 ?side4 A76.out).mono ?_); (case side1 => refine (Kd.R_reads' (e := 63) (base := w.heap.size) (ok := fun k_ => ((True ∧ some k_ ≠ (.slice Ao12 t104.length co12 : Value).ownBlock) ∧ some k_ ≠ (.slice Ao35 t113.length co35 : Value).ownBlock)) (n := t122.length) (c := co74) ?_).2.2; exact (by (with_reducible repeat (first | apply Kd.R_alloc | apply Kd.R_drewN | apply Kd.R_drew)); exact (Kd.R_mono (Kd.R_far (p := ⟨gb126, 1, none⟩) (Kd.R_far (p := ⟨gb126, 0, none⟩) (Kd.R_types HO124.out BK126.out (by decide)) (fun _ hk => hk.2) (.bool t121)) (fun _ hk => hk.2) (.slice Ao74 t122.length co74)) (fun _ h_ => h_.1)))); (case side2 => exact (Kd.R_reads' HO124.out).2.1); (case side3 => refine (Kd.R_reads' (e := 63) (base := w.heap.size) (ok := fun k_ => (some k_ ≠ (.slice Ao35 t113.length co35 : Value).ownBlock ∧ some k_ ≠ (.slice Ao74 t122.length co74 : Value).ownBlock)) (n := t104.length) (c := co12) ?_).2.2; exact (by (with_reducible repeat (first | apply Kd.R_alloc | apply Kd.R_drewN | apply Kd.R_drew)); exact (Kd.R_mono (Kd.R_far (p := ⟨gb126, 1, none⟩) (Kd.R_far (p := ⟨gb126, 0, none⟩) (Kd.R_types HO_109001.out BK126.out (by decide)) (fun _ hk => hk.2) (.bool t121)) (fun _ hk => hk.2) (.slice Ao74 t122.length co74)) (fun _ h_ => h_.1)))); (case side4 => exact (Kd.R_reads' HO_109001.out).2.1); rintro e w84 ⟨rfl, hb⟩; have n0_ := Aside0.mk (Kd.R_below (by (with_reducible repeat (first | apply Kd.R_alloc | apply Kd.R_drewN | apply Kd.R_drew)); exact (Kd.R_mono (Kd.R_far (p := ⟨gb126, 1, none⟩) (Kd.R_far (p := ⟨gb126, 0, none⟩) (Kd.R_types HO_109001.out BK126.out (by decide)) (fun _ hk => hk.2) (.bool t121)) (fun _ hk => hk.2) (.slice Ao74 t122.length co74)) (fun _ h_ => h_.1))) hb); have n1_ := Aside0.mk (Kd.R_below (by (with_reducible repeat (first | apply Kd.R_alloc | apply Kd.R_drewN | apply Kd.R_drew)); exact (Kd.R_mono (Kd.R_far (p := ⟨gb126, 1, none⟩) (Kd.R_far (p := ⟨gb126, 0, none⟩) (Kd.R_types HO_118001.out BK126.out (by decide)) (fun _ hk => hk.2) (.bool t121)) (fun _ hk => hk.2) (.slice Ao74 t122.length co74)) (fun _ h_ => h_.1))) hb); have n2_ := Aside0.mk (Kd.R_below (by (with_reducible repeat (first | apply Kd.R_alloc | apply Kd.R_drewN | apply Kd.R_drew)); exact (Kd.R_mono (Kd.R_far (p := ⟨gb126, 1, none⟩) (Kd.R_far (p := ⟨gb126, 0, none⟩) (Kd.R_types HO124.out BK126.out (by decide)) (fun _ hk => hk.2) (.bool t121)) (fun _ hk => hk.2) (.slice Ao74 t122.length co74)) (fun _ h_ => h_.1))) hb); have n3_ := Aside0.mk (blk_below (g := gb102) (o := .cells #[.bool a0_0, .slice A0_1 l0_1.length c0_1] 25 (0, 0)) (by (with_reducible repeat (first | refine blk_drewN ?_ _ | refine blk_drew ?_ | refine blk_alloc ?_ _)); refine blk_far ?_ NB102_126.out _; (with_reducible repeat (first | refine blk_drewN ?_ _ | refine blk_drew ?_ | refine blk_alloc ?_ _)); refine blk_far ?_ NB102_126.out _; (with_reducible repeat (first | refine blk_drewN ?_ _ | refine blk_drew ?_ | refine blk_alloc ?_ _)); exact BK102.out) hb); have n4_ := Aside0.mk (blk_below (g := gb108) (o := .cells #[.bool t103, .slice Ao12 t104.length co12] 25 (0, 0)) (by (with_reducible repeat (first | refine blk_drewN ?_ _ | refine blk_drew ?_ | refine blk_alloc ?_ _)); refine blk_far ?_ NB108_126.out _; (with_reducible repeat (first | refine blk_drewN ?_ _ | refine blk_drew ?_ | refine blk_alloc ?_ _)); refine blk_far ?_ NB108_126.out _; (with_reducible repeat (first | refine blk_drewN ?_ _ | refine blk_drew ?_ | refine blk_alloc ?_ _)); exact BK108.out) hb); have n5_ := Aside0.mk (blk_below (g := gb117) (o := .cells #[.bool t112, .slice Ao35 t113.length co35] 25 (0, 0)) (by (with_reducible repeat (first | refine blk_drewN ?_ _ | refine blk_drew ?_ | refine blk_alloc ?_ _)); refine blk_far ?_ NB117_126.out _; (with_reducible repeat (first | refine blk_drewN ?_ _ | refine blk_drew ?_ | refine blk_alloc ?_ _)); refine blk_far ?_ NB117_126.out _; (with_reducible repeat (first | refine blk_drewN ?_ _ | refine blk_drew ?_ | refine blk_alloc ?_ _)); exact BK117.out) hb); have n6_ := Aside0.mk (blk_below (g := gb126) (o := .cells #[.bool t121, .slice Ao74 t122.length co74] 25 (0, 0)) (by (with_reducible repeat (first | refine blk_drewN ?_ _ | refine blk_drew ?_ | refine blk_alloc ?_ _)); refine blk_put (cs := #[.bool t121, .slice none 0 0]) ?_ 1 _ rfl; (with_reducible repeat (first | refine blk_drewN ?_ _ | refine blk_drew ?_ | refine blk_alloc ?_ _)); refine blk_put (cs := #[.bool false, .slice none 0 0]) ?_ 0 _ rfl; (with_reducible repeat (first | refine blk_drewN ?_ _ | refine blk_drew ?_ | refine blk_alloc ?_ _)); exact BK126.out) hb); have n7_ := Aside0.mk (below_step (by repeat (first | (with_reducible first | exact HB.out | apply below_alloc | apply pw_below_drewN | apply below_drew1 | refine qs ?_ (by assumption)) | exact HB.out)) hb); clear HO_109001; clear HO_118001; clear HO124; clear BK102; clear BK108; clear BK117; clear BK126; clear HB; have HO_109001 := n0_; have HO_118001 := n1_; have HO124 := n2_; have BK102 := n3_; have BK108 := n4_; have BK117 := n5_; have BK126 := n6_; have HB := n7_; clear n0_ n1_ n2_ n3_ n4_ n5_ n6_ n7_; (try clear hb); (try clear hb2); (try clear hk); (try clear hi)))
                              repeat (go_quiet (first | (go_at_call 17; (with_reducible refine (moraineref02_Same.calls t121 _ _ t122 t103 _ _ t104 t127 _ ?side1 ?side2 ?side3 ?side4 A76.out).mono ?_); (case side1 => refine (Kd.R_reads' (e := 63) (base := w.heap.size) (ok := fun k_ => ((True ∧ some k_ ≠ (.slice Ao12 t104.length co12 : Value).ownBlock) ∧ some k_ ≠ (.slice Ao35 t113.length co35 : Value).ownBlock)) (n := t122.length) (c := co74) ?_).2.2; exact (by (with_reducible repeat (first | apply Kd.R_alloc | apply Kd.R_drewN | apply Kd.R_drew)); exact (Kd.R_mono (Kd.R_far (p := ⟨gb126, 1, none⟩) (Kd.R_far (p := ⟨gb126, 0, none⟩) (Kd.R_types HO124.out BK126.out (by decide)) (fun _ hk => hk.2) (.bool t121)) (fun _ hk => hk.2) (.slice Ao74 t122.length co74)) (fun _ h_ => h_.1)))); (case side2 => exact (Kd.R_reads' HO124.out).2.1); (case side3 => refine (Kd.R_reads' (e := 63) (base := w.heap.size) (ok := fun k_ => (some k_ ≠ (.slice Ao35 t113.length co35 : Value).ownBlock ∧ some k_ ≠ (.slice Ao74 t122.length co74 : Value).ownBlock)) (n := t104.length) (c := co12) ?_).2.2; exact (by (with_reducible repeat (first | apply Kd.R_alloc | apply Kd.R_drewN | apply Kd.R_drew)); exact (Kd.R_mono (Kd.R_far (p := ⟨gb126, 1, none⟩) (Kd.R_far (p := ⟨gb126, 0, none⟩) (Kd.R_types HO_109001.out BK126.out (by decide)) (fun _ hk => hk.2) (.bool t121)) (fun _ hk => hk.2) (.slice Ao74 t122.length co74)) (fun _ h_ => h_.1)))); (case side4 => exact (Kd.R_reads' HO_109001.out).2.1); rintro e w84 ⟨rfl, hb⟩; have n0_ := Aside0.mk (Kd.R_below (by (with_reducible repeat (first | apply Kd.R_alloc | apply Kd.R_drewN | apply Kd.R_drew)); exact (Kd.R_mono (Kd.R_far (p := ⟨gb126, 1, none⟩) (Kd.R_far (p := ⟨gb126, 0, none⟩) (Kd.R_types HO_109001.out BK126.out (by decide)) (fun _ hk => hk.2) (.bool t121)) (fun _ hk => hk.2) (.slice Ao74 t122.length co74)) (fun _ h_ => h_.1))) hb); have n1_ := Aside0.mk (Kd.R_below (by (with_reducible repeat (first | apply Kd.R_alloc | apply Kd.R_drewN | apply Kd.R_drew)); exact (Kd.R_mono (Kd.R_far (p := ⟨gb126, 1, none⟩) (Kd.R_far (p := ⟨gb126, 0, none⟩) (Kd.R_types HO_118001.out BK126.out (by decide)) (fun _ hk => hk.2) (.bool t121)) (fun _ hk => hk.2) (.slice Ao74 t122.length co74)) (fun _ h_ => h_.1))) hb); have n2_ := Aside0.mk (Kd.R_below (by (with_reducible repeat (first | apply Kd.R_alloc | apply Kd.R_drewN | apply Kd.R_drew)); exact (Kd.R_mono (Kd.R_far (p := ⟨gb126, 1, none⟩) (Kd.R_far (p := ⟨gb126, 0, none⟩) (Kd.R_types HO124.out BK126.out (by decide)) (fun _ hk => hk.2) (.bool t121)) (fun _ hk => hk.2) (.slice Ao74 t122.length co74)) (fun _ h_ => h_.1))) hb); have n3_ := Aside0.mk (blk_below (g := gb102) (o := .cells #[.bool a0_0, .slice A0_1 l0_1.length c0_1] 25 (0, 0)) (by (with_reducible repeat (first | refine blk_drewN ?_ _ | refine blk_drew ?_ | refine blk_alloc ?_ _)); refine blk_far ?_ NB102_126.out _; (with_reducible repeat (first | refine blk_drewN ?_ _ | refine blk_drew ?_ | refine blk_alloc ?_ _)); refine blk_far ?_ NB102_126.out _; (with_reducible repeat (first | refine blk_drewN ?_ _ | refine blk_drew ?_ | refine blk_alloc ?_ _)); exact BK102.out) hb); have n4_ := Aside0.mk (blk_below (g := gb108) (o := .cells #[.bool t103, .slice Ao12 t104.length co12] 25 (0, 0)) (by (with_reducible repeat (first | refine blk_drewN ?_ _ | refine blk_drew ?_ | refine blk_alloc ?_ _)); refine blk_far ?_ NB108_126.out _; (with_reducible repeat (first | refine blk_drewN ?_ _ | refine blk_drew ?_ | refine blk_alloc ?_ _)); refine blk_far ?_ NB108_126.out _; (with_reducible repeat (first | refine blk_drewN ?_ _ | refine blk_drew ?_ | refine blk_alloc ?_ _)); exact BK108.out) hb); have n5_ := Aside0.mk (blk_below (g := gb117) (o := .cells #[.bool t112, .slice Ao35 t113.length co35] 25 (0, 0)) (by (with_reducible repeat (first | refine blk_drewN ?_ _ | refine blk_drew ?_ | refine blk_alloc ?_ _)); refine blk_far ?_ NB117_126.out _; (with_reducible repeat (first | refine blk_drewN ?_ _ | refine blk_drew ?_ | refine blk_alloc ?_ _)); refine blk_far ?_ NB117_126.out _; (with_reducible repeat (first | refine blk_drewN ?_ _ | refine blk_drew ?_ | refine blk_alloc ?_ _)); exact BK117.out) hb); have n6_ := Aside0.mk (blk_below (g := gb126) (o := .cells #[.bool t121, .slice Ao74 t122.length co74] 25 (0, 0)) (by (with_reducible repeat (first | refine blk_drewN ?_ _ | refine blk_drew ?_ | refine blk_alloc ?_ _)); refine blk_put (cs := #[.bool t121, .slice none 0 0]) ?_ 1 _ rfl; (with_reducible repeat (first | refine blk_drewN ?_ _ | refine blk_drew ?_ | refine blk_alloc ?_ _)); refine blk_put (cs := #[.bool false, .slice none 0 0]) ?_ 0 _ rfl; (with_reducible repeat (first | refine blk_drewN ?_ _ | refine blk_drew ?_ | refine blk_alloc ?_ _)); exact BK126.out) hb); have n7_ := Aside0.mk (below_step (by repeat (first | (with_reducible first | exact HB.out | apply below_alloc | apply pw_below_drewN | apply below_drew1 | refine qs ?_ (by assumption)) | exact HB.out)) hb); clear HO_109001; clear HO_118001; clear HO124; clear BK102; clear BK108; clear BK117; clear BK126; clear HB; have HO_109001 := n0_; have HO_118001 := n1_; have HO124 := n2_; have BK102 := n3_; have BK108 := n4_; have BK117 := n5_; have BK126 := n6_; have HB := n7_; clear n0_ n1_ n2_ n3_ n4_ n5_ n6_ n7_; (try clear hb); (try clear hb2); (try clear hk); (try clear hi))); try go_wp2_with (first | (go_at_call 17; (with_reducible refine (moraineref02_Same.calls t121 _ _ t122 t103 _ _ t104 t127 _ ?side1 ?side2 ?side3 ?side4 A76.out).mono ?_); (case side1 => refine (Kd.R_reads' (e := 63) (base := w.heap.size) (ok := fun k_ => ((True ∧ some k_ ≠ (.slice Ao12 t104.length co12 : Value).ownBlock) ∧ some k_ ≠ (.slice Ao35 t113.length co35 : Value).ownBlock)) (n := t122.length) (c := co74) ?_).2.2; exact (by (with_reducible repeat (first | apply Kd.R_alloc | apply Kd.R_drewN | apply Kd.R_drew)); exact (Kd.R_mono (Kd.R_far (p := ⟨gb126, 1, none⟩) (Kd.R_far (p := ⟨gb126, 0, none⟩) (Kd.R_types HO124.out BK126.out (by decide)) (fun _ hk => hk.2) (.bool t121)) (fun _ hk => hk.2) (.slice Ao74 t122.length co74)) (fun _ h_ => h_.1)))); (case side2 => exact (Kd.R_reads' HO124.out).2.1); (case side3 => refine (Kd.R_reads' (e := 63) (base := w.heap.size) (ok := fun k_ => (some k_ ≠ (.slice Ao35 t113.length co35 : Value).ownBlock ∧ some k_ ≠ (.slice Ao74 t122.length co74 : Value).ownBlock)) (n := t104.length) (c := co12) ?_).2.2; exact (by (with_reducible repeat (first | apply Kd.R_alloc | apply Kd.R_drewN | apply Kd.R_drew)); exact (Kd.R_mono (Kd.R_far (p := ⟨gb126, 1, none⟩) (Kd.R_far (p := ⟨gb126, 0, none⟩) (Kd.R_types HO_109001.out BK126.out (by decide)) (fun _ hk => hk.2) (.bool t121)) (fun _ hk => hk.2) (.slice Ao74 t122.length co74)) (fun _ h_ => h_.1)))); (case side4 => exact (Kd.R_reads' HO_109001.out).2.1); rintro e w84 ⟨rfl, hb⟩; have n0_ := Aside0.mk (Kd.R_below (by (with_reducible repeat (first | apply Kd.R_alloc | apply Kd.R_drewN | apply Kd.R_drew)); exact (Kd.R_mono (Kd.R_far (p := ⟨gb126, 1, none⟩) (Kd.R_far (p := ⟨gb126, 0, none⟩) (Kd.R_types HO_109001.out BK126.out (by decide)) (fun _ hk => hk.2) (.bool t121)) (fun _ hk => hk.2) (.slice Ao74 t122.length co74)) (fun _ h_ => h_.1))) hb); have n1_ := Aside0.mk (Kd.R_below (by (with_reducible repeat (first | apply Kd.R_alloc | apply Kd.R_drewN | apply Kd.R_drew)); exact (Kd.R_mono (Kd.R_far (p := ⟨gb126, 1, none⟩) (Kd.R_far (p := ⟨gb126, 0, none⟩) (Kd.R_types HO_118001.out BK126.out (by decide)) (fun _ hk => hk.2) (.bool t121)) (fun _ hk => hk.2) (.slice Ao74 t122.length co74)) (fun _ h_ => h_.1))) hb); have n2_ := Aside0.mk (Kd.R_below (by (with_reducible repeat (first | apply Kd.R_alloc | apply Kd.R_drewN | apply Kd.R_drew)); exact (Kd.R_mono (Kd.R_far (p := ⟨gb126, 1, none⟩) (Kd.R_far (p := ⟨gb126, 0, none⟩) (Kd.R_types HO124.out BK126.out (by decide)) (fun _ hk => hk.2) (.bool t121)) (fun _ hk => hk.2) (.slice Ao74 t122.length co74)) (fun _ h_ => h_.1))) hb); have n3_ := Aside0.mk (blk_below (g := gb102) (o := .cells #[.bool a0_0, .slice A0_1 l0_1.length c0_1] 25 (0, 0)) (by (with_reducible repeat (first | refine blk_drewN ?_ _ | refine blk_drew ?_ | refine blk_alloc ?_ _)); refine blk_far ?_ NB102_126.out _; (with_reducible repeat (first | refine blk_drewN ?_ _ | refine blk_drew ?_ | refine blk_alloc ?_ _)); refine blk_far ?_ NB102_126.out _; (with_reducible repeat (first | refine blk_drewN ?_ _ | refine blk_drew ?_ | refine blk_alloc ?_ _)); exact BK102.out) hb); have n4_ := Aside0.mk (blk_below (g := gb108) (o := .cells #[.bool t103, .slice Ao12 t104.length co12] 25 (0, 0)) (by (with_reducible repeat (first | refine blk_drewN ?_ _ | refine blk_drew ?_ | refine blk_alloc ?_ _)); refine blk_far ?_ NB108_126.out _; (with_reducible repeat (first | refine blk_drewN ?_ _ | refine blk_drew ?_ | refine blk_alloc ?_ _)); refine blk_far ?_ NB108_126.out _; (with_reducible repeat (first | refine blk_drewN ?_ _ | refine blk_drew ?_ | refine blk_alloc ?_ _)); exact BK108.out) hb); have n5_ := Aside0.mk (blk_below (g := gb117) (o := .cells #[.bool t112, .slice Ao35 t113.length co35] 25 (0, 0)) (by (with_reducible repeat (first | refine blk_drewN ?_ _ | refine blk_drew ?_ | refine blk_alloc ?_ _)); refine blk_far ?_ NB117_126.out _; (with_reducible repeat (first | refine blk_drewN ?_ _ | refine blk_drew ?_ | refine blk_alloc ?_ _)); refine blk_far ?_ NB117_126.out _; (with_reducible repeat (first | refine blk_drewN ?_ _ | refine blk_drew ?_ | refine blk_alloc ?_ _)); exact BK117.out) hb); have n6_ := Aside0.mk (blk_below (g := gb126) (o := .cells #[.bool t121, .slice Ao74 t122.length co74] 25 (0, 0)) (by (with_reducible repeat (first | refine blk_drewN ?_ _ | refine blk_drew ?_ | refine blk_alloc ?_ _)); refine blk_put (cs := #[.bool t121, .slice none 0 0]) ?_ 1 _ rfl; (with_reducible repeat (first | refine blk_drewN ?_ _ | refine blk_drew ?_ | refine blk_alloc ?_ _)); refine blk_put (cs := #[.bool false, .slice none 0 0]) ?_ 0 _ rfl; (with_reducible repeat (first | refine blk_drewN ?_ _ | refine blk_drew ?_ | refine blk_alloc ?_ _)); exact BK126.out) hb); have n7_ := Aside0.mk (below_step (by repeat (first | (with_reducible first | exact HB.out | apply below_alloc | apply pw_below_drewN | apply below_drew1 | refine qs ?_ (by assumption)) | exact HB.out)) hb); clear HO_109001; clear HO_118001; clear HO124; clear BK102; clear BK108; clear BK117; clear BK126; clear HB; have HO_109001 := n0_; have HO_118001 := n1_; have HO124 := n2_; have BK102 := n3_; have BK108 := n4_; have BK117 := n5_; have BK126 := n6_; have HB := n7_; clear n0_ n1_ n2_ n3_ n4_ n5_ n6_ n7_; (try clear hb); (try clear hb2); (try clear hk); (try clear hi))))
                              go_meet
                              case rel => exact ⟨_, (!t127), (by first | rfl | (simp; done) | (simp [*]; done)), H', ⟨by have := HJ4.out; have := HJ25.out; have := HJ55.out; have := HK4.out; first | omega | exact Nat.le_refl _⟩, ⟨qq HO_109001⟩, ⟨qq HO_118001⟩, ⟨by (with_reducible repeat (first | apply Kd.R_alloc | apply Kd.R_drewN | apply Kd.R_drew)); exact Kd.R_mono HO124.out (fun _ hk => ⟨hk.1.2, hk.2⟩)⟩, ⟨qk BK102⟩, ⟨qk BK108⟩, ⟨qk BK117⟩, ⟨qk BK126⟩, ⟨by repeat (first | (with_reducible first | exact HB.out | apply below_alloc | apply pw_below_drewN | apply below_drew1 | refine qs ?_ (by assumption)) | exact HB.out)⟩⟩
                            · rw [if_neg c75] at H
                              have c75b0 : (t125 == 0) = false := beq_eq_false_iff_ne.mpr c75
                              have c75b1 : (t125 != 0) = true := bne_iff_ne.mpr c75
                              (first | rw [c75b0] | (simp only [i64_w, i32_w]; rw [c75b0]) | skip)
                              have H' := Aside0.mk H
                              clear H
                              go_wp2
                              repeat (go_quiet (fail); try go_wp2)
                              go_meet
                              case rel => exact ⟨_, (true), (by first | rfl | (simp; done) | (simp [*]; done)), H', ⟨by have := HJ4.out; have := HJ25.out; have := HJ55.out; have := HK4.out; first | omega | exact Nat.le_refl _⟩, ⟨by (with_reducible repeat (first | apply Kd.R_alloc | apply Kd.R_drewN | apply Kd.R_drew)); exact Kd.R_mono (Kd.R_far (p := ⟨gb126, 1, none⟩) (Kd.R_far (p := ⟨gb126, 0, none⟩) (Kd.R_types HO_109001.out BK126.out (by decide)) (fun _ hk => hk.2) (.bool t121)) (fun _ hk => hk.2) (.slice Ao74 t122.length co74)) (fun _ hk => ⟨hk.1.1, hk.1.2⟩)⟩, ⟨by (with_reducible repeat (first | apply Kd.R_alloc | apply Kd.R_drewN | apply Kd.R_drew)); exact Kd.R_mono (Kd.R_far (p := ⟨gb126, 1, none⟩) (Kd.R_far (p := ⟨gb126, 0, none⟩) (Kd.R_types HO_118001.out BK126.out (by decide)) (fun _ hk => hk.2) (.bool t121)) (fun _ hk => hk.2) (.slice Ao74 t122.length co74)) (fun _ hk => ⟨hk.1.1, hk.1.2⟩)⟩, ⟨by (with_reducible repeat (first | apply Kd.R_alloc | apply Kd.R_drewN | apply Kd.R_drew)); exact Kd.R_mono (Kd.R_far (p := ⟨gb126, 1, none⟩) (Kd.R_far (p := ⟨gb126, 0, none⟩) (Kd.R_types HO124.out BK126.out (by decide)) (fun _ hk => hk.2) (.bool t121)) (fun _ hk => hk.2) (.slice Ao74 t122.length co74)) (fun _ hk => ⟨hk.1.1.2, hk.1.2⟩)⟩, ⟨by (with_reducible repeat (first | refine blk_drewN ?_ _ | refine blk_drew ?_ | refine blk_alloc ?_ _)); refine blk_far ?_ NB102_126.out _; (with_reducible repeat (first | refine blk_drewN ?_ _ | refine blk_drew ?_ | refine blk_alloc ?_ _)); refine blk_far ?_ NB102_126.out _; (with_reducible repeat (first | refine blk_drewN ?_ _ | refine blk_drew ?_ | refine blk_alloc ?_ _)); exact BK102.out⟩, ⟨by (with_reducible repeat (first | refine blk_drewN ?_ _ | refine blk_drew ?_ | refine blk_alloc ?_ _)); refine blk_far ?_ NB108_126.out _; (with_reducible repeat (first | refine blk_drewN ?_ _ | refine blk_drew ?_ | refine blk_alloc ?_ _)); refine blk_far ?_ NB108_126.out _; (with_reducible repeat (first | refine blk_drewN ?_ _ | refine blk_drew ?_ | refine blk_alloc ?_ _)); exact BK108.out⟩, ⟨by (with_reducible repeat (first | refine blk_drewN ?_ _ | refine blk_drew ?_ | refine blk_alloc ?_ _)); refine blk_far ?_ NB117_126.out _; (with_reducible repeat (first | refine blk_drewN ?_ _ | refine blk_drew ?_ | refine blk_alloc ?_ _)); refine blk_far ?_ NB117_126.out _; (with_reducible repeat (first | refine blk_drewN ?_ _ | refine blk_drew ?_ | refine blk_alloc ?_ _)); exact BK117.out⟩, ⟨by (with_reducible repeat (first | refine blk_drewN ?_ _ | refine blk_drew ?_ | refine blk_alloc ?_ _)); refine blk_put (cs := #[.bool t121, .slice none 0 0]) ?_ 1 _ rfl; (with_reducible repeat (first | refine blk_drewN ?_ _ | refine blk_drew ?_ | refine blk_alloc ?_ _)); refine blk_put (cs := #[.bool false, .slice none 0 0]) ?_ 0 _ rfl; (with_reducible repeat (first | refine blk_drewN ?_ _ | refine blk_drew ?_ | refine blk_alloc ?_ _)); exact BK126.out⟩, ⟨by repeat (first | (with_reducible first | exact HB.out | apply below_alloc | apply pw_below_drewN | apply below_drew1 | refine qs ?_ (by assumption)) | exact HB.out)⟩⟩
                          case rest =>
                            clear HC67
                            try clear c1
                            try clear c2
                            try clear p2
                            try clear c3
                            try clear c4
                            try clear c5
                            try clear c6
                            try clear p6
                            try clear c7
                            try clear c8
                            try clear c9
                            try clear c10
                            try clear c14
                            try clear c15
                            try clear c18
                            try clear c21
                            try clear c27
                            try clear c32
                            try clear c33
                            try clear c36
                            try clear c36b0
                            try clear c36b1
                            try clear c38
                            try clear c40
                            try clear c41
                            try clear c43
                            try clear c48
                            try clear c49
                            try clear c51
                            try clear c54
                            try clear c57
                            try clear c58
                            try clear c61
                            try clear c61b0
                            try clear c62
                            try clear c62b0
                            try clear c62b1
                            try clear c63
                            try clear c63b0
                            try clear c64
                            try clear c64b0
                            try clear c64b1
                            try clear c64b2
                            try clear p64
                            try clear c65
                            try clear c65b0
                            try clear c65b1
                            try clear c65b2
                            try clear c70
                            try clear c71
                            try clear c72
                            try clear c75
                            try clear c75b0
                            try clear c75b1
                            try clear c77
                            try clear c78
                            try clear c79
                            try clear c81
                            try clear c82
                            try clear hcz11_0
                            try clear hcz11_1
                            try clear hcz16_0
                            try clear hcz16_1
                            try clear hcz19_0
                            try clear hcz19_1
                            try clear hcz28_0
                            try clear hcz28_1
                            try clear hcz34_0
                            try clear hcz34_1
                            try clear hcz42_0
                            try clear hcz42_1
                            try clear hcz44_0
                            try clear hcz44_1
                            try clear hcz46_0
                            try clear hcz46_1
                            try clear hcz50_0
                            try clear hcz50_1
                            try clear hcz52_0
                            try clear hcz52_1
                            try clear hcz59_0
                            try clear hcz59_1
                            try clear hcz73_0
                            try clear hcz73_1
                            try clear hcz7_0
                            try clear hcz7_1
                            try clear hcz80_0
                            try clear hcz80_1
                            try clear hcz83_0
                            try clear hcz83_1
                            try clear hfz11_0
                            try clear hfz11_1
                            try clear hfz16_0
                            try clear hfz16_1
                            try clear hfz19_0
                            try clear hfz19_1
                            try clear hfz28_0
                            try clear hfz28_1
                            try clear hfz34_0
                            try clear hfz34_1
                            try clear hfz42_0
                            try clear hfz42_1
                            try clear hfz44_0
                            try clear hfz44_1
                            try clear hfz46_0
                            try clear hfz46_1
                            try clear hfz50_0
                            try clear hfz50_1
                            try clear hfz52_0
                            try clear hfz52_1
                            try clear hfz59_0
                            try clear hfz59_1
                            try clear hfz73_0
                            try clear hfz73_1
                            try clear hfz7_0
                            try clear hfz7_1
                            try clear hfz80_0
                            try clear hfz80_1
                            try clear hfz83_0
                            try clear hfz83_1
                            try clear p2
                            obtain ⟨kq, x82_66, rfl, HA, HJ66, HO_109001, HO_118001, HO_127001, BK102, BK108, BK117, BK126, HB⟩ := hcut
                            cases kq with
                            | zero => exact absurd HA.out (by simp [morainelaw02_NumBack.j4])
                            | succ kj66 =>
                              have H := HA.out
                              clear HA
                              simp only [morainelaw02_NumBack.j4] at H
                              by_cases c85 : x82_66 = true
                              · subst c85
                                have H1 : (some false) = some r := by rw [if_pos rfl] at H; exact H
                                clear H
                                have H := H1
                                clear H1
                                exact absurd ((Option.some.inj H).trans hr) (by decide)
                              · replace c85 := Bool.eq_false_iff.mpr c85
                                subst c85
                                have H1 : ((num_Of.f a1).bind fun bt128 => ((num_Fix.f bt128.1 bt128.2).bind fun bt132 => (if a1 ≥ (-1152921504606846976) then (if (bt132.2 == (decide (a1 < 1152921504606846976))) = true then (if bt132.2 = true then (if bt132.1 = a1 then ((morainelaw02_awake.f).bind fun t134 => (some t134)) else (some false)) else ((morainelaw02_awake.f).bind fun t135 => (some t135))) else (some false)) else (if (bt132.2 == false) = true then (if bt132.2 = true then (if bt132.1 = a1 then ((morainelaw02_awake.f).bind fun t136 => (some t136)) else (some false)) else ((morainelaw02_awake.f).bind fun t137 => (some t137))) else (some false))))) = some r := by rw [if_neg (show ¬ (false = true) by decide)] at H; exact H
                                clear H
                                have H := H1
                                clear H1
                                replace H := Option.bind_eq_some_iff.mp H
                                obtain ⟨⟨t128, t129⟩, A860, H⟩ := H
                                replace H : ((num_Fix.f t128 t129).bind fun bt132 => (if a1 ≥ (-1152921504606846976) then (if (bt132.2 == (decide (a1 < 1152921504606846976))) = true then (if bt132.2 = true then (if bt132.1 = a1 then ((morainelaw02_awake.f).bind fun t134 => (some t134)) else (some false)) else ((morainelaw02_awake.f).bind fun t135 => (some t135))) else (some false)) else (if (bt132.2 == false) = true then (if bt132.2 = true then (if bt132.1 = a1 then ((morainelaw02_awake.f).bind fun t136 => (some t136)) else (some false)) else ((morainelaw02_awake.f).bind fun t137 => (some t137))) else (some false)))) = some r := H
                                have A86 := Aside0.mk A860
                                clear A860
                                replace H := Option.bind_eq_some_iff.mp H
                                obtain ⟨⟨t132, t133⟩, A870, H⟩ := H
                                replace H : (if a1 ≥ (-1152921504606846976) then (if (t133 == (decide (a1 < 1152921504606846976))) = true then (if t133 = true then (if t132 = a1 then ((morainelaw02_awake.f).bind fun t134 => (some t134)) else (some false)) else ((morainelaw02_awake.f).bind fun t135 => (some t135))) else (some false)) else (if (t133 == false) = true then (if t133 = true then (if t132 = a1 then ((morainelaw02_awake.f).bind fun t136 => (some t136)) else (some false)) else ((morainelaw02_awake.f).bind fun t137 => (some t137))) else (some false))) = some r := H
                                have A87 := Aside0.mk A870
                                clear A870
                                by_cases c88 : a1 ≥ (-1152921504606846976)
                                · rw [if_pos c88] at H
                                  have c88b0 : decide ((-1152921504606846976) ≤ a1) = true := decide_eq_true c88
                                  clear c88
                                  by_cases c89 : (t133 == (decide (a1 < 1152921504606846976))) = true
                                  · rw [if_pos c89] at H
                                    have c89b0 : (t133 == (decide (a1 < 1152921504606846976))) = true := c89
                                    (try (have c89b1 : decide (t133 = (decide (a1 < 1152921504606846976))) = true := by simpa using c89))
                                    (try (have c89b2 : (t133 == (decide (a1 < 1152921504606846976))) = true := by simpa using c89))
                                    clear c89
                                    by_cases c90 : t133 = true
                                    · subst c90
                                      have H1 : (if t132 = a1 then ((morainelaw02_awake.f).bind fun t134 => (some t134)) else (some false)) = some r := by rw [if_pos rfl] at H; exact H
                                      clear H
                                      have H := H1
                                      clear H1
                                      by_cases c91 : t132 = a1
                                      · rw [if_pos c91] at H
                                        have c91b0 : (t132 == a1) = true := beq_iff_eq.mpr c91
                                        have c91b1 : (t132 != a1) = false := bne_eq_false_iff_eq.mpr c91
                                        clear c91
                                        replace H := Option.bind_eq_some_iff.mp H
                                        obtain ⟨t134, A920, H⟩ := H
                                        replace H : (some t134) = some r := H
                                        have A92 := Aside0.mk A920
                                        clear A920
                                        obtain rfl := Option.some.inj H
                                        go_wp2_with (first | (go_at_call 18; (with_reducible refine (num_Of.calls a1 t128 t129 _ A86.out).mono ?_); rintro e w93 ⟨v130, rfl, ho0, hb⟩; have HO131 := Aside0.mk (Kd.R_lower (Kd.R_new' (Kd.R_new' (Kd.R_new' ho0 (ql HO_109001)) (ql HO_118001)) (ql HO_127001)) (below_size (by repeat (first | (with_reducible first | exact HB.out | apply below_alloc | apply pw_below_drewN | apply below_drew1 | refine qs ?_ (by assumption)) | exact HB.out)))); replace HO_109001 := qe HO_109001 ho0 hb; replace HO_118001 := qe HO_118001 ho0 hb; replace HO_127001 := qe HO_127001 ho0 hb; replace BK102 := qb BK102 hb; replace BK108 := qb BK108 hb; replace BK117 := qb BK117 hb; replace BK126 := qb BK126 hb; replace HB := Aside0.mk (below_step (by repeat (first | (with_reducible first | exact HB.out | apply below_alloc | apply pw_below_drewN | apply below_drew1 | refine qs ?_ (by assumption)) | exact HB.out)) hb); (try clear hb); (try clear hb2); (try clear hk); (try clear hi); (try clear ho0); obtain ⟨Ao94, co94, eo94⟩ := Kd.R_slice HO131.out; subst eo94) | (go_at_call 40; (with_reducible refine (num_Fix.calls t128 _ _ t129 t132 true _ ?side1 ?side2 A87.out).mono ?_); (case side1 => repeat (first | exact (Kd.R_reads' HO131.out).2.2 | (with_reducible refine Kd.C_alloc ?_ _) | (with_reducible refine Kd.C_drewN ?_ _) | (with_reducible refine Kd.C_drew ?_))); (case side2 => exact (Kd.R_reads' HO131.out).2.1); rintro e w95 ⟨rfl, hb⟩; replace HO_109001 := qr HO_109001 hb; replace HO_118001 := qr HO_118001 hb; replace HO_127001 := qr HO_127001 hb; replace HO131 := qr HO131 hb; replace BK102 := qb BK102 hb; replace BK108 := qb BK108 hb; replace BK117 := qb BK117 hb; replace BK126 := qb BK126 hb; replace HB := Aside0.mk (below_step (by repeat (first | (with_reducible first | exact HB.out | apply below_alloc | apply pw_below_drewN | apply below_drew1 | refine qs ?_ (by assumption)) | exact HB.out)) hb); (try clear hb); (try clear hb2); (try clear hk); (try clear hi)) | (go_at_call 20; (with_reducible refine (morainelaw02_awake.calls  t134 _ A92.out (NumV.Tab.below HT.out (by repeat (first | exact HB.out | apply below_alloc | apply pw_below_drewN | apply below_drew1 | refine below_set ?_ (Aside0.out (by assumption)))))).mono ?_); rintro e w96 ⟨rfl, hb⟩; replace HO_109001 := qr HO_109001 hb; replace HO_118001 := qr HO_118001 hb; replace HO_127001 := qr HO_127001 hb; replace HO131 := qr HO131 hb; replace BK102 := qb BK102 hb; replace BK108 := qb BK108 hb; replace BK117 := qb BK117 hb; replace BK126 := qb BK126 hb; replace HB := Aside0.mk (below_step (by repeat (first | (with_reducible first | exact HB.out | apply below_alloc | apply pw_below_drewN | apply below_drew1 | refine qs ?_ (by assumption)) | exact HB.out)) hb); (try clear hb); (try clear hb2); (try clear hk); (try clear hi)))
                                        repeat (go_quiet (first | (go_at_call 18; (with_reducible refine (num_Of.calls a1 t128 t129 _ A86.out).mono ?_); rintro e w93 ⟨v130, rfl, ho0, hb⟩; have HO131 := Aside0.mk (Kd.R_lower (Kd.R_new' (Kd.R_new' (Kd.R_new' ho0 (ql HO_109001)) (ql HO_118001)) (ql HO_127001)) (below_size (by repeat (first | (with_reducible first | exact HB.out | apply below_alloc | apply pw_below_drewN | apply below_drew1 | refine qs ?_ (by assumption)) | exact HB.out)))); replace HO_109001 := qe HO_109001 ho0 hb; replace HO_118001 := qe HO_118001 ho0 hb; replace HO_127001 := qe HO_127001 ho0 hb; replace BK102 := qb BK102 hb; replace BK108 := qb BK108 hb; replace BK117 := qb BK117 hb; replace BK126 := qb BK126 hb; replace HB := Aside0.mk (below_step (by repeat (first | (with_reducible first | exact HB.out | apply below_alloc | apply pw_below_drewN | apply below_drew1 | refine qs ?_ (by assumption)) | exact HB.out)) hb); (try clear hb); (try clear hb2); (try clear hk); (try clear hi); (try clear ho0); obtain ⟨Ao94, co94, eo94⟩ := Kd.R_slice HO131.out; subst eo94) | (go_at_call 40; (with_reducible refine (num_Fix.calls t128 _ _ t129 t132 true _ ?side1 ?side2 A87.out).mono ?_); (case side1 => repeat (first | exact (Kd.R_reads' HO131.out).2.2 | (with_reducible refine Kd.C_alloc ?_ _) | (with_reducible refine Kd.C_drewN ?_ _) | (with_reducible refine Kd.C_drew ?_))); (case side2 => exact (Kd.R_reads' HO131.out).2.1); rintro e w95 ⟨rfl, hb⟩; replace HO_109001 := qr HO_109001 hb; replace HO_118001 := qr HO_118001 hb; replace HO_127001 := qr HO_127001 hb; replace HO131 := qr HO131 hb; replace BK102 := qb BK102 hb; replace BK108 := qb BK108 hb; replace BK117 := qb BK117 hb; replace BK126 := qb BK126 hb; replace HB := Aside0.mk (below_step (by repeat (first | (with_reducible first | exact HB.out | apply below_alloc | apply pw_below_drewN | apply below_drew1 | refine qs ?_ (by assumption)) | exact HB.out)) hb); (try clear hb); (try clear hb2); (try clear hk); (try clear hi)) | (go_at_call 20; (with_reducible refine (morainelaw02_awake.calls  t134 _ A92.out (NumV.Tab.below HT.out (by repeat (first | exact HB.out | apply below_alloc | apply pw_below_drewN | apply below_drew1 | refine below_set ?_ (Aside0.out (by assumption)))))).mono ?_); rintro e w96 ⟨rfl, hb⟩; replace HO_109001 := qr HO_109001 hb; replace HO_118001 := qr HO_118001 hb; replace HO_127001 := qr HO_127001 hb; replace HO131 := qr HO131 hb; replace BK102 := qb BK102 hb; replace BK108 := qb BK108 hb; replace BK117 := qb BK117 hb; replace BK126 := qb BK126 hb; replace HB := Aside0.mk (below_step (by repeat (first | (with_reducible first | exact HB.out | apply below_alloc | apply pw_below_drewN | apply below_drew1 | refine qs ?_ (by assumption)) | exact HB.out)) hb); (try clear hb); (try clear hb2); (try clear hk); (try clear hi))); try go_wp2_with (first | (go_at_call 18; (with_reducible refine (num_Of.calls a1 t128 t129 _ A86.out).mono ?_); rintro e w93 ⟨v130, rfl, ho0, hb⟩; have HO131 := Aside0.mk (Kd.R_lower (Kd.R_new' (Kd.R_new' (Kd.R_new' ho0 (ql HO_109001)) (ql HO_118001)) (ql HO_127001)) (below_size (by repeat (first | (with_reducible first | exact HB.out | apply below_alloc | apply pw_below_drewN | apply below_drew1 | refine qs ?_ (by assumption)) | exact HB.out)))); replace HO_109001 := qe HO_109001 ho0 hb; replace HO_118001 := qe HO_118001 ho0 hb; replace HO_127001 := qe HO_127001 ho0 hb; replace BK102 := qb BK102 hb; replace BK108 := qb BK108 hb; replace BK117 := qb BK117 hb; replace BK126 := qb BK126 hb; replace HB := Aside0.mk (below_step (by repeat (first | (with_reducible first | exact HB.out | apply below_alloc | apply pw_below_drewN | apply below_drew1 | refine qs ?_ (by assumption)) | exact HB.out)) hb); (try clear hb); (try clear hb2); (try clear hk); (try clear hi); (try clear ho0); obtain ⟨Ao94, co94, eo94⟩ := Kd.R_slice HO131.out; subst eo94) | (go_at_call 40; (with_reducible refine (num_Fix.calls t128 _ _ t129 t132 true _ ?side1 ?side2 A87.out).mono ?_); (case side1 => repeat (first | exact (Kd.R_reads' HO131.out).2.2 | (with_reducible refine Kd.C_alloc ?_ _) | (with_reducible refine Kd.C_drewN ?_ _) | (with_reducible refine Kd.C_drew ?_))); (case side2 => exact (Kd.R_reads' HO131.out).2.1); rintro e w95 ⟨rfl, hb⟩; replace HO_109001 := qr HO_109001 hb; replace HO_118001 := qr HO_118001 hb; replace HO_127001 := qr HO_127001 hb; replace HO131 := qr HO131 hb; replace BK102 := qb BK102 hb; replace BK108 := qb BK108 hb; replace BK117 := qb BK117 hb; replace BK126 := qb BK126 hb; replace HB := Aside0.mk (below_step (by repeat (first | (with_reducible first | exact HB.out | apply below_alloc | apply pw_below_drewN | apply below_drew1 | refine qs ?_ (by assumption)) | exact HB.out)) hb); (try clear hb); (try clear hb2); (try clear hk); (try clear hi)) | (go_at_call 20; (with_reducible refine (morainelaw02_awake.calls  t134 _ A92.out (NumV.Tab.below HT.out (by repeat (first | exact HB.out | apply below_alloc | apply pw_below_drewN | apply below_drew1 | refine below_set ?_ (Aside0.out (by assumption)))))).mono ?_); rintro e w96 ⟨rfl, hb⟩; replace HO_109001 := qr HO_109001 hb; replace HO_118001 := qr HO_118001 hb; replace HO_127001 := qr HO_127001 hb; replace HO131 := qr HO131 hb; replace BK102 := qb BK102 hb; replace BK108 := qb BK108 hb; replace BK117 := qb BK117 hb; replace BK126 := qb BK126 hb; replace HB := Aside0.mk (below_step (by repeat (first | (with_reducible first | exact HB.out | apply below_alloc | apply pw_below_drewN | apply below_drew1 | refine qs ?_ (by assumption)) | exact HB.out)) hb); (try clear hb); (try clear hb2); (try clear hk); (try clear hi))))
                                        go_ret
                                        exact ⟨by first | rfl | (simp [errW_none, errW_some] <;> rfl) | (simp [*, errW_none, errW_some] <;> rfl), by repeat (first | (with_reducible first | exact HB.out | apply below_alloc | apply pw_below_drewN | apply below_drew1 | refine qs ?_ (by assumption)) | exact HB.out)⟩
                                      · rw [if_neg c91] at H
                                        have c91b0 : (t132 == a1) = false := beq_eq_false_iff_ne.mpr c91
                                        have c91b1 : (t132 != a1) = true := bne_iff_ne.mpr c91
                                        exact absurd ((Option.some.inj H).trans hr) (by decide)
                                    · replace c90 := Bool.eq_false_iff.mpr c90
                                      subst c90
                                      have H1 : ((morainelaw02_awake.f).bind fun t135 => (some t135)) = some r := by rw [if_neg (show ¬ (false = true) by decide)] at H; exact H
                                      clear H
                                      have H := H1
                                      clear H1
                                      replace H := Option.bind_eq_some_iff.mp H
                                      obtain ⟨t135, A970, H⟩ := H
                                      replace H : (some t135) = some r := H
                                      have A97 := Aside0.mk A970
                                      clear A970
                                      obtain rfl := Option.some.inj H
                                      go_wp2_with (first | (go_at_call 18; (with_reducible refine (num_Of.calls a1 t128 t129 _ A86.out).mono ?_); rintro e w98 ⟨v130, rfl, ho0, hb⟩; have HO131 := Aside0.mk (Kd.R_lower (Kd.R_new' (Kd.R_new' (Kd.R_new' ho0 (ql HO_109001)) (ql HO_118001)) (ql HO_127001)) (below_size (by repeat (first | (with_reducible first | exact HB.out | apply below_alloc | apply pw_below_drewN | apply below_drew1 | refine qs ?_ (by assumption)) | exact HB.out)))); replace HO_109001 := qe HO_109001 ho0 hb; replace HO_118001 := qe HO_118001 ho0 hb; replace HO_127001 := qe HO_127001 ho0 hb; replace BK102 := qb BK102 hb; replace BK108 := qb BK108 hb; replace BK117 := qb BK117 hb; replace BK126 := qb BK126 hb; replace HB := Aside0.mk (below_step (by repeat (first | (with_reducible first | exact HB.out | apply below_alloc | apply pw_below_drewN | apply below_drew1 | refine qs ?_ (by assumption)) | exact HB.out)) hb); (try clear hb); (try clear hb2); (try clear hk); (try clear hi); (try clear ho0); obtain ⟨Ao99, co99, eo99⟩ := Kd.R_slice HO131.out; subst eo99) | (go_at_call 40; (with_reducible refine (num_Fix.calls t128 _ _ t129 t132 false _ ?side1 ?side2 A87.out).mono ?_); (case side1 => repeat (first | exact (Kd.R_reads' HO131.out).2.2 | (with_reducible refine Kd.C_alloc ?_ _) | (with_reducible refine Kd.C_drewN ?_ _) | (with_reducible refine Kd.C_drew ?_))); (case side2 => exact (Kd.R_reads' HO131.out).2.1); rintro e w100 ⟨rfl, hb⟩; replace HO_109001 := qr HO_109001 hb; replace HO_118001 := qr HO_118001 hb; replace HO_127001 := qr HO_127001 hb; replace HO131 := qr HO131 hb; replace BK102 := qb BK102 hb; replace BK108 := qb BK108 hb; replace BK117 := qb BK117 hb; replace BK126 := qb BK126 hb; replace HB := Aside0.mk (below_step (by repeat (first | (with_reducible first | exact HB.out | apply below_alloc | apply pw_below_drewN | apply below_drew1 | refine qs ?_ (by assumption)) | exact HB.out)) hb); (try clear hb); (try clear hb2); (try clear hk); (try clear hi)) | (go_at_call 20; (with_reducible refine (morainelaw02_awake.calls  t135 _ A97.out (NumV.Tab.below HT.out (by repeat (first | exact HB.out | apply below_alloc | apply pw_below_drewN | apply below_drew1 | refine below_set ?_ (Aside0.out (by assumption)))))).mono ?_); rintro e w101 ⟨rfl, hb⟩; replace HO_109001 := qr HO_109001 hb; replace HO_118001 := qr HO_118001 hb; replace HO_127001 := qr HO_127001 hb; replace HO131 := qr HO131 hb; replace BK102 := qb BK102 hb; replace BK108 := qb BK108 hb; replace BK117 := qb BK117 hb; replace BK126 := qb BK126 hb; replace HB := Aside0.mk (below_step (by repeat (first | (with_reducible first | exact HB.out | apply below_alloc | apply pw_below_drewN | apply below_drew1 | refine qs ?_ (by assumption)) | exact HB.out)) hb); (try clear hb); (try clear hb2); (try clear hk); (try clear hi)))
                                      repeat (go_quiet (first | (go_at_call 18; (with_reducible refine (num_Of.calls a1 t128 t129 _ A86.out).mono ?_); rintro e w98 ⟨v130, rfl, ho0, hb⟩; have HO131 := Aside0.mk (Kd.R_lower (Kd.R_new' (Kd.R_new' (Kd.R_new' ho0 (ql HO_109001)) (ql HO_118001)) (ql HO_127001)) (below_size (by repeat (first | (with_reducible first | exact HB.out | apply below_alloc | apply pw_below_drewN | apply below_drew1 | refine qs ?_ (by assumption)) | exact HB.out)))); replace HO_109001 := qe HO_109001 ho0 hb; replace HO_118001 := qe HO_118001 ho0 hb; replace HO_127001 := qe HO_127001 ho0 hb; replace BK102 := qb BK102 hb; replace BK108 := qb BK108 hb; replace BK117 := qb BK117 hb; replace BK126 := qb BK126 hb; replace HB := Aside0.mk (below_step (by repeat (first | (with_reducible first | exact HB.out | apply below_alloc | apply pw_below_drewN | apply below_drew1 | refine qs ?_ (by assumption)) | exact HB.out)) hb); (try clear hb); (try clear hb2); (try clear hk); (try clear hi); (try clear ho0); obtain ⟨Ao99, co99, eo99⟩ := Kd.R_slice HO131.out; subst eo99) | (go_at_call 40; (with_reducible refine (num_Fix.calls t128 _ _ t129 t132 false _ ?side1 ?side2 A87.out).mono ?_); (case side1 => repeat (first | exact (Kd.R_reads' HO131.out).2.2 | (with_reducible refine Kd.C_alloc ?_ _) | (with_reducible refine Kd.C_drewN ?_ _) | (with_reducible refine Kd.C_drew ?_))); (case side2 => exact (Kd.R_reads' HO131.out).2.1); rintro e w100 ⟨rfl, hb⟩; replace HO_109001 := qr HO_109001 hb; replace HO_118001 := qr HO_118001 hb; replace HO_127001 := qr HO_127001 hb; replace HO131 := qr HO131 hb; replace BK102 := qb BK102 hb; replace BK108 := qb BK108 hb; replace BK117 := qb BK117 hb; replace BK126 := qb BK126 hb; replace HB := Aside0.mk (below_step (by repeat (first | (with_reducible first | exact HB.out | apply below_alloc | apply pw_below_drewN | apply below_drew1 | refine qs ?_ (by assumption)) | exact HB.out)) hb); (try clear hb); (try clear hb2); (try clear hk); (try clear hi)) | (go_at_call 20; (with_reducible refine (morainelaw02_awake.calls  t135 _ A97.out (NumV.Tab.below HT.out (by repeat (first | exact HB.out | apply below_alloc | apply pw_below_drewN | apply below_drew1 | refine below_set ?_ (Aside0.out (by assumption)))))).mono ?_); rintro e w101 ⟨rfl, hb⟩; replace HO_109001 := qr HO_109001 hb; replace HO_118001 := qr HO_118001 hb; replace HO_127001 := qr HO_127001 hb; replace HO131 := qr HO131 hb; replace BK102 := qb BK102 hb; replace BK108 := qb BK108 hb; replace BK117 := qb BK117 hb; replace BK126 := qb BK126 hb; replace HB := Aside0.mk (below_step (by repeat (first | (with_reducible first | exact HB.out | apply below_alloc | apply pw_below_drewN | apply below_drew1 | refine qs ?_ (by assumption)) | exact HB.out)) hb); (try clear hb); (try clear hb2); (try clear hk); (try clear hi))); try go_wp2_with (first | (go_at_call 18; (with_reducible refine (num_Of.calls a1 t128 t129 _ A86.out).mono ?_); rintro e w98 ⟨v130, rfl, ho0, hb⟩; have HO131 := Aside0.mk (Kd.R_lower (Kd.R_new' (Kd.R_new' (Kd.R_new' ho0 (ql HO_109001)) (ql HO_118001)) (ql HO_127001)) (below_size (by repeat (first | (with_reducible first | exact HB.out | apply below_alloc | apply pw_below_drewN | apply below_drew1 | refine qs ?_ (by assumption)) | exact HB.out)))); replace HO_109001 := qe HO_109001 ho0 hb; replace HO_118001 := qe HO_118001 ho0 hb; replace HO_127001 := qe HO_127001 ho0 hb; replace BK102 := qb BK102 hb; replace BK108 := qb BK108 hb; replace BK117 := qb BK117 hb; replace BK126 := qb BK126 hb; replace HB := Aside0.mk (below_step (by repeat (first | (with_reducible first | exact HB.out | apply below_alloc | apply pw_below_drewN | apply below_drew1 | refine qs ?_ (by assumption)) | exact HB.out)) hb); (try clear hb); (try clear hb2); (try clear hk); (try clear hi); (try clear ho0); obtain ⟨Ao99, co99, eo99⟩ := Kd.R_slice HO131.out; subst eo99) | (go_at_call 40; (with_reducible refine (num_Fix.calls t128 _ _ t129 t132 false _ ?side1 ?side2 A87.out).mono ?_); (case side1 => repeat (first | exact (Kd.R_reads' HO131.out).2.2 | (with_reducible refine Kd.C_alloc ?_ _) | (with_reducible refine Kd.C_drewN ?_ _) | (with_reducible refine Kd.C_drew ?_))); (case side2 => exact (Kd.R_reads' HO131.out).2.1); rintro e w100 ⟨rfl, hb⟩; replace HO_109001 := qr HO_109001 hb; replace HO_118001 := qr HO_118001 hb; replace HO_127001 := qr HO_127001 hb; replace HO131 := qr HO131 hb; replace BK102 := qb BK102 hb; replace BK108 := qb BK108 hb; replace BK117 := qb BK117 hb; replace BK126 := qb BK126 hb; replace HB := Aside0.mk (below_step (by repeat (first | (with_reducible first | exact HB.out | apply below_alloc | apply pw_below_drewN | apply below_drew1 | refine qs ?_ (by assumption)) | exact HB.out)) hb); (try clear hb); (try clear hb2); (try clear hk); (try clear hi)) | (go_at_call 20; (with_reducible refine (morainelaw02_awake.calls  t135 _ A97.out (NumV.Tab.below HT.out (by repeat (first | exact HB.out | apply below_alloc | apply pw_below_drewN | apply below_drew1 | refine below_set ?_ (Aside0.out (by assumption)))))).mono ?_); rintro e w101 ⟨rfl, hb⟩; replace HO_109001 := qr HO_109001 hb; replace HO_118001 := qr HO_118001 hb; replace HO_127001 := qr HO_127001 hb; replace HO131 := qr HO131 hb; replace BK102 := qb BK102 hb; replace BK108 := qb BK108 hb; replace BK117 := qb BK117 hb; replace BK126 := qb BK126 hb; replace HB := Aside0.mk (below_step (by repeat (first | (with_reducible first | exact HB.out | apply below_alloc | apply pw_below_drewN | apply below_drew1 | refine qs ?_ (by assumption)) | exact HB.out)) hb); (try clear hb); (try clear hb2); (try clear hk); (try clear hi))))
                                      go_ret
                                      exact ⟨by first | rfl | (simp [errW_none, errW_some] <;> rfl) | (simp [*, errW_none, errW_some] <;> rfl), by repeat (first | (with_reducible first | exact HB.out | apply below_alloc | apply pw_below_drewN | apply below_drew1 | refine qs ?_ (by assumption)) | exact HB.out)⟩
                                  · rw [if_neg c89] at H
                                    have c89b0 : (t133 == (decide (a1 < 1152921504606846976))) = false := by simpa using c89
                                    (try (have c89b1 : decide (t133 = (decide (a1 < 1152921504606846976))) = false := by simpa using c89))
                                    (try (have c89b2 : (t133 == (decide (a1 < 1152921504606846976))) = false := by simpa using c89))
                                    (try (have c89b3 : ¬ (t133 = (decide (a1 < 1152921504606846976))) := by simpa using c89))
                                    clear c89
                                    exact absurd ((Option.some.inj H).trans hr) (by decide)
                                · rw [if_neg c88] at H
                                  have c88b0 : decide ((-1152921504606846976) ≤ a1) = false := decide_eq_false c88
                                  clear c88
                                  by_cases c102 : (t133 == false) = true
                                  · rw [if_pos c102] at H
                                    have c102b0 : (t133 == false) = true := c102
                                    (try (have c102b1 : decide (t133 = false) = true := by simpa using c102))
                                    (try (have c102b2 : (t133 == false) = true := by simpa using c102))
                                    clear c102
                                    by_cases c103 : t133 = true
                                    · subst c103
                                      have H1 : (if t132 = a1 then ((morainelaw02_awake.f).bind fun t136 => (some t136)) else (some false)) = some r := by rw [if_pos rfl] at H; exact H
                                      clear H
                                      have H := H1
                                      clear H1
                                      by_cases c104 : t132 = a1
                                      · rw [if_pos c104] at H
                                        have c104b0 : (t132 == a1) = true := beq_iff_eq.mpr c104
                                        have c104b1 : (t132 != a1) = false := bne_eq_false_iff_eq.mpr c104
                                        clear c104
                                        replace H := Option.bind_eq_some_iff.mp H
                                        obtain ⟨t136, A1050, H⟩ := H
                                        replace H : (some t136) = some r := H
                                        have A105 := Aside0.mk A1050
                                        clear A1050
                                        obtain rfl := Option.some.inj H
                                        go_wp2_with (first | (go_at_call 18; (with_reducible refine (num_Of.calls a1 t128 t129 _ A86.out).mono ?_); rintro e w106 ⟨v130, rfl, ho0, hb⟩; have HO131 := Aside0.mk (Kd.R_lower (Kd.R_new' (Kd.R_new' (Kd.R_new' ho0 (ql HO_109001)) (ql HO_118001)) (ql HO_127001)) (below_size (by repeat (first | (with_reducible first | exact HB.out | apply below_alloc | apply pw_below_drewN | apply below_drew1 | refine qs ?_ (by assumption)) | exact HB.out)))); replace HO_109001 := qe HO_109001 ho0 hb; replace HO_118001 := qe HO_118001 ho0 hb; replace HO_127001 := qe HO_127001 ho0 hb; replace BK102 := qb BK102 hb; replace BK108 := qb BK108 hb; replace BK117 := qb BK117 hb; replace BK126 := qb BK126 hb; replace HB := Aside0.mk (below_step (by repeat (first | (with_reducible first | exact HB.out | apply below_alloc | apply pw_below_drewN | apply below_drew1 | refine qs ?_ (by assumption)) | exact HB.out)) hb); (try clear hb); (try clear hb2); (try clear hk); (try clear hi); (try clear ho0); obtain ⟨Ao107, co107, eo107⟩ := Kd.R_slice HO131.out; subst eo107) | (go_at_call 40; (with_reducible refine (num_Fix.calls t128 _ _ t129 t132 true _ ?side1 ?side2 A87.out).mono ?_); (case side1 => repeat (first | exact (Kd.R_reads' HO131.out).2.2 | (with_reducible refine Kd.C_alloc ?_ _) | (with_reducible refine Kd.C_drewN ?_ _) | (with_reducible refine Kd.C_drew ?_))); (case side2 => exact (Kd.R_reads' HO131.out).2.1); rintro e w108 ⟨rfl, hb⟩; replace HO_109001 := qr HO_109001 hb; replace HO_118001 := qr HO_118001 hb; replace HO_127001 := qr HO_127001 hb; replace HO131 := qr HO131 hb; replace BK102 := qb BK102 hb; replace BK108 := qb BK108 hb; replace BK117 := qb BK117 hb; replace BK126 := qb BK126 hb; replace HB := Aside0.mk (below_step (by repeat (first | (with_reducible first | exact HB.out | apply below_alloc | apply pw_below_drewN | apply below_drew1 | refine qs ?_ (by assumption)) | exact HB.out)) hb); (try clear hb); (try clear hb2); (try clear hk); (try clear hi)) | (go_at_call 20; (with_reducible refine (morainelaw02_awake.calls  t136 _ A105.out (NumV.Tab.below HT.out (by repeat (first | exact HB.out | apply below_alloc | apply pw_below_drewN | apply below_drew1 | refine below_set ?_ (Aside0.out (by assumption)))))).mono ?_); rintro e w109 ⟨rfl, hb⟩; replace HO_109001 := qr HO_109001 hb; replace HO_118001 := qr HO_118001 hb; replace HO_127001 := qr HO_127001 hb; replace HO131 := qr HO131 hb; replace BK102 := qb BK102 hb; replace BK108 := qb BK108 hb; replace BK117 := qb BK117 hb; replace BK126 := qb BK126 hb; replace HB := Aside0.mk (below_step (by repeat (first | (with_reducible first | exact HB.out | apply below_alloc | apply pw_below_drewN | apply below_drew1 | refine qs ?_ (by assumption)) | exact HB.out)) hb); (try clear hb); (try clear hb2); (try clear hk); (try clear hi)))
                                        repeat (go_quiet (first | (go_at_call 18; (with_reducible refine (num_Of.calls a1 t128 t129 _ A86.out).mono ?_); rintro e w106 ⟨v130, rfl, ho0, hb⟩; have HO131 := Aside0.mk (Kd.R_lower (Kd.R_new' (Kd.R_new' (Kd.R_new' ho0 (ql HO_109001)) (ql HO_118001)) (ql HO_127001)) (below_size (by repeat (first | (with_reducible first | exact HB.out | apply below_alloc | apply pw_below_drewN | apply below_drew1 | refine qs ?_ (by assumption)) | exact HB.out)))); replace HO_109001 := qe HO_109001 ho0 hb; replace HO_118001 := qe HO_118001 ho0 hb; replace HO_127001 := qe HO_127001 ho0 hb; replace BK102 := qb BK102 hb; replace BK108 := qb BK108 hb; replace BK117 := qb BK117 hb; replace BK126 := qb BK126 hb; replace HB := Aside0.mk (below_step (by repeat (first | (with_reducible first | exact HB.out | apply below_alloc | apply pw_below_drewN | apply below_drew1 | refine qs ?_ (by assumption)) | exact HB.out)) hb); (try clear hb); (try clear hb2); (try clear hk); (try clear hi); (try clear ho0); obtain ⟨Ao107, co107, eo107⟩ := Kd.R_slice HO131.out; subst eo107) | (go_at_call 40; (with_reducible refine (num_Fix.calls t128 _ _ t129 t132 true _ ?side1 ?side2 A87.out).mono ?_); (case side1 => repeat (first | exact (Kd.R_reads' HO131.out).2.2 | (with_reducible refine Kd.C_alloc ?_ _) | (with_reducible refine Kd.C_drewN ?_ _) | (with_reducible refine Kd.C_drew ?_))); (case side2 => exact (Kd.R_reads' HO131.out).2.1); rintro e w108 ⟨rfl, hb⟩; replace HO_109001 := qr HO_109001 hb; replace HO_118001 := qr HO_118001 hb; replace HO_127001 := qr HO_127001 hb; replace HO131 := qr HO131 hb; replace BK102 := qb BK102 hb; replace BK108 := qb BK108 hb; replace BK117 := qb BK117 hb; replace BK126 := qb BK126 hb; replace HB := Aside0.mk (below_step (by repeat (first | (with_reducible first | exact HB.out | apply below_alloc | apply pw_below_drewN | apply below_drew1 | refine qs ?_ (by assumption)) | exact HB.out)) hb); (try clear hb); (try clear hb2); (try clear hk); (try clear hi)) | (go_at_call 20; (with_reducible refine (morainelaw02_awake.calls  t136 _ A105.out (NumV.Tab.below HT.out (by repeat (first | exact HB.out | apply below_alloc | apply pw_below_drewN | apply below_drew1 | refine below_set ?_ (Aside0.out (by assumption)))))).mono ?_); rintro e w109 ⟨rfl, hb⟩; replace HO_109001 := qr HO_109001 hb; replace HO_118001 := qr HO_118001 hb; replace HO_127001 := qr HO_127001 hb; replace HO131 := qr HO131 hb; replace BK102 := qb BK102 hb; replace BK108 := qb BK108 hb; replace BK117 := qb BK117 hb; replace BK126 := qb BK126 hb; replace HB := Aside0.mk (below_step (by repeat (first | (with_reducible first | exact HB.out | apply below_alloc | apply pw_below_drewN | apply below_drew1 | refine qs ?_ (by assumption)) | exact HB.out)) hb); (try clear hb); (try clear hb2); (try clear hk); (try clear hi))); try go_wp2_with (first | (go_at_call 18; (with_reducible refine (num_Of.calls a1 t128 t129 _ A86.out).mono ?_); rintro e w106 ⟨v130, rfl, ho0, hb⟩; have HO131 := Aside0.mk (Kd.R_lower (Kd.R_new' (Kd.R_new' (Kd.R_new' ho0 (ql HO_109001)) (ql HO_118001)) (ql HO_127001)) (below_size (by repeat (first | (with_reducible first | exact HB.out | apply below_alloc | apply pw_below_drewN | apply below_drew1 | refine qs ?_ (by assumption)) | exact HB.out)))); replace HO_109001 := qe HO_109001 ho0 hb; replace HO_118001 := qe HO_118001 ho0 hb; replace HO_127001 := qe HO_127001 ho0 hb; replace BK102 := qb BK102 hb; replace BK108 := qb BK108 hb; replace BK117 := qb BK117 hb; replace BK126 := qb BK126 hb; replace HB := Aside0.mk (below_step (by repeat (first | (with_reducible first | exact HB.out | apply below_alloc | apply pw_below_drewN | apply below_drew1 | refine qs ?_ (by assumption)) | exact HB.out)) hb); (try clear hb); (try clear hb2); (try clear hk); (try clear hi); (try clear ho0); obtain ⟨Ao107, co107, eo107⟩ := Kd.R_slice HO131.out; subst eo107) | (go_at_call 40; (with_reducible refine (num_Fix.calls t128 _ _ t129 t132 true _ ?side1 ?side2 A87.out).mono ?_); (case side1 => repeat (first | exact (Kd.R_reads' HO131.out).2.2 | (with_reducible refine Kd.C_alloc ?_ _) | (with_reducible refine Kd.C_drewN ?_ _) | (with_reducible refine Kd.C_drew ?_))); (case side2 => exact (Kd.R_reads' HO131.out).2.1); rintro e w108 ⟨rfl, hb⟩; replace HO_109001 := qr HO_109001 hb; replace HO_118001 := qr HO_118001 hb; replace HO_127001 := qr HO_127001 hb; replace HO131 := qr HO131 hb; replace BK102 := qb BK102 hb; replace BK108 := qb BK108 hb; replace BK117 := qb BK117 hb; replace BK126 := qb BK126 hb; replace HB := Aside0.mk (below_step (by repeat (first | (with_reducible first | exact HB.out | apply below_alloc | apply pw_below_drewN | apply below_drew1 | refine qs ?_ (by assumption)) | exact HB.out)) hb); (try clear hb); (try clear hb2); (try clear hk); (try clear hi)) | (go_at_call 20; (with_reducible refine (morainelaw02_awake.calls  t136 _ A105.out (NumV.Tab.below HT.out (by repeat (first | exact HB.out | apply below_alloc | apply pw_below_drewN | apply below_drew1 | refine below_set ?_ (Aside0.out (by assumption)))))).mono ?_); rintro e w109 ⟨rfl, hb⟩; replace HO_109001 := qr HO_109001 hb; replace HO_118001 := qr HO_118001 hb; replace HO_127001 := qr HO_127001 hb; replace HO131 := qr HO131 hb; replace BK102 := qb BK102 hb; replace BK108 := qb BK108 hb; replace BK117 := qb BK117 hb; replace BK126 := qb BK126 hb; replace HB := Aside0.mk (below_step (by repeat (first | (with_reducible first | exact HB.out | apply below_alloc | apply pw_below_drewN | apply below_drew1 | refine qs ?_ (by assumption)) | exact HB.out)) hb); (try clear hb); (try clear hb2); (try clear hk); (try clear hi))))
                                        go_ret
                                        exact ⟨by first | rfl | (simp [errW_none, errW_some] <;> rfl) | (simp [*, errW_none, errW_some] <;> rfl), by repeat (first | (with_reducible first | exact HB.out | apply below_alloc | apply pw_below_drewN | apply below_drew1 | refine qs ?_ (by assumption)) | exact HB.out)⟩
                                      · rw [if_neg c104] at H
                                        have c104b0 : (t132 == a1) = false := beq_eq_false_iff_ne.mpr c104
                                        have c104b1 : (t132 != a1) = true := bne_iff_ne.mpr c104
                                        exact absurd ((Option.some.inj H).trans hr) (by decide)
                                    · replace c103 := Bool.eq_false_iff.mpr c103
                                      subst c103
                                      have H1 : ((morainelaw02_awake.f).bind fun t137 => (some t137)) = some r := by rw [if_neg (show ¬ (false = true) by decide)] at H; exact H
                                      clear H
                                      have H := H1
                                      clear H1
                                      replace H := Option.bind_eq_some_iff.mp H
                                      obtain ⟨t137, A1100, H⟩ := H
                                      replace H : (some t137) = some r := H
                                      have A110 := Aside0.mk A1100
                                      clear A1100
                                      obtain rfl := Option.some.inj H
                                      go_wp2_with (first | (go_at_call 18; (with_reducible refine (num_Of.calls a1 t128 t129 _ A86.out).mono ?_); rintro e w111 ⟨v130, rfl, ho0, hb⟩; have HO131 := Aside0.mk (Kd.R_lower (Kd.R_new' (Kd.R_new' (Kd.R_new' ho0 (ql HO_109001)) (ql HO_118001)) (ql HO_127001)) (below_size (by repeat (first | (with_reducible first | exact HB.out | apply below_alloc | apply pw_below_drewN | apply below_drew1 | refine qs ?_ (by assumption)) | exact HB.out)))); replace HO_109001 := qe HO_109001 ho0 hb; replace HO_118001 := qe HO_118001 ho0 hb; replace HO_127001 := qe HO_127001 ho0 hb; replace BK102 := qb BK102 hb; replace BK108 := qb BK108 hb; replace BK117 := qb BK117 hb; replace BK126 := qb BK126 hb; replace HB := Aside0.mk (below_step (by repeat (first | (with_reducible first | exact HB.out | apply below_alloc | apply pw_below_drewN | apply below_drew1 | refine qs ?_ (by assumption)) | exact HB.out)) hb); (try clear hb); (try clear hb2); (try clear hk); (try clear hi); (try clear ho0); obtain ⟨Ao112, co112, eo112⟩ := Kd.R_slice HO131.out; subst eo112) | (go_at_call 40; (with_reducible refine (num_Fix.calls t128 _ _ t129 t132 false _ ?side1 ?side2 A87.out).mono ?_); (case side1 => repeat (first | exact (Kd.R_reads' HO131.out).2.2 | (with_reducible refine Kd.C_alloc ?_ _) | (with_reducible refine Kd.C_drewN ?_ _) | (with_reducible refine Kd.C_drew ?_))); (case side2 => exact (Kd.R_reads' HO131.out).2.1); rintro e w113 ⟨rfl, hb⟩; replace HO_109001 := qr HO_109001 hb; replace HO_118001 := qr HO_118001 hb; replace HO_127001 := qr HO_127001 hb; replace HO131 := qr HO131 hb; replace BK102 := qb BK102 hb; replace BK108 := qb BK108 hb; replace BK117 := qb BK117 hb; replace BK126 := qb BK126 hb; replace HB := Aside0.mk (below_step (by repeat (first | (with_reducible first | exact HB.out | apply below_alloc | apply pw_below_drewN | apply below_drew1 | refine qs ?_ (by assumption)) | exact HB.out)) hb); (try clear hb); (try clear hb2); (try clear hk); (try clear hi)) | (go_at_call 20; (with_reducible refine (morainelaw02_awake.calls  t137 _ A110.out (NumV.Tab.below HT.out (by repeat (first | exact HB.out | apply below_alloc | apply pw_below_drewN | apply below_drew1 | refine below_set ?_ (Aside0.out (by assumption)))))).mono ?_); rintro e w114 ⟨rfl, hb⟩; replace HO_109001 := qr HO_109001 hb; replace HO_118001 := qr HO_118001 hb; replace HO_127001 := qr HO_127001 hb; replace HO131 := qr HO131 hb; replace BK102 := qb BK102 hb; replace BK108 := qb BK108 hb; replace BK117 := qb BK117 hb; replace BK126 := qb BK126 hb; replace HB := Aside0.mk (below_step (by repeat (first | (with_reducible first | exact HB.out | apply below_alloc | apply pw_below_drewN | apply below_drew1 | refine qs ?_ (by assumption)) | exact HB.out)) hb); (try clear hb); (try clear hb2); (try clear hk); (try clear hi)))
                                      repeat (go_quiet (first | (go_at_call 18; (with_reducible refine (num_Of.calls a1 t128 t129 _ A86.out).mono ?_); rintro e w111 ⟨v130, rfl, ho0, hb⟩; have HO131 := Aside0.mk (Kd.R_lower (Kd.R_new' (Kd.R_new' (Kd.R_new' ho0 (ql HO_109001)) (ql HO_118001)) (ql HO_127001)) (below_size (by repeat (first | (with_reducible first | exact HB.out | apply below_alloc | apply pw_below_drewN | apply below_drew1 | refine qs ?_ (by assumption)) | exact HB.out)))); replace HO_109001 := qe HO_109001 ho0 hb; replace HO_118001 := qe HO_118001 ho0 hb; replace HO_127001 := qe HO_127001 ho0 hb; replace BK102 := qb BK102 hb; replace BK108 := qb BK108 hb; replace BK117 := qb BK117 hb; replace BK126 := qb BK126 hb; replace HB := Aside0.mk (below_step (by repeat (first | (with_reducible first | exact HB.out | apply below_alloc | apply pw_below_drewN | apply below_drew1 | refine qs ?_ (by assumption)) | exact HB.out)) hb); (try clear hb); (try clear hb2); (try clear hk); (try clear hi); (try clear ho0); obtain ⟨Ao112, co112, eo112⟩ := Kd.R_slice HO131.out; subst eo112) | (go_at_call 40; (with_reducible refine (num_Fix.calls t128 _ _ t129 t132 false _ ?side1 ?side2 A87.out).mono ?_); (case side1 => repeat (first | exact (Kd.R_reads' HO131.out).2.2 | (with_reducible refine Kd.C_alloc ?_ _) | (with_reducible refine Kd.C_drewN ?_ _) | (with_reducible refine Kd.C_drew ?_))); (case side2 => exact (Kd.R_reads' HO131.out).2.1); rintro e w113 ⟨rfl, hb⟩; replace HO_109001 := qr HO_109001 hb; replace HO_118001 := qr HO_118001 hb; replace HO_127001 := qr HO_127001 hb; replace HO131 := qr HO131 hb; replace BK102 := qb BK102 hb; replace BK108 := qb BK108 hb; replace BK117 := qb BK117 hb; replace BK126 := qb BK126 hb; replace HB := Aside0.mk (below_step (by repeat (first | (with_reducible first | exact HB.out | apply below_alloc | apply pw_below_drewN | apply below_drew1 | refine qs ?_ (by assumption)) | exact HB.out)) hb); (try clear hb); (try clear hb2); (try clear hk); (try clear hi)) | (go_at_call 20; (with_reducible refine (morainelaw02_awake.calls  t137 _ A110.out (NumV.Tab.below HT.out (by repeat (first | exact HB.out | apply below_alloc | apply pw_below_drewN | apply below_drew1 | refine below_set ?_ (Aside0.out (by assumption)))))).mono ?_); rintro e w114 ⟨rfl, hb⟩; replace HO_109001 := qr HO_109001 hb; replace HO_118001 := qr HO_118001 hb; replace HO_127001 := qr HO_127001 hb; replace HO131 := qr HO131 hb; replace BK102 := qb BK102 hb; replace BK108 := qb BK108 hb; replace BK117 := qb BK117 hb; replace BK126 := qb BK126 hb; replace HB := Aside0.mk (below_step (by repeat (first | (with_reducible first | exact HB.out | apply below_alloc | apply pw_below_drewN | apply below_drew1 | refine qs ?_ (by assumption)) | exact HB.out)) hb); (try clear hb); (try clear hb2); (try clear hk); (try clear hi))); try go_wp2_with (first | (go_at_call 18; (with_reducible refine (num_Of.calls a1 t128 t129 _ A86.out).mono ?_); rintro e w111 ⟨v130, rfl, ho0, hb⟩; have HO131 := Aside0.mk (Kd.R_lower (Kd.R_new' (Kd.R_new' (Kd.R_new' ho0 (ql HO_109001)) (ql HO_118001)) (ql HO_127001)) (below_size (by repeat (first | (with_reducible first | exact HB.out | apply below_alloc | apply pw_below_drewN | apply below_drew1 | refine qs ?_ (by assumption)) | exact HB.out)))); replace HO_109001 := qe HO_109001 ho0 hb; replace HO_118001 := qe HO_118001 ho0 hb; replace HO_127001 := qe HO_127001 ho0 hb; replace BK102 := qb BK102 hb; replace BK108 := qb BK108 hb; replace BK117 := qb BK117 hb; replace BK126 := qb BK126 hb; replace HB := Aside0.mk (below_step (by repeat (first | (with_reducible first | exact HB.out | apply below_alloc | apply pw_below_drewN | apply below_drew1 | refine qs ?_ (by assumption)) | exact HB.out)) hb); (try clear hb); (try clear hb2); (try clear hk); (try clear hi); (try clear ho0); obtain ⟨Ao112, co112, eo112⟩ := Kd.R_slice HO131.out; subst eo112) | (go_at_call 40; (with_reducible refine (num_Fix.calls t128 _ _ t129 t132 false _ ?side1 ?side2 A87.out).mono ?_); (case side1 => repeat (first | exact (Kd.R_reads' HO131.out).2.2 | (with_reducible refine Kd.C_alloc ?_ _) | (with_reducible refine Kd.C_drewN ?_ _) | (with_reducible refine Kd.C_drew ?_))); (case side2 => exact (Kd.R_reads' HO131.out).2.1); rintro e w113 ⟨rfl, hb⟩; replace HO_109001 := qr HO_109001 hb; replace HO_118001 := qr HO_118001 hb; replace HO_127001 := qr HO_127001 hb; replace HO131 := qr HO131 hb; replace BK102 := qb BK102 hb; replace BK108 := qb BK108 hb; replace BK117 := qb BK117 hb; replace BK126 := qb BK126 hb; replace HB := Aside0.mk (below_step (by repeat (first | (with_reducible first | exact HB.out | apply below_alloc | apply pw_below_drewN | apply below_drew1 | refine qs ?_ (by assumption)) | exact HB.out)) hb); (try clear hb); (try clear hb2); (try clear hk); (try clear hi)) | (go_at_call 20; (with_reducible refine (morainelaw02_awake.calls  t137 _ A110.out (NumV.Tab.below HT.out (by repeat (first | exact HB.out | apply below_alloc | apply pw_below_drewN | apply below_drew1 | refine below_set ?_ (Aside0.out (by assumption)))))).mono ?_); rintro e w114 ⟨rfl, hb⟩; replace HO_109001 := qr HO_109001 hb; replace HO_118001 := qr HO_118001 hb; replace HO_127001 := qr HO_127001 hb; replace HO131 := qr HO131 hb; replace BK102 := qb BK102 hb; replace BK108 := qb BK108 hb; replace BK117 := qb BK117 hb; replace BK126 := qb BK126 hb; replace HB := Aside0.mk (below_step (by repeat (first | (with_reducible first | exact HB.out | apply below_alloc | apply pw_below_drewN | apply below_drew1 | refine qs ?_ (by assumption)) | exact HB.out)) hb); (try clear hb); (try clear hb2); (try clear hk); (try clear hi))))
                                      go_ret
                                      exact ⟨by first | rfl | (simp [errW_none, errW_some] <;> rfl) | (simp [*, errW_none, errW_some] <;> rfl), by repeat (first | (with_reducible first | exact HB.out | apply below_alloc | apply pw_below_drewN | apply below_drew1 | refine qs ?_ (by assumption)) | exact HB.out)⟩
                                  · rw [if_neg c102] at H
                                    have c102b0 : (t133 == false) = false := by simpa using c102
                                    (try (have c102b1 : decide (t133 = false) = false := by simpa using c102))
                                    (try (have c102b2 : (t133 == false) = false := by simpa using c102))
                                    (try (have c102b3 : ¬ (t133 = false) := by simpa using c102))
                                    clear c102
                                    exact absurd ((Option.some.inj H).trans hr) (by decide)
                        · rw [if_neg c65] at H
                          exact absurd H (by simp)
end Go.Proofs.YthhpnlbeniihhaaDoor.PNumBack
namespace Go.Proofs.YthhpnlbeniihhaaDoor.Raw
open Go.Proofs.YthhpnlbeniihhaaDoor Go.Proofs.YthhpnlbeniihhaaDoor.Limb Go.Proofs.YthhpnlbeniihhaaDoor.NumA Go.Proofs.YthhpnlbeniihhaaDoor.NumB Go.Proofs.YthhpnlbeniihhaaDoor.NumC Go.Proofs.YthhpnlbeniihhaaDoor.NumJ Go.Proofs.YthhpnlbeniihhaaDoor.NumS Go.Proofs.YthhpnlbeniihhaaDoor.NumU Go.Proofs.YthhpnlbeniihhaaDoor.Vals Go.Proofs.YthhpnlbeniihhaaDoor.Plain
section
variable {n : Bool} {l : List Int} (h : okN l)
include h
theorem text_raw : num_Text.f n l = some ⟨(textI (val n l)).toArray⟩ := by unfold num_Text.f; rw [if_pos h]
end
section
variable {n1 n2 : Bool} {l m : List Int} (h1 : okN l) (h2 : okN m)
include h1 h2
end
theorem aw : (morainelaw02_awake.f).bind (fun t => some t) = some true := rfl
end Go.Proofs.YthhpnlbeniihhaaDoor.Raw
namespace Go.Proofs.YthhpnlbeniihhaaDoor.Digits
open Go.Proofs.YthhpnlbeniihhaaDoor Go.Proofs.YthhpnlbeniihhaaDoor.Limb Go.Proofs.YthhpnlbeniihhaaDoor.NumB Go.Proofs.YthhpnlbeniihhaaDoor.NumJ Go.Proofs.YthhpnlbeniihhaaDoor.NumU Go.Proofs.YthhpnlbeniihhaaDoor.NumW Go.Proofs.YthhpnlbeniihhaaDoor.Text Go.Proofs.YthhpnlbeniihhaaDoor.Vals Go.Lib
theorem decv_snoc (l : List UInt8) (b : UInt8) : decv (l ++ [b]) = 10 * decv l + (b.toNat - 48) := by unfold decv; rw [List.foldl_append]; rfl
theorem dig_of (d : Nat) (h : d < 10) : (UInt8.ofNat (48 + d)).toNat = 48 + d := by
  show (48 + d) % 2 ^ 8 = 48 + d
  omega
theorem decv_dec (n : Nat) : decv (decDigits n) = n := by
  induction n using Nat.strongRecOn with
  | ind n ih =>
    by_cases h : n < 10
    · rw [dec_small h]
      show 10 * 0 + ((UInt8.ofNat (48 + n)).toNat - 48) = n
      rw [dig_of n h]; omega
    · rw [dec_big h, decv_snoc, ih (n / 10) (by omega), dig_of _ (by omega)]
      omega
theorem isDig_of (d : Nat) (h : d < 10) : isDig (UInt8.ofNat (48 + d)) = true := by
  unfold isDig; rw [dig_of d h]; exact decide_eq_true ⟨by omega, by omega⟩
theorem dec_all (n : Nat) : (decDigits n).all isDig = true := by
  induction n using Nat.strongRecOn with
  | ind n ih =>
    by_cases h : n < 10
    · rw [dec_small h, List.all_cons, isDig_of n h]; rfl
    · rw [dec_big h, List.all_append, ih (n / 10) (by omega)]
      rw [Bool.true_and, List.all_cons, isDig_of (n % 10) (by omega)]; rfl
theorem dec_ne (n : Nat) : decDigits n ≠ [] := by
  intro h
  have := dec_pos n
  rw [h] at this
  exact absurd this (by decide)
theorem decv_nought (l : List UInt8) : decv (48 :: l) = decv l := rfl
theorem digR_dec (neg : Bool) (j n : Nat) : digR neg (List.replicate j 48 ++ decDigits n) = mk neg n := by
  have h1 : List.replicate j (48 : UInt8) ++ decDigits n ≠ [] := by
    intro h
    exact dec_ne n (List.append_eq_nil_iff.mp h).2
  have h2 : (List.replicate j (48 : UInt8) ++ decDigits n).all isDig = true := by
    rw [List.all_append, dec_all, Bool.and_true, List.all_eq_true]
    intro x hx
    rw [List.eq_of_mem_replicate hx]; rfl
  have h3 : decv (List.replicate j 48 ++ decDigits n) = n := by
    induction j with
    | zero => exact decv_dec n
    | succ j ih =>
      rw [List.replicate_succ, List.cons_append, decv_nought]
      refine ih ?_ ?_
      · intro h
        exact dec_ne n (List.append_eq_nil_iff.mp h).2
      · rw [List.all_append, dec_all, Bool.and_true, List.all_eq_true]
        intro x hx
        rw [List.eq_of_mem_replicate hx]; rfl
  unfold digR
  rw [if_pos ⟨h1, h2⟩, h3]
theorem parseR_dec (j n : Nat) : parseR (List.replicate j 48 ++ decDigits n) = mk false n := by
  have h := digR_dec false j n
  have h2 : (List.replicate j (48 : UInt8) ++ decDigits n).all isDig = true := by
    rw [List.all_append, dec_all, Bool.and_true, List.all_eq_true]
    intro x hx
    rw [List.eq_of_mem_replicate hx]; rfl
  unfold parseR
  cases hl : List.replicate j (48 : UInt8) ++ decDigits n with
  | nil => rw [hl] at h; exact h
  | cons b l =>
    rw [hl] at h h2
    have hb : isDig b = true := by rw [List.all_cons, Bool.and_eq_true] at h2; exact h2.1
    have n1 : b ≠ 45 := by rintro rfl; exact absurd hb (by decide)
    have n2 : b ≠ 43 := by rintro rfl; exact absurd hb (by decide)
    show (if b = 45 then digR true l else if b = 43 then digR false l else digR false (b :: l)) = _
    rw [if_neg n1, if_neg n2]; exact h
theorem textI_eq (z : Int) : textI z = if z < 0 then 45 :: decDigits z.natAbs else decDigits z.natAbs := by
  unfold textI textR
  by_cases h : z.natAbs = 0
  · rw [if_pos h, if_neg (by omega), h]; decide +kernel
  · rw [if_neg h]
    by_cases hz : z < 0
    · rw [if_pos (decide_eq_true hz), if_pos hz]
    · rw [if_neg (by simpa using hz), if_neg hz]
theorem mk_abs_neg {z : Int} (h : z < 0) : mk true z.natAbs = mkI z := by rw [mk_true]; congr 1; omega
theorem mk_abs_pos {z : Int} (h : ¬ z < 0) : mk false z.natAbs = mkI z := by rw [mk_false]; congr 1; omega
/-- What is written is read as it. -/
theorem parse_text (z : Int) : parseR (textI z) = mkI z := by
  rw [textI_eq]
  by_cases h : z < 0
  · rw [if_pos h]
    exact (digR_dec true 0 z.natAbs).trans (mk_abs_neg h)
  · rw [if_neg h]
    exact (parseR_dec 0 z.natAbs).trans (mk_abs_pos h)
theorem ba_app (l m : List UInt8) : (⟨l.toArray⟩ : ByteArray) ++ ⟨m.toArray⟩ = ⟨(l ++ m).toArray⟩ := by
  apply ByteArray.ext; simp
theorem ba_drop (l : List UInt8) : (⟨l.toArray⟩ : ByteArray).extract 1 (⟨l.toArray⟩ : ByteArray).size = ⟨(l.drop 1).toArray⟩ := by
  apply ByteArray.ext
  simp [ByteArray.size]
  rw [List.take_of_length_le (by simp)]
theorem ba_size (l : List UInt8) : (⟨l.toArray⟩ : ByteArray).size = l.length := by simp [ByteArray.size]
theorem dec_len {n L : Nat} (h : n < 10 ^ L) (hL : 0 < L) : (decDigits n).length ≤ L := by
  obtain ⟨k, rfl⟩ : ∃ k, L = k + 1 := ⟨L - 1, by omega⟩
  exact (pad_dec k n h).1
end Go.Proofs.YthhpnlbeniihhaaDoor.Digits
namespace Go.Proofs.YthhpnlbeniihhaaDoor.PureBack
open Go.RowKit Go.Proofs.YthhpnlbeniihhaaDoorW.PrintWords Go.Proofs.YthhpnlbeniihhaaDoorW.PrintLast Go.Proofs.YthhpnlbeniihhaaDoorW.PrintMore Go.Proofs.YthhpnlbeniihhaaDoor Go.Proofs.YthhpnlbeniihhaaDoor.Limb Go.Proofs.YthhpnlbeniihhaaDoor.NumA Go.Proofs.YthhpnlbeniihhaaDoor.NumB Go.Proofs.YthhpnlbeniihhaaDoor.NumG Go.Proofs.YthhpnlbeniihhaaDoor.NumJ Go.Proofs.YthhpnlbeniihhaaDoor.NumU Go.Proofs.YthhpnlbeniihhaaDoor.Vals Go.Proofs.YthhpnlbeniihhaaDoor.Plain Go.Proofs.YthhpnlbeniihhaaDoor.Raw Go.Proofs.YthhpnlbeniihhaaDoor.PNumBack Go.Proofs.YthhpnlbeniihhaaDoor.Digits Go.Lib
theorem same_self (a : Bool) (l : List Int) (h : l.length < 1073741824) : moraineref02_Same.f a l a l = some true := by
  unfold moraineref02_Same.f; rw [if_pos h]; simp
theorem fits_i64 {x : Int} (h : -9223372036854775808 ≤ x ∧ x ≤ 9223372036854775807) : Fits x := Nat.lt_of_lt_of_le (show x.natAbs < 4294967296 ^ 2 by omega) (Nat.pow_le_pow_right (by decide) (by decide))
theorem j4 (k : Nat) (x : Int) (h : -9223372036854775808 ≤ x ∧ x ≤ 9223372036854775807) : morainelaw02_NumBack.j4 (k + 1) x false = some true := by
  rw [morainelaw02_NumBack.j4, if_neg (by decide), of_at (by omega), bsome]
  dsimp only
  rw [fix_at (fits_i64 h), bsome]
  by_cases h1 : x ≥ -1152921504606846976
  · by_cases h2 : x < 1152921504606846976
    · rw [show (if -1152921504606846976 ≤ x ∧ x < 1152921504606846976 then (x, true) else (0, false)) = (x, true) from if_pos ⟨h1, h2⟩, if_pos h1, decide_eq_true h2]
      dsimp only
      rw [if_pos (by decide), if_pos rfl, if_pos rfl]; exact aw
    · rw [show (if -1152921504606846976 ≤ x ∧ x < 1152921504606846976 then (x, true) else (0, false)) = (0, false) from if_neg (fun hh => h2 hh.2), if_pos h1, decide_eq_false h2]
      dsimp only
      rw [if_pos (by decide), if_neg (by decide)]; exact aw
  · rw [show (if -1152921504606846976 ≤ x ∧ x < 1152921504606846976 then (x, true) else (0, false)) = (0, false) from if_neg (fun hh => h1 hh.1), if_neg h1]
    dsimp only
    rw [if_pos (by decide), if_neg (by decide)]; exact aw
theorem few (z : Int) (hz : Fits z) : (decDigits z.natAbs).length ≤ 480 := by
  have h1 : 4294967296 ^ 48 ≤ (10 ^ 10) ^ 48 := Nat.pow_le_pow_left (by decide) 48
  rw [← Nat.pow_mul] at h1
  exact dec_len (L := 10 * 48) (Nat.lt_of_lt_of_le hz h1) (by decide)
/-- The sign's text. -/
def sg (z : Int) : List UInt8 := if z < 0 then [45] else [43]
theorem parse_sg (z : Int) (j : Nat) : parseR (sg z ++ (List.replicate j 48 ++ decDigits z.natAbs)) = mkI z := by
  unfold sg
  by_cases h : z < 0
  · rw [if_pos h]
    exact (digR_dec true j z.natAbs).trans (mk_abs_neg h)
  · rw [if_neg h]
    exact (digR_dec false j z.natAbs).trans (mk_abs_pos h)
theorem sg_len (z : Int) : (sg z).length = 1 := by unfold sg; split <;> rfl
theorem loop (x1 x2 z : Int) (hz : Fits z) (h : -9223372036854775808 ≤ x1 ∧ x1 ≤ 9223372036854775807) (N : Nat) (hN : (Int.tmod (wrap64 x2) 9) = (N : Int)) (h9 : N < 9) :
    ∀ (d i k : Nat), i + d = N → d + 2 ≤ k → morainelaw02_NumBack.l0 k x1 x2 ⟨(sg z).toArray⟩ ⟨(List.replicate i 48 ++ decDigits z.natAbs).toArray⟩ (i : Int) (sb z) (sl z) = some true := by
  have hfew := few z hz
  intro d
  induction d with
  | zero =>
    intro i k hi hk
    obtain ⟨k, rfl⟩ : ∃ j, k = j + 2 := ⟨k - 2, by omega⟩
    have len2 : (List.replicate i (48 : UInt8) ++ decDigits z.natAbs).length ≤ 500 := by rw [List.length_append, List.length_replicate]; omega
    rw [morainelaw02_NumBack.l0, hN, if_neg (by omega), ba_size, ba_size, sg_len, if_pos (by omega), ba_app]
    have hp : num_Parse.f ⟨(sg z ++ (List.replicate i 48 ++ decDigits z.natAbs)).toArray⟩ = some (mkI z) := by
      unfold num_Parse.f
      rw [if_pos (by rw [ba_size, List.length_append, sg_len]; omega)]
      exact congrArg some (parse_sg z i)
    rw [hp, bsome, mkI_fits hz]
    dsimp only
    rw [if_pos rfl, same_self _ _ (okN_sl hz).2, bsome]
    exact j4 k x1 h
  | succ d ih =>
    intro i k hi hk
    obtain ⟨k, rfl⟩ : ∃ j, k = j + 1 := ⟨k - 1, by omega⟩
    have len2 : (List.replicate i (48 : UInt8) ++ decDigits z.natAbs).length ≤ 500 := by rw [List.length_append, List.length_replicate]; omega
    rw [morainelaw02_NumBack.l0, hN, if_pos (by omega), ba_size, if_pos (by omega), show (⟨#[48]⟩ : ByteArray) = ⟨[48].toArray⟩ from rfl, ba_app, show wrap64 ((i : Int) + 1) = ((i + 1 : Nat) : Int) by unfold wrap64; omega]
    exact ih (i + 1) k (by omega) (by omega)
theorem pure (a : Bool) (x1 x2 : Int) (l : List Int) (ol : OkL l) (hfew : l.length < 35184372088832) (h1 : -9223372036854775808 ≤ x1 ∧ x1 ≤ 9223372036854775807) (h2 : 0 ≤ x2 ∧ x2 ≤ 255) : morainelaw02_NumBack.f 20 a l x1 x2 = some true := by
  have j0t : ∀ x y z u, morainelaw02_NumBack.j0 20 x1 x2 true x y z u = some true := by
    intro x y z u
    rw [morainelaw02_NumBack.j0, if_pos rfl]; exact aw
  have hnorm : num_Norm.f a l = some (mkI (val a l)) := by unfold num_Norm.f; rw [if_pos ⟨ol, hfew⟩]
  unfold morainelaw02_NumBack.f morainelaw02_long.f
  rw [hnorm, bsome, bsome]
  by_cases hl : (l.length : Int) > 60
  · rw [if_pos (decide_eq_true hl)]; exact j0t _ _ _ _
  rw [if_neg (by simpa using hl)]
  have kl : okN l := ⟨ol, by omega⟩
  by_cases hz : Fits (val a l)
  · have htx : num_Text.f a l = some ⟨(textI (val a l)).toArray⟩ := text_raw kl
    generalize val a l = z at *
    rw [mkI_fits hz]
    have hlen : (textI z).length ≤ 481 := by
      have := few z hz
      rw [textI_eq]; split
      · rw [List.length_cons]; omega
      · omega
    have hp : num_Parse.f ⟨(textI z).toArray⟩ = some (mkI z) := by
      unfold num_Parse.f
      rw [if_pos (by rw [ba_size]; omega)]
      exact congrArg some (parse_text z)
    dsimp only
    rw [show ((0 : Int) != 0) = false by decide, morainelaw02_NumBack.j0, if_neg (by decide), text_at hz, bsome, hp, bsome, mkI_fits hz]
    dsimp only
    rw [if_pos rfl, same_self _ _ (okN_sl hz).2, bsome, if_pos rfl, htx, bsome, show ((⟨(textI z).toArray⟩ : ByteArray).toList != (⟨(textI z).toArray⟩ : ByteArray).toList) = false by simp, morainelaw02_NumBack.j1, if_neg (by decide), sign_at hz, bsome]
    obtain ⟨N, hN⟩ : ∃ N : Nat, Int.tmod (wrap64 x2) 9 = (N : Int) := ⟨(x2 % 9).toNat, by
      have : wrap64 x2 = x2 := by unfold wrap64; omega
      rw [this, Int.tmod_eq_emod_of_nonneg h2.1]; omega⟩
    have hN9 : N < 9 := by
      have : wrap64 x2 = x2 := by unfold wrap64; omega
      rw [this, Int.tmod_eq_emod_of_nonneg h2.1] at hN; omega
    have lp := loop x1 x2 z hz h1 N hN hN9 N 0 17 (by omega) (by omega)
    by_cases hs : z < 0
    · rw [if_pos (by rw [Int.sign_eq_neg_one_of_neg hs]; decide), ba_size]
      rw [textI_eq, if_pos hs] at hlen ⊢
      rw [if_pos (by rw [List.length_cons]; omega), morainelaw02_NumBack.j2, show (⟨(45 :: decDigits z.natAbs).toArray⟩ : ByteArray).extract 1 (45 :: decDigits z.natAbs).length = ⟨(decDigits z.natAbs).toArray⟩ from by rw [← ba_size]; exact ba_drop _]
      unfold sg at lp
      rw [if_pos hs] at lp
      exact lp
    · rw [if_neg (by
        have : 0 ≤ z.sign := Int.sign_nonneg_iff.mpr (by omega)
        omega)]
      rw [textI_eq, if_neg hs] at hlen ⊢
      rw [morainelaw02_NumBack.j2]
      unfold sg at lp
      rw [if_neg hs] at lp
      exact lp
  · rw [mkI_big hz]
    exact j0t _ _ _ _
end Go.Proofs.YthhpnlbeniihhaaDoor.PureBack
namespace Go.Proofs.YthhpnlbeniihhaaDoor.numBack
open Go.ChangeShapes Go.WideShapes Go.ChangeAt Go.RowKit Go.Proofs.YthhpnlbeniihhaaDoor.Limb Go.Proofs.YthhpnlbeniihhaaDoor.Row
open Go.ChangeMaps (open_string shut_string)
set_option linter.unusedVariables false
theorem own : ownKnob Tryd.prog.godebug = none := by kernel_rfl
set_option maxRecDepth 100000 in
theorem contract (H : Type) (enc : TypeId × Value → H) (W : World) (base : Nat) (args : Array Value) (ds gs : List (DataW H)) (before : List MemPlace)
    (hval : ∀ (j : Nat) t v, Tryd.f9.params[j]? = some t → args[j]? = some v → Value.okWide Tryd.prog W .any base t v)
    (hW : DataW.Whole enc Tryd.prog Tryd.f9.params.toList Rows.numBackSpec.vars false W args.toList ds gs before)
    (hsz0 : (DataW.weightsEach Tryd.prog (Tryd.f9.params.toList ++ Rows.numBackSpec.plain.varTypes Tryd.prog) (ds ++ gs)).all (· ≤ reachBytes) = true) (hL : laidMetH Tryd.prog Rows.numBackRow.laid W) :
    Calls Tryd.prog 9 args W fun e W' => ∃ v, e = .returned v ∧ Rows.numBackSpec.post enc Tryd.prog Tryd.f9 false true false false W args v W' := by
  have ht : NumV.Tab W := tab hL
  have hsz : (DataW.weightsEach Tryd.prog (Tryd.f9.params.toList ++ Rows.numBackSpec.plain.varTypes Tryd.prog) (ds ++ gs)).all (· ≤ reachBytes) = true := hsz0
  have hW' := hW
  obtain ⟨p, q, hA0, hV, rfl, hfz, hnd⟩ := hW
  have hA : DataW.TrodAll enc Tryd.prog W 0 (fun _ => true) true Tryd.f9.params.toList args.toList ds p := hA0
  rw [Tryd.params9] at hA hval hsz
  obtain ⟨v0, vs0, d0, ds0, p0, q0, hargs, rfl, rfl, h0, r0⟩ := trodAll_cons hA
  obtain ⟨v1, vs1, d1, ds1, p1, q1, rfl, rfl, rfl, h1, r1⟩ := trodAll_cons r0
  obtain ⟨v2, vs2, d2, ds2, p2, q2, rfl, rfl, rfl, h2, r2⟩ := trodAll_cons r1
  obtain ⟨rfl, rfl, rfl⟩ := trodAll_nil r2
  obtain rfl : args = #[v0, v1, v2] := by cases args; simp_all
  obtain ⟨rfl, rfl⟩ := trodVars_none hV
  have k0 := h0
  have lt0 : ∀ x ∈ p0, x.block < W.heap.size := by obtain ⟨m, hm⟩ := k0; exact DataW.trod_lt m _ _ _ hm
  obtain ⟨n0, A0, c0, l0, rfl, ok0, hc0, hr0, bg0⟩ := open_num (hval 0 25 v0 rfl rfl) h0
  have few0 : l0.length < 35184372088832 := bg0 (fun n hn => by have := List.all_eq_true.1 hsz n (DataW.weights_mem_each (j := 0) rfl rfl n hn); simpa using this)
  obtain ⟨a1, rfl, rfl, rfl, w1⟩ := open_int Tryd.underlying2 (hval 1 2 v1 rfl rfl) h1
  obtain ⟨a2, rfl, rfl, rfl, w2⟩ := open_int Tryd.underlying5 (hval 2 5 v2 rfl rfl) h2
  refine (PNumBack.morainelaw02_NumBack.calls 20 n0 A0 c0 l0 a1 a2 true W rfl hr0 hc0 (PureBack.pure n0 a1 a2 l0 ok0 few0 (bounds_i64 w1) (bounds_u8 w2)) ht).mono fun e W' ⟨he, bel⟩ => ?_
  subst he
  exact ⟨_, rfl, _, _, _, [], _, [], hW', trodAll_mk1 (shut_bool Tryd.underlying4 _), (trodAll_cons_mk (Below.trod laidOut (by kernel_rfl) (of_decide_eq_true (by kernel_rfl)) k0 bel lt0) (trodAll_cons_mk (shut_int Tryd.underlying2 w1) (trodAll_cons_mk (shut_int Tryd.underlying5 w2) trodAll_mk0))), rfl, bel.frame _, fun h => by cases h⟩
theorem reads (os : Os) {H : Type} (enc : TypeId × Value → H) : ∃ places, DataW.whole enc Tryd.prog ((laidWorld os).forCall (fun _ _ => 0) ⟨#[], #[.agg #[.bool false, .slice none 0 0], .int .i64 0, .int .u8 0], []⟩).memory Tryd.f9.params.toList Rows.numBackSpec.vars false (#[.agg #[.bool false, .slice none 0 0], .int .i64 0, .int .u8 0] : Array Value).toList 8 = some ([.agg [.lit (.bool false), .nil], .lit (.int .i64 0), .lit (.int .u8 0)], [], places) :=
  ⟨[], by kernel_rfl⟩
set_option maxRecDepth 100000 in
theorem lifted (os : Os) (started : os.Started) (H : Type) (enc : TypeId × Value → H) (F : Stop.Interp) :
    ReturnsInHanded {} Tryd.checked os 9 .any ((OpenSpec.ofChange Rows.numBackSpec).preRow enc Tryd.prog Tryd.f9 Rows.numBackRow.domain false Rows.numBackRow.laid) (((OpenSpec.ofChange Rows.numBackSpec).at F).post enc Tryd.prog Tryd.f9 false true false false) := by
  obtain ⟨places, hx⟩ := reads os enc
  refine returnsInHanded_of_row (C := Tryd.checked) (s := OpenSpec.ofChange Rows.numBackSpec) own started (by kernel_rfl) Tryd.func9
    (witness_row_at (enc := enc) (C := Tryd.checked) false (laidWorld os) #[.agg #[.bool false, .slice none 0 0], .int .i64 0, .int .u8 0] rfl (by kernel_rfl) (by kernel_rfl) (by kernel_rfl)
      (OpenSpec.preRow_of_cond 8 hx (by kernel_rfl) (fun k hk => by cases hk) (by kernel_rfl) (laid_met os _))) ?_
  intro W base args ds gs before hval hW _ _ hsz hL _ _
  exact contract H enc W base args ds gs before hval hW hsz hL
theorem said : Rows.NumBackSaid :=
  OpenClaim.holds_of_cond 9 Tryd.f9 rfl rfl rfl rfl rfl rfl rfl ⟨rfl, rfl, rfl, rfl, rfl⟩ rfl rfl rfl rfl rfl (by kernel_rfl) Tryd.func9 (by kernel_rfl)
    (of_decide_eq_true (by kernel_rfl)) (by unfold Func.isWrapper; first | (rw [if_pos (by decide +kernel)]; kernel_rfl) | (rw [if_neg (by decide +kernel)]; exact ⟨rfl, rfl⟩))
    (fun os started H enc _ F => by rw [OpenClaim.pre_eq_preRow]; exact lifted os started H enc F)
theorem plain (f : FuncId) (fn : Func) (hf : Tryd.pinned.checked.prog.funcNamed "moraine/morainelaw02.NumBack" = some f) (hfn : Tryd.pinned.checked.prog.funcs[f]? = some fn) :
    false = Tryd.pinned.checked.prog.looks [] ∧ ∀ (j : Nat) t, fn.params[j]? = some t → Tryd.pinned.checked.prog.wantsStandIn t = false := by
  obtain rfl : f = 9 := Option.some.inj ((show Tryd.prog.funcNamed "moraine/morainelaw02.NumBack" = some 9 by kernel_rfl).symm.trans hf) |>.symm
  obtain rfl : fn = Tryd.f9 := (Option.some.inj (Tryd.func9.symm.trans hfn)).symm
  refine ⟨by kernel_rfl, fun j t ht => ?_⟩
  rw [Tryd.params9] at ht
  have hm : t ∈ (#[25, 2, 5] : Array TypeId) := Array.mem_of_getElem? ht
  have ho : t = 25 ∨ t = 2 ∨ t = 5 := by simpa using hm
  rcases ho with rfl | rfl | rfl
  · exact (show Tryd.prog.wantsStandIn 25 = false by kernel_rfl)
  · exact (show Tryd.prog.wantsStandIn 2 = false by kernel_rfl)
  · exact (show Tryd.prog.wantsStandIn 5 = false by kernel_rfl)
/-- The tied card. -/
theorem card : Rows.NumBackCardSaid :=
  Claim7.holds_tied_plain_at .later [] _ _ _ _ said (fun _ h => by cases h) (by kernel_rfl) (fun _ h => by cases h) numBack_row_tie rfl ⟨rfl, rfl⟩ (by kernel_rfl) rfl plain (by kernel_rfl)
end Go.Proofs.YthhpnlbeniihhaaDoor.numBack
namespace Go.Proofs.YthhpnlbeniihhaaDoor
/-- Of any number, whole number and byte: a number's text is read as it, a number of 61 bits is itself again, noughts ahead of digits make no difference (law NumBack). -/
theorem numBack_holds : Rows.NumBackCardSaid := numBack.card
end Go.Proofs.YthhpnlbeniihhaaDoor
