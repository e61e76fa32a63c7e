/- Contracts and plain laws that the row's proof uses (part 5). Conditions: those that each states. -/
import Derived.Test.YthhpnlbeniihhaaDoorCNumRing4
-- Printed by a program of this session's (wip/tools/printr.py, over the kit's print program).
namespace Go.Proofs.YthhpnlbeniihhaaDoor.PNumRing
open Go.RowKit Go.Proofs.YthhpnlbeniihhaaDoorW.PrintWords Go.Proofs.YthhpnlbeniihhaaDoorW.PrintLast Go.Proofs.YthhpnlbeniihhaaDoorW.PrintMore
attribute [local go_sem] max2_int min2_int max_two min_two max_three min_three max_four min_four   -- for this text's walks alone
set_option linter.unusedVariables false
set_option linter.unusedSimpArgs false
mutual
def morainelaw02_NumRing.j0 : Nat → Bool → Bool → List Int → Bool → List Int → Bool → List Int → Option (Bool)
  | 0, _, _, _, _, _, _, _ => none
  | k + 1, x35, x103000, x103001, x104000, x104001, x105000, x105001 => if x35 = true then ((morainelaw02_awake.f).bind fun t108 => (some t108)) else ((num_Norm.f x103000 x103001).bind fun bt109 => ((num_Norm.f x104000 x104001).bind fun bt114 => ((num_Norm.f x105000 x105001).bind fun bt119 => (if bt109.2.2 = 0 then (if bt114.2.2 = 0 then (morainelaw02_NumRing.j1 k (bt119.2.2 != 0) bt109.1 bt109.2.1 bt114.1 bt114.2.1 bt119.1 bt119.2.1) else (morainelaw02_NumRing.j1 k true bt109.1 bt109.2.1 bt114.1 bt114.2.1 bt119.1 bt119.2.1)) else (morainelaw02_NumRing.j1 k true bt109.1 bt109.2.1 bt114.1 bt114.2.1 bt119.1 bt119.2.1)))))
def morainelaw02_NumRing.j1 : Nat → Bool → Bool → List Int → Bool → List Int → Bool → List Int → Option (Bool)
  | 0, _, _, _, _, _, _, _ => none
  | k + 1, x61, x103000, x103001, x104000, x104001, x105000, x105001 => if x61 = true then ((morainelaw02_awake.f).bind fun t124 => (some t124)) else ((num_Add.f x103000 x103001 x104000 x104001).bind fun bt125 => ((num_Add.f x104000 x104001 x103000 x103001).bind fun bt131 => (if bt125.2.2 = bt131.2.2 then ((moraineref02_Same.f bt125.1 bt125.2.1 bt131.1 bt131.2.1).bind fun t137 => (morainelaw02_NumRing.j2 k bt125.2.2 (!t137) x103000 x103001 x104000 x104001 x105000 x105001 bt125.1 bt125.2.1)) else (morainelaw02_NumRing.j2 k bt125.2.2 true x103000 x103001 x104000 x104001 x105000 x105001 bt125.1 bt125.2.1))))
def morainelaw02_NumRing.j2 : Nat → Int → Bool → Bool → List Int → Bool → List Int → Bool → List Int → Bool → List Int → Option (Bool)
  | 0, _, _, _, _, _, _, _, _, _, _ => none
  | k + 1, x7, x83, x103000, x103001, x104000, x104001, x105000, x105001, x131000, x131001 => if x83 = true then (some false) else (if x7 = 0 then ((num_Sub.f x131000 x131001 x104000 x104001).bind fun bt138 => (if bt138.2.2 = 0 then ((moraineref02_Same.f bt138.1 bt138.2.1 x103000 x103001).bind fun t144 => (if t144 = true then (morainelaw02_NumRing.j3 k x7 x103000 x103001 x104000 x104001 x105000 x105001 x131000 x131001) else (some false))) else (some false))) else (morainelaw02_NumRing.j3 k x7 x103000 x103001 x104000 x104001 x105000 x105001 x131000 x131001))
def morainelaw02_NumRing.j3 : Nat → Int → Bool → List Int → Bool → List Int → Bool → List Int → Bool → List Int → Option (Bool)
  | 0, _, _, _, _, _, _, _, _, _ => none
  | k + 1, x7, x103000, x103001, x104000, x104001, x105000, x105001, x131000, x131001 => (num_Mul.f x103000 x103001 x104000 x104001).bind fun bt145 => ((num_Mul.f x104000 x104001 x103000 x103001).bind fun bt151 => (if bt145.2.2 = bt151.2.2 then ((moraineref02_Same.f bt145.1 bt145.2.1 bt151.1 bt151.2.1).bind fun t157 => (morainelaw02_NumRing.j4 k x7 (!t157) x103000 x103001 x104000 x104001 x105000 x105001 x131000 x131001)) else (morainelaw02_NumRing.j4 k x7 true x103000 x103001 x104000 x104001 x105000 x105001 x131000 x131001)))
def morainelaw02_NumRing.j4 : Nat → Int → Bool → Bool → List Int → Bool → List Int → Bool → List Int → Bool → List Int → Option (Bool)
  | 0, _, _, _, _, _, _, _, _, _, _ => none
  | k + 1, x7, x120, x103000, x103001, x104000, x104001, x105000, x105001, x131000, x131001 => if x120 = true then (some false) else ((num_Mul.f x131000 x131001 x105000 x105001).bind fun bt158 => ((num_Mul.f x103000 x103001 x105000 x105001).bind fun bt164 => ((num_Mul.f x104000 x104001 x105000 x105001).bind fun bt170 => (if x7 = 0 then (if bt158.2.2 = 0 then (if bt164.2.2 = 0 then (morainelaw02_NumRing.j5 k (bt170.2.2 != 0) bt158.1 bt158.2.1 bt164.1 bt164.2.1 bt170.1 bt170.2.1) else (morainelaw02_NumRing.j5 k true bt158.1 bt158.2.1 bt164.1 bt164.2.1 bt170.1 bt170.2.1)) else (morainelaw02_NumRing.j5 k true bt158.1 bt158.2.1 bt164.1 bt164.2.1 bt170.1 bt170.2.1)) else (morainelaw02_NumRing.j5 k true bt158.1 bt158.2.1 bt164.1 bt164.2.1 bt170.1 bt170.2.1)))))
def morainelaw02_NumRing.j5 : Nat → Bool → Bool → List Int → Bool → List Int → Bool → List Int → Option (Bool)
  | 0, _, _, _, _, _, _, _ => none
  | k + 1, x152, x164000, x164001, x170000, x170001, x176000, x176001 => if x152 = true then ((morainelaw02_awake.f).bind fun t176 => (some t176)) else ((num_Add.f x170000 x170001 x176000 x176001).bind fun bt177 => (if bt177.2.2 = 0 then ((moraineref02_Same.f bt177.1 bt177.2.1 x164000 x164001).bind fun t183 => (if t183 = true then ((morainelaw02_awake.f).bind fun t184 => (some t184)) else (some false))) else (some false)))
end
def morainelaw02_NumRing.f (k : Nat) (a0_0 : Bool) (l0_1 : List Int) (a1_0 : Bool) (l1_1 : List Int) (a2_0 : Bool) (l2_1 : List Int) : Option (Bool) := (morainelaw02_long.f a0_0 l0_1).bind fun t105 => (if t105 = true then (morainelaw02_NumRing.j0 k true a0_0 l0_1 a1_0 l1_1 a2_0 l2_1) else ((morainelaw02_long.f a1_0 l1_1).bind fun t106 => (if t106 = true then (morainelaw02_NumRing.j0 k true a0_0 l0_1 a1_0 l1_1 a2_0 l2_1) else ((morainelaw02_long.f a2_0 l2_1).bind fun t107 => (morainelaw02_NumRing.j0 k t107 a0_0 l0_1 a1_0 l1_1 a2_0 l2_1)))))
theorem morainelaw02_NumRing.mono_l : ∀ k, (∀ y0 y1 y2 y3 y4 y5 y6, LeO (morainelaw02_NumRing.j0 k y0 y1 y2 y3 y4 y5 y6) (morainelaw02_NumRing.j0 (k + 1) y0 y1 y2 y3 y4 y5 y6)) ∧ (∀ y0 y1 y2 y3 y4 y5 y6, LeO (morainelaw02_NumRing.j1 k y0 y1 y2 y3 y4 y5 y6) (morainelaw02_NumRing.j1 (k + 1) y0 y1 y2 y3 y4 y5 y6)) ∧ (∀ y0 y1 y2 y3 y4 y5 y6 y7 y8 y9, LeO (morainelaw02_NumRing.j2 k y0 y1 y2 y3 y4 y5 y6 y7 y8 y9) (morainelaw02_NumRing.j2 (k + 1) y0 y1 y2 y3 y4 y5 y6 y7 y8 y9)) ∧ (∀ y0 y1 y2 y3 y4 y5 y6 y7 y8, LeO (morainelaw02_NumRing.j3 k y0 y1 y2 y3 y4 y5 y6 y7 y8) (morainelaw02_NumRing.j3 (k + 1) y0 y1 y2 y3 y4 y5 y6 y7 y8)) ∧ (∀ y0 y1 y2 y3 y4 y5 y6 y7 y8 y9, LeO (morainelaw02_NumRing.j4 k y0 y1 y2 y3 y4 y5 y6 y7 y8 y9) (morainelaw02_NumRing.j4 (k + 1) y0 y1 y2 y3 y4 y5 y6 y7 y8 y9)) ∧ (∀ y0 y1 y2 y3 y4 y5 y6, LeO (morainelaw02_NumRing.j5 k y0 y1 y2 y3 y4 y5 y6) (morainelaw02_NumRing.j5 (k + 1) y0 y1 y2 y3 y4 y5 y6))
  | 0 => ⟨fun _ _ _ _ _ _ _ r h => by simp [morainelaw02_NumRing.j0] at h, fun _ _ _ _ _ _ _ r h => by simp [morainelaw02_NumRing.j1] at h, fun _ _ _ _ _ _ _ _ _ _ r h => by simp [morainelaw02_NumRing.j2] at h, fun _ _ _ _ _ _ _ _ _ r h => by simp [morainelaw02_NumRing.j3] at h, fun _ _ _ _ _ _ _ _ _ _ r h => by simp [morainelaw02_NumRing.j4] at h, fun _ _ _ _ _ _ _ r h => by simp [morainelaw02_NumRing.j5] at h⟩
  | k + 1 => by
    obtain ⟨ih0, ih1, ih2, ih3, ih4, ih5⟩ := morainelaw02_NumRing.mono_l k
    refine ⟨?_, ?_, ?_, ?_, ?_, ?_⟩
    · intro y0 y1 y2 y3 y4 y5 y6
      unfold morainelaw02_NumRing.j0
      repeat' first
      | (with_reducible exact ih0 _ _ _ _ _ _ _)
      | (with_reducible exact ih1 _ _ _ _ _ _ _)
      | (with_reducible exact ih2 _ _ _ _ _ _ _ _ _ _)
      | (with_reducible exact ih3 _ _ _ _ _ _ _ _ _)
      | (with_reducible exact ih4 _ _ _ _ _ _ _ _ _ _)
      | (with_reducible exact ih5 _ _ _ _ _ _ _)
      | (with_reducible exact LeO.refl _)
      | (with_reducible exact LeO.none _)
      | (with_reducible refine LeO.ite ?_ ?_)
      | (with_reducible refine LeO.bind ?_ (fun _ => ?_))
      | exact ih0 _ _ _ _ _ _ _
      | exact ih1 _ _ _ _ _ _ _
      | exact ih2 _ _ _ _ _ _ _ _ _ _
      | exact ih3 _ _ _ _ _ _ _ _ _
      | exact ih4 _ _ _ _ _ _ _ _ _ _
      | exact ih5 _ _ _ _ _ _ _
      | exact LeO.none _
      | refine LeO.ite ?_ ?_
      | refine LeO.bind ?_ (fun _ => ?_)
    · intro y0 y1 y2 y3 y4 y5 y6
      unfold morainelaw02_NumRing.j1
      repeat' first
      | (with_reducible exact ih0 _ _ _ _ _ _ _)
      | (with_reducible exact ih1 _ _ _ _ _ _ _)
      | (with_reducible exact ih2 _ _ _ _ _ _ _ _ _ _)
      | (with_reducible exact ih3 _ _ _ _ _ _ _ _ _)
      | (with_reducible exact ih4 _ _ _ _ _ _ _ _ _ _)
      | (with_reducible exact ih5 _ _ _ _ _ _ _)
      | (with_reducible exact LeO.refl _)
      | (with_reducible exact LeO.none _)
      | (with_reducible refine LeO.ite ?_ ?_)
      | (with_reducible refine LeO.bind ?_ (fun _ => ?_))
      | exact ih0 _ _ _ _ _ _ _
      | exact ih1 _ _ _ _ _ _ _
      | exact ih2 _ _ _ _ _ _ _ _ _ _
      | exact ih3 _ _ _ _ _ _ _ _ _
      | exact ih4 _ _ _ _ _ _ _ _ _ _
      | exact ih5 _ _ _ _ _ _ _
      | exact LeO.none _
      | refine LeO.ite ?_ ?_
      | refine LeO.bind ?_ (fun _ => ?_)
    · intro y0 y1 y2 y3 y4 y5 y6 y7 y8 y9
      unfold morainelaw02_NumRing.j2
      repeat' first
      | (with_reducible exact ih0 _ _ _ _ _ _ _)
      | (with_reducible exact ih1 _ _ _ _ _ _ _)
      | (with_reducible exact ih2 _ _ _ _ _ _ _ _ _ _)
      | (with_reducible exact ih3 _ _ _ _ _ _ _ _ _)
      | (with_reducible exact ih4 _ _ _ _ _ _ _ _ _ _)
      | (with_reducible exact ih5 _ _ _ _ _ _ _)
      | (with_reducible exact LeO.refl _)
      | (with_reducible exact LeO.none _)
      | (with_reducible refine LeO.ite ?_ ?_)
      | (with_reducible refine LeO.bind ?_ (fun _ => ?_))
      | exact ih0 _ _ _ _ _ _ _
      | exact ih1 _ _ _ _ _ _ _
      | exact ih2 _ _ _ _ _ _ _ _ _ _
      | exact ih3 _ _ _ _ _ _ _ _ _
      | exact ih4 _ _ _ _ _ _ _ _ _ _
      | exact ih5 _ _ _ _ _ _ _
      | exact LeO.none _
      | refine LeO.ite ?_ ?_
      | refine LeO.bind ?_ (fun _ => ?_)
    · intro y0 y1 y2 y3 y4 y5 y6 y7 y8
      unfold morainelaw02_NumRing.j3
      repeat' first
      | (with_reducible exact ih0 _ _ _ _ _ _ _)
      | (with_reducible exact ih1 _ _ _ _ _ _ _)
      | (with_reducible exact ih2 _ _ _ _ _ _ _ _ _ _)
      | (with_reducible exact ih3 _ _ _ _ _ _ _ _ _)
      | (with_reducible exact ih4 _ _ _ _ _ _ _ _ _ _)
      | (with_reducible exact ih5 _ _ _ _ _ _ _)
      | (with_reducible exact LeO.refl _)
      | (with_reducible exact LeO.none _)
      | (with_reducible refine LeO.ite ?_ ?_)
      | (with_reducible refine LeO.bind ?_ (fun _ => ?_))
      | exact ih0 _ _ _ _ _ _ _
      | exact ih1 _ _ _ _ _ _ _
      | exact ih2 _ _ _ _ _ _ _ _ _ _
      | exact ih3 _ _ _ _ _ _ _ _ _
      | exact ih4 _ _ _ _ _ _ _ _ _ _
      | exact ih5 _ _ _ _ _ _ _
      | exact LeO.none _
      | refine LeO.ite ?_ ?_
      | refine LeO.bind ?_ (fun _ => ?_)
    · intro y0 y1 y2 y3 y4 y5 y6 y7 y8 y9
      unfold morainelaw02_NumRing.j4
      repeat' first
      | (with_reducible exact ih0 _ _ _ _ _ _ _)
      | (with_reducible exact ih1 _ _ _ _ _ _ _)
      | (with_reducible exact ih2 _ _ _ _ _ _ _ _ _ _)
      | (with_reducible exact ih3 _ _ _ _ _ _ _ _ _)
      | (with_reducible exact ih4 _ _ _ _ _ _ _ _ _ _)
      | (with_reducible exact ih5 _ _ _ _ _ _ _)
      | (with_reducible exact LeO.refl _)
      | (with_reducible exact LeO.none _)
      | (with_reducible refine LeO.ite ?_ ?_)
      | (with_reducible refine LeO.bind ?_ (fun _ => ?_))
      | exact ih0 _ _ _ _ _ _ _
      | exact ih1 _ _ _ _ _ _ _
      | exact ih2 _ _ _ _ _ _ _ _ _ _
      | exact ih3 _ _ _ _ _ _ _ _ _
      | exact ih4 _ _ _ _ _ _ _ _ _ _
      | exact ih5 _ _ _ _ _ _ _
      | exact LeO.none _
      | refine LeO.ite ?_ ?_
      | refine LeO.bind ?_ (fun _ => ?_)
    · intro y0 y1 y2 y3 y4 y5 y6
      unfold morainelaw02_NumRing.j5
      repeat' first
      | (with_reducible exact ih0 _ _ _ _ _ _ _)
      | (with_reducible exact ih1 _ _ _ _ _ _ _)
      | (with_reducible exact ih2 _ _ _ _ _ _ _ _ _ _)
      | (with_reducible exact ih3 _ _ _ _ _ _ _ _ _)
      | (with_reducible exact ih4 _ _ _ _ _ _ _ _ _ _)
      | (with_reducible exact ih5 _ _ _ _ _ _ _)
      | (with_reducible exact LeO.refl _)
      | (with_reducible exact LeO.none _)
      | (with_reducible refine LeO.ite ?_ ?_)
      | (with_reducible refine LeO.bind ?_ (fun _ => ?_))
      | exact ih0 _ _ _ _ _ _ _
      | exact ih1 _ _ _ _ _ _ _
      | exact ih2 _ _ _ _ _ _ _ _ _ _
      | exact ih3 _ _ _ _ _ _ _ _ _
      | exact ih4 _ _ _ _ _ _ _ _ _ _
      | exact ih5 _ _ _ _ _ _ _
      | exact LeO.none _
      | refine LeO.ite ?_ ?_
      | refine LeO.bind ?_ (fun _ => ?_)
theorem morainelaw02_NumRing.mono : ∀ a0 a1 a2 a3 a4 a5 k, LeO (morainelaw02_NumRing.f k a0 a1 a2 a3 a4 a5) (morainelaw02_NumRing.f (k + 1) a0 a1 a2 a3 a4 a5) := by
  intro a0 a1 a2 a3 a4 a5 k
  obtain ⟨ih0, ih1, ih2, ih3, ih4, ih5⟩ := morainelaw02_NumRing.mono_l k
  unfold morainelaw02_NumRing.f
  repeat' first
      | (with_reducible exact ih0 _ _ _ _ _ _ _)
      | (with_reducible exact ih1 _ _ _ _ _ _ _)
      | (with_reducible exact ih2 _ _ _ _ _ _ _ _ _ _)
      | (with_reducible exact ih3 _ _ _ _ _ _ _ _ _)
      | (with_reducible exact ih4 _ _ _ _ _ _ _ _ _ _)
      | (with_reducible exact ih5 _ _ _ _ _ _ _)
      | (with_reducible exact LeO.refl _)
      | (with_reducible exact LeO.none _)
      | (with_reducible refine LeO.ite ?_ ?_)
      | (with_reducible refine LeO.bind ?_ (fun _ => ?_))
      | exact ih0 _ _ _ _ _ _ _
      | exact ih1 _ _ _ _ _ _ _
      | exact ih2 _ _ _ _ _ _ _ _ _ _
      | exact ih3 _ _ _ _ _ _ _ _ _
      | exact ih4 _ _ _ _ _ _ _ _ _ _
      | exact ih5 _ _ _ _ _ _ _
      | exact LeO.none _
      | refine LeO.ite ?_ ?_
      | refine LeO.bind ?_ (fun _ => ?_)
set_option maxHeartbeats 8000000 in
set_option maxRecDepth 100000 in
theorem morainelaw02_NumRing.calls (k : Nat) (a0_0 : Bool) (A0_1 : Option Addr) (c0_1 : Nat) (l0_1 : List Int) (a1_0 : Bool) (A1_1 : Option Addr) (c1_1 : Nat) (l1_1 : List Int) (a2_0 : Bool) (A2_1 : Option Addr) (c2_1 : Nat) (l2_1 : List Int) (r : Bool) (w : World) (hr : r = true) (hr0_1 : Kd.C (Kd.int .u32) w A0_1 l0_1.length l0_1) (hc0_1 : l0_1.length ≤ c0_1) (hr1_1 : Kd.C (Kd.int .u32) w A1_1 l1_1.length l1_1) (hc1_1 : l1_1.length ≤ c1_1) (hr2_1 : Kd.C (Kd.int .u32) w A2_1 l2_1.length l2_1) (hc2_1 : l2_1.length ≤ c2_1) (h : morainelaw02_NumRing.f k a0_0 l0_1 a1_0 l1_1 a2_0 l2_1 = some r) (ht : NumV.Tab w) :
    Calls Tryd.prog 14 #[.agg #[.bool a0_0, .slice A0_1 l0_1.length c0_1], .agg #[.bool a1_0, .slice A1_1 l1_1.length c1_1], .agg #[.bool a2_0, .slice A2_1 l2_1.length c2_1]] w fun e w' => e = .returned (.bool r) ∧ Below w.heap.size w w' := by
  have HT := Aside0.mk ht
  clear ht
  have hu25 := Tryd.underlying25
  have HR0_1 := Aside0.mk hr0_1
  have HC0_1 := Aside0.mk hc0_1
  clear hr0_1 hc0_1
  have HR1_1 := Aside0.mk hr1_1
  have HC1_1 := Aside0.mk hc1_1
  clear hr1_1 hc1_1
  have HR2_1 := Aside0.mk hr2_1
  have HC2_1 := Aside0.mk hc2_1
  clear hr2_1 hc2_1
  have HB := Aside0.mk (Below.refl w.heap.size w)
  have H : ((morainelaw02_long.f a0_0 l0_1).bind fun t105 => (if t105 = true then (morainelaw02_NumRing.j0 k true a0_0 l0_1 a1_0 l1_1 a2_0 l2_1) else ((morainelaw02_long.f a1_0 l1_1).bind fun t106 => (if t106 = true then (morainelaw02_NumRing.j0 k true a0_0 l0_1 a1_0 l1_1 a2_0 l2_1) else ((morainelaw02_long.f a2_0 l2_1).bind fun t107 => (morainelaw02_NumRing.j0 k t107 a0_0 l0_1 a1_0 l1_1 a2_0 l2_1)))))) = some r := h
  clear h
  have HC4 := Aside0.mk H
  clear H
  go_enter Tryd.func14, Tryd.ntmps14
  go_upto_region 1 with (first | ((with_reducible refine gate_dst (N := 3) rfl ?_); refine box_event ?hg (N := 3) ?hd (cs := #[.bool a0_0, .slice A0_1 l0_1.length c0_1]) (t := 25) ?hr ?_; (case hd => rfl); (case hg => rfl); (case hr => first | (go_simp; done) | (go_simp; rfl)); intro gb102 hg w5 hbox hb; have BK102 := Aside0.mk (hbox); have GW102 := qg hg (by repeat (first | (with_reducible first | exact HB.out | apply below_alloc | apply pw_below_drewN | apply below_drew1) | exact HB.out)); have GE102 := qg hg (by repeat (first | (with_reducible first | exact HB.out | apply below_alloc | apply pw_below_drewN | apply below_drew1) | exact HB.out)); replace HB := Aside0.mk (below_step (by repeat (first | (with_reducible first | exact HB.out | apply below_alloc | apply pw_below_drewN | apply below_drew1) | exact HB.out)) hb); clear hb hbox hg) | ((with_reducible refine gate_dst (N := 4) rfl ?_); refine box_event ?hg (N := 4) ?hd (cs := #[.bool a1_0, .slice A1_1 l1_1.length c1_1]) (t := 25) ?hr ?_; (case hd => rfl); (case hg => rfl); (case hr => first | (go_simp; done) | (go_simp; rfl)); intro gb103 hg w6 hbox hb; have BK103 := Aside0.mk (hbox); have GW103 := qg hg (by repeat (first | (with_reducible first | exact HB.out | apply below_alloc | apply pw_below_drewN | apply below_drew1 | refine below_set ?_ GE102.out) | exact HB.out)); have GE103 := qg hg (by repeat (first | (with_reducible first | exact HB.out | apply below_alloc | apply pw_below_drewN | apply below_drew1 | refine below_set ?_ GE102.out) | exact HB.out)); replace HB := Aside0.mk (below_step (by repeat (first | (with_reducible first | exact HB.out | apply below_alloc | apply pw_below_drewN | apply below_drew1 | refine below_set ?_ GE102.out) | exact HB.out)) hb); have NB102_103 := qn BK102 hg; have NB103_102 := qm BK102 hg; replace BK102 := qb BK102 hb; clear hb hbox hg) | ((with_reducible refine gate_dst (N := 5) rfl ?_); refine box_event ?hg (N := 5) ?hd (cs := #[.bool a2_0, .slice A2_1 l2_1.length c2_1]) (t := 25) ?hr ?_; (case hd => rfl); (case hg => rfl); (case hr => first | (go_simp; done) | (go_simp; rfl)); intro gb104 hg w7 hbox hb; have BK104 := Aside0.mk (hbox); have GW104 := qg hg (by repeat (first | (with_reducible first | exact HB.out | apply below_alloc | apply pw_below_drewN | apply below_drew1 | refine qs ?_ (by assumption)) | exact HB.out)); have GE104 := qg hg (by repeat (first | (with_reducible first | exact HB.out | apply below_alloc | apply pw_below_drewN | apply below_drew1 | refine qs ?_ (by assumption)) | exact HB.out)); replace HB := Aside0.mk (below_step (by repeat (first | (with_reducible first | exact HB.out | apply below_alloc | apply pw_below_drewN | apply below_drew1 | refine qs ?_ (by assumption)) | exact HB.out)) hb); have NB102_104 := qn BK102 hg; have NB104_102 := qm BK102 hg; replace BK102 := qb BK102 hb; have NB103_104 := qn BK103 hg; have NB104_103 := qm BK103 hg; replace BK103 := qb BK103 hb; clear hb hbox hg))
  (try simp only [Act.put, List.setIfInBounds_toArray, List.set_cons_zero, List.set_cons_succ])
  go_cut [35] (fun v35 wc => ∃ (kq : Nat) (x35_3 : Bool), v35 = .bool x35_3 ∧ Aside0 (morainelaw02_NumRing.j0 kq x35_3 a0_0 l0_1 a1_0 l1_1 a2_0 l2_1 = some r) ∧ Aside0 (kq ≤ k) ∧ Aside0 (wc.heap[gb102]? = some (.cells #[.bool a0_0, (.slice A0_1 l0_1.length c0_1)] 25 (0, 0))) ∧ Aside0 (wc.heap[gb103]? = some (.cells #[.bool a1_0, (.slice A1_1 l1_1.length c1_1)] 25 (0, 0))) ∧ Aside0 (wc.heap[gb104]? = some (.cells #[.bool a2_0, (.slice A2_1 l2_1.length c2_1)] 25 (0, 0))) ∧ Aside0 (Below w.heap.size w wc))
  case first =>
    have H := HC4.out
    clear HC4
    replace H := Option.bind_eq_some_iff.mp H
    obtain ⟨t105, A80, H⟩ := H
    replace H : (if t105 = true then (morainelaw02_NumRing.j0 k true a0_0 l0_1 a1_0 l1_1 a2_0 l2_1) else ((morainelaw02_long.f a1_0 l1_1).bind fun t106 => (if t106 = true then (morainelaw02_NumRing.j0 k true a0_0 l0_1 a1_0 l1_1 a2_0 l2_1) else ((morainelaw02_long.f a2_0 l2_1).bind fun t107 => (morainelaw02_NumRing.j0 k t107 a0_0 l0_1 a1_0 l1_1 a2_0 l2_1))))) = some r := H
    have A8 := Aside0.mk A80
    clear A80
    by_cases c9 : t105 = true
    · subst c9
      have H1 : (morainelaw02_NumRing.j0 k true a0_0 l0_1 a1_0 l1_1 a2_0 l2_1) = some r := by rw [if_pos rfl] at H; exact H
      clear H
      have H := H1
      clear H1
      have H' := Aside0.mk H
      clear H
      have hnb10 := NB102_103.out
      have hnc10 := NB103_102.out
      have hnb11 := NB102_104.out
      have hnc11 := NB104_102.out
      have hcz12_0 : w7.cell? ⟨gb102, 0, none⟩ = some (.bool a0_0) := (blk_cell BK102.out 0).trans rfl
      have hcz12_1 : w7.cell? ⟨gb102, 1, none⟩ = some (.slice A0_1 l0_1.length c0_1) := (blk_cell BK102.out 1).trans rfl
      have hfz12_0 := blk_frozen BK102.out 0
      have hfz12_1 := blk_frozen BK102.out 1
      go_wp2_with (first | ((with_reducible refine gate_callee (f := 21) rfl ?_); refine goesL_ (some 27) rfl rfl Tryd.func21 (by kernel_rfl) rfl #[.agg #[.bool a0_0, .slice A0_1 l0_1.length c0_1]] rfl (by (try simp only [List.map_toArray, List.map_cons, List.map_nil]); first | done | rfl | (simp only [List.length_drop, List.length_take]; rfl)) ?_; (with_reducible refine (morainelaw02_long.calls a0_0 _ _ l0_1 true _ ?side1 ?side2 A8.out).mono ?_); (case side1 => repeat (first | exact (Kd.C_below HR0_1.out HB.out) | (with_reducible refine Kd.C_alloc ?_ _) | (with_reducible refine Kd.C_drewN ?_ _) | (with_reducible refine Kd.C_drew ?_))); (case side2 => exact HC0_1.out); rintro e w13 ⟨rfl, hb⟩; refine ⟨_, rfl, ?_⟩; replace BK102 := qb BK102 hb; replace BK103 := qb BK103 hb; replace BK104 := qb BK104 hb; replace HB := Aside0.mk (below_step (by repeat (first | (with_reducible first | exact HB.out | apply below_alloc | apply pw_below_drewN | apply below_drew1 | refine qs ?_ (by assumption)) | exact HB.out)) hb); (try clear hb); (try clear hb2); (try clear hk); (try clear hi)))
      go_meet
      case rel => exact ⟨_, (true), (by first | rfl | (simp; done) | (simp [*]; done)), H', ⟨by first | omega | exact Nat.le_refl _⟩, ⟨qk BK102⟩, ⟨qk BK103⟩, ⟨qk BK104⟩, ⟨by repeat (first | (with_reducible first | exact HB.out | apply below_alloc | apply pw_below_drewN | apply below_drew1 | refine qs ?_ (by assumption)) | exact HB.out)⟩⟩
    · replace c9 := Bool.eq_false_iff.mpr c9
      subst c9
      have H1 : ((morainelaw02_long.f a1_0 l1_1).bind fun t106 => (if t106 = true then (morainelaw02_NumRing.j0 k true a0_0 l0_1 a1_0 l1_1 a2_0 l2_1) else ((morainelaw02_long.f a2_0 l2_1).bind fun t107 => (morainelaw02_NumRing.j0 k t107 a0_0 l0_1 a1_0 l1_1 a2_0 l2_1)))) = some r := by rw [if_neg (show ¬ (false = true) by decide)] at H; exact H
      clear H
      have H := H1
      clear H1
      replace H := Option.bind_eq_some_iff.mp H
      obtain ⟨t106, A140, H⟩ := H
      replace H : (if t106 = true then (morainelaw02_NumRing.j0 k true a0_0 l0_1 a1_0 l1_1 a2_0 l2_1) else ((morainelaw02_long.f a2_0 l2_1).bind fun t107 => (morainelaw02_NumRing.j0 k t107 a0_0 l0_1 a1_0 l1_1 a2_0 l2_1))) = some r := H
      have A14 := Aside0.mk A140
      clear A140
      by_cases c15 : t106 = true
      · subst c15
        have H1 : (morainelaw02_NumRing.j0 k true a0_0 l0_1 a1_0 l1_1 a2_0 l2_1) = some r := by rw [if_pos rfl] at H; exact H
        clear H
        have H := H1
        clear H1
        have H' := Aside0.mk H
        clear H
        have hnb16 := NB102_103.out
        have hnc16 := NB103_102.out
        have hnb17 := NB102_104.out
        have hnc17 := NB104_102.out
        have hcz18_0 : w7.cell? ⟨gb102, 0, none⟩ = some (.bool a0_0) := (blk_cell BK102.out 0).trans rfl
        have hcz18_1 : w7.cell? ⟨gb102, 1, none⟩ = some (.slice A0_1 l0_1.length c0_1) := (blk_cell BK102.out 1).trans rfl
        have hfz18_0 := blk_frozen BK102.out 0
        have hfz18_1 := blk_frozen BK102.out 1
        go_wp2_with (first | ((with_reducible refine gate_callee (f := 21) rfl ?_); refine goesL_ (some 27) rfl rfl Tryd.func21 (by kernel_rfl) rfl #[.agg #[.bool a0_0, .slice A0_1 l0_1.length c0_1]] rfl (by (try simp only [List.map_toArray, List.map_cons, List.map_nil]); first | done | rfl | (simp only [List.length_drop, List.length_take]; rfl)) ?_; (with_reducible refine (morainelaw02_long.calls a0_0 _ _ l0_1 false _ ?side1 ?side2 A8.out).mono ?_); (case side1 => repeat (first | exact (Kd.C_below HR0_1.out HB.out) | (with_reducible refine Kd.C_alloc ?_ _) | (with_reducible refine Kd.C_drewN ?_ _) | (with_reducible refine Kd.C_drew ?_))); (case side2 => exact HC0_1.out); rintro e w19 ⟨rfl, hb⟩; refine ⟨_, rfl, ?_⟩; replace BK102 := qb BK102 hb; replace BK103 := qb BK103 hb; replace BK104 := qb BK104 hb; replace HB := Aside0.mk (below_step (by repeat (first | (with_reducible first | exact HB.out | apply below_alloc | apply pw_below_drewN | apply below_drew1 | refine qs ?_ (by assumption)) | exact HB.out)) hb); (try clear hb); (try clear hb2); (try clear hk); (try clear hi); have hnb20 := NB103_104.out; have hnc20 := NB104_103.out; have hcz21_0 : w19.cell? ⟨gb103, 0, none⟩ = some (.bool a1_0) := (blk_cell BK103.out 0).trans rfl; have hcz21_1 : w19.cell? ⟨gb103, 1, none⟩ = some (.slice A1_1 l1_1.length c1_1) := (blk_cell BK103.out 1).trans rfl; have hfz21_0 := blk_frozen BK103.out 0; have hfz21_1 := blk_frozen BK103.out 1) | (go_at_call 21; (with_reducible refine (morainelaw02_long.calls a1_0 _ _ l1_1 true _ ?side1 ?side2 A14.out).mono ?_); (case side1 => repeat (first | exact (Kd.C_below HR1_1.out HB.out) | (with_reducible refine Kd.C_alloc ?_ _) | (with_reducible refine Kd.C_drewN ?_ _) | (with_reducible refine Kd.C_drew ?_))); (case side2 => exact HC1_1.out); rintro e w22 ⟨rfl, hb⟩; replace BK102 := qb BK102 hb; replace BK103 := qb BK103 hb; replace BK104 := qb BK104 hb; replace HB := Aside0.mk (below_step (by repeat (first | (with_reducible first | exact HB.out | apply below_alloc | apply pw_below_drewN | apply below_drew1 | refine qs ?_ (by assumption)) | exact HB.out)) hb); (try clear hb); (try clear hb2); (try clear hk); (try clear hi)))
        go_meet
        case rel => exact ⟨_, (true), (by first | rfl | (simp; done) | (simp [*]; done)), H', ⟨by first | omega | exact Nat.le_refl _⟩, ⟨qk BK102⟩, ⟨qk BK103⟩, ⟨qk BK104⟩, ⟨by repeat (first | (with_reducible first | exact HB.out | apply below_alloc | apply pw_below_drewN | apply below_drew1 | refine qs ?_ (by assumption)) | exact HB.out)⟩⟩
      · replace c15 := Bool.eq_false_iff.mpr c15
        subst c15
        have H1 : ((morainelaw02_long.f a2_0 l2_1).bind fun t107 => (morainelaw02_NumRing.j0 k t107 a0_0 l0_1 a1_0 l1_1 a2_0 l2_1)) = some r := by rw [if_neg (show ¬ (false = true) by decide)] at H; exact H
        clear H
        have H := H1
        clear H1
        replace H := Option.bind_eq_some_iff.mp H
        obtain ⟨t107, A230, H⟩ := H
        replace H : (morainelaw02_NumRing.j0 k t107 a0_0 l0_1 a1_0 l1_1 a2_0 l2_1) = some r := H
        have A23 := Aside0.mk A230
        clear A230
        have H' := Aside0.mk H
        clear H
        have hnb24 := NB102_103.out
        have hnc24 := NB103_102.out
        have hnb25 := NB102_104.out
        have hnc25 := NB104_102.out
        have hcz26_0 : w7.cell? ⟨gb102, 0, none⟩ = some (.bool a0_0) := (blk_cell BK102.out 0).trans rfl
        have hcz26_1 : w7.cell? ⟨gb102, 1, none⟩ = some (.slice A0_1 l0_1.length c0_1) := (blk_cell BK102.out 1).trans rfl
        have hfz26_0 := blk_frozen BK102.out 0
        have hfz26_1 := blk_frozen BK102.out 1
        go_wp2_with (first | ((with_reducible refine gate_callee (f := 21) rfl ?_); refine goesL_ (some 27) rfl rfl Tryd.func21 (by kernel_rfl) rfl #[.agg #[.bool a0_0, .slice A0_1 l0_1.length c0_1]] rfl (by (try simp only [List.map_toArray, List.map_cons, List.map_nil]); first | done | rfl | (simp only [List.length_drop, List.length_take]; rfl)) ?_; (with_reducible refine (morainelaw02_long.calls a0_0 _ _ l0_1 false _ ?side1 ?side2 A8.out).mono ?_); (case side1 => repeat (first | exact (Kd.C_below HR0_1.out HB.out) | (with_reducible refine Kd.C_alloc ?_ _) | (with_reducible refine Kd.C_drewN ?_ _) | (with_reducible refine Kd.C_drew ?_))); (case side2 => exact HC0_1.out); rintro e w27 ⟨rfl, hb⟩; refine ⟨_, rfl, ?_⟩; replace BK102 := qb BK102 hb; replace BK103 := qb BK103 hb; replace BK104 := qb BK104 hb; replace HB := Aside0.mk (below_step (by repeat (first | (with_reducible first | exact HB.out | apply below_alloc | apply pw_below_drewN | apply below_drew1 | refine qs ?_ (by assumption)) | exact HB.out)) hb); (try clear hb); (try clear hb2); (try clear hk); (try clear hi); have hnb28 := NB103_104.out; have hnc28 := NB104_103.out; have hcz29_0 : w27.cell? ⟨gb103, 0, none⟩ = some (.bool a1_0) := (blk_cell BK103.out 0).trans rfl; have hcz29_1 : w27.cell? ⟨gb103, 1, none⟩ = some (.slice A1_1 l1_1.length c1_1) := (blk_cell BK103.out 1).trans rfl; have hfz29_0 := blk_frozen BK103.out 0; have hfz29_1 := blk_frozen BK103.out 1) | (go_at_call 21; (with_reducible refine (morainelaw02_long.calls a1_0 _ _ l1_1 false _ ?side1 ?side2 A14.out).mono ?_); (case side1 => repeat (first | exact (Kd.C_below HR1_1.out HB.out) | (with_reducible refine Kd.C_alloc ?_ _) | (with_reducible refine Kd.C_drewN ?_ _) | (with_reducible refine Kd.C_drew ?_))); (case side2 => exact HC1_1.out); rintro e w30 ⟨rfl, hb⟩; replace BK102 := qb BK102 hb; replace BK103 := qb BK103 hb; replace BK104 := qb BK104 hb; replace HB := Aside0.mk (below_step (by repeat (first | (with_reducible first | exact HB.out | apply below_alloc | apply pw_below_drewN | apply below_drew1 | refine qs ?_ (by assumption)) | exact HB.out)) hb); (try clear hb); (try clear hb2); (try clear hk); (try clear hi); have hcz31_0 : w30.cell? ⟨gb104, 0, none⟩ = some (.bool a2_0) := (blk_cell BK104.out 0).trans rfl; have hcz31_1 : w30.cell? ⟨gb104, 1, none⟩ = some (.slice A2_1 l2_1.length c2_1) := (blk_cell BK104.out 1).trans rfl; have hfz31_0 := blk_frozen BK104.out 0; have hfz31_1 := blk_frozen BK104.out 1) | (go_at_call 21; (with_reducible refine (morainelaw02_long.calls a2_0 _ _ l2_1 t107 _ ?side1 ?side2 A23.out).mono ?_); (case side1 => repeat (first | exact (Kd.C_below HR2_1.out HB.out) | (with_reducible refine Kd.C_alloc ?_ _) | (with_reducible refine Kd.C_drewN ?_ _) | (with_reducible refine Kd.C_drew ?_))); (case side2 => exact HC2_1.out); rintro e w32 ⟨rfl, hb⟩; replace BK102 := qb BK102 hb; replace BK103 := qb BK103 hb; replace BK104 := qb BK104 hb; replace HB := Aside0.mk (below_step (by repeat (first | (with_reducible first | exact HB.out | apply below_alloc | apply pw_below_drewN | apply below_drew1 | refine qs ?_ (by assumption)) | exact HB.out)) hb); (try clear hb); (try clear hb2); (try clear hk); (try clear hi)))
        go_meet
        case rel => exact ⟨_, (t107), (by first | rfl | (simp; done) | (simp [*]; done)), H', ⟨by first | omega | exact Nat.le_refl _⟩, ⟨qk BK102⟩, ⟨qk BK103⟩, ⟨qk BK104⟩, ⟨by repeat (first | (with_reducible first | exact HB.out | apply below_alloc | apply pw_below_drewN | apply below_drew1 | refine qs ?_ (by assumption)) | exact HB.out)⟩⟩
  case rest =>
    clear HC4
    try clear c1
    try clear c2
    try clear p2
    try clear c9
    try clear c10
    try clear c11
    try clear c14
    try clear c15
    try clear c16
    try clear c17
    try clear c20
    try clear c21
    try clear c24
    try clear c25
    try clear c28
    try clear hcz12_0
    try clear hcz12_1
    try clear hcz18_0
    try clear hcz18_1
    try clear hcz21_0
    try clear hcz21_1
    try clear hcz26_0
    try clear hcz26_1
    try clear hcz29_0
    try clear hcz29_1
    try clear hcz31_0
    try clear hcz31_1
    try clear hfz12_0
    try clear hfz12_1
    try clear hfz18_0
    try clear hfz18_1
    try clear hfz21_0
    try clear hfz21_1
    try clear hfz26_0
    try clear hfz26_1
    try clear hfz29_0
    try clear hfz29_1
    try clear hfz31_0
    try clear hfz31_1
    obtain ⟨kq, x35_3, rfl, HA, HJ3, BK102, BK103, BK104, HB⟩ := hcut
    cases kq with
    | zero => exact absurd HA.out (by simp [morainelaw02_NumRing.j0])
    | succ kj3 =>
      have H := HA.out
      clear HA
      simp only [morainelaw02_NumRing.j0] at H
      by_cases c33 : x35_3 = true
      · subst c33
        have H1 : ((morainelaw02_awake.f).bind fun t108 => (some t108)) = some r := by rw [if_pos rfl] at H; exact H
        clear H
        have H := H1
        clear H1
        replace H := Option.bind_eq_some_iff.mp H
        obtain ⟨t108, A340, H⟩ := H
        replace H : (some t108) = some r := H
        have A34 := Aside0.mk A340
        clear A340
        obtain rfl := Option.some.inj H
        go_wp2_with (first | ((with_reducible refine gate_callee (f := 20) rfl ?_); refine goesL_ (some 36) rfl rfl Tryd.func20 (by kernel_rfl) rfl #[] rfl (by (try simp only [List.map_toArray, List.map_cons, List.map_nil]); first | done | rfl | (simp only [List.length_drop, List.length_take]; rfl)) ?_; (with_reducible refine (morainelaw02_awake.calls  t108 _ A34.out (NumV.Tab.below HT.out (by repeat (first | exact HB.out | apply below_alloc | apply pw_below_drewN | apply below_drew1 | refine below_set ?_ (Aside0.out (by assumption)))))).mono ?_); rintro e w35 ⟨rfl, hb⟩; refine ⟨_, rfl, ?_⟩; replace BK102 := qb BK102 hb; replace BK103 := qb BK103 hb; replace BK104 := qb BK104 hb; replace HB := Aside0.mk (below_step (by repeat (first | (with_reducible first | exact HB.out | apply below_alloc | apply pw_below_drewN | apply below_drew1 | refine qs ?_ (by assumption)) | exact HB.out)) hb); (try clear hb); (try clear hb2); (try clear hk); (try clear hi)))
        go_ret
        exact ⟨by first | rfl | (simp [errW_none, errW_some] <;> rfl) | (simp [*, errW_none, errW_some] <;> rfl), by repeat (first | (with_reducible first | exact HB.out | apply below_alloc | apply pw_below_drewN | apply below_drew1 | refine qs ?_ (by assumption)) | exact HB.out)⟩
      · replace c33 := Bool.eq_false_iff.mpr c33
        subst c33
        have H1 : ((num_Norm.f a0_0 l0_1).bind fun bt109 => ((num_Norm.f a1_0 l1_1).bind fun bt114 => ((num_Norm.f a2_0 l2_1).bind fun bt119 => (if bt109.2.2 = 0 then (if bt114.2.2 = 0 then (morainelaw02_NumRing.j1 kj3 (bt119.2.2 != 0) bt109.1 bt109.2.1 bt114.1 bt114.2.1 bt119.1 bt119.2.1) else (morainelaw02_NumRing.j1 kj3 true bt109.1 bt109.2.1 bt114.1 bt114.2.1 bt119.1 bt119.2.1)) else (morainelaw02_NumRing.j1 kj3 true bt109.1 bt109.2.1 bt114.1 bt114.2.1 bt119.1 bt119.2.1))))) = some r := by rw [if_neg (show ¬ (false = true) by decide)] at H; exact H
        clear H
        have H := H1
        clear H1
        replace H := Option.bind_eq_some_iff.mp H
        obtain ⟨⟨t109, t110, t113⟩, A360, H⟩ := H
        replace H : ((num_Norm.f a1_0 l1_1).bind fun bt114 => ((num_Norm.f a2_0 l2_1).bind fun bt119 => (if t113 = 0 then (if bt114.2.2 = 0 then (morainelaw02_NumRing.j1 kj3 (bt119.2.2 != 0) t109 t110 bt114.1 bt114.2.1 bt119.1 bt119.2.1) else (morainelaw02_NumRing.j1 kj3 true t109 t110 bt114.1 bt114.2.1 bt119.1 bt119.2.1)) else (morainelaw02_NumRing.j1 kj3 true t109 t110 bt114.1 bt114.2.1 bt119.1 bt119.2.1)))) = some r := H
        have A36 := Aside0.mk A360
        clear A360
        replace H := Option.bind_eq_some_iff.mp H
        obtain ⟨⟨t114, t115, t118⟩, A370, H⟩ := H
        replace H : ((num_Norm.f a2_0 l2_1).bind fun bt119 => (if t113 = 0 then (if t118 = 0 then (morainelaw02_NumRing.j1 kj3 (bt119.2.2 != 0) t109 t110 t114 t115 bt119.1 bt119.2.1) else (morainelaw02_NumRing.j1 kj3 true t109 t110 t114 t115 bt119.1 bt119.2.1)) else (morainelaw02_NumRing.j1 kj3 true t109 t110 t114 t115 bt119.1 bt119.2.1))) = some r := H
        have A37 := Aside0.mk A370
        clear A370
        replace H := Option.bind_eq_some_iff.mp H
        obtain ⟨⟨t119, t120, t123⟩, A380, H⟩ := H
        replace H : (if t113 = 0 then (if t118 = 0 then (morainelaw02_NumRing.j1 kj3 (t123 != 0) t109 t110 t114 t115 t119 t120) else (morainelaw02_NumRing.j1 kj3 true t109 t110 t114 t115 t119 t120)) else (morainelaw02_NumRing.j1 kj3 true t109 t110 t114 t115 t119 t120)) = some r := H
        have A38 := Aside0.mk A380
        clear A380
        have HC39 := Aside0.mk H
        clear H
        have hnb40 := NB102_103.out
        have hnc40 := NB103_102.out
        have hnb41 := NB102_104.out
        have hnc41 := NB104_102.out
        have hcz42_0 : wc.cell? ⟨gb102, 0, none⟩ = some (.bool a0_0) := (blk_cell BK102.out 0).trans rfl
        have hcz42_1 : wc.cell? ⟨gb102, 1, none⟩ = some (.slice A0_1 l0_1.length c0_1) := (blk_cell BK102.out 1).trans rfl
        have hfz42_0 := blk_frozen BK102.out 0
        have hfz42_1 := blk_frozen BK102.out 1
        go_upto_region 6 with (first | ((with_reducible refine gate_callee (f := 38) rfl ?_); refine goesL_ (some 39) rfl rfl Tryd.func38 (by kernel_rfl) rfl #[.agg #[.bool a0_0, .slice A0_1 l0_1.length c0_1]] rfl (by (try simp only [List.map_toArray, List.map_cons, List.map_nil]); first | done | rfl | (simp only [List.length_drop, List.length_take]; rfl)) ?_; (with_reducible refine (num_Norm.calls a0_0 _ _ l0_1 t109 t110 t113 _ ?side1 ?side2 A36.out).mono ?_); (case side1 => repeat (first | exact (Kd.C_below HR0_1.out HB.out) | (with_reducible refine Kd.C_alloc ?_ _) | (with_reducible refine Kd.C_drewN ?_ _) | (with_reducible refine Kd.C_drew ?_))); (case side2 => exact HC0_1.out); rintro e w43 ⟨v111, rfl, ho0, hb⟩; refine ⟨_, rfl, ?_⟩; have HO112 := Aside0.mk (Kd.R_lower ho0 (below_size (by repeat (first | (with_reducible first | exact HB.out | apply below_alloc | apply pw_below_drewN | apply below_drew1 | refine qs ?_ (by assumption)) | exact HB.out)))); replace BK102 := qb BK102 hb; replace BK103 := qb BK103 hb; replace BK104 := qb BK104 hb; replace HB := Aside0.mk (below_step (by repeat (first | (with_reducible first | exact HB.out | apply below_alloc | apply pw_below_drewN | apply below_drew1 | refine qs ?_ (by assumption)) | exact HB.out)) hb); (try clear hb); (try clear hb2); (try clear hk); (try clear hi); (try clear ho0); have hcz44_0 : w43.cell? ⟨gb102, 0, none⟩ = some (.bool a0_0) := (blk_cell BK102.out 0).trans rfl; have hcz44_1 : w43.cell? ⟨gb102, 1, none⟩ = some (.slice A0_1 l0_1.length c0_1) := (blk_cell BK102.out 1).trans rfl; have hfz44_0 := blk_frozen BK102.out 0; have hfz44_1 := blk_frozen BK102.out 1; obtain ⟨Ao45, co45, eo45⟩ := Kd.R_slice HO112.out; subst eo45; have hnb46 := NB103_104.out; have hnc46 := NB104_103.out; have hcz47_0 : w43.cell? ⟨gb103, 0, none⟩ = some (.bool a1_0) := (blk_cell BK103.out 0).trans rfl; have hcz47_1 : w43.cell? ⟨gb103, 1, none⟩ = some (.slice A1_1 l1_1.length c1_1) := (blk_cell BK103.out 1).trans rfl; have hfz47_0 := blk_frozen BK103.out 0; have hfz47_1 := blk_frozen BK103.out 1) | ((with_reducible refine gate_callee (f := 38) rfl ?_); refine goesL_ (some 44) rfl rfl Tryd.func38 (by kernel_rfl) rfl #[.agg #[.bool a1_0, .slice A1_1 l1_1.length c1_1]] rfl (by (try simp only [List.map_toArray, List.map_cons, List.map_nil]); first | done | rfl | (simp only [List.length_drop, List.length_take]; rfl)) ?_; (with_reducible refine (num_Norm.calls a1_0 _ _ l1_1 t114 t115 t118 _ ?side1 ?side2 A37.out).mono ?_); (case side1 => exact Kd.C_below HR1_1.out (by repeat (first | (with_reducible first | exact HB.out | apply below_alloc | apply pw_below_drewN | apply below_drew1 | refine qs ?_ (by assumption)) | exact HB.out))); (case side2 => exact HC1_1.out); rintro e w48 ⟨v116, rfl, ho0, hb⟩; refine ⟨_, rfl, ?_⟩; have n0_ := Aside0.mk (Kd.R_elder' (by (with_reducible repeat (first | apply Kd.R_alloc | apply Kd.R_drewN | apply Kd.R_drew)); exact (Kd.R_mono (qz HO112 BK102 (by decide) (.bool t109) (.slice Ao45 t110.length co45)) (fun _ h_ => h_.1))) (Kd.R_base ho0) hb); have n1_ := Aside0.mk (Kd.R_lower (Kd.R_new' ho0 (Kd.R_lt (by (with_reducible repeat (first | apply Kd.R_alloc | apply Kd.R_drewN | apply Kd.R_drew)); exact (Kd.R_mono (qz HO112 BK102 (by decide) (.bool t109) (.slice Ao45 t110.length co45)) (fun _ h_ => h_.1))))) (below_size (by repeat (first | (with_reducible first | exact HB.out | apply below_alloc | apply pw_below_drewN | apply below_drew1 | refine qs ?_ (by assumption)) | exact HB.out)))); have n2_ := Aside0.mk (blk_below (g := gb102) (o := .cells #[.bool t109, .slice Ao45 t110.length co45] 25 (0, 0)) (by (with_reducible repeat (first | refine qN ?_ _ | refine qW ?_ | refine qA ?_ _)); refine blk_put (cs := #[.bool t109, .slice A0_1 l0_1.length c0_1]) ?_ 1 _ rfl; (with_reducible repeat (first | refine qN ?_ _ | refine qW ?_ | refine qA ?_ _)); refine blk_put (cs := #[.bool a0_0, .slice A0_1 l0_1.length c0_1]) ?_ 0 _ rfl; (with_reducible repeat (first | refine qN ?_ _ | refine qW ?_ | refine qA ?_ _)); exact BK102.out) hb); have n3_ := Aside0.mk (blk_below (g := gb103) (o := .cells #[.bool a1_0, .slice A1_1 l1_1.length c1_1] 25 (0, 0)) (by (with_reducible repeat (first | refine qN ?_ _ | refine qW ?_ | refine qA ?_ _)); refine qf ?_ NB103_102; (with_reducible repeat (first | refine qN ?_ _ | refine qW ?_ | refine qA ?_ _)); exact BK103.out) hb); have n4_ := Aside0.mk (blk_below (g := gb104) (o := .cells #[.bool a2_0, .slice A2_1 l2_1.length c2_1] 25 (0, 0)) (by (with_reducible repeat (first | refine qN ?_ _ | refine qW ?_ | refine qA ?_ _)); refine qf ?_ NB104_102; (with_reducible repeat (first | refine qN ?_ _ | refine qW ?_ | refine qA ?_ _)); exact BK104.out) hb); have n5_ := Aside0.mk (below_step (by repeat (first | (with_reducible first | exact HB.out | apply below_alloc | apply pw_below_drewN | apply below_drew1 | refine qs ?_ (by assumption)) | exact HB.out)) hb); clear HO112; clear BK102; clear BK103; clear BK104; clear HB; have HO112 := n0_; have HO117 := n1_; have BK102 := n2_; have BK103 := n3_; have BK104 := n4_; have HB := n5_; clear n0_ n1_ n2_ n3_ n4_ n5_; (try clear hb); (try clear hb2); (try clear hk); (try clear hi); (try clear ho0); have hcz49_0 : w48.cell? ⟨gb103, 0, none⟩ = some (.bool a1_0) := (blk_cell BK103.out 0).trans rfl; have hcz49_1 : w48.cell? ⟨gb103, 1, none⟩ = some (.slice A1_1 l1_1.length c1_1) := (blk_cell BK103.out 1).trans rfl; have hfz49_0 := blk_frozen BK103.out 0; have hfz49_1 := blk_frozen BK103.out 1; obtain ⟨Ao50, co50, eo50⟩ := Kd.R_slice HO117.out; subst eo50; have hcz51_0 : w48.cell? ⟨gb104, 0, none⟩ = some (.bool a2_0) := (blk_cell BK104.out 0).trans rfl; have hcz51_1 : w48.cell? ⟨gb104, 1, none⟩ = some (.slice A2_1 l2_1.length c2_1) := (blk_cell BK104.out 1).trans rfl; have hfz51_0 := blk_frozen BK104.out 0; have hfz51_1 := blk_frozen BK104.out 1) | ((with_reducible refine gate_callee (f := 38) rfl ?_); refine goesL_ (some 49) rfl rfl Tryd.func38 (by kernel_rfl) rfl #[.agg #[.bool a2_0, .slice A2_1 l2_1.length c2_1]] rfl (by (try simp only [List.map_toArray, List.map_cons, List.map_nil]); first | done | rfl | (simp only [List.length_drop, List.length_take]; rfl)) ?_; (with_reducible refine (num_Norm.calls a2_0 _ _ l2_1 t119 t120 t123 _ ?side1 ?side2 A38.out).mono ?_); (case side1 => exact Kd.C_below HR2_1.out (by repeat (first | (with_reducible first | exact HB.out | apply below_alloc | apply pw_below_drewN | apply below_drew1 | refine qs ?_ (by assumption)) | exact HB.out))); (case side2 => exact HC2_1.out); rintro e w52 ⟨v121, rfl, ho0, hb⟩; refine ⟨_, rfl, ?_⟩; have n0_ := Aside0.mk (Kd.R_elder' (by (with_reducible repeat (first | apply Kd.R_alloc | apply Kd.R_drewN | apply Kd.R_drew)); exact (Kd.R_mono (qz HO112 BK103 (by decide) (.bool t114) (.slice Ao50 t115.length co50)) (fun _ h_ => h_.1))) (Kd.R_base ho0) hb); have n1_ := Aside0.mk (Kd.R_elder' (by (with_reducible repeat (first | apply Kd.R_alloc | apply Kd.R_drewN | apply Kd.R_drew)); exact (Kd.R_mono (qz HO117 BK103 (by decide) (.bool t114) (.slice Ao50 t115.length co50)) (fun _ h_ => h_.1))) (Kd.R_base ho0) hb); have n2_ := Aside0.mk (Kd.R_lower (Kd.R_new' (Kd.R_new' ho0 (Kd.R_lt (by (with_reducible repeat (first | apply Kd.R_alloc | apply Kd.R_drewN | apply Kd.R_drew)); exact (Kd.R_mono (qz HO112 BK103 (by decide) (.bool t114) (.slice Ao50 t115.length co50)) (fun _ h_ => h_.1))))) (Kd.R_lt (by (with_reducible repeat (first | apply Kd.R_alloc | apply Kd.R_drewN | apply Kd.R_drew)); exact (Kd.R_mono (qz HO117 BK103 (by decide) (.bool t114) (.slice Ao50 t115.length co50)) (fun _ h_ => h_.1))))) (below_size (by repeat (first | (with_reducible first | exact HB.out | apply below_alloc | apply pw_below_drewN | apply below_drew1 | refine qs ?_ (by assumption)) | exact HB.out)))); have n3_ := Aside0.mk (blk_below (g := gb102) (o := .cells #[.bool t109, .slice Ao45 t110.length co45] 25 (0, 0)) (by (with_reducible repeat (first | refine qN ?_ _ | refine qW ?_ | refine qA ?_ _)); refine qf ?_ NB102_103; (with_reducible repeat (first | refine qN ?_ _ | refine qW ?_ | refine qA ?_ _)); exact BK102.out) hb); have n4_ := Aside0.mk (blk_below (g := gb103) (o := .cells #[.bool t114, .slice Ao50 t115.length co50] 25 (0, 0)) (by (with_reducible repeat (first | refine qN ?_ _ | refine qW ?_ | refine qA ?_ _)); refine blk_put (cs := #[.bool t114, .slice A1_1 l1_1.length c1_1]) ?_ 1 _ rfl; (with_reducible repeat (first | refine qN ?_ _ | refine qW ?_ | refine qA ?_ _)); refine blk_put (cs := #[.bool a1_0, .slice A1_1 l1_1.length c1_1]) ?_ 0 _ rfl; (with_reducible repeat (first | refine qN ?_ _ | refine qW ?_ | refine qA ?_ _)); exact BK103.out) hb); have n5_ := Aside0.mk (blk_below (g := gb104) (o := .cells #[.bool a2_0, .slice A2_1 l2_1.length c2_1] 25 (0, 0)) (by (with_reducible repeat (first | refine qN ?_ _ | refine qW ?_ | refine qA ?_ _)); refine qf ?_ NB104_103; (with_reducible repeat (first | refine qN ?_ _ | refine qW ?_ | refine qA ?_ _)); exact BK104.out) hb); have n6_ := Aside0.mk (below_step (by repeat (first | (with_reducible first | exact HB.out | apply below_alloc | apply pw_below_drewN | apply below_drew1 | refine qs ?_ (by assumption)) | exact HB.out)) hb); clear HO112; clear HO117; clear BK102; clear BK103; clear BK104; clear HB; have HO112 := n0_; have HO117 := n1_; have HO122 := n2_; have BK102 := n3_; have BK103 := n4_; have BK104 := n5_; have HB := n6_; clear n0_ n1_ n2_ n3_ n4_ n5_ n6_; (try clear hb); (try clear hb2); (try clear hk); (try clear hi); (try clear ho0); have hcz53_0 : w52.cell? ⟨gb104, 0, none⟩ = some (.bool a2_0) := (blk_cell BK104.out 0).trans rfl; have hcz53_1 : w52.cell? ⟨gb104, 1, none⟩ = some (.slice A2_1 l2_1.length c2_1) := (blk_cell BK104.out 1).trans rfl; have hfz53_0 := blk_frozen BK104.out 0; have hfz53_1 := blk_frozen BK104.out 1; obtain ⟨Ao54, co54, eo54⟩ := Kd.R_slice HO122.out; subst eo54))
        (try simp only [Act.put, List.setIfInBounds_toArray, List.set_cons_zero, List.set_cons_succ])
        go_cut [61] (fun v61 wc => ∃ (kq : Nat) (x61_38 : Bool), v61 = .bool x61_38 ∧ Aside0 (morainelaw02_NumRing.j1 kq x61_38 t109 t110 t114 t115 t119 t120 = some r) ∧ Aside0 (kq ≤ kj3) ∧ Aside0 (Kd.R (Kd.int .u32) 63 wc w.heap.size (fun k_ => some k_ ≠ ((.slice Ao50 t115.length co50) : Value).ownBlock ∧ some k_ ≠ ((.slice Ao54 t120.length co54) : Value).ownBlock) (.slice Ao45 t110.length co45) t110) ∧ Aside0 (Kd.R (Kd.int .u32) 63 wc w.heap.size (fun k_ => some k_ ≠ ((.slice Ao45 t110.length co45) : Value).ownBlock ∧ some k_ ≠ ((.slice Ao54 t120.length co54) : Value).ownBlock) (.slice Ao50 t115.length co50) t115) ∧ Aside0 (Kd.R (Kd.int .u32) 63 wc w.heap.size (fun k_ => some k_ ≠ ((.slice Ao45 t110.length co45) : Value).ownBlock ∧ some k_ ≠ ((.slice Ao50 t115.length co50) : Value).ownBlock) (.slice Ao54 t120.length co54) t120) ∧ Aside0 (wc.heap[gb102]? = some (.cells #[.bool t109, (.slice Ao45 t110.length co45)] 25 (0, 0))) ∧ Aside0 (wc.heap[gb103]? = some (.cells #[.bool t114, (.slice Ao50 t115.length co50)] 25 (0, 0))) ∧ Aside0 (wc.heap[gb104]? = some (.cells #[.bool t119, (.slice Ao54 t120.length co54)] 25 (0, 0))) ∧ Aside0 (Below w.heap.size w wc))
        case first =>
          have H := HC39.out
          clear HC39
          by_cases c55 : t113 = 0
          · rw [if_pos c55] at H
            have c55b0 : (t113 == 0) = true := beq_iff_eq.mpr c55
            have c55b1 : (t113 != 0) = false := bne_eq_false_iff_eq.mpr c55
            clear c55
            (first | rw [c55b0] | (simp only [i64_w, i32_w]; rw [c55b0]) | skip)
            by_cases c56 : t118 = 0
            · rw [if_pos c56] at H
              have c56b0 : (t118 == 0) = true := beq_iff_eq.mpr c56
              have c56b1 : (t118 != 0) = false := bne_eq_false_iff_eq.mpr c56
              clear c56
              have H' := Aside0.mk H
              clear H
              go_wp2
              go_meet
              case rel => exact ⟨_, ((t123 != 0)), (by first | rfl | (simp; done) | (simp [*]; done)), H', ⟨by have := HJ3.out; first | omega | exact Nat.le_refl _⟩, ⟨by (with_reducible repeat (first | apply Kd.R_alloc | apply Kd.R_drewN | apply Kd.R_drew)); exact Kd.R_mono (qz HO112 BK104 (by decide) (.bool t119) (.slice Ao54 t120.length co54)) (fun _ hk => ⟨hk.1.1.2, hk.1.2⟩)⟩, ⟨by (with_reducible repeat (first | apply Kd.R_alloc | apply Kd.R_drewN | apply Kd.R_drew)); exact Kd.R_mono (qz HO117 BK104 (by decide) (.bool t119) (.slice Ao54 t120.length co54)) (fun _ hk => ⟨hk.1.1.2, hk.1.2⟩)⟩, ⟨by (with_reducible repeat (first | apply Kd.R_alloc | apply Kd.R_drewN | apply Kd.R_drew)); exact Kd.R_mono (qz HO122 BK104 (by decide) (.bool t119) (.slice Ao54 t120.length co54)) (fun _ hk => ⟨hk.1.1.2, hk.1.2⟩)⟩, ⟨by (with_reducible repeat (first | refine qN ?_ _ | refine qW ?_ | refine qA ?_ _)); refine qf ?_ NB102_104; (with_reducible repeat (first | refine qN ?_ _ | refine qW ?_ | refine qA ?_ _)); exact BK102.out⟩, ⟨by (with_reducible repeat (first | refine qN ?_ _ | refine qW ?_ | refine qA ?_ _)); refine qf ?_ NB103_104; (with_reducible repeat (first | refine qN ?_ _ | refine qW ?_ | refine qA ?_ _)); exact BK103.out⟩, ⟨by (with_reducible repeat (first | refine qN ?_ _ | refine qW ?_ | refine qA ?_ _)); refine blk_put (cs := #[.bool t119, .slice A2_1 l2_1.length c2_1]) ?_ 1 _ rfl; (with_reducible repeat (first | refine qN ?_ _ | refine qW ?_ | refine qA ?_ _)); refine blk_put (cs := #[.bool a2_0, .slice A2_1 l2_1.length c2_1]) ?_ 0 _ rfl; (with_reducible repeat (first | refine qN ?_ _ | refine qW ?_ | refine qA ?_ _)); exact BK104.out⟩, ⟨by repeat (first | (with_reducible first | exact HB.out | apply below_alloc | apply pw_below_drewN | apply below_drew1 | refine qs ?_ (by assumption)) | exact HB.out)⟩⟩
            · rw [if_neg c56] at H
              have c56b0 : (t118 == 0) = false := beq_eq_false_iff_ne.mpr c56
              have c56b1 : (t118 != 0) = true := bne_iff_ne.mpr c56
              have H' := Aside0.mk H
              clear H
              go_wp2
              go_meet
              case rel => exact ⟨_, (true), (by first | rfl | (simp; done) | (simp [*]; done)), H', ⟨by have := HJ3.out; first | omega | exact Nat.le_refl _⟩, ⟨by (with_reducible repeat (first | apply Kd.R_alloc | apply Kd.R_drewN | apply Kd.R_drew)); exact Kd.R_mono (qz HO112 BK104 (by decide) (.bool t119) (.slice Ao54 t120.length co54)) (fun _ hk => ⟨hk.1.1.2, hk.1.2⟩)⟩, ⟨by (with_reducible repeat (first | apply Kd.R_alloc | apply Kd.R_drewN | apply Kd.R_drew)); exact Kd.R_mono (qz HO117 BK104 (by decide) (.bool t119) (.slice Ao54 t120.length co54)) (fun _ hk => ⟨hk.1.1.2, hk.1.2⟩)⟩, ⟨by (with_reducible repeat (first | apply Kd.R_alloc | apply Kd.R_drewN | apply Kd.R_drew)); exact Kd.R_mono (qz HO122 BK104 (by decide) (.bool t119) (.slice Ao54 t120.length co54)) (fun _ hk => ⟨hk.1.1.2, hk.1.2⟩)⟩, ⟨by (with_reducible repeat (first | refine qN ?_ _ | refine qW ?_ | refine qA ?_ _)); refine qf ?_ NB102_104; (with_reducible repeat (first | refine qN ?_ _ | refine qW ?_ | refine qA ?_ _)); exact BK102.out⟩, ⟨by (with_reducible repeat (first | refine qN ?_ _ | refine qW ?_ | refine qA ?_ _)); refine qf ?_ NB103_104; (with_reducible repeat (first | refine qN ?_ _ | refine qW ?_ | refine qA ?_ _)); exact BK103.out⟩, ⟨by (with_reducible repeat (first | refine qN ?_ _ | refine qW ?_ | refine qA ?_ _)); refine blk_put (cs := #[.bool t119, .slice A2_1 l2_1.length c2_1]) ?_ 1 _ rfl; (with_reducible repeat (first | refine qN ?_ _ | refine qW ?_ | refine qA ?_ _)); refine blk_put (cs := #[.bool a2_0, .slice A2_1 l2_1.length c2_1]) ?_ 0 _ rfl; (with_reducible repeat (first | refine qN ?_ _ | refine qW ?_ | refine qA ?_ _)); exact BK104.out⟩, ⟨by repeat (first | (with_reducible first | exact HB.out | apply below_alloc | apply pw_below_drewN | apply below_drew1 | refine qs ?_ (by assumption)) | exact HB.out)⟩⟩
          · rw [if_neg c55] at H
            have c55b0 : (t113 == 0) = false := beq_eq_false_iff_ne.mpr c55
            have c55b1 : (t113 != 0) = true := bne_iff_ne.mpr c55
            (first | rw [c55b0] | (simp only [i64_w, i32_w]; rw [c55b0]) | skip)
            have H' := Aside0.mk H
            clear H
            go_wp2
            go_meet
            case rel => exact ⟨_, (true), (by first | rfl | (simp; done) | (simp [*]; done)), H', ⟨by have := HJ3.out; first | omega | exact Nat.le_refl _⟩, ⟨by (with_reducible repeat (first | apply Kd.R_alloc | apply Kd.R_drewN | apply Kd.R_drew)); exact Kd.R_mono (qz HO112 BK104 (by decide) (.bool t119) (.slice Ao54 t120.length co54)) (fun _ hk => ⟨hk.1.1.2, hk.1.2⟩)⟩, ⟨by (with_reducible repeat (first | apply Kd.R_alloc | apply Kd.R_drewN | apply Kd.R_drew)); exact Kd.R_mono (qz HO117 BK104 (by decide) (.bool t119) (.slice Ao54 t120.length co54)) (fun _ hk => ⟨hk.1.1.2, hk.1.2⟩)⟩, ⟨by (with_reducible repeat (first | apply Kd.R_alloc | apply Kd.R_drewN | apply Kd.R_drew)); exact Kd.R_mono (qz HO122 BK104 (by decide) (.bool t119) (.slice Ao54 t120.length co54)) (fun _ hk => ⟨hk.1.1.2, hk.1.2⟩)⟩, ⟨by (with_reducible repeat (first | refine qN ?_ _ | refine qW ?_ | refine qA ?_ _)); refine qf ?_ NB102_104; (with_reducible repeat (first | refine qN ?_ _ | refine qW ?_ | refine qA ?_ _)); exact BK102.out⟩, ⟨by (with_reducible repeat (first | refine qN ?_ _ | refine qW ?_ | refine qA ?_ _)); refine qf ?_ NB103_104; (with_reducible repeat (first | refine qN ?_ _ | refine qW ?_ | refine qA ?_ _)); exact BK103.out⟩, ⟨by (with_reducible repeat (first | refine qN ?_ _ | refine qW ?_ | refine qA ?_ _)); refine blk_put (cs := #[.bool t119, .slice A2_1 l2_1.length c2_1]) ?_ 1 _ rfl; (with_reducible repeat (first | refine qN ?_ _ | refine qW ?_ | refine qA ?_ _)); refine blk_put (cs := #[.bool a2_0, .slice A2_1 l2_1.length c2_1]) ?_ 0 _ rfl; (with_reducible repeat (first | refine qN ?_ _ | refine qW ?_ | refine qA ?_ _)); exact BK104.out⟩, ⟨by repeat (first | (with_reducible first | exact HB.out | apply below_alloc | apply pw_below_drewN | apply below_drew1 | refine qs ?_ (by assumption)) | exact HB.out)⟩⟩
        case rest =>
          clear HC39
          try clear c1
          try clear c2
          try clear p2
          try clear c3
          try clear c4
          try clear c5
          try clear c9
          try clear c10
          try clear c11
          try clear c14
          try clear c15
          try clear c16
          try clear c17
          try clear c20
          try clear c21
          try clear c24
          try clear c25
          try clear c28
          try clear c33
          try clear c38
          try clear c40
          try clear c41
          try clear c46
          try clear c55
          try clear c55b0
          try clear c55b1
          try clear c56
          try clear c56b0
          try clear c56b1
          try clear hcz12_0
          try clear hcz12_1
          try clear hcz18_0
          try clear hcz18_1
          try clear hcz21_0
          try clear hcz21_1
          try clear hcz26_0
          try clear hcz26_1
          try clear hcz29_0
          try clear hcz29_1
          try clear hcz31_0
          try clear hcz31_1
          try clear hcz42_0
          try clear hcz42_1
          try clear hcz44_0
          try clear hcz44_1
          try clear hcz47_0
          try clear hcz47_1
          try clear hcz49_0
          try clear hcz49_1
          try clear hcz51_0
          try clear hcz51_1
          try clear hcz53_0
          try clear hcz53_1
          try clear hfz12_0
          try clear hfz12_1
          try clear hfz18_0
          try clear hfz18_1
          try clear hfz21_0
          try clear hfz21_1
          try clear hfz26_0
          try clear hfz26_1
          try clear hfz29_0
          try clear hfz29_1
          try clear hfz31_0
          try clear hfz31_1
          try clear hfz42_0
          try clear hfz42_1
          try clear hfz44_0
          try clear hfz44_1
          try clear hfz47_0
          try clear hfz47_1
          try clear hfz49_0
          try clear hfz49_1
          try clear hfz51_0
          try clear hfz51_1
          try clear hfz53_0
          try clear hfz53_1
          try clear p2
          obtain ⟨kq, x61_38, rfl, HA, HJ38, HO_103001, HO_104001, HO_105001, BK102, BK103, BK104, HB⟩ := hcut
          cases kq with
          | zero => exact absurd HA.out (by simp [morainelaw02_NumRing.j1])
          | succ kj38 =>
            have H := HA.out
            clear HA
            simp only [morainelaw02_NumRing.j1] at H
            by_cases c57 : x61_38 = true
            · subst c57
              have H1 : ((morainelaw02_awake.f).bind fun t124 => (some t124)) = some r := by rw [if_pos rfl] at H; exact H
              clear H
              have H := H1
              clear H1
              replace H := Option.bind_eq_some_iff.mp H
              obtain ⟨t124, A580, H⟩ := H
              replace H : (some t124) = some r := H
              have A58 := Aside0.mk A580
              clear A580
              obtain rfl := Option.some.inj H
              go_wp2_with (first | ((with_reducible refine gate_callee (f := 20) rfl ?_); refine goesL_ (some 62) rfl rfl Tryd.func20 (by kernel_rfl) rfl #[] rfl (by (try simp only [List.map_toArray, List.map_cons, List.map_nil]); first | done | rfl | (simp only [List.length_drop, List.length_take]; rfl)) ?_; (with_reducible refine (morainelaw02_awake.calls  t124 _ A58.out (NumV.Tab.below HT.out (by repeat (first | exact HB.out | apply below_alloc | apply pw_below_drewN | apply below_drew1 | refine below_set ?_ (Aside0.out (by assumption)))))).mono ?_); rintro e w59 ⟨rfl, hb⟩; refine ⟨_, rfl, ?_⟩; replace HO_103001 := qr HO_103001 hb; replace HO_104001 := qr HO_104001 hb; replace HO_105001 := qr HO_105001 hb; replace BK102 := qb BK102 hb; replace BK103 := qb BK103 hb; replace BK104 := qb BK104 hb; replace HB := Aside0.mk (below_step (by repeat (first | (with_reducible first | exact HB.out | apply below_alloc | apply pw_below_drewN | apply below_drew1 | refine qs ?_ (by assumption)) | exact HB.out)) hb); (try clear hb); (try clear hb2); (try clear hk); (try clear hi)))
              go_ret
              exact ⟨by first | rfl | (simp [errW_none, errW_some] <;> rfl) | (simp [*, errW_none, errW_some] <;> rfl), by repeat (first | (with_reducible first | exact HB.out | apply below_alloc | apply pw_below_drewN | apply below_drew1 | refine qs ?_ (by assumption)) | exact HB.out)⟩
            · replace c57 := Bool.eq_false_iff.mpr c57
              subst c57
              have H1 : ((num_Add.f t109 t110 t114 t115).bind fun bt125 => ((num_Add.f t114 t115 t109 t110).bind fun bt131 => (if bt125.2.2 = bt131.2.2 then ((moraineref02_Same.f bt125.1 bt125.2.1 bt131.1 bt131.2.1).bind fun t137 => (morainelaw02_NumRing.j2 kj38 bt125.2.2 (!t137) t109 t110 t114 t115 t119 t120 bt125.1 bt125.2.1)) else (morainelaw02_NumRing.j2 kj38 bt125.2.2 true t109 t110 t114 t115 t119 t120 bt125.1 bt125.2.1)))) = some r := by rw [if_neg (show ¬ (false = true) by decide)] at H; exact H
              clear H
              have H := H1
              clear H1
              replace H := Option.bind_eq_some_iff.mp H
              obtain ⟨⟨t125, t126, t129⟩, A600, H⟩ := H
              replace H : ((num_Add.f t114 t115 t109 t110).bind fun bt131 => (if t129 = bt131.2.2 then ((moraineref02_Same.f t125 t126 bt131.1 bt131.2.1).bind fun t137 => (morainelaw02_NumRing.j2 kj38 t129 (!t137) t109 t110 t114 t115 t119 t120 t125 t126)) else (morainelaw02_NumRing.j2 kj38 t129 true t109 t110 t114 t115 t119 t120 t125 t126))) = some r := H
              have A60 := Aside0.mk A600
              clear A600
              replace H := Option.bind_eq_some_iff.mp H
              obtain ⟨⟨t131, t132, t135⟩, A610, H⟩ := H
              replace H : (if t129 = t135 then ((moraineref02_Same.f t125 t126 t131 t132).bind fun t137 => (morainelaw02_NumRing.j2 kj38 t129 (!t137) t109 t110 t114 t115 t119 t120 t125 t126)) else (morainelaw02_NumRing.j2 kj38 t129 true t109 t110 t114 t115 t119 t120 t125 t126)) = some r := H
              have A61 := Aside0.mk A610
              clear A610
              have HC62 := Aside0.mk H
              clear H
              have hnb63 := NB102_103.out
              have hnc63 := NB103_102.out
              have hnb64 := NB102_104.out
              have hnc64 := NB104_102.out
              have hcz65_0 : wc.cell? ⟨gb102, 0, none⟩ = some (.bool t109) := (blk_cell BK102.out 0).trans rfl
              have hcz65_1 : wc.cell? ⟨gb102, 1, none⟩ = some (.slice Ao45 t110.length co45) := (blk_cell BK102.out 1).trans rfl
              have hfz65_0 := blk_frozen BK102.out 0
              have hfz65_1 := blk_frozen BK102.out 1
              have hnb66 := NB103_104.out
              have hnc66 := NB104_103.out
              have hcz67_0 : wc.cell? ⟨gb103, 0, none⟩ = some (.bool t114) := (blk_cell BK103.out 0).trans rfl
              have hcz67_1 : wc.cell? ⟨gb103, 1, none⟩ = some (.slice Ao50 t115.length co50) := (blk_cell BK103.out 1).trans rfl
              have hfz67_0 := blk_frozen BK103.out 0
              have hfz67_1 := blk_frozen BK103.out 1
              go_upto_region 10 with (first | ((with_reducible refine gate_callee (f := 41) rfl ?_); refine goesL_ (some 66) rfl rfl Tryd.func41 (by kernel_rfl) rfl #[.agg #[.bool t109, .slice Ao45 t110.length co45], .agg #[.bool t114, .slice Ao50 t115.length co50]] rfl (by (try simp only [List.map_toArray, List.map_cons, List.map_nil]); first | done | rfl | (simp only [List.length_drop, List.length_take]; rfl)) ?_; (with_reducible refine (num_Add.calls t109 _ _ t110 t114 _ _ t115 t125 t126 t129 _ ?side1 ?side2 ?side3 ?side4 A60.out).mono ?_); (case side1 => repeat (first | exact (Kd.R_reads' HO_103001.out).2.2 | (with_reducible refine Kd.C_alloc ?_ _) | (with_reducible refine Kd.C_drewN ?_ _) | (with_reducible refine Kd.C_drew ?_))); (case side2 => exact (Kd.R_reads' HO_103001.out).2.1); (case side3 => repeat (first | exact (Kd.R_reads' HO_104001.out).2.2 | (with_reducible refine Kd.C_alloc ?_ _) | (with_reducible refine Kd.C_drewN ?_ _) | (with_reducible refine Kd.C_drew ?_))); (case side4 => exact (Kd.R_reads' HO_104001.out).2.1); rintro e w68 ⟨v127, rfl, ho0, hb⟩; refine ⟨_, rfl, ?_⟩; have HO128 := Aside0.mk (Kd.R_lower (Kd.R_new' (Kd.R_new' (Kd.R_new' ho0 (ql HO_103001)) (ql HO_104001)) (ql HO_105001)) (below_size (by repeat (first | (with_reducible first | exact HB.out | apply below_alloc | apply pw_below_drewN | apply below_drew1 | refine qs ?_ (by assumption)) | exact HB.out)))); replace HO_103001 := qe HO_103001 ho0 hb; replace HO_104001 := qe HO_104001 ho0 hb; replace HO_105001 := qe HO_105001 ho0 hb; replace BK102 := qb BK102 hb; replace BK103 := qb BK103 hb; replace BK104 := qb BK104 hb; replace HB := Aside0.mk (below_step (by repeat (first | (with_reducible first | exact HB.out | apply below_alloc | apply pw_below_drewN | apply below_drew1 | refine qs ?_ (by assumption)) | exact HB.out)) hb); (try clear hb); (try clear hb2); (try clear hk); (try clear hi); (try clear ho0)) | ((with_reducible refine gate_dst (N := 10) rfl ?_); refine box_event ?hg (N := 10) ?hd (cs := #[.bool false, .slice none 0 0]) (t := 25) ?hr ?_; (case hd => rfl); (case hg => rfl); (case hr => first | (go_simp; done) | (go_simp; rfl)); intro gb130 hg w69 hbox hb; replace HO_103001 := qr HO_103001 hb; replace HO_104001 := qr HO_104001 hb; replace HO_105001 := qr HO_105001 hb; replace HO128 := qr HO128 hb; have BK130 := Aside0.mk (hbox); have GW130 := qg hg (by repeat (first | (with_reducible first | exact HB.out | apply below_alloc | apply pw_below_drewN | apply below_drew1 | refine qs ?_ (by assumption)) | exact HB.out)); have GE130 := qg hg (by repeat (first | (with_reducible first | exact HB.out | apply below_alloc | apply pw_below_drewN | apply below_drew1 | refine qs ?_ (by assumption)) | exact HB.out)); replace HB := Aside0.mk (below_step (by repeat (first | (with_reducible first | exact HB.out | apply below_alloc | apply pw_below_drewN | apply below_drew1 | refine qs ?_ (by assumption)) | exact HB.out)) hb); have NB102_130 := qn BK102 hg; have NB130_102 := qm BK102 hg; replace BK102 := qb BK102 hb; have NB103_130 := qn BK103 hg; have NB130_103 := qm BK103 hg; replace BK103 := qb BK103 hb; have NB104_130 := qn BK104 hg; have NB130_104 := qm BK104 hg; replace BK104 := qb BK104 hb; clear hb hbox hg; have hnb70 := NB130_102.out; have hnc70 := NB102_130.out; have hnb71 := NB130_103.out; have hnc71 := NB103_130.out; have hnb72 := NB130_104.out; have hnc72 := NB104_130.out; have hcz73_0 : w69.cell? ⟨gb130, 0, none⟩ = some (.bool false) := (blk_cell BK130.out 0).trans rfl; have hcz73_1 : w69.cell? ⟨gb130, 1, none⟩ = some (.slice none 0 0) := (blk_cell BK130.out 1).trans rfl; have hfz73_0 := blk_frozen BK130.out 0; have hfz73_1 := blk_frozen BK130.out 1; obtain ⟨Ao74, co74, eo74⟩ := Kd.R_slice HO128.out; subst eo74; have hcz75_0 : w69.cell? ⟨gb103, 0, none⟩ = some (.bool t114) := (blk_cell BK103.out 0).trans rfl; have hcz75_1 : w69.cell? ⟨gb103, 1, none⟩ = some (.slice Ao50 t115.length co50) := (blk_cell BK103.out 1).trans rfl; have hfz75_0 := blk_frozen BK103.out 0; have hfz75_1 := blk_frozen BK103.out 1; have hcz76_0 : w69.cell? ⟨gb102, 0, none⟩ = some (.bool t109) := (blk_cell BK102.out 0).trans rfl; have hcz76_1 : w69.cell? ⟨gb102, 1, none⟩ = some (.slice Ao45 t110.length co45) := (blk_cell BK102.out 1).trans rfl; have hfz76_0 := blk_frozen BK102.out 0; have hfz76_1 := blk_frozen BK102.out 1) | ((with_reducible refine gate_callee (f := 41) rfl ?_); refine goesL_ (some 72) rfl rfl Tryd.func41 (by kernel_rfl) rfl #[.agg #[.bool t114, .slice Ao50 t115.length co50], .agg #[.bool t109, .slice Ao45 t110.length co45]] rfl (by (try simp only [List.map_toArray, List.map_cons, List.map_nil]); first | done | rfl | (simp only [List.length_drop, List.length_take]; rfl)) ?_; (with_reducible refine (num_Add.calls t114 _ _ t115 t109 _ _ t110 t131 t132 t135 _ ?side1 ?side2 ?side3 ?side4 A61.out).mono ?_); (case side1 => refine (Kd.R_reads' (e := 63) (base := w.heap.size) (ok := fun k_ => ((some k_ ≠ (.slice Ao45 t110.length co45 : Value).ownBlock ∧ some k_ ≠ (.slice Ao54 t120.length co54 : Value).ownBlock) ∧ some k_ ≠ (.slice Ao74 t126.length co74 : Value).ownBlock)) (n := t115.length) (c := co50) ?_).2.2; exact (by (with_reducible repeat (first | apply Kd.R_alloc | apply Kd.R_drewN | apply Kd.R_drew)); exact (Kd.R_mono (qz HO_104001 BK130 (by decide) (.bool t125) (.slice Ao74 t126.length co74)) (fun _ h_ => h_.1)))); (case side2 => exact (Kd.R_reads' HO_104001.out).2.1); (case side3 => refine (Kd.R_reads' (e := 63) (base := w.heap.size) (ok := fun k_ => ((some k_ ≠ (.slice Ao50 t115.length co50 : Value).ownBlock ∧ some k_ ≠ (.slice Ao54 t120.length co54 : Value).ownBlock) ∧ some k_ ≠ (.slice Ao74 t126.length co74 : Value).ownBlock)) (n := t110.length) (c := co45) ?_).2.2; exact (by (with_reducible repeat (first | apply Kd.R_alloc | apply Kd.R_drewN | apply Kd.R_drew)); exact (Kd.R_mono (qz HO_103001 BK130 (by decide) (.bool t125) (.slice Ao74 t126.length co74)) (fun _ h_ => h_.1)))); (case side4 => exact (Kd.R_reads' HO_103001.out).2.1); rintro e w77 ⟨v133, rfl, ho0, hb⟩; refine ⟨_, rfl, ?_⟩; have n0_ := Aside0.mk (Kd.R_elder' (by (with_reducible repeat (first | apply Kd.R_alloc | apply Kd.R_drewN | apply Kd.R_drew)); exact (Kd.R_mono (qz HO_103001 BK130 (by decide) (.bool t125) (.slice Ao74 t126.length co74)) (fun _ h_ => h_.1))) (Kd.R_base ho0) hb); have n1_ := Aside0.mk (Kd.R_elder' (by (with_reducible repeat (first | apply Kd.R_alloc | apply Kd.R_drewN | apply Kd.R_drew)); exact (Kd.R_mono (qz HO_104001 BK130 (by decide) (.bool t125) (.slice Ao74 t126.length co74)) (fun _ h_ => h_.1))) (Kd.R_base ho0) hb); have n2_ := Aside0.mk (Kd.R_elder' (by (with_reducible repeat (first | apply Kd.R_alloc | apply Kd.R_drewN | apply Kd.R_drew)); exact (Kd.R_mono (qz HO_105001 BK130 (by decide) (.bool t125) (.slice Ao74 t126.length co74)) (fun _ h_ => h_.1))) (Kd.R_base ho0) hb); have n3_ := Aside0.mk (Kd.R_elder' (by (with_reducible repeat (first | apply Kd.R_alloc | apply Kd.R_drewN | apply Kd.R_drew)); exact (Kd.R_mono (qz HO128 BK130 (by decide) (.bool t125) (.slice Ao74 t126.length co74)) (fun _ h_ => h_.1))) (Kd.R_base ho0) hb); have n4_ := Aside0.mk (Kd.R_lower (Kd.R_new' (Kd.R_new' (Kd.R_new' (Kd.R_new' ho0 (Kd.R_lt (by (with_reducible repeat (first | apply Kd.R_alloc | apply Kd.R_drewN | apply Kd.R_drew)); exact (Kd.R_mono (qz HO_103001 BK130 (by decide) (.bool t125) (.slice Ao74 t126.length co74)) (fun _ h_ => h_.1))))) (Kd.R_lt (by (with_reducible repeat (first | apply Kd.R_alloc | apply Kd.R_drewN | apply Kd.R_drew)); exact (Kd.R_mono (qz HO_104001 BK130 (by decide) (.bool t125) (.slice Ao74 t126.length co74)) (fun _ h_ => h_.1))))) (Kd.R_lt (by (with_reducible repeat (first | apply Kd.R_alloc | apply Kd.R_drewN | apply Kd.R_drew)); exact (Kd.R_mono (qz HO_105001 BK130 (by decide) (.bool t125) (.slice Ao74 t126.length co74)) (fun _ h_ => h_.1))))) (Kd.R_lt (by (with_reducible repeat (first | apply Kd.R_alloc | apply Kd.R_drewN | apply Kd.R_drew)); exact (Kd.R_mono (qz HO128 BK130 (by decide) (.bool t125) (.slice Ao74 t126.length co74)) (fun _ h_ => h_.1))))) (below_size (by repeat (first | (with_reducible first | exact HB.out | apply below_alloc | apply pw_below_drewN | apply below_drew1 | refine qs ?_ (by assumption)) | exact HB.out)))); have n5_ := Aside0.mk (blk_below (g := gb102) (o := .cells #[.bool t109, .slice Ao45 t110.length co45] 25 (0, 0)) (by (with_reducible repeat (first | refine qN ?_ _ | refine qW ?_ | refine qA ?_ _)); refine qf ?_ NB102_130; (with_reducible repeat (first | refine qN ?_ _ | refine qW ?_ | refine qA ?_ _)); exact BK102.out) hb); have n6_ := Aside0.mk (blk_below (g := gb103) (o := .cells #[.bool t114, .slice Ao50 t115.length co50] 25 (0, 0)) (by (with_reducible repeat (first | refine qN ?_ _ | refine qW ?_ | refine qA ?_ _)); refine qf ?_ NB103_130; (with_reducible repeat (first | refine qN ?_ _ | refine qW ?_ | refine qA ?_ _)); exact BK103.out) hb); have n7_ := Aside0.mk (blk_below (g := gb104) (o := .cells #[.bool t119, .slice Ao54 t120.length co54] 25 (0, 0)) (by (with_reducible repeat (first | refine qN ?_ _ | refine qW ?_ | refine qA ?_ _)); refine qf ?_ NB104_130; (with_reducible repeat (first | refine qN ?_ _ | refine qW ?_ | refine qA ?_ _)); exact BK104.out) hb); have n8_ := Aside0.mk (blk_below (g := gb130) (o := .cells #[.bool t125, .slice Ao74 t126.length co74] 25 (0, 0)) (by (with_reducible repeat (first | refine qN ?_ _ | refine qW ?_ | refine qA ?_ _)); refine blk_put (cs := #[.bool t125, .slice none 0 0]) ?_ 1 _ rfl; (with_reducible repeat (first | refine qN ?_ _ | refine qW ?_ | refine qA ?_ _)); refine blk_put (cs := #[.bool false, .slice none 0 0]) ?_ 0 _ rfl; (with_reducible repeat (first | refine qN ?_ _ | refine qW ?_ | refine qA ?_ _)); exact BK130.out) hb); have n9_ := Aside0.mk (below_step (by repeat (first | (with_reducible first | exact HB.out | apply below_alloc | apply pw_below_drewN | apply below_drew1 | refine qs ?_ (by assumption)) | exact HB.out)) hb); clear HO_103001; clear HO_104001; clear HO_105001; clear HO128; clear BK102; clear BK103; clear BK104; clear BK130; clear HB; have HO_103001 := n0_; have HO_104001 := n1_; have HO_105001 := n2_; have HO128 := n3_; have HO134 := n4_; have BK102 := n5_; have BK103 := n6_; have BK104 := n7_; have BK130 := n8_; have HB := n9_; clear n0_ n1_ n2_ n3_ n4_ n5_ n6_ n7_ n8_ n9_; (try clear hb); (try clear hb2); (try clear hk); (try clear hi); (try clear ho0)) | ((with_reducible refine gate_dst (N := 11) rfl ?_); refine box_event ?hg (N := 11) ?hd (cs := #[.bool false, .slice none 0 0]) (t := 25) ?hr ?_; (case hd => rfl); (case hg => rfl); (case hr => first | (go_simp; done) | (go_simp; rfl)); intro gb136 hg w78 hbox hb; replace HO_103001 := qr HO_103001 hb; replace HO_104001 := qr HO_104001 hb; replace HO_105001 := qr HO_105001 hb; replace HO128 := qr HO128 hb; replace HO134 := qr HO134 hb; have BK136 := Aside0.mk (hbox); have GW136 := qg hg (by repeat (first | (with_reducible first | exact HB.out | apply below_alloc | apply pw_below_drewN | apply below_drew1 | refine qs ?_ (by assumption)) | exact HB.out)); have GE136 := qg hg (by repeat (first | (with_reducible first | exact HB.out | apply below_alloc | apply pw_below_drewN | apply below_drew1 | refine qs ?_ (by assumption)) | exact HB.out)); replace HB := Aside0.mk (below_step (by repeat (first | (with_reducible first | exact HB.out | apply below_alloc | apply pw_below_drewN | apply below_drew1 | refine qs ?_ (by assumption)) | exact HB.out)) hb); have NB102_136 := qn BK102 hg; have NB136_102 := qm BK102 hg; replace BK102 := qb BK102 hb; have NB103_136 := qn BK103 hg; have NB136_103 := qm BK103 hg; replace BK103 := qb BK103 hb; have NB104_136 := qn BK104 hg; have NB136_104 := qm BK104 hg; replace BK104 := qb BK104 hb; have NB130_136 := qn BK130 hg; have NB136_130 := qm BK130 hg; replace BK130 := qb BK130 hb; clear hb hbox hg; have hnb79 := NB136_102.out; have hnc79 := NB102_136.out; have hnb80 := NB136_103.out; have hnc80 := NB103_136.out; have hnb81 := NB136_104.out; have hnc81 := NB104_136.out; have hnb82 := NB136_130.out; have hnc82 := NB130_136.out; have hcz83_0 : w78.cell? ⟨gb136, 0, none⟩ = some (.bool false) := (blk_cell BK136.out 0).trans rfl; have hcz83_1 : w78.cell? ⟨gb136, 1, none⟩ = some (.slice none 0 0) := (blk_cell BK136.out 1).trans rfl; have hfz83_0 := blk_frozen BK136.out 0; have hfz83_1 := blk_frozen BK136.out 1; obtain ⟨Ao84, co84, eo84⟩ := Kd.R_slice HO134.out; subst eo84))
              (try simp only [Act.put, List.setIfInBounds_toArray, List.set_cons_zero, List.set_cons_succ])
              go_cut [83] (fun v83 wc => ∃ (kq : Nat) (x83_61 : Bool), v83 = .bool x83_61 ∧ Aside0 (morainelaw02_NumRing.j2 kq t129 x83_61 t109 t110 t114 t115 t119 t120 t125 t126 = some r) ∧ Aside0 (kq ≤ kj38) ∧ Aside0 (Kd.R (Kd.int .u32) 63 wc w.heap.size (fun k_ => some k_ ≠ ((.slice Ao50 t115.length co50) : Value).ownBlock ∧ some k_ ≠ ((.slice Ao54 t120.length co54) : Value).ownBlock ∧ some k_ ≠ ((.slice Ao74 t126.length co74) : Value).ownBlock ∧ some k_ ≠ ((.slice Ao84 t132.length co84) : Value).ownBlock) (.slice Ao45 t110.length co45) t110) ∧ Aside0 (Kd.R (Kd.int .u32) 63 wc w.heap.size (fun k_ => some k_ ≠ ((.slice Ao45 t110.length co45) : Value).ownBlock ∧ some k_ ≠ ((.slice Ao54 t120.length co54) : Value).ownBlock ∧ some k_ ≠ ((.slice Ao74 t126.length co74) : Value).ownBlock ∧ some k_ ≠ ((.slice Ao84 t132.length co84) : Value).ownBlock) (.slice Ao50 t115.length co50) t115) ∧ Aside0 (Kd.R (Kd.int .u32) 63 wc w.heap.size (fun k_ => some k_ ≠ ((.slice Ao45 t110.length co45) : Value).ownBlock ∧ some k_ ≠ ((.slice Ao50 t115.length co50) : Value).ownBlock ∧ some k_ ≠ ((.slice Ao74 t126.length co74) : Value).ownBlock ∧ some k_ ≠ ((.slice Ao84 t132.length co84) : Value).ownBlock) (.slice Ao54 t120.length co54) t120) ∧ Aside0 (Kd.R (Kd.int .u32) 63 wc w.heap.size (fun k_ => some k_ ≠ ((.slice Ao45 t110.length co45) : Value).ownBlock ∧ some k_ ≠ ((.slice Ao50 t115.length co50) : Value).ownBlock ∧ some k_ ≠ ((.slice Ao54 t120.length co54) : Value).ownBlock ∧ some k_ ≠ ((.slice Ao84 t132.length co84) : Value).ownBlock) (.slice Ao74 t126.length co74) t126) ∧ Aside0 (Kd.R (Kd.int .u32) 63 wc w.heap.size (fun k_ => some k_ ≠ ((.slice Ao45 t110.length co45) : Value).ownBlock ∧ some k_ ≠ ((.slice Ao50 t115.length co50) : Value).ownBlock ∧ some k_ ≠ ((.slice Ao54 t120.length co54) : Value).ownBlock ∧ some k_ ≠ ((.slice Ao74 t126.length co74) : Value).ownBlock) (.slice Ao84 t132.length co84) t132) ∧ Aside0 (wc.heap[gb102]? = some (.cells #[.bool t109, (.slice Ao45 t110.length co45)] 25 (0, 0))) ∧ Aside0 (wc.heap[gb103]? = some (.cells #[.bool t114, (.slice Ao50 t115.length co50)] 25 (0, 0))) ∧ Aside0 (wc.heap[gb104]? = some (.cells #[.bool t119, (.slice Ao54 t120.length co54)] 25 (0, 0))) ∧ Aside0 (wc.heap[gb130]? = some (.cells #[.bool t125, (.slice Ao74 t126.length co74)] 25 (0, 0))) ∧ Aside0 (wc.heap[gb136]? = some (.cells #[.bool t131, (.slice Ao84 t132.length co84)] 25 (0, 0))) ∧ Aside0 (Below w.heap.size w wc))
              case first =>
                have H := HC62.out
                clear HC62
                by_cases c85 : t129 = t135
                · rw [if_pos c85] at H
                  have c85b0 : (t129 == t135) = true := beq_iff_eq.mpr c85
                  have c85b1 : (t129 != t135) = false := bne_eq_false_iff_eq.mpr c85
                  clear c85
                  (first | rw [c85b0] | (simp only [i64_w, i32_w]; rw [c85b0]) | skip)
                  replace H := Option.bind_eq_some_iff.mp H
                  obtain ⟨t137, A860, H⟩ := H
                  replace H : (morainelaw02_NumRing.j2 kj38 t129 (!t137) t109 t110 t114 t115 t119 t120 t125 t126) = some r := H
                  have A86 := Aside0.mk A860
                  clear A860
                  have H' := Aside0.mk H
                  clear H
                  have hnb87 := NB130_102.out
                  have hnc87 := NB102_130.out
                  have hnb88 := NB130_103.out
                  have hnc88 := NB103_130.out
                  have hnb89 := NB130_104.out
                  have hnc89 := NB104_130.out
                  have hnb90 := NB130_136.out
                  have hnc90 := NB136_130.out
                  have hcz91_0 : w78.cell? ⟨gb130, 0, none⟩ = some (.bool t125) := (blk_cell BK130.out 0).trans rfl
                  have hcz91_1 : w78.cell? ⟨gb130, 1, none⟩ = some (.slice Ao74 t126.length co74) := (blk_cell BK130.out 1).trans rfl
                  have hfz91_0 := blk_frozen BK130.out 0
                  have hfz91_1 := blk_frozen BK130.out 1
                  have hnb92 := NB136_102.out
                  have hnc92 := NB102_136.out
                  have hnb93 := NB136_103.out
                  have hnc93 := NB103_136.out
                  have hnb94 := NB136_104.out
                  have hnc94 := NB104_136.out
                  have hcz95_0 : w78.cell? ⟨gb136, 0, none⟩ = some (.bool false) := (blk_cell BK136.out 0).trans rfl
                  have hcz95_1 : w78.cell? ⟨gb136, 1, none⟩ = some (.slice none 0 0) := (blk_cell BK136.out 1).trans rfl
                  have hfz95_0 := blk_frozen BK136.out 0
                  have hfz95_1 := blk_frozen BK136.out 1
                  go_wp2_with (first | (go_at_call 17; (with_reducible refine (moraineref02_Same.calls t125 _ _ t126 t131 _ _ t132 t137 _ ?side1 ?side2 ?side3 ?side4 A86.out).mono ?_); (case side1 => refine (Kd.R_reads' (e := 63) (base := w.heap.size) (ok := fun k_ => ((((True ∧ some k_ ≠ (.slice Ao45 t110.length co45 : Value).ownBlock) ∧ some k_ ≠ (.slice Ao50 t115.length co50 : Value).ownBlock) ∧ some k_ ≠ (.slice Ao54 t120.length co54 : Value).ownBlock) ∧ some k_ ≠ (.slice Ao84 t132.length co84 : Value).ownBlock)) (n := t126.length) (c := co74) ?_).2.2; exact (by (with_reducible repeat (first | apply Kd.R_alloc | apply Kd.R_drewN | apply Kd.R_drew)); exact (Kd.R_mono (qz HO128 BK136 (by decide) (.bool t131) (.slice Ao84 t132.length co84)) (fun _ h_ => h_.1)))); (case side2 => exact (Kd.R_reads' HO128.out).2.1); (case side3 => refine (Kd.R_reads' (e := 63) (base := w.heap.size) (ok := fun k_ => ((((True ∧ some k_ ≠ (.slice Ao45 t110.length co45 : Value).ownBlock) ∧ some k_ ≠ (.slice Ao50 t115.length co50 : Value).ownBlock) ∧ some k_ ≠ (.slice Ao54 t120.length co54 : Value).ownBlock) ∧ some k_ ≠ (.slice Ao74 t126.length co74 : Value).ownBlock)) (n := t132.length) (c := co84) ?_).2.2; exact (by (with_reducible repeat (first | apply Kd.R_alloc | apply Kd.R_drewN | apply Kd.R_drew)); exact (Kd.R_mono (qz HO134 BK136 (by decide) (.bool t131) (.slice Ao84 t132.length co84)) (fun _ h_ => h_.1)))); (case side4 => exact (Kd.R_reads' HO134.out).2.1); rintro e w96 ⟨rfl, hb⟩; have n0_ := Aside0.mk (Kd.R_below (by (with_reducible repeat (first | apply Kd.R_alloc | apply Kd.R_drewN | apply Kd.R_drew)); exact (Kd.R_mono (qz HO_103001 BK136 (by decide) (.bool t131) (.slice Ao84 t132.length co84)) (fun _ h_ => h_.1))) hb); have n1_ := Aside0.mk (Kd.R_below (by (with_reducible repeat (first | apply Kd.R_alloc | apply Kd.R_drewN | apply Kd.R_drew)); exact (Kd.R_mono (qz HO_104001 BK136 (by decide) (.bool t131) (.slice Ao84 t132.length co84)) (fun _ h_ => h_.1))) hb); have n2_ := Aside0.mk (Kd.R_below (by (with_reducible repeat (first | apply Kd.R_alloc | apply Kd.R_drewN | apply Kd.R_drew)); exact (Kd.R_mono (qz HO_105001 BK136 (by decide) (.bool t131) (.slice Ao84 t132.length co84)) (fun _ h_ => h_.1))) hb); have n3_ := Aside0.mk (Kd.R_below (by (with_reducible repeat (first | apply Kd.R_alloc | apply Kd.R_drewN | apply Kd.R_drew)); exact (Kd.R_mono (qz HO128 BK136 (by decide) (.bool t131) (.slice Ao84 t132.length co84)) (fun _ h_ => h_.1))) hb); have n4_ := Aside0.mk (Kd.R_below (by (with_reducible repeat (first | apply Kd.R_alloc | apply Kd.R_drewN | apply Kd.R_drew)); exact (Kd.R_mono (qz HO134 BK136 (by decide) (.bool t131) (.slice Ao84 t132.length co84)) (fun _ h_ => h_.1))) hb); have n5_ := Aside0.mk (blk_below (g := gb102) (o := .cells #[.bool t109, .slice Ao45 t110.length co45] 25 (0, 0)) (by (with_reducible repeat (first | refine qN ?_ _ | refine qW ?_ | refine qA ?_ _)); refine qf ?_ NB102_136; (with_reducible repeat (first | refine qN ?_ _ | refine qW ?_ | refine qA ?_ _)); exact BK102.out) hb); have n6_ := Aside0.mk (blk_below (g := gb103) (o := .cells #[.bool t114, .slice Ao50 t115.length co50] 25 (0, 0)) (by (with_reducible repeat (first | refine qN ?_ _ | refine qW ?_ | refine qA ?_ _)); refine qf ?_ NB103_136; (with_reducible repeat (first | refine qN ?_ _ | refine qW ?_ | refine qA ?_ _)); exact BK103.out) hb); have n7_ := Aside0.mk (blk_below (g := gb104) (o := .cells #[.bool t119, .slice Ao54 t120.length co54] 25 (0, 0)) (by (with_reducible repeat (first | refine qN ?_ _ | refine qW ?_ | refine qA ?_ _)); refine qf ?_ NB104_136; (with_reducible repeat (first | refine qN ?_ _ | refine qW ?_ | refine qA ?_ _)); exact BK104.out) hb); have n8_ := Aside0.mk (blk_below (g := gb130) (o := .cells #[.bool t125, .slice Ao74 t126.length co74] 25 (0, 0)) (by (with_reducible repeat (first | refine qN ?_ _ | refine qW ?_ | refine qA ?_ _)); refine qf ?_ NB130_136; (with_reducible repeat (first | refine qN ?_ _ | refine qW ?_ | refine qA ?_ _)); exact BK130.out) hb); have n9_ := Aside0.mk (blk_below (g := gb136) (o := .cells #[.bool t131, .slice Ao84 t132.length co84] 25 (0, 0)) (by (with_reducible repeat (first | refine qN ?_ _ | refine qW ?_ | refine qA ?_ _)); refine blk_put (cs := #[.bool t131, .slice none 0 0]) ?_ 1 _ rfl; (with_reducible repeat (first | refine qN ?_ _ | refine qW ?_ | refine qA ?_ _)); refine blk_put (cs := #[.bool false, .slice none 0 0]) ?_ 0 _ rfl; (with_reducible repeat (first | refine qN ?_ _ | refine qW ?_ | refine qA ?_ _)); exact BK136.out) hb); have n10_ := Aside0.mk (below_step (by repeat (first | (with_reducible first | exact HB.out | apply below_alloc | apply pw_below_drewN | apply below_drew1 | refine qs ?_ (by assumption)) | exact HB.out)) hb); clear HO_103001; clear HO_104001; clear HO_105001; clear HO128; clear HO134; clear BK102; clear BK103; clear BK104; clear BK130; clear BK136; clear HB; have HO_103001 := n0_; have HO_104001 := n1_; have HO_105001 := n2_; have HO128 := n3_; have HO134 := n4_; have BK102 := n5_; have BK103 := n6_; have BK104 := n7_; have BK130 := n8_; have BK136 := n9_; have HB := n10_; clear n0_ n1_ n2_ n3_ n4_ n5_ n6_ n7_ n8_ n9_ n10_; (try clear hb); (try clear hb2); (try clear hk); (try clear hi)))
                  go_meet
                  case rel => exact ⟨_, (!t137), (by first | rfl | (simp; done) | (simp [*]; done)), H', ⟨by have := HJ3.out; have := HJ38.out; first | omega | exact Nat.le_refl _⟩, ⟨by (with_reducible repeat (first | apply Kd.R_alloc | apply Kd.R_drewN | apply Kd.R_drew)); exact Kd.R_mono HO_103001.out (fun _ hk => ⟨hk.1.1.1, ⟨hk.1.1.2, ⟨hk.1.2, hk.2⟩⟩⟩)⟩, ⟨by (with_reducible repeat (first | apply Kd.R_alloc | apply Kd.R_drewN | apply Kd.R_drew)); exact Kd.R_mono HO_104001.out (fun _ hk => ⟨hk.1.1.1, ⟨hk.1.1.2, ⟨hk.1.2, hk.2⟩⟩⟩)⟩, ⟨by (with_reducible repeat (first | apply Kd.R_alloc | apply Kd.R_drewN | apply Kd.R_drew)); exact Kd.R_mono HO_105001.out (fun _ hk => ⟨hk.1.1.1, ⟨hk.1.1.2, ⟨hk.1.2, hk.2⟩⟩⟩)⟩, ⟨by (with_reducible repeat (first | apply Kd.R_alloc | apply Kd.R_drewN | apply Kd.R_drew)); exact Kd.R_mono HO128.out (fun _ hk => ⟨hk.1.1.1.2, ⟨hk.1.1.2, ⟨hk.1.2, hk.2⟩⟩⟩)⟩, ⟨by (with_reducible repeat (first | apply Kd.R_alloc | apply Kd.R_drewN | apply Kd.R_drew)); exact Kd.R_mono HO134.out (fun _ hk => ⟨hk.1.1.1.2, ⟨hk.1.1.2, ⟨hk.1.2, hk.2⟩⟩⟩)⟩, ⟨qk BK102⟩, ⟨qk BK103⟩, ⟨qk BK104⟩, ⟨qk BK130⟩, ⟨qk BK136⟩, ⟨by repeat (first | (with_reducible first | exact HB.out | apply below_alloc | apply pw_below_drewN | apply below_drew1 | refine qs ?_ (by assumption)) | exact HB.out)⟩⟩
                · rw [if_neg c85] at H
                  have c85b0 : (t129 == t135) = false := beq_eq_false_iff_ne.mpr c85
                  have c85b1 : (t129 != t135) = true := bne_iff_ne.mpr c85
                  (first | rw [c85b0] | (simp only [i64_w, i32_w]; rw [c85b0]) | skip)
                  have H' := Aside0.mk H
                  clear H
                  go_wp2
                  go_meet
                  case rel => exact ⟨_, (true), (by first | rfl | (simp; done) | (simp [*]; done)), H', ⟨by have := HJ3.out; have := HJ38.out; first | omega | exact Nat.le_refl _⟩, ⟨by (with_reducible repeat (first | apply Kd.R_alloc | apply Kd.R_drewN | apply Kd.R_drew)); exact Kd.R_mono (qz HO_103001 BK136 (by decide) (.bool t131) (.slice Ao84 t132.length co84)) (fun _ hk => ⟨hk.1.1.1.1, ⟨hk.1.1.1.2, ⟨hk.1.1.2, hk.1.2⟩⟩⟩)⟩, ⟨by (with_reducible repeat (first | apply Kd.R_alloc | apply Kd.R_drewN | apply Kd.R_drew)); exact Kd.R_mono (qz HO_104001 BK136 (by decide) (.bool t131) (.slice Ao84 t132.length co84)) (fun _ hk => ⟨hk.1.1.1.1, ⟨hk.1.1.1.2, ⟨hk.1.1.2, hk.1.2⟩⟩⟩)⟩, ⟨by (with_reducible repeat (first | apply Kd.R_alloc | apply Kd.R_drewN | apply Kd.R_drew)); exact Kd.R_mono (qz HO_105001 BK136 (by decide) (.bool t131) (.slice Ao84 t132.length co84)) (fun _ hk => ⟨hk.1.1.1.1, ⟨hk.1.1.1.2, ⟨hk.1.1.2, hk.1.2⟩⟩⟩)⟩, ⟨by (with_reducible repeat (first | apply Kd.R_alloc | apply Kd.R_drewN | apply Kd.R_drew)); exact Kd.R_mono (qz HO128 BK136 (by decide) (.bool t131) (.slice Ao84 t132.length co84)) (fun _ hk => ⟨hk.1.1.1.1.2, ⟨hk.1.1.1.2, ⟨hk.1.1.2, hk.1.2⟩⟩⟩)⟩, ⟨by (with_reducible repeat (first | apply Kd.R_alloc | apply Kd.R_drewN | apply Kd.R_drew)); exact Kd.R_mono (qz HO134 BK136 (by decide) (.bool t131) (.slice Ao84 t132.length co84)) (fun _ hk => ⟨hk.1.1.1.1.2, ⟨hk.1.1.1.2, ⟨hk.1.1.2, hk.1.2⟩⟩⟩)⟩, ⟨by (with_reducible repeat (first | refine qN ?_ _ | refine qW ?_ | refine qA ?_ _)); refine qf ?_ NB102_136; (with_reducible repeat (first | refine qN ?_ _ | refine qW ?_ | refine qA ?_ _)); exact BK102.out⟩, ⟨by (with_reducible repeat (first | refine qN ?_ _ | refine qW ?_ | refine qA ?_ _)); refine qf ?_ NB103_136; (with_reducible repeat (first | refine qN ?_ _ | refine qW ?_ | refine qA ?_ _)); exact BK103.out⟩, ⟨by (with_reducible repeat (first | refine qN ?_ _ | refine qW ?_ | refine qA ?_ _)); refine qf ?_ NB104_136; (with_reducible repeat (first | refine qN ?_ _ | refine qW ?_ | refine qA ?_ _)); exact BK104.out⟩, ⟨by (with_reducible repeat (first | refine qN ?_ _ | refine qW ?_ | refine qA ?_ _)); refine qf ?_ NB130_136; (with_reducible repeat (first | refine qN ?_ _ | refine qW ?_ | refine qA ?_ _)); exact BK130.out⟩, ⟨by (with_reducible repeat (first | refine qN ?_ _ | refine qW ?_ | refine qA ?_ _)); refine blk_put (cs := #[.bool t131, .slice none 0 0]) ?_ 1 _ rfl; (with_reducible repeat (first | refine qN ?_ _ | refine qW ?_ | refine qA ?_ _)); refine blk_put (cs := #[.bool false, .slice none 0 0]) ?_ 0 _ rfl; (with_reducible repeat (first | refine qN ?_ _ | refine qW ?_ | refine qA ?_ _)); exact BK136.out⟩, ⟨by repeat (first | (with_reducible first | exact HB.out | apply below_alloc | apply pw_below_drewN | apply below_drew1 | refine qs ?_ (by assumption)) | exact HB.out)⟩⟩
              case rest =>
                clear HC62
                try clear c1
                try clear c2
                try clear p2
                try clear c3
                try clear c4
                try clear c5
                try clear c6
                try clear c7
                try clear c8
                try clear c9
                try clear c10
                try clear c11
                try clear c14
                try clear c15
                try clear c16
                try clear c17
                try clear c20
                try clear c21
                try clear c24
                try clear c25
                try clear c28
                try clear c33
                try clear c38
                try clear c40
                try clear c41
                try clear c46
                try clear c55
                try clear c55b0
                try clear c55b1
                try clear c56
                try clear c56b0
                try clear c56b1
                try clear c57
                try clear c63
                try clear c64
                try clear c66
                try clear c70
                try clear c71
                try clear c72
                try clear c79
                try clear c80
                try clear c81
                try clear c82
                try clear c85
                try clear c85b0
                try clear c85b1
                try clear c87
                try clear c88
                try clear c89
                try clear c90
                try clear c92
                try clear c93
                try clear c94
                try clear hcz12_0
                try clear hcz12_1
                try clear hcz18_0
                try clear hcz18_1
                try clear hcz21_0
                try clear hcz21_1
                try clear hcz26_0
                try clear hcz26_1
                try clear hcz29_0
                try clear hcz29_1
                try clear hcz31_0
                try clear hcz31_1
                try clear hcz42_0
                try clear hcz42_1
                try clear hcz44_0
                try clear hcz44_1
                try clear hcz47_0
                try clear hcz47_1
                try clear hcz49_0
                try clear hcz49_1
                try clear hcz51_0
                try clear hcz51_1
                try clear hcz53_0
                try clear hcz53_1
                try clear hcz65_0
                try clear hcz65_1
                try clear hcz67_0
                try clear hcz67_1
                try clear hcz73_0
                try clear hcz73_1
                try clear hcz75_0
                try clear hcz75_1
                try clear hcz76_0
                try clear hcz76_1
                try clear hcz83_0
                try clear hcz83_1
                try clear hcz91_0
                try clear hcz91_1
                try clear hcz95_0
                try clear hcz95_1
                try clear hfz12_0
                try clear hfz12_1
                try clear hfz18_0
                try clear hfz18_1
                try clear hfz21_0
                try clear hfz21_1
                try clear hfz26_0
                try clear hfz26_1
                try clear hfz29_0
                try clear hfz29_1
                try clear hfz31_0
                try clear hfz31_1
                try clear hfz42_0
                try clear hfz42_1
                try clear hfz44_0
                try clear hfz44_1
                try clear hfz47_0
                try clear hfz47_1
                try clear hfz49_0
                try clear hfz49_1
                try clear hfz51_0
                try clear hfz51_1
                try clear hfz53_0
                try clear hfz53_1
                try clear hfz65_0
                try clear hfz65_1
                try clear hfz67_0
                try clear hfz67_1
                try clear hfz73_0
                try clear hfz73_1
                try clear hfz75_0
                try clear hfz75_1
                try clear hfz76_0
                try clear hfz76_1
                try clear hfz83_0
                try clear hfz83_1
                try clear hfz91_0
                try clear hfz91_1
                try clear hfz95_0
                try clear hfz95_1
                try clear p2
                obtain ⟨kq, x83_61, rfl, HA, HJ61, HO_103001, HO_104001, HO_105001, HO_131001, HO_137001, BK102, BK103, BK104, BK130, BK136, HB⟩ := hcut
                cases kq with
                | zero => exact absurd HA.out (by simp [morainelaw02_NumRing.j2])
                | succ kj61 =>
                  have H := HA.out
                  clear HA
                  simp only [morainelaw02_NumRing.j2] at H
                  by_cases c97 : x83_61 = true
                  · subst c97
                    have H1 : (some false) = some r := by rw [if_pos rfl] at H; exact H
                    clear H
                    have H := H1
                    clear H1
                    exact absurd ((Option.some.inj H).trans hr) (by decide)
                  · replace c97 := Bool.eq_false_iff.mpr c97
                    subst c97
                    have H1 : (if t129 = 0 then ((num_Sub.f t125 t126 t114 t115).bind fun bt138 => (if bt138.2.2 = 0 then ((moraineref02_Same.f bt138.1 bt138.2.1 t109 t110).bind fun t144 => (if t144 = true then (morainelaw02_NumRing.j3 kj61 t129 t109 t110 t114 t115 t119 t120 t125 t126) else (some false))) else (some false))) else (morainelaw02_NumRing.j3 kj61 t129 t109 t110 t114 t115 t119 t120 t125 t126)) = some r := by rw [if_neg (show ¬ (false = true) by decide)] at H; exact H
                    clear H
                    have H := H1
                    clear H1
                    have HC98 := Aside0.mk H
                    clear H
                    go_upto_if 85 with (fail)
                    go_cut [] (fun wc => ∃ (kq : Nat), Aside0 (morainelaw02_NumRing.j3 kq t129 t109 t110 t114 t115 t119 t120 t125 t126 = some r) ∧ Aside0 (kq ≤ kj61) ∧ Aside0 (Kd.R (Kd.int .u32) 63 wc w.heap.size (fun k_ => some k_ ≠ ((.slice Ao50 t115.length co50) : Value).ownBlock ∧ some k_ ≠ ((.slice Ao54 t120.length co54) : Value).ownBlock ∧ some k_ ≠ ((.slice Ao74 t126.length co74) : Value).ownBlock ∧ some k_ ≠ ((.slice Ao84 t132.length co84) : Value).ownBlock) (.slice Ao45 t110.length co45) t110) ∧ Aside0 (Kd.R (Kd.int .u32) 63 wc w.heap.size (fun k_ => some k_ ≠ ((.slice Ao45 t110.length co45) : Value).ownBlock ∧ some k_ ≠ ((.slice Ao54 t120.length co54) : Value).ownBlock ∧ some k_ ≠ ((.slice Ao74 t126.length co74) : Value).ownBlock ∧ some k_ ≠ ((.slice Ao84 t132.length co84) : Value).ownBlock) (.slice Ao50 t115.length co50) t115) ∧ Aside0 (Kd.R (Kd.int .u32) 63 wc w.heap.size (fun k_ => some k_ ≠ ((.slice Ao45 t110.length co45) : Value).ownBlock ∧ some k_ ≠ ((.slice Ao50 t115.length co50) : Value).ownBlock ∧ some k_ ≠ ((.slice Ao74 t126.length co74) : Value).ownBlock ∧ some k_ ≠ ((.slice Ao84 t132.length co84) : Value).ownBlock) (.slice Ao54 t120.length co54) t120) ∧ Aside0 (Kd.R (Kd.int .u32) 63 wc w.heap.size (fun k_ => some k_ ≠ ((.slice Ao45 t110.length co45) : Value).ownBlock ∧ some k_ ≠ ((.slice Ao50 t115.length co50) : Value).ownBlock ∧ some k_ ≠ ((.slice Ao54 t120.length co54) : Value).ownBlock ∧ some k_ ≠ ((.slice Ao84 t132.length co84) : Value).ownBlock) (.slice Ao74 t126.length co74) t126) ∧ Aside0 (Kd.R (Kd.int .u32) 63 wc w.heap.size (fun k_ => some k_ ≠ ((.slice Ao45 t110.length co45) : Value).ownBlock ∧ some k_ ≠ ((.slice Ao50 t115.length co50) : Value).ownBlock ∧ some k_ ≠ ((.slice Ao54 t120.length co54) : Value).ownBlock ∧ some k_ ≠ ((.slice Ao74 t126.length co74) : Value).ownBlock) (.slice Ao84 t132.length co84) t132) ∧ Aside0 (wc.heap[gb102]? = some (.cells #[.bool t109, (.slice Ao45 t110.length co45)] 25 (0, 0))) ∧ Aside0 (wc.heap[gb103]? = some (.cells #[.bool t114, (.slice Ao50 t115.length co50)] 25 (0, 0))) ∧ Aside0 (wc.heap[gb104]? = some (.cells #[.bool t119, (.slice Ao54 t120.length co54)] 25 (0, 0))) ∧ Aside0 (wc.heap[gb130]? = some (.cells #[.bool t125, (.slice Ao74 t126.length co74)] 25 (0, 0))) ∧ Aside0 (wc.heap[gb136]? = some (.cells #[.bool t131, (.slice Ao84 t132.length co84)] 25 (0, 0))) ∧ Aside0 (Below w.heap.size w wc))
                    case first =>
                      have H := HC98.out
                      clear HC98
                      by_cases c99 : t129 = 0
                      · rw [if_pos c99] at H
                        have c99b0 : (t129 == 0) = true := beq_iff_eq.mpr c99
                        have c99b1 : (t129 != 0) = false := bne_eq_false_iff_eq.mpr c99
                        clear c99
                        (first | rw [c99b0] | (simp only [i64_w, i32_w]; rw [c99b0]) | skip)
                        replace H := Option.bind_eq_some_iff.mp H
                        obtain ⟨⟨t138, t139, t142⟩, A1000, H⟩ := H
                        replace H : (if t142 = 0 then ((moraineref02_Same.f t138 t139 t109 t110).bind fun t144 => (if t144 = true then (morainelaw02_NumRing.j3 kj61 t129 t109 t110 t114 t115 t119 t120 t125 t126) else (some false))) else (some false)) = some r := H
                        have A100 := Aside0.mk A1000
                        clear A1000
                        by_cases c101 : t142 = 0
                        · rw [if_pos c101] at H
                          have c101b0 : (t142 == 0) = true := beq_iff_eq.mpr c101
                          have c101b1 : (t142 != 0) = false := bne_eq_false_iff_eq.mpr c101
                          clear c101
                          replace H := Option.bind_eq_some_iff.mp H
                          obtain ⟨t144, A1020, H⟩ := H
                          replace H : (if t144 = true then (morainelaw02_NumRing.j3 kj61 t129 t109 t110 t114 t115 t119 t120 t125 t126) else (some false)) = some r := H
                          have A102 := Aside0.mk A1020
                          clear A1020
                          by_cases c103 : t144 = true
                          · subst c103
                            have H1 : (morainelaw02_NumRing.j3 kj61 t129 t109 t110 t114 t115 t119 t120 t125 t126) = some r := by rw [if_pos rfl] at H; exact H
                            clear H
                            have H := H1
                            clear H1
                            have H' := Aside0.mk H
                            clear H
                            have hnb104 := NB130_102.out
                            have hnc104 := NB102_130.out
                            have hnb105 := NB130_103.out
                            have hnc105 := NB103_130.out
                            have hnb106 := NB130_104.out
                            have hnc106 := NB104_130.out
                            have hnb107 := NB130_136.out
                            have hnc107 := NB136_130.out
                            have hcz108_0 : wc.cell? ⟨gb130, 0, none⟩ = some (.bool t125) := (blk_cell BK130.out 0).trans rfl
                            have hcz108_1 : wc.cell? ⟨gb130, 1, none⟩ = some (.slice Ao74 t126.length co74) := (blk_cell BK130.out 1).trans rfl
                            have hfz108_0 := blk_frozen BK130.out 0
                            have hfz108_1 := blk_frozen BK130.out 1
                            have hnb109 := NB103_102.out
                            have hnc109 := NB102_103.out
                            have hnb110 := NB103_104.out
                            have hnc110 := NB104_103.out
                            have hnb111 := NB103_136.out
                            have hnc111 := NB136_103.out
                            have hcz112_0 : wc.cell? ⟨gb103, 0, none⟩ = some (.bool t114) := (blk_cell BK103.out 0).trans rfl
                            have hcz112_1 : wc.cell? ⟨gb103, 1, none⟩ = some (.slice Ao50 t115.length co50) := (blk_cell BK103.out 1).trans rfl
                            have hfz112_0 := blk_frozen BK103.out 0
                            have hfz112_1 := blk_frozen BK103.out 1
                            go_wp2_with (first | ((with_reducible refine gate_callee (f := 42) rfl ?_); refine goesL_ (some 89) rfl rfl Tryd.func42 (by kernel_rfl) rfl #[.agg #[.bool t125, .slice Ao74 t126.length co74], .agg #[.bool t114, .slice Ao50 t115.length co50]] rfl (by (try simp only [List.map_toArray, List.map_cons, List.map_nil]); first | done | rfl | (simp only [List.length_drop, List.length_take]; rfl)) ?_; (with_reducible refine (num_Sub.calls t125 _ _ t126 t114 _ _ t115 t138 t139 t142 _ ?side1 ?side2 ?side3 ?side4 A100.out).mono ?_); (case side1 => repeat (first | exact (Kd.R_reads' HO_131001.out).2.2 | (with_reducible refine Kd.C_alloc ?_ _) | (with_reducible refine Kd.C_drewN ?_ _) | (with_reducible refine Kd.C_drew ?_))); (case side2 => exact (Kd.R_reads' HO_131001.out).2.1); (case side3 => repeat (first | exact (Kd.R_reads' HO_104001.out).2.2 | (with_reducible refine Kd.C_alloc ?_ _) | (with_reducible refine Kd.C_drewN ?_ _) | (with_reducible refine Kd.C_drew ?_))); (case side4 => exact (Kd.R_reads' HO_104001.out).2.1); rintro e w113 ⟨v140, rfl, ho0, hb⟩; refine ⟨_, rfl, ?_⟩; have HO141 := Aside0.mk (Kd.R_lower (Kd.R_new' (Kd.R_new' (Kd.R_new' (Kd.R_new' (Kd.R_new' ho0 (ql HO_103001)) (ql HO_104001)) (ql HO_105001)) (ql HO_131001)) (ql HO_137001)) (below_size (by repeat (first | (with_reducible first | exact HB.out | apply below_alloc | apply pw_below_drewN | apply below_drew1 | refine qs ?_ (by assumption)) | exact HB.out)))); replace HO_103001 := qe HO_103001 ho0 hb; replace HO_104001 := qe HO_104001 ho0 hb; replace HO_105001 := qe HO_105001 ho0 hb; replace HO_131001 := qe HO_131001 ho0 hb; replace HO_137001 := qe HO_137001 ho0 hb; replace BK102 := qb BK102 hb; replace BK103 := qb BK103 hb; replace BK104 := qb BK104 hb; replace BK130 := qb BK130 hb; replace BK136 := qb BK136 hb; replace HB := Aside0.mk (below_step (by repeat (first | (with_reducible first | exact HB.out | apply below_alloc | apply pw_below_drewN | apply below_drew1 | refine qs ?_ (by assumption)) | exact HB.out)) hb); (try clear hb); (try clear hb2); (try clear hk); (try clear hi); (try clear ho0)) | ((with_reducible refine gate_dst (N := 12) rfl ?_); refine box_event ?hg (N := 12) ?hd (cs := #[.bool false, .slice none 0 0]) (t := 25) ?hr ?_; (case hd => rfl); (case hg => rfl); (case hr => first | (go_simp; done) | (go_simp; rfl)); intro gb143 hg w114 hbox hb; replace HO_103001 := qr HO_103001 hb; replace HO_104001 := qr HO_104001 hb; replace HO_105001 := qr HO_105001 hb; replace HO_131001 := qr HO_131001 hb; replace HO_137001 := qr HO_137001 hb; replace HO141 := qr HO141 hb; have BK143 := Aside0.mk (hbox); have GW143 := qg hg (by repeat (first | (with_reducible first | exact HB.out | apply below_alloc | apply pw_below_drewN | apply below_drew1 | refine qs ?_ (by assumption)) | exact HB.out)); have GE143 := qg hg (by repeat (first | (with_reducible first | exact HB.out | apply below_alloc | apply pw_below_drewN | apply below_drew1 | refine qs ?_ (by assumption)) | exact HB.out)); replace HB := Aside0.mk (below_step (by repeat (first | (with_reducible first | exact HB.out | apply below_alloc | apply pw_below_drewN | apply below_drew1 | refine qs ?_ (by assumption)) | exact HB.out)) hb); have NB102_143 := qn BK102 hg; have NB143_102 := qm BK102 hg; replace BK102 := qb BK102 hb; have NB103_143 := qn BK103 hg; have NB143_103 := qm BK103 hg; replace BK103 := qb BK103 hb; have NB104_143 := qn BK104 hg; have NB143_104 := qm BK104 hg; replace BK104 := qb BK104 hb; have NB130_143 := qn BK130 hg; have NB143_130 := qm BK130 hg; replace BK130 := qb BK130 hb; have NB136_143 := qn BK136 hg; have NB143_136 := qm BK136 hg; replace BK136 := qb BK136 hb; clear hb hbox hg; have hnb115 := NB143_102.out; have hnc115 := NB102_143.out; have hnb116 := NB143_103.out; have hnc116 := NB103_143.out; have hnb117 := NB143_104.out; have hnc117 := NB104_143.out; have hnb118 := NB143_130.out; have hnc118 := NB130_143.out; have hnb119 := NB143_136.out; have hnc119 := NB136_143.out; have hcz120_0 : w114.cell? ⟨gb143, 0, none⟩ = some (.bool false) := (blk_cell BK143.out 0).trans rfl; have hcz120_1 : w114.cell? ⟨gb143, 1, none⟩ = some (.slice none 0 0) := (blk_cell BK143.out 1).trans rfl; have hfz120_0 := blk_frozen BK143.out 0; have hfz120_1 := blk_frozen BK143.out 1; obtain ⟨Ao121, co121, eo121⟩ := Kd.R_slice HO141.out; subst eo121; have hnb122 := NB102_104.out; have hnc122 := NB104_102.out; have hnb123 := NB102_136.out; have hnc123 := NB136_102.out; have hcz124_0 : w114.cell? ⟨gb102, 0, none⟩ = some (.bool t109) := (blk_cell BK102.out 0).trans rfl; have hcz124_1 : w114.cell? ⟨gb102, 1, none⟩ = some (.slice Ao45 t110.length co45) := (blk_cell BK102.out 1).trans rfl; have hfz124_0 := blk_frozen BK102.out 0; have hfz124_1 := blk_frozen BK102.out 1) | (go_at_call 17; (with_reducible refine (moraineref02_Same.calls t138 _ _ t139 t109 _ _ t110 true _ ?side1 ?side2 ?side3 ?side4 A102.out).mono ?_); (case side1 => refine (Kd.R_reads' (e := 63) (base := w.heap.size) (ok := fun k_ => (((((True ∧ some k_ ≠ (.slice Ao45 t110.length co45 : Value).ownBlock) ∧ some k_ ≠ (.slice Ao50 t115.length co50 : Value).ownBlock) ∧ some k_ ≠ (.slice Ao54 t120.length co54 : Value).ownBlock) ∧ some k_ ≠ (.slice Ao74 t126.length co74 : Value).ownBlock) ∧ some k_ ≠ (.slice Ao84 t132.length co84 : Value).ownBlock)) (n := t139.length) (c := co121) ?_).2.2; exact (by (with_reducible repeat (first | apply Kd.R_alloc | apply Kd.R_drewN | apply Kd.R_drew)); exact (Kd.R_mono (qz HO141 BK143 (by decide) (.bool t138) (.slice Ao121 t139.length co121)) (fun _ h_ => h_.1)))); (case side2 => exact (Kd.R_reads' HO141.out).2.1); (case side3 => refine (Kd.R_reads' (e := 63) (base := w.heap.size) (ok := fun k_ => ((some k_ ≠ (.slice Ao50 t115.length co50 : Value).ownBlock ∧ (some k_ ≠ (.slice Ao54 t120.length co54 : Value).ownBlock ∧ (some k_ ≠ (.slice Ao74 t126.length co74 : Value).ownBlock ∧ some k_ ≠ (.slice Ao84 t132.length co84 : Value).ownBlock))) ∧ some k_ ≠ (.slice Ao121 t139.length co121 : Value).ownBlock)) (n := t110.length) (c := co45) ?_).2.2; exact (by (with_reducible repeat (first | apply Kd.R_alloc | apply Kd.R_drewN | apply Kd.R_drew)); exact (Kd.R_mono (qz HO_103001 BK143 (by decide) (.bool t138) (.slice Ao121 t139.length co121)) (fun _ h_ => h_.1)))); (case side4 => exact (Kd.R_reads' HO_103001.out).2.1); rintro e w125 ⟨rfl, hb⟩; have n0_ := Aside0.mk (Kd.R_below (by (with_reducible repeat (first | apply Kd.R_alloc | apply Kd.R_drewN | apply Kd.R_drew)); exact (Kd.R_mono (qz HO_103001 BK143 (by decide) (.bool t138) (.slice Ao121 t139.length co121)) (fun _ h_ => h_.1))) hb); have n1_ := Aside0.mk (Kd.R_below (by (with_reducible repeat (first | apply Kd.R_alloc | apply Kd.R_drewN | apply Kd.R_drew)); exact (Kd.R_mono (qz HO_104001 BK143 (by decide) (.bool t138) (.slice Ao121 t139.length co121)) (fun _ h_ => h_.1))) hb); have n2_ := Aside0.mk (Kd.R_below (by (with_reducible repeat (first | apply Kd.R_alloc | apply Kd.R_drewN | apply Kd.R_drew)); exact (Kd.R_mono (qz HO_105001 BK143 (by decide) (.bool t138) (.slice Ao121 t139.length co121)) (fun _ h_ => h_.1))) hb); have n3_ := Aside0.mk (Kd.R_below (by (with_reducible repeat (first | apply Kd.R_alloc | apply Kd.R_drewN | apply Kd.R_drew)); exact (Kd.R_mono (qz HO_131001 BK143 (by decide) (.bool t138) (.slice Ao121 t139.length co121)) (fun _ h_ => h_.1))) hb); have n4_ := Aside0.mk (Kd.R_below (by (with_reducible repeat (first | apply Kd.R_alloc | apply Kd.R_drewN | apply Kd.R_drew)); exact (Kd.R_mono (qz HO_137001 BK143 (by decide) (.bool t138) (.slice Ao121 t139.length co121)) (fun _ h_ => h_.1))) hb); have n5_ := Aside0.mk (Kd.R_below (by (with_reducible repeat (first | apply Kd.R_alloc | apply Kd.R_drewN | apply Kd.R_drew)); exact (Kd.R_mono (qz HO141 BK143 (by decide) (.bool t138) (.slice Ao121 t139.length co121)) (fun _ h_ => h_.1))) hb); have n6_ := Aside0.mk (blk_below (g := gb102) (o := .cells #[.bool t109, .slice Ao45 t110.length co45] 25 (0, 0)) (by (with_reducible repeat (first | refine qN ?_ _ | refine qW ?_ | refine qA ?_ _)); refine qf ?_ NB102_143; (with_reducible repeat (first | refine qN ?_ _ | refine qW ?_ | refine qA ?_ _)); exact BK102.out) hb); have n7_ := Aside0.mk (blk_below (g := gb103) (o := .cells #[.bool t114, .slice Ao50 t115.length co50] 25 (0, 0)) (by (with_reducible repeat (first | refine qN ?_ _ | refine qW ?_ | refine qA ?_ _)); refine qf ?_ NB103_143; (with_reducible repeat (first | refine qN ?_ _ | refine qW ?_ | refine qA ?_ _)); exact BK103.out) hb); have n8_ := Aside0.mk (blk_below (g := gb104) (o := .cells #[.bool t119, .slice Ao54 t120.length co54] 25 (0, 0)) (by (with_reducible repeat (first | refine qN ?_ _ | refine qW ?_ | refine qA ?_ _)); refine qf ?_ NB104_143; (with_reducible repeat (first | refine qN ?_ _ | refine qW ?_ | refine qA ?_ _)); exact BK104.out) hb); have n9_ := Aside0.mk (blk_below (g := gb130) (o := .cells #[.bool t125, .slice Ao74 t126.length co74] 25 (0, 0)) (by (with_reducible repeat (first | refine qN ?_ _ | refine qW ?_ | refine qA ?_ _)); refine qf ?_ NB130_143; (with_reducible repeat (first | refine qN ?_ _ | refine qW ?_ | refine qA ?_ _)); exact BK130.out) hb); have n10_ := Aside0.mk (blk_below (g := gb136) (o := .cells #[.bool t131, .slice Ao84 t132.length co84] 25 (0, 0)) (by (with_reducible repeat (first | refine qN ?_ _ | refine qW ?_ | refine qA ?_ _)); refine qf ?_ NB136_143; (with_reducible repeat (first | refine qN ?_ _ | refine qW ?_ | refine qA ?_ _)); exact BK136.out) hb); have n11_ := Aside0.mk (blk_below (g := gb143) (o := .cells #[.bool t138, .slice Ao121 t139.length co121] 25 (0, 0)) (by (with_reducible repeat (first | refine qN ?_ _ | refine qW ?_ | refine qA ?_ _)); refine blk_put (cs := #[.bool t138, .slice none 0 0]) ?_ 1 _ rfl; (with_reducible repeat (first | refine qN ?_ _ | refine qW ?_ | refine qA ?_ _)); refine blk_put (cs := #[.bool false, .slice none 0 0]) ?_ 0 _ rfl; (with_reducible repeat (first | refine qN ?_ _ | refine qW ?_ | refine qA ?_ _)); exact BK143.out) hb); have n12_ := Aside0.mk (below_step (by repeat (first | (with_reducible first | exact HB.out | apply below_alloc | apply pw_below_drewN | apply below_drew1 | refine qs ?_ (by assumption)) | exact HB.out)) hb); clear HO_103001; clear HO_104001; clear HO_105001; clear HO_131001; clear HO_137001; clear HO141; clear BK102; clear BK103; clear BK104; clear BK130; clear BK136; clear BK143; clear HB; have HO_103001 := n0_; have HO_104001 := n1_; have HO_105001 := n2_; have HO_131001 := n3_; have HO_137001 := n4_; have HO141 := n5_; have BK102 := n6_; have BK103 := n7_; have BK104 := n8_; have BK130 := n9_; have BK136 := n10_; have BK143 := n11_; have HB := n12_; clear n0_ n1_ n2_ n3_ n4_ n5_ n6_ n7_ n8_ n9_ n10_ n11_ n12_; (try clear hb); (try clear hb2); (try clear hk); (try clear hi)))
                            go_meet
                            case rel => exact ⟨_, H', ⟨by have := HJ3.out; have := HJ38.out; have := HJ61.out; first | omega | exact Nat.le_refl _⟩, ⟨by (with_reducible repeat (first | apply Kd.R_alloc | apply Kd.R_drewN | apply Kd.R_drew)); exact Kd.R_mono HO_103001.out (fun _ hk => ⟨hk.1.1, ⟨hk.1.2.1, ⟨hk.1.2.2.1, hk.1.2.2.2⟩⟩⟩)⟩, ⟨by (with_reducible repeat (first | apply Kd.R_alloc | apply Kd.R_drewN | apply Kd.R_drew)); exact Kd.R_mono HO_104001.out (fun _ hk => ⟨hk.1.1, ⟨hk.1.2.1, ⟨hk.1.2.2.1, hk.1.2.2.2⟩⟩⟩)⟩, ⟨by (with_reducible repeat (first | apply Kd.R_alloc | apply Kd.R_drewN | apply Kd.R_drew)); exact Kd.R_mono HO_105001.out (fun _ hk => ⟨hk.1.1, ⟨hk.1.2.1, ⟨hk.1.2.2.1, hk.1.2.2.2⟩⟩⟩)⟩, ⟨by (with_reducible repeat (first | apply Kd.R_alloc | apply Kd.R_drewN | apply Kd.R_drew)); exact Kd.R_mono HO_131001.out (fun _ hk => ⟨hk.1.1, ⟨hk.1.2.1, ⟨hk.1.2.2.1, hk.1.2.2.2⟩⟩⟩)⟩, ⟨by (with_reducible repeat (first | apply Kd.R_alloc | apply Kd.R_drewN | apply Kd.R_drew)); exact Kd.R_mono HO_137001.out (fun _ hk => ⟨hk.1.1, ⟨hk.1.2.1, ⟨hk.1.2.2.1, hk.1.2.2.2⟩⟩⟩)⟩, ⟨qk BK102⟩, ⟨qk BK103⟩, ⟨qk BK104⟩, ⟨qk BK130⟩, ⟨qk BK136⟩, ⟨by repeat (first | (with_reducible first | exact HB.out | apply below_alloc | apply pw_below_drewN | apply below_drew1 | refine qs ?_ (by assumption)) | exact HB.out)⟩⟩
                          · replace c103 := Bool.eq_false_iff.mpr c103
                            subst c103
                            have H1 : (some false) = some r := by rw [if_neg (show ¬ (false = true) by decide)] at H; exact H
                            clear H
                            have H := H1
                            clear H1
                            exact absurd ((Option.some.inj H).trans hr) (by decide)
                        · rw [if_neg c101] at H
                          have c101b0 : (t142 == 0) = false := beq_eq_false_iff_ne.mpr c101
                          have c101b1 : (t142 != 0) = true := bne_iff_ne.mpr c101
                          exact absurd ((Option.some.inj H).trans hr) (by decide)
                      · rw [if_neg c99] at H
                        have c99b0 : (t129 == 0) = false := beq_eq_false_iff_ne.mpr c99
                        have c99b1 : (t129 != 0) = true := bne_iff_ne.mpr c99
                        (first | rw [c99b0] | (simp only [i64_w, i32_w]; rw [c99b0]) | skip)
                        have H' := Aside0.mk H
                        clear H
                        go_wp2
                        go_meet
                        case rel => exact ⟨_, H', ⟨by have := HJ3.out; have := HJ38.out; have := HJ61.out; first | omega | exact Nat.le_refl _⟩, ⟨qq HO_103001⟩, ⟨qq HO_104001⟩, ⟨qq HO_105001⟩, ⟨qq HO_131001⟩, ⟨qq HO_137001⟩, ⟨qk BK102⟩, ⟨qk BK103⟩, ⟨qk BK104⟩, ⟨qk BK130⟩, ⟨qk BK136⟩, ⟨by repeat (first | (with_reducible first | exact HB.out | apply below_alloc | apply pw_below_drewN | apply below_drew1 | refine qs ?_ (by assumption)) | exact HB.out)⟩⟩
                    case rest =>
                      clear HC98
                      try clear c1
                      try clear c2
                      try clear p2
                      try clear c3
                      try clear c4
                      try clear c5
                      try clear c6
                      try clear c7
                      try clear c8
                      try clear c9
                      try clear c10
                      try clear c11
                      try clear c12
                      try clear c14
                      try clear c15
                      try clear c16
                      try clear c17
                      try clear c20
                      try clear c21
                      try clear c24
                      try clear c25
                      try clear c28
                      try clear c33
                      try clear c38
                      try clear c40
                      try clear c41
                      try clear c42
                      try clear c46
                      try clear c55
                      try clear c55b0
                      try clear c55b1
                      try clear c56
                      try clear c56b0
                      try clear c56b1
                      try clear c57
                      try clear c63
                      try clear c64
                      try clear c66
                      try clear c70
                      try clear c71
                      try clear c72
                      try clear c79
                      try clear c80
                      try clear c81
                      try clear c82
                      try clear c85
                      try clear c85b0
                      try clear c85b1
                      try clear c87
                      try clear c88
                      try clear c89
                      try clear c90
                      try clear c92
                      try clear c93
                      try clear c94
                      try clear c97
                      try clear c99
                      try clear c99b0
                      try clear c99b1
                      try clear c101
                      try clear c101b0
                      try clear c101b1
                      try clear c103
                      try clear c104
                      try clear c105
                      try clear c106
                      try clear c107
                      try clear c109
                      try clear c110
                      try clear c111
                      try clear c115
                      try clear c116
                      try clear c117
                      try clear c118
                      try clear c119
                      try clear c122
                      try clear c123
                      try clear hcz108_0
                      try clear hcz108_1
                      try clear hcz112_0
                      try clear hcz112_1
                      try clear hcz120_0
                      try clear hcz120_1
                      try clear hcz124_0
                      try clear hcz124_1
                      try clear hcz12_0
                      try clear hcz12_1
                      try clear hcz18_0
                      try clear hcz18_1
                      try clear hcz21_0
                      try clear hcz21_1
                      try clear hcz26_0
                      try clear hcz26_1
                      try clear hcz29_0
                      try clear hcz29_1
                      try clear hcz31_0
                      try clear hcz31_1
                      try clear hcz42_0
                      try clear hcz42_1
                      try clear hcz44_0
                      try clear hcz44_1
                      try clear hcz47_0
                      try clear hcz47_1
                      try clear hcz49_0
                      try clear hcz49_1
                      try clear hcz51_0
                      try clear hcz51_1
                      try clear hcz53_0
                      try clear hcz53_1
                      try clear hcz65_0
                      try clear hcz65_1
                      try clear hcz67_0
                      try clear hcz67_1
                      try clear hcz73_0
                      try clear hcz73_1
                      try clear hcz75_0
                      try clear hcz75_1
                      try clear hcz76_0
                      try clear hcz76_1
                      try clear hcz83_0
                      try clear hcz83_1
                      try clear hcz91_0
                      try clear hcz91_1
                      try clear hcz95_0
                      try clear hcz95_1
                      try clear hfz108_0
                      try clear hfz108_1
                      try clear hfz112_0
                      try clear hfz112_1
                      try clear hfz120_0
                      try clear hfz120_1
                      try clear hfz124_0
                      try clear hfz124_1
                      try clear hfz12_0
                      try clear hfz12_1
                      try clear hfz18_0
                      try clear hfz18_1
                      try clear hfz21_0
                      try clear hfz21_1
                      try clear hfz26_0
                      try clear hfz26_1
                      try clear hfz29_0
                      try clear hfz29_1
                      try clear hfz31_0
                      try clear hfz31_1
                      try clear hfz42_0
                      try clear hfz42_1
                      try clear hfz44_0
                      try clear hfz44_1
                      try clear hfz47_0
                      try clear hfz47_1
                      try clear hfz49_0
                      try clear hfz49_1
                      try clear hfz51_0
                      try clear hfz51_1
                      try clear hfz53_0
                      try clear hfz53_1
                      try clear hfz65_0
                      try clear hfz65_1
                      try clear hfz67_0
                      try clear hfz67_1
                      try clear hfz73_0
                      try clear hfz73_1
                      try clear hfz75_0
                      try clear hfz75_1
                      try clear hfz76_0
                      try clear hfz76_1
                      try clear hfz83_0
                      try clear hfz83_1
                      try clear hfz91_0
                      try clear hfz91_1
                      try clear hfz95_0
                      try clear hfz95_1
                      try clear p2
                      obtain ⟨kq, HA, HJ97, HO_103001, HO_104001, HO_105001, HO_131001, HO_137001, BK102, BK103, BK104, BK130, BK136, HB⟩ := hcut
                      cases kq with
                      | zero => exact absurd HA.out (by simp [morainelaw02_NumRing.j3])
                      | succ kj97 =>
                        have H := HA.out
                        clear HA
                        simp only [morainelaw02_NumRing.j3] at H
                        replace H := Option.bind_eq_some_iff.mp H
                        obtain ⟨⟨t145, t146, t149⟩, A1260, H⟩ := H
                        replace H : ((num_Mul.f t114 t115 t109 t110).bind fun bt151 => (if t149 = bt151.2.2 then ((moraineref02_Same.f t145 t146 bt151.1 bt151.2.1).bind fun t157 => (morainelaw02_NumRing.j4 kj97 t129 (!t157) t109 t110 t114 t115 t119 t120 t125 t126)) else (morainelaw02_NumRing.j4 kj97 t129 true t109 t110 t114 t115 t119 t120 t125 t126))) = some r := H
                        have A126 := Aside0.mk A1260
                        clear A1260
                        replace H := Option.bind_eq_some_iff.mp H
                        obtain ⟨⟨t151, t152, t155⟩, A1270, H⟩ := H
                        replace H : (if t149 = t155 then ((moraineref02_Same.f t145 t146 t151 t152).bind fun t157 => (morainelaw02_NumRing.j4 kj97 t129 (!t157) t109 t110 t114 t115 t119 t120 t125 t126)) else (morainelaw02_NumRing.j4 kj97 t129 true t109 t110 t114 t115 t119 t120 t125 t126)) = some r := H
                        have A127 := Aside0.mk A1270
                        clear A1270
                        have HC128 := Aside0.mk H
                        clear H
                        have hnb129 := NB102_103.out
                        have hnc129 := NB103_102.out
                        have hnb130 := NB102_104.out
                        have hnc130 := NB104_102.out
                        have hnb131 := NB102_130.out
                        have hnc131 := NB130_102.out
                        have hnb132 := NB102_136.out
                        have hnc132 := NB136_102.out
                        have hcz133_0 : wc.cell? ⟨gb102, 0, none⟩ = some (.bool t109) := (blk_cell BK102.out 0).trans rfl
                        have hcz133_1 : wc.cell? ⟨gb102, 1, none⟩ = some (.slice Ao45 t110.length co45) := (blk_cell BK102.out 1).trans rfl
                        have hfz133_0 := blk_frozen BK102.out 0
                        have hfz133_1 := blk_frozen BK102.out 1
                        have hnb134 := NB103_104.out
                        have hnc134 := NB104_103.out
                        have hnb135 := NB103_130.out
                        have hnc135 := NB130_103.out
                        have hnb136 := NB103_136.out
                        have hnc136 := NB136_103.out
                        have hcz137_0 : wc.cell? ⟨gb103, 0, none⟩ = some (.bool t114) := (blk_cell BK103.out 0).trans rfl
                        have hcz137_1 : wc.cell? ⟨gb103, 1, none⟩ = some (.slice Ao50 t115.length co50) := (blk_cell BK103.out 1).trans rfl
                        have hfz137_0 := blk_frozen BK103.out 0
                        have hfz137_1 := blk_frozen BK103.out 1
                        go_upto_region 18 with (first | ((with_reducible refine gate_callee (f := 36) rfl ?_); refine goesL_ (some 103) rfl rfl Tryd.func36 (by kernel_rfl) rfl #[.agg #[.bool t109, .slice Ao45 t110.length co45], .agg #[.bool t114, .slice Ao50 t115.length co50]] rfl (by (try simp only [List.map_toArray, List.map_cons, List.map_nil]); first | done | rfl | (simp only [List.length_drop, List.length_take]; rfl)) ?_; (with_reducible refine (num_Mul.calls t109 _ _ t110 t114 _ _ t115 t145 t146 t149 _ ?side1 ?side2 ?side3 ?side4 A126.out).mono ?_); (case side1 => repeat (first | exact (Kd.R_reads' HO_103001.out).2.2 | (with_reducible refine Kd.C_alloc ?_ _) | (with_reducible refine Kd.C_drewN ?_ _) | (with_reducible refine Kd.C_drew ?_))); (case side2 => exact (Kd.R_reads' HO_103001.out).2.1); (case side3 => repeat (first | exact (Kd.R_reads' HO_104001.out).2.2 | (with_reducible refine Kd.C_alloc ?_ _) | (with_reducible refine Kd.C_drewN ?_ _) | (with_reducible refine Kd.C_drew ?_))); (case side4 => exact (Kd.R_reads' HO_104001.out).2.1); rintro e w138 ⟨v147, rfl, ho0, hb⟩; refine ⟨_, rfl, ?_⟩; have HO148 := Aside0.mk (Kd.R_lower (Kd.R_new' (Kd.R_new' (Kd.R_new' (Kd.R_new' (Kd.R_new' ho0 (ql HO_103001)) (ql HO_104001)) (ql HO_105001)) (ql HO_131001)) (ql HO_137001)) (below_size (by repeat (first | (with_reducible first | exact HB.out | apply below_alloc | apply pw_below_drewN | apply below_drew1 | refine qs ?_ (by assumption)) | exact HB.out)))); replace HO_103001 := qe HO_103001 ho0 hb; replace HO_104001 := qe HO_104001 ho0 hb; replace HO_105001 := qe HO_105001 ho0 hb; replace HO_131001 := qe HO_131001 ho0 hb; replace HO_137001 := qe HO_137001 ho0 hb; replace BK102 := qb BK102 hb; replace BK103 := qb BK103 hb; replace BK104 := qb BK104 hb; replace BK130 := qb BK130 hb; replace BK136 := qb BK136 hb; replace HB := Aside0.mk (below_step (by repeat (first | (with_reducible first | exact HB.out | apply below_alloc | apply pw_below_drewN | apply below_drew1 | refine qs ?_ (by assumption)) | exact HB.out)) hb); (try clear hb); (try clear hb2); (try clear hk); (try clear hi); (try clear ho0)) | ((with_reducible refine gate_dst (N := 14) rfl ?_); refine box_event ?hg (N := 14) ?hd (cs := #[.bool false, .slice none 0 0]) (t := 25) ?hr ?_; (case hd => rfl); (case hg => rfl); (case hr => first | (go_simp; done) | (go_simp; rfl)); intro gb150 hg w139 hbox hb; replace HO_103001 := qr HO_103001 hb; replace HO_104001 := qr HO_104001 hb; replace HO_105001 := qr HO_105001 hb; replace HO_131001 := qr HO_131001 hb; replace HO_137001 := qr HO_137001 hb; replace HO148 := qr HO148 hb; have BK150 := Aside0.mk (hbox); have GW150 := qg hg (by repeat (first | (with_reducible first | exact HB.out | apply below_alloc | apply pw_below_drewN | apply below_drew1 | refine qs ?_ (by assumption)) | exact HB.out)); have GE150 := qg hg (by repeat (first | (with_reducible first | exact HB.out | apply below_alloc | apply pw_below_drewN | apply below_drew1 | refine qs ?_ (by assumption)) | exact HB.out)); replace HB := Aside0.mk (below_step (by repeat (first | (with_reducible first | exact HB.out | apply below_alloc | apply pw_below_drewN | apply below_drew1 | refine qs ?_ (by assumption)) | exact HB.out)) hb); have NB102_150 := qn BK102 hg; have NB150_102 := qm BK102 hg; replace BK102 := qb BK102 hb; have NB103_150 := qn BK103 hg; have NB150_103 := qm BK103 hg; replace BK103 := qb BK103 hb; have NB104_150 := qn BK104 hg; have NB150_104 := qm BK104 hg; replace BK104 := qb BK104 hb; have NB130_150 := qn BK130 hg; have NB150_130 := qm BK130 hg; replace BK130 := qb BK130 hb; have NB136_150 := qn BK136 hg; have NB150_136 := qm BK136 hg; replace BK136 := qb BK136 hb; clear hb hbox hg; have hnb140 := NB150_102.out; have hnc140 := NB102_150.out; have hnb141 := NB150_103.out; have hnc141 := NB103_150.out; have hnb142 := NB150_104.out; have hnc142 := NB104_150.out; have hnb143 := NB150_130.out; have hnc143 := NB130_150.out; have hnb144 := NB150_136.out; have hnc144 := NB136_150.out; have hcz145_0 : w139.cell? ⟨gb150, 0, none⟩ = some (.bool false) := (blk_cell BK150.out 0).trans rfl; have hcz145_1 : w139.cell? ⟨gb150, 1, none⟩ = some (.slice none 0 0) := (blk_cell BK150.out 1).trans rfl; have hfz145_0 := blk_frozen BK150.out 0; have hfz145_1 := blk_frozen BK150.out 1; obtain ⟨Ao146, co146, eo146⟩ := Kd.R_slice HO148.out; subst eo146; have hcz147_0 : w139.cell? ⟨gb103, 0, none⟩ = some (.bool t114) := (blk_cell BK103.out 0).trans rfl; have hcz147_1 : w139.cell? ⟨gb103, 1, none⟩ = some (.slice Ao50 t115.length co50) := (blk_cell BK103.out 1).trans rfl; have hfz147_0 := blk_frozen BK103.out 0; have hfz147_1 := blk_frozen BK103.out 1; have hcz148_0 : w139.cell? ⟨gb102, 0, none⟩ = some (.bool t109) := (blk_cell BK102.out 0).trans rfl; have hcz148_1 : w139.cell? ⟨gb102, 1, none⟩ = some (.slice Ao45 t110.length co45) := (blk_cell BK102.out 1).trans rfl; have hfz148_0 := blk_frozen BK102.out 0; have hfz148_1 := blk_frozen BK102.out 1) | ((with_reducible refine gate_callee (f := 36) rfl ?_); refine goesL_ (some 109) rfl rfl Tryd.func36 (by kernel_rfl) rfl #[.agg #[.bool t114, .slice Ao50 t115.length co50], .agg #[.bool t109, .slice Ao45 t110.length co45]] rfl (by (try simp only [List.map_toArray, List.map_cons, List.map_nil]); first | done | rfl | (simp only [List.length_drop, List.length_take]; rfl)) ?_; (with_reducible refine (num_Mul.calls t114 _ _ t115 t109 _ _ t110 t151 t152 t155 _ ?side1 ?side2 ?side3 ?side4 A127.out).mono ?_); (case side1 => refine (Kd.R_reads' (e := 63) (base := w.heap.size) (ok := fun k_ => ((some k_ ≠ (.slice Ao45 t110.length co45 : Value).ownBlock ∧ (some k_ ≠ (.slice Ao54 t120.length co54 : Value).ownBlock ∧ (some k_ ≠ (.slice Ao74 t126.length co74 : Value).ownBlock ∧ some k_ ≠ (.slice Ao84 t132.length co84 : Value).ownBlock))) ∧ some k_ ≠ (.slice Ao146 t146.length co146 : Value).ownBlock)) (n := t115.length) (c := co50) ?_).2.2; exact (by (with_reducible repeat (first | apply Kd.R_alloc | apply Kd.R_drewN | apply Kd.R_drew)); exact (Kd.R_mono (qz HO_104001 BK150 (by decide) (.bool t145) (.slice Ao146 t146.length co146)) (fun _ h_ => h_.1)))); (case side2 => exact (Kd.R_reads' HO_104001.out).2.1); (case side3 => refine (Kd.R_reads' (e := 63) (base := w.heap.size) (ok := fun k_ => ((some k_ ≠ (.slice Ao50 t115.length co50 : Value).ownBlock ∧ (some k_ ≠ (.slice Ao54 t120.length co54 : Value).ownBlock ∧ (some k_ ≠ (.slice Ao74 t126.length co74 : Value).ownBlock ∧ some k_ ≠ (.slice Ao84 t132.length co84 : Value).ownBlock))) ∧ some k_ ≠ (.slice Ao146 t146.length co146 : Value).ownBlock)) (n := t110.length) (c := co45) ?_).2.2; exact (by (with_reducible repeat (first | apply Kd.R_alloc | apply Kd.R_drewN | apply Kd.R_drew)); exact (Kd.R_mono (qz HO_103001 BK150 (by decide) (.bool t145) (.slice Ao146 t146.length co146)) (fun _ h_ => h_.1)))); (case side4 => exact (Kd.R_reads' HO_103001.out).2.1); rintro e w149 ⟨v153, rfl, ho0, hb⟩; refine ⟨_, rfl, ?_⟩; have n0_ := Aside0.mk (Kd.R_elder' (by (with_reducible repeat (first | apply Kd.R_alloc | apply Kd.R_drewN | apply Kd.R_drew)); exact (Kd.R_mono (qz HO_103001 BK150 (by decide) (.bool t145) (.slice Ao146 t146.length co146)) (fun _ h_ => h_.1))) (Kd.R_base ho0) hb); have n1_ := Aside0.mk (Kd.R_elder' (by (with_reducible repeat (first | apply Kd.R_alloc | apply Kd.R_drewN | apply Kd.R_drew)); exact (Kd.R_mono (qz HO_104001 BK150 (by decide) (.bool t145) (.slice Ao146 t146.length co146)) (fun _ h_ => h_.1))) (Kd.R_base ho0) hb); have n2_ := Aside0.mk (Kd.R_elder' (by (with_reducible repeat (first | apply Kd.R_alloc | apply Kd.R_drewN | apply Kd.R_drew)); exact (Kd.R_mono (qz HO_105001 BK150 (by decide) (.bool t145) (.slice Ao146 t146.length co146)) (fun _ h_ => h_.1))) (Kd.R_base ho0) hb); have n3_ := Aside0.mk (Kd.R_elder' (by (with_reducible repeat (first | apply Kd.R_alloc | apply Kd.R_drewN | apply Kd.R_drew)); exact (Kd.R_mono (qz HO_131001 BK150 (by decide) (.bool t145) (.slice Ao146 t146.length co146)) (fun _ h_ => h_.1))) (Kd.R_base ho0) hb); have n4_ := Aside0.mk (Kd.R_elder' (by (with_reducible repeat (first | apply Kd.R_alloc | apply Kd.R_drewN | apply Kd.R_drew)); exact (Kd.R_mono (qz HO_137001 BK150 (by decide) (.bool t145) (.slice Ao146 t146.length co146)) (fun _ h_ => h_.1))) (Kd.R_base ho0) hb); have n5_ := Aside0.mk (Kd.R_elder' (by (with_reducible repeat (first | apply Kd.R_alloc | apply Kd.R_drewN | apply Kd.R_drew)); exact (Kd.R_mono (qz HO148 BK150 (by decide) (.bool t145) (.slice Ao146 t146.length co146)) (fun _ h_ => h_.1))) (Kd.R_base ho0) hb); have n6_ := Aside0.mk (Kd.R_lower (Kd.R_new' (Kd.R_new' (Kd.R_new' (Kd.R_new' (Kd.R_new' (Kd.R_new' ho0 (Kd.R_lt (by (with_reducible repeat (first | apply Kd.R_alloc | apply Kd.R_drewN | apply Kd.R_drew)); exact (Kd.R_mono (qz HO_103001 BK150 (by decide) (.bool t145) (.slice Ao146 t146.length co146)) (fun _ h_ => h_.1))))) (Kd.R_lt (by (with_reducible repeat (first | apply Kd.R_alloc | apply Kd.R_drewN | apply Kd.R_drew)); exact (Kd.R_mono (qz HO_104001 BK150 (by decide) (.bool t145) (.slice Ao146 t146.length co146)) (fun _ h_ => h_.1))))) (Kd.R_lt (by (with_reducible repeat (first | apply Kd.R_alloc | apply Kd.R_drewN | apply Kd.R_drew)); exact (Kd.R_mono (qz HO_105001 BK150 (by decide) (.bool t145) (.slice Ao146 t146.length co146)) (fun _ h_ => h_.1))))) (Kd.R_lt (by (with_reducible repeat (first | apply Kd.R_alloc | apply Kd.R_drewN | apply Kd.R_drew)); exact (Kd.R_mono (qz HO_131001 BK150 (by decide) (.bool t145) (.slice Ao146 t146.length co146)) (fun _ h_ => h_.1))))) (Kd.R_lt (by (with_reducible repeat (first | apply Kd.R_alloc | apply Kd.R_drewN | apply Kd.R_drew)); exact (Kd.R_mono (qz HO_137001 BK150 (by decide) (.bool t145) (.slice Ao146 t146.length co146)) (fun _ h_ => h_.1))))) (Kd.R_lt (by (with_reducible repeat (first | apply Kd.R_alloc | apply Kd.R_drewN | apply Kd.R_drew)); exact (Kd.R_mono (qz HO148 BK150 (by decide) (.bool t145) (.slice Ao146 t146.length co146)) (fun _ h_ => h_.1))))) (below_size (by repeat (first | (with_reducible first | exact HB.out | apply below_alloc | apply pw_below_drewN | apply below_drew1 | refine qs ?_ (by assumption)) | exact HB.out)))); have n7_ := Aside0.mk (blk_below (g := gb102) (o := .cells #[.bool t109, .slice Ao45 t110.length co45] 25 (0, 0)) (by (with_reducible repeat (first | refine qN ?_ _ | refine qW ?_ | refine qA ?_ _)); refine qf ?_ NB102_150; (with_reducible repeat (first | refine qN ?_ _ | refine qW ?_ | refine qA ?_ _)); exact BK102.out) hb); have n8_ := Aside0.mk (blk_below (g := gb103) (o := .cells #[.bool t114, .slice Ao50 t115.length co50] 25 (0, 0)) (by (with_reducible repeat (first | refine qN ?_ _ | refine qW ?_ | refine qA ?_ _)); refine qf ?_ NB103_150; (with_reducible repeat (first | refine qN ?_ _ | refine qW ?_ | refine qA ?_ _)); exact BK103.out) hb); have n9_ := Aside0.mk (blk_below (g := gb104) (o := .cells #[.bool t119, .slice Ao54 t120.length co54] 25 (0, 0)) (by (with_reducible repeat (first | refine qN ?_ _ | refine qW ?_ | refine qA ?_ _)); refine qf ?_ NB104_150; (with_reducible repeat (first | refine qN ?_ _ | refine qW ?_ | refine qA ?_ _)); exact BK104.out) hb); have n10_ := Aside0.mk (blk_below (g := gb130) (o := .cells #[.bool t125, .slice Ao74 t126.length co74] 25 (0, 0)) (by (with_reducible repeat (first | refine qN ?_ _ | refine qW ?_ | refine qA ?_ _)); refine qf ?_ NB130_150; (with_reducible repeat (first | refine qN ?_ _ | refine qW ?_ | refine qA ?_ _)); exact BK130.out) hb); have n11_ := Aside0.mk (blk_below (g := gb136) (o := .cells #[.bool t131, .slice Ao84 t132.length co84] 25 (0, 0)) (by (with_reducible repeat (first | refine qN ?_ _ | refine qW ?_ | refine qA ?_ _)); refine qf ?_ NB136_150; (with_reducible repeat (first | refine qN ?_ _ | refine qW ?_ | refine qA ?_ _)); exact BK136.out) hb); have n12_ := Aside0.mk (blk_below (g := gb150) (o := .cells #[.bool t145, .slice Ao146 t146.length co146] 25 (0, 0)) (by (with_reducible repeat (first | refine qN ?_ _ | refine qW ?_ | refine qA ?_ _)); refine blk_put (cs := #[.bool t145, .slice none 0 0]) ?_ 1 _ rfl; (with_reducible repeat (first | refine qN ?_ _ | refine qW ?_ | refine qA ?_ _)); refine blk_put (cs := #[.bool false, .slice none 0 0]) ?_ 0 _ rfl; (with_reducible repeat (first | refine qN ?_ _ | refine qW ?_ | refine qA ?_ _)); exact BK150.out) hb); have n13_ := Aside0.mk (below_step (by repeat (first | (with_reducible first | exact HB.out | apply below_alloc | apply pw_below_drewN | apply below_drew1 | refine qs ?_ (by assumption)) | exact HB.out)) hb); clear HO_103001; clear HO_104001; clear HO_105001; clear HO_131001; clear HO_137001; clear HO148; clear BK102; clear BK103; clear BK104; clear BK130; clear BK136; clear BK150; clear HB; have HO_103001 := n0_; have HO_104001 := n1_; have HO_105001 := n2_; have HO_131001 := n3_; have HO_137001 := n4_; have HO148 := n5_; have HO154 := n6_; have BK102 := n7_; have BK103 := n8_; have BK104 := n9_; have BK130 := n10_; have BK136 := n11_; have BK150 := n12_; have HB := n13_; clear n0_ n1_ n2_ n3_ n4_ n5_ n6_ n7_ n8_ n9_ n10_ n11_ n12_ n13_; (try clear hb); (try clear hb2); (try clear hk); (try clear hi); (try clear ho0)) | ((with_reducible refine gate_dst (N := 16) rfl ?_); refine box_event ?hg (N := 16) ?hd (cs := #[.bool false, .slice none 0 0]) (t := 25) ?hr ?_; (case hd => rfl); (case hg => rfl); (case hr => first | (go_simp; done) | (go_simp; rfl)); intro gb156 hg w150 hbox hb; replace HO_103001 := qr HO_103001 hb; replace HO_104001 := qr HO_104001 hb; replace HO_105001 := qr HO_105001 hb; replace HO_131001 := qr HO_131001 hb; replace HO_137001 := qr HO_137001 hb; replace HO148 := qr HO148 hb; replace HO154 := qr HO154 hb; have BK156 := Aside0.mk (hbox); have GW156 := qg hg (by repeat (first | (with_reducible first | exact HB.out | apply below_alloc | apply pw_below_drewN | apply below_drew1 | refine qs ?_ (by assumption)) | exact HB.out)); have GE156 := qg hg (by repeat (first | (with_reducible first | exact HB.out | apply below_alloc | apply pw_below_drewN | apply below_drew1 | refine qs ?_ (by assumption)) | exact HB.out)); replace HB := Aside0.mk (below_step (by repeat (first | (with_reducible first | exact HB.out | apply below_alloc | apply pw_below_drewN | apply below_drew1 | refine qs ?_ (by assumption)) | exact HB.out)) hb); have NB102_156 := qn BK102 hg; have NB156_102 := qm BK102 hg; replace BK102 := qb BK102 hb; have NB103_156 := qn BK103 hg; have NB156_103 := qm BK103 hg; replace BK103 := qb BK103 hb; have NB104_156 := qn BK104 hg; have NB156_104 := qm BK104 hg; replace BK104 := qb BK104 hb; have NB130_156 := qn BK130 hg; have NB156_130 := qm BK130 hg; replace BK130 := qb BK130 hb; have NB136_156 := qn BK136 hg; have NB156_136 := qm BK136 hg; replace BK136 := qb BK136 hb; have NB150_156 := qn BK150 hg; have NB156_150 := qm BK150 hg; replace BK150 := qb BK150 hb; clear hb hbox hg; have hnb151 := NB156_102.out; have hnc151 := NB102_156.out; have hnb152 := NB156_103.out; have hnc152 := NB103_156.out; have hnb153 := NB156_104.out; have hnc153 := NB104_156.out; have hnb154 := NB156_130.out; have hnc154 := NB130_156.out; have hnb155 := NB156_136.out; have hnc155 := NB136_156.out; have hnb156 := NB156_150.out; have hnc156 := NB150_156.out; have hcz157_0 : w150.cell? ⟨gb156, 0, none⟩ = some (.bool false) := (blk_cell BK156.out 0).trans rfl; have hcz157_1 : w150.cell? ⟨gb156, 1, none⟩ = some (.slice none 0 0) := (blk_cell BK156.out 1).trans rfl; have hfz157_0 := blk_frozen BK156.out 0; have hfz157_1 := blk_frozen BK156.out 1; obtain ⟨Ao158, co158, eo158⟩ := Kd.R_slice HO154.out; subst eo158))
                        (try simp only [Act.put, List.setIfInBounds_toArray, List.set_cons_zero, List.set_cons_succ])
                        go_cut [120] (fun v120 wc => ∃ (kq : Nat) (x120_127 : Bool), v120 = .bool x120_127 ∧ Aside0 (morainelaw02_NumRing.j4 kq t129 x120_127 t109 t110 t114 t115 t119 t120 t125 t126 = some r) ∧ Aside0 (kq ≤ kj97) ∧ Aside0 (Kd.R (Kd.int .u32) 63 wc w.heap.size (fun k_ => some k_ ≠ ((.slice Ao50 t115.length co50) : Value).ownBlock ∧ some k_ ≠ ((.slice Ao54 t120.length co54) : Value).ownBlock ∧ some k_ ≠ ((.slice Ao74 t126.length co74) : Value).ownBlock ∧ some k_ ≠ ((.slice Ao84 t132.length co84) : Value).ownBlock ∧ some k_ ≠ ((.slice Ao146 t146.length co146) : Value).ownBlock ∧ some k_ ≠ ((.slice Ao158 t152.length co158) : Value).ownBlock) (.slice Ao45 t110.length co45) t110) ∧ Aside0 (Kd.R (Kd.int .u32) 63 wc w.heap.size (fun k_ => some k_ ≠ ((.slice Ao45 t110.length co45) : Value).ownBlock ∧ some k_ ≠ ((.slice Ao54 t120.length co54) : Value).ownBlock ∧ some k_ ≠ ((.slice Ao74 t126.length co74) : Value).ownBlock ∧ some k_ ≠ ((.slice Ao84 t132.length co84) : Value).ownBlock ∧ some k_ ≠ ((.slice Ao146 t146.length co146) : Value).ownBlock ∧ some k_ ≠ ((.slice Ao158 t152.length co158) : Value).ownBlock) (.slice Ao50 t115.length co50) t115) ∧ Aside0 (Kd.R (Kd.int .u32) 63 wc w.heap.size (fun k_ => some k_ ≠ ((.slice Ao45 t110.length co45) : Value).ownBlock ∧ some k_ ≠ ((.slice Ao50 t115.length co50) : Value).ownBlock ∧ some k_ ≠ ((.slice Ao74 t126.length co74) : Value).ownBlock ∧ some k_ ≠ ((.slice Ao84 t132.length co84) : Value).ownBlock ∧ some k_ ≠ ((.slice Ao146 t146.length co146) : Value).ownBlock ∧ some k_ ≠ ((.slice Ao158 t152.length co158) : Value).ownBlock) (.slice Ao54 t120.length co54) t120) ∧ Aside0 (Kd.R (Kd.int .u32) 63 wc w.heap.size (fun k_ => some k_ ≠ ((.slice Ao45 t110.length co45) : Value).ownBlock ∧ some k_ ≠ ((.slice Ao50 t115.length co50) : Value).ownBlock ∧ some k_ ≠ ((.slice Ao54 t120.length co54) : Value).ownBlock ∧ some k_ ≠ ((.slice Ao84 t132.length co84) : Value).ownBlock ∧ some k_ ≠ ((.slice Ao146 t146.length co146) : Value).ownBlock ∧ some k_ ≠ ((.slice Ao158 t152.length co158) : Value).ownBlock) (.slice Ao74 t126.length co74) t126) ∧ Aside0 (Kd.R (Kd.int .u32) 63 wc w.heap.size (fun k_ => some k_ ≠ ((.slice Ao45 t110.length co45) : Value).ownBlock ∧ some k_ ≠ ((.slice Ao50 t115.length co50) : Value).ownBlock ∧ some k_ ≠ ((.slice Ao54 t120.length co54) : Value).ownBlock ∧ some k_ ≠ ((.slice Ao74 t126.length co74) : Value).ownBlock ∧ some k_ ≠ ((.slice Ao146 t146.length co146) : Value).ownBlock ∧ some k_ ≠ ((.slice Ao158 t152.length co158) : Value).ownBlock) (.slice Ao84 t132.length co84) t132) ∧ Aside0 (Kd.R (Kd.int .u32) 63 wc w.heap.size (fun k_ => some k_ ≠ ((.slice Ao45 t110.length co45) : Value).ownBlock ∧ some k_ ≠ ((.slice Ao50 t115.length co50) : Value).ownBlock ∧ some k_ ≠ ((.slice Ao54 t120.length co54) : Value).ownBlock ∧ some k_ ≠ ((.slice Ao74 t126.length co74) : Value).ownBlock ∧ some k_ ≠ ((.slice Ao84 t132.length co84) : Value).ownBlock ∧ some k_ ≠ ((.slice Ao158 t152.length co158) : Value).ownBlock) (.slice Ao146 t146.length co146) t146) ∧ Aside0 (Kd.R (Kd.int .u32) 63 wc w.heap.size (fun k_ => some k_ ≠ ((.slice Ao45 t110.length co45) : Value).ownBlock ∧ some k_ ≠ ((.slice Ao50 t115.length co50) : Value).ownBlock ∧ some k_ ≠ ((.slice Ao54 t120.length co54) : Value).ownBlock ∧ some k_ ≠ ((.slice Ao74 t126.length co74) : Value).ownBlock ∧ some k_ ≠ ((.slice Ao84 t132.length co84) : Value).ownBlock ∧ some k_ ≠ ((.slice Ao146 t146.length co146) : Value).ownBlock) (.slice Ao158 t152.length co158) t152) ∧ Aside0 (wc.heap[gb102]? = some (.cells #[.bool t109, (.slice Ao45 t110.length co45)] 25 (0, 0))) ∧ Aside0 (wc.heap[gb103]? = some (.cells #[.bool t114, (.slice Ao50 t115.length co50)] 25 (0, 0))) ∧ Aside0 (wc.heap[gb104]? = some (.cells #[.bool t119, (.slice Ao54 t120.length co54)] 25 (0, 0))) ∧ Aside0 (wc.heap[gb130]? = some (.cells #[.bool t125, (.slice Ao74 t126.length co74)] 25 (0, 0))) ∧ Aside0 (wc.heap[gb136]? = some (.cells #[.bool t131, (.slice Ao84 t132.length co84)] 25 (0, 0))) ∧ Aside0 (wc.heap[gb150]? = some (.cells #[.bool t145, (.slice Ao146 t146.length co146)] 25 (0, 0))) ∧ Aside0 (wc.heap[gb156]? = some (.cells #[.bool t151, (.slice Ao158 t152.length co158)] 25 (0, 0))) ∧ Aside0 (Below w.heap.size w wc))
                        case first =>
                          have H := HC128.out
                          clear HC128
                          by_cases c159 : t149 = t155
                          · rw [if_pos c159] at H
                            have c159b0 : (t149 == t155) = true := beq_iff_eq.mpr c159
                            have c159b1 : (t149 != t155) = false := bne_eq_false_iff_eq.mpr c159
                            clear c159
                            (first | rw [c159b0] | (simp only [i64_w, i32_w]; rw [c159b0]) | skip)
                            replace H := Option.bind_eq_some_iff.mp H
                            obtain ⟨t157, A1600, H⟩ := H
                            replace H : (morainelaw02_NumRing.j4 kj97 t129 (!t157) t109 t110 t114 t115 t119 t120 t125 t126) = some r := H
                            have A160 := Aside0.mk A1600
                            clear A1600
                            have H' := Aside0.mk H
                            clear H
                            have hnb161 := NB150_102.out
                            have hnc161 := NB102_150.out
                            have hnb162 := NB150_103.out
                            have hnc162 := NB103_150.out
                            have hnb163 := NB150_104.out
                            have hnc163 := NB104_150.out
                            have hnb164 := NB150_130.out
                            have hnc164 := NB130_150.out
                            have hnb165 := NB150_136.out
                            have hnc165 := NB136_150.out
                            have hnb166 := NB150_156.out
                            have hnc166 := NB156_150.out
                            have hcz167_0 : w150.cell? ⟨gb150, 0, none⟩ = some (.bool t145) := (blk_cell BK150.out 0).trans rfl
                            have hcz167_1 : w150.cell? ⟨gb150, 1, none⟩ = some (.slice Ao146 t146.length co146) := (blk_cell BK150.out 1).trans rfl
                            have hfz167_0 := blk_frozen BK150.out 0
                            have hfz167_1 := blk_frozen BK150.out 1
                            have hnb168 := NB156_102.out
                            have hnc168 := NB102_156.out
                            have hnb169 := NB156_103.out
                            have hnc169 := NB103_156.out
                            have hnb170 := NB156_104.out
                            have hnc170 := NB104_156.out
                            have hnb171 := NB156_130.out
                            have hnc171 := NB130_156.out
                            have hnb172 := NB156_136.out
                            have hnc172 := NB136_156.out
                            have hcz173_0 : w150.cell? ⟨gb156, 0, none⟩ = some (.bool false) := (blk_cell BK156.out 0).trans rfl
                            have hcz173_1 : w150.cell? ⟨gb156, 1, none⟩ = some (.slice none 0 0) := (blk_cell BK156.out 1).trans rfl
                            have hfz173_0 := blk_frozen BK156.out 0
                            have hfz173_1 := blk_frozen BK156.out 1
                            go_wp2_with (first | (go_at_call 17; (with_reducible refine (moraineref02_Same.calls t145 _ _ t146 t151 _ _ t152 t157 _ ?side1 ?side2 ?side3 ?side4 A160.out).mono ?_); (case side1 => refine (Kd.R_reads' (e := 63) (base := w.heap.size) (ok := fun k_ => ((((((True ∧ some k_ ≠ (.slice Ao45 t110.length co45 : Value).ownBlock) ∧ some k_ ≠ (.slice Ao50 t115.length co50 : Value).ownBlock) ∧ some k_ ≠ (.slice Ao54 t120.length co54 : Value).ownBlock) ∧ some k_ ≠ (.slice Ao74 t126.length co74 : Value).ownBlock) ∧ some k_ ≠ (.slice Ao84 t132.length co84 : Value).ownBlock) ∧ some k_ ≠ (.slice Ao158 t152.length co158 : Value).ownBlock)) (n := t146.length) (c := co146) ?_).2.2; exact (by (with_reducible repeat (first | apply Kd.R_alloc | apply Kd.R_drewN | apply Kd.R_drew)); exact (Kd.R_mono (qz HO148 BK156 (by decide) (.bool t151) (.slice Ao158 t152.length co158)) (fun _ h_ => h_.1)))); (case side2 => exact (Kd.R_reads' HO148.out).2.1); (case side3 => refine (Kd.R_reads' (e := 63) (base := w.heap.size) (ok := fun k_ => ((((((True ∧ some k_ ≠ (.slice Ao45 t110.length co45 : Value).ownBlock) ∧ some k_ ≠ (.slice Ao50 t115.length co50 : Value).ownBlock) ∧ some k_ ≠ (.slice Ao54 t120.length co54 : Value).ownBlock) ∧ some k_ ≠ (.slice Ao74 t126.length co74 : Value).ownBlock) ∧ some k_ ≠ (.slice Ao84 t132.length co84 : Value).ownBlock) ∧ some k_ ≠ (.slice Ao146 t146.length co146 : Value).ownBlock)) (n := t152.length) (c := co158) ?_).2.2; exact (by (with_reducible repeat (first | apply Kd.R_alloc | apply Kd.R_drewN | apply Kd.R_drew)); exact (Kd.R_mono (qz HO154 BK156 (by decide) (.bool t151) (.slice Ao158 t152.length co158)) (fun _ h_ => h_.1)))); (case side4 => exact (Kd.R_reads' HO154.out).2.1); rintro e w174 ⟨rfl, hb⟩; have n0_ := Aside0.mk (Kd.R_below (by (with_reducible repeat (first | apply Kd.R_alloc | apply Kd.R_drewN | apply Kd.R_drew)); exact (Kd.R_mono (qz HO_103001 BK156 (by decide) (.bool t151) (.slice Ao158 t152.length co158)) (fun _ h_ => h_.1))) hb); have n1_ := Aside0.mk (Kd.R_below (by (with_reducible repeat (first | apply Kd.R_alloc | apply Kd.R_drewN | apply Kd.R_drew)); exact (Kd.R_mono (qz HO_104001 BK156 (by decide) (.bool t151) (.slice Ao158 t152.length co158)) (fun _ h_ => h_.1))) hb); have n2_ := Aside0.mk (Kd.R_below (by (with_reducible repeat (first | apply Kd.R_alloc | apply Kd.R_drewN | apply Kd.R_drew)); exact (Kd.R_mono (qz HO_105001 BK156 (by decide) (.bool t151) (.slice Ao158 t152.length co158)) (fun _ h_ => h_.1))) hb); have n3_ := Aside0.mk (Kd.R_below (by (with_reducible repeat (first | apply Kd.R_alloc | apply Kd.R_drewN | apply Kd.R_drew)); exact (Kd.R_mono (qz HO_131001 BK156 (by decide) (.bool t151) (.slice Ao158 t152.length co158)) (fun _ h_ => h_.1))) hb); have n4_ := Aside0.mk (Kd.R_below (by (with_reducible repeat (first | apply Kd.R_alloc | apply Kd.R_drewN | apply Kd.R_drew)); exact (Kd.R_mono (qz HO_137001 BK156 (by decide) (.bool t151) (.slice Ao158 t152.length co158)) (fun _ h_ => h_.1))) hb); have n5_ := Aside0.mk (Kd.R_below (by (with_reducible repeat (first | apply Kd.R_alloc | apply Kd.R_drewN | apply Kd.R_drew)); exact (Kd.R_mono (qz HO148 BK156 (by decide) (.bool t151) (.slice Ao158 t152.length co158)) (fun _ h_ => h_.1))) hb); have n6_ := Aside0.mk (Kd.R_below (by (with_reducible repeat (first | apply Kd.R_alloc | apply Kd.R_drewN | apply Kd.R_drew)); exact (Kd.R_mono (qz HO154 BK156 (by decide) (.bool t151) (.slice Ao158 t152.length co158)) (fun _ h_ => h_.1))) hb); have n7_ := Aside0.mk (blk_below (g := gb102) (o := .cells #[.bool t109, .slice Ao45 t110.length co45] 25 (0, 0)) (by (with_reducible repeat (first | refine qN ?_ _ | refine qW ?_ | refine qA ?_ _)); refine qf ?_ NB102_156; (with_reducible repeat (first | refine qN ?_ _ | refine qW ?_ | refine qA ?_ _)); exact BK102.out) hb); have n8_ := Aside0.mk (blk_below (g := gb103) (o := .cells #[.bool t114, .slice Ao50 t115.length co50] 25 (0, 0)) (by (with_reducible repeat (first | refine qN ?_ _ | refine qW ?_ | refine qA ?_ _)); refine qf ?_ NB103_156; (with_reducible repeat (first | refine qN ?_ _ | refine qW ?_ | refine qA ?_ _)); exact BK103.out) hb); have n9_ := Aside0.mk (blk_below (g := gb104) (o := .cells #[.bool t119, .slice Ao54 t120.length co54] 25 (0, 0)) (by (with_reducible repeat (first | refine qN ?_ _ | refine qW ?_ | refine qA ?_ _)); refine qf ?_ NB104_156; (with_reducible repeat (first | refine qN ?_ _ | refine qW ?_ | refine qA ?_ _)); exact BK104.out) hb); have n10_ := Aside0.mk (blk_below (g := gb130) (o := .cells #[.bool t125, .slice Ao74 t126.length co74] 25 (0, 0)) (by (with_reducible repeat (first | refine qN ?_ _ | refine qW ?_ | refine qA ?_ _)); refine qf ?_ NB130_156; (with_reducible repeat (first | refine qN ?_ _ | refine qW ?_ | refine qA ?_ _)); exact BK130.out) hb); have n11_ := Aside0.mk (blk_below (g := gb136) (o := .cells #[.bool t131, .slice Ao84 t132.length co84] 25 (0, 0)) (by (with_reducible repeat (first | refine qN ?_ _ | refine qW ?_ | refine qA ?_ _)); refine qf ?_ NB136_156; (with_reducible repeat (first | refine qN ?_ _ | refine qW ?_ | refine qA ?_ _)); exact BK136.out) hb); have n12_ := Aside0.mk (blk_below (g := gb150) (o := .cells #[.bool t145, .slice Ao146 t146.length co146] 25 (0, 0)) (by (with_reducible repeat (first | refine qN ?_ _ | refine qW ?_ | refine qA ?_ _)); refine qf ?_ NB150_156; (with_reducible repeat (first | refine qN ?_ _ | refine qW ?_ | refine qA ?_ _)); exact BK150.out) hb); have n13_ := Aside0.mk (blk_below (g := gb156) (o := .cells #[.bool t151, .slice Ao158 t152.length co158] 25 (0, 0)) (by (with_reducible repeat (first | refine qN ?_ _ | refine qW ?_ | refine qA ?_ _)); refine blk_put (cs := #[.bool t151, .slice none 0 0]) ?_ 1 _ rfl; (with_reducible repeat (first | refine qN ?_ _ | refine qW ?_ | refine qA ?_ _)); refine blk_put (cs := #[.bool false, .slice none 0 0]) ?_ 0 _ rfl; (with_reducible repeat (first | refine qN ?_ _ | refine qW ?_ | refine qA ?_ _)); exact BK156.out) hb); have n14_ := Aside0.mk (below_step (by repeat (first | (with_reducible first | exact HB.out | apply below_alloc | apply pw_below_drewN | apply below_drew1 | refine qs ?_ (by assumption)) | exact HB.out)) hb); clear HO_103001; clear HO_104001; clear HO_105001; clear HO_131001; clear HO_137001; clear HO148; clear HO154; clear BK102; clear BK103; clear BK104; clear BK130; clear BK136; clear BK150; clear BK156; clear HB; have HO_103001 := n0_; have HO_104001 := n1_; have HO_105001 := n2_; have HO_131001 := n3_; have HO_137001 := n4_; have HO148 := n5_; have HO154 := n6_; have BK102 := n7_; have BK103 := n8_; have BK104 := n9_; have BK130 := n10_; have BK136 := n11_; have BK150 := n12_; have BK156 := n13_; have HB := n14_; clear n0_ n1_ n2_ n3_ n4_ n5_ n6_ n7_ n8_ n9_ n10_ n11_ n12_ n13_ n14_; (try clear hb); (try clear hb2); (try clear hk); (try clear hi)))
                            go_meet
                            case rel => exact ⟨_, (!t157), (by first | rfl | (simp; done) | (simp [*]; done)), H', ⟨by have := HJ3.out; have := HJ38.out; have := HJ61.out; have := HJ97.out; first | omega | exact Nat.le_refl _⟩, ⟨by (with_reducible repeat (first | apply Kd.R_alloc | apply Kd.R_drewN | apply Kd.R_drew)); exact Kd.R_mono HO_103001.out (fun _ hk => ⟨hk.1.1.1, ⟨hk.1.1.2.1, ⟨hk.1.1.2.2.1, ⟨hk.1.1.2.2.2, ⟨hk.1.2, hk.2⟩⟩⟩⟩⟩)⟩, ⟨by (with_reducible repeat (first | apply Kd.R_alloc | apply Kd.R_drewN | apply Kd.R_drew)); exact Kd.R_mono HO_104001.out (fun _ hk => ⟨hk.1.1.1, ⟨hk.1.1.2.1, ⟨hk.1.1.2.2.1, ⟨hk.1.1.2.2.2, ⟨hk.1.2, hk.2⟩⟩⟩⟩⟩)⟩, ⟨by (with_reducible repeat (first | apply Kd.R_alloc | apply Kd.R_drewN | apply Kd.R_drew)); exact Kd.R_mono HO_105001.out (fun _ hk => ⟨hk.1.1.1, ⟨hk.1.1.2.1, ⟨hk.1.1.2.2.1, ⟨hk.1.1.2.2.2, ⟨hk.1.2, hk.2⟩⟩⟩⟩⟩)⟩, ⟨by (with_reducible repeat (first | apply Kd.R_alloc | apply Kd.R_drewN | apply Kd.R_drew)); exact Kd.R_mono HO_131001.out (fun _ hk => ⟨hk.1.1.1, ⟨hk.1.1.2.1, ⟨hk.1.1.2.2.1, ⟨hk.1.1.2.2.2, ⟨hk.1.2, hk.2⟩⟩⟩⟩⟩)⟩, ⟨by (with_reducible repeat (first | apply Kd.R_alloc | apply Kd.R_drewN | apply Kd.R_drew)); exact Kd.R_mono HO_137001.out (fun _ hk => ⟨hk.1.1.1, ⟨hk.1.1.2.1, ⟨hk.1.1.2.2.1, ⟨hk.1.1.2.2.2, ⟨hk.1.2, hk.2⟩⟩⟩⟩⟩)⟩, ⟨by (with_reducible repeat (first | apply Kd.R_alloc | apply Kd.R_drewN | apply Kd.R_drew)); exact Kd.R_mono HO148.out (fun _ hk => ⟨hk.1.1.1.1.1.2, ⟨hk.1.1.1.1.2, ⟨hk.1.1.1.2, ⟨hk.1.1.2, ⟨hk.1.2, hk.2⟩⟩⟩⟩⟩)⟩, ⟨by (with_reducible repeat (first | apply Kd.R_alloc | apply Kd.R_drewN | apply Kd.R_drew)); exact Kd.R_mono HO154.out (fun _ hk => ⟨hk.1.1.1.1.1.2, ⟨hk.1.1.1.1.2, ⟨hk.1.1.1.2, ⟨hk.1.1.2, ⟨hk.1.2, hk.2⟩⟩⟩⟩⟩)⟩, ⟨qk BK102⟩, ⟨qk BK103⟩, ⟨qk BK104⟩, ⟨qk BK130⟩, ⟨qk BK136⟩, ⟨qk BK150⟩, ⟨qk BK156⟩, ⟨by repeat (first | (with_reducible first | exact HB.out | apply below_alloc | apply pw_below_drewN | apply below_drew1 | refine qs ?_ (by assumption)) | exact HB.out)⟩⟩
                          · rw [if_neg c159] at H
                            have c159b0 : (t149 == t155) = false := beq_eq_false_iff_ne.mpr c159
                            have c159b1 : (t149 != t155) = true := bne_iff_ne.mpr c159
                            (first | rw [c159b0] | (simp only [i64_w, i32_w]; rw [c159b0]) | skip)
                            have H' := Aside0.mk H
                            clear H
                            go_wp2
                            go_meet
                            case rel => exact ⟨_, (true), (by first | rfl | (simp; done) | (simp [*]; done)), H', ⟨by have := HJ3.out; have := HJ38.out; have := HJ61.out; have := HJ97.out; first | omega | exact Nat.le_refl _⟩, ⟨by (with_reducible repeat (first | apply Kd.R_alloc | apply Kd.R_drewN | apply Kd.R_drew)); exact Kd.R_mono (qz HO_103001 BK156 (by decide) (.bool t151) (.slice Ao158 t152.length co158)) (fun _ hk => ⟨hk.1.1.1.1, ⟨hk.1.1.1.2.1, ⟨hk.1.1.1.2.2.1, ⟨hk.1.1.1.2.2.2, ⟨hk.1.1.2, hk.1.2⟩⟩⟩⟩⟩)⟩, ⟨by (with_reducible repeat (first | apply Kd.R_alloc | apply Kd.R_drewN | apply Kd.R_drew)); exact Kd.R_mono (qz HO_104001 BK156 (by decide) (.bool t151) (.slice Ao158 t152.length co158)) (fun _ hk => ⟨hk.1.1.1.1, ⟨hk.1.1.1.2.1, ⟨hk.1.1.1.2.2.1, ⟨hk.1.1.1.2.2.2, ⟨hk.1.1.2, hk.1.2⟩⟩⟩⟩⟩)⟩, ⟨by (with_reducible repeat (first | apply Kd.R_alloc | apply Kd.R_drewN | apply Kd.R_drew)); exact Kd.R_mono (qz HO_105001 BK156 (by decide) (.bool t151) (.slice Ao158 t152.length co158)) (fun _ hk => ⟨hk.1.1.1.1, ⟨hk.1.1.1.2.1, ⟨hk.1.1.1.2.2.1, ⟨hk.1.1.1.2.2.2, ⟨hk.1.1.2, hk.1.2⟩⟩⟩⟩⟩)⟩, ⟨by (with_reducible repeat (first | apply Kd.R_alloc | apply Kd.R_drewN | apply Kd.R_drew)); exact Kd.R_mono (qz HO_131001 BK156 (by decide) (.bool t151) (.slice Ao158 t152.length co158)) (fun _ hk => ⟨hk.1.1.1.1, ⟨hk.1.1.1.2.1, ⟨hk.1.1.1.2.2.1, ⟨hk.1.1.1.2.2.2, ⟨hk.1.1.2, hk.1.2⟩⟩⟩⟩⟩)⟩, ⟨by (with_reducible repeat (first | apply Kd.R_alloc | apply Kd.R_drewN | apply Kd.R_drew)); exact Kd.R_mono (qz HO_137001 BK156 (by decide) (.bool t151) (.slice Ao158 t152.length co158)) (fun _ hk => ⟨hk.1.1.1.1, ⟨hk.1.1.1.2.1, ⟨hk.1.1.1.2.2.1, ⟨hk.1.1.1.2.2.2, ⟨hk.1.1.2, hk.1.2⟩⟩⟩⟩⟩)⟩, ⟨by (with_reducible repeat (first | apply Kd.R_alloc | apply Kd.R_drewN | apply Kd.R_drew)); exact Kd.R_mono (qz HO148 BK156 (by decide) (.bool t151) (.slice Ao158 t152.length co158)) (fun _ hk => ⟨hk.1.1.1.1.1.1.2, ⟨hk.1.1.1.1.1.2, ⟨hk.1.1.1.1.2, ⟨hk.1.1.1.2, ⟨hk.1.1.2, hk.1.2⟩⟩⟩⟩⟩)⟩, ⟨by (with_reducible repeat (first | apply Kd.R_alloc | apply Kd.R_drewN | apply Kd.R_drew)); exact Kd.R_mono (qz HO154 BK156 (by decide) (.bool t151) (.slice Ao158 t152.length co158)) (fun _ hk => ⟨hk.1.1.1.1.1.1.2, ⟨hk.1.1.1.1.1.2, ⟨hk.1.1.1.1.2, ⟨hk.1.1.1.2, ⟨hk.1.1.2, hk.1.2⟩⟩⟩⟩⟩)⟩, ⟨by (with_reducible repeat (first | refine qN ?_ _ | refine qW ?_ | refine qA ?_ _)); refine qf ?_ NB102_156; (with_reducible repeat (first | refine qN ?_ _ | refine qW ?_ | refine qA ?_ _)); exact BK102.out⟩, ⟨by (with_reducible repeat (first | refine qN ?_ _ | refine qW ?_ | refine qA ?_ _)); refine qf ?_ NB103_156; (with_reducible repeat (first | refine qN ?_ _ | refine qW ?_ | refine qA ?_ _)); exact BK103.out⟩, ⟨by (with_reducible repeat (first | refine qN ?_ _ | refine qW ?_ | refine qA ?_ _)); refine qf ?_ NB104_156; (with_reducible repeat (first | refine qN ?_ _ | refine qW ?_ | refine qA ?_ _)); exact BK104.out⟩, ⟨by (with_reducible repeat (first | refine qN ?_ _ | refine qW ?_ | refine qA ?_ _)); refine qf ?_ NB130_156; (with_reducible repeat (first | refine qN ?_ _ | refine qW ?_ | refine qA ?_ _)); exact BK130.out⟩, ⟨by (with_reducible repeat (first | refine qN ?_ _ | refine qW ?_ | refine qA ?_ _)); refine qf ?_ NB136_156; (with_reducible repeat (first | refine qN ?_ _ | refine qW ?_ | refine qA ?_ _)); exact BK136.out⟩, ⟨by (with_reducible repeat (first | refine qN ?_ _ | refine qW ?_ | refine qA ?_ _)); refine qf ?_ NB150_156; (with_reducible repeat (first | refine qN ?_ _ | refine qW ?_ | refine qA ?_ _)); exact BK150.out⟩, ⟨by (with_reducible repeat (first | refine qN ?_ _ | refine qW ?_ | refine qA ?_ _)); refine blk_put (cs := #[.bool t151, .slice none 0 0]) ?_ 1 _ rfl; (with_reducible repeat (first | refine qN ?_ _ | refine qW ?_ | refine qA ?_ _)); refine blk_put (cs := #[.bool false, .slice none 0 0]) ?_ 0 _ rfl; (with_reducible repeat (first | refine qN ?_ _ | refine qW ?_ | refine qA ?_ _)); exact BK156.out⟩, ⟨by repeat (first | (with_reducible first | exact HB.out | apply below_alloc | apply pw_below_drewN | apply below_drew1 | refine qs ?_ (by assumption)) | exact HB.out)⟩⟩
                        case rest =>
                          clear HC128
                          try clear c1
                          try clear c2
                          try clear p2
                          try clear c3
                          try clear c4
                          try clear c5
                          try clear c6
                          try clear c7
                          try clear c8
                          try clear c9
                          try clear c10
                          try clear c11
                          try clear c12
                          try clear c13
                          try clear c14
                          try clear c15
                          try clear c16
                          try clear c17
                          try clear c20
                          try clear c21
                          try clear c24
                          try clear c25
                          try clear c28
                          try clear c33
                          try clear c36
                          try clear c38
                          try clear c40
                          try clear c41
                          try clear c42
                          try clear c46
                          try clear c55
                          try clear c55b0
                          try clear c55b1
                          try clear c56
                          try clear c56b0
                          try clear c56b1
                          try clear c57
                          try clear c63
                          try clear c64
                          try clear c66
                          try clear c70
                          try clear c71
                          try clear c72
                          try clear c79
                          try clear c80
                          try clear c81
                          try clear c82
                          try clear c85
                          try clear c85b0
                          try clear c85b1
                          try clear c87
                          try clear c88
                          try clear c89
                          try clear c90
                          try clear c92
                          try clear c93
                          try clear c94
                          try clear c97
                          try clear c99
                          try clear c99b0
                          try clear c99b1
                          try clear c101
                          try clear c101b0
                          try clear c101b1
                          try clear c103
                          try clear c104
                          try clear c105
                          try clear c106
                          try clear c107
                          try clear c109
                          try clear c110
                          try clear c111
                          try clear c115
                          try clear c116
                          try clear c117
                          try clear c118
                          try clear c119
                          try clear c122
                          try clear c123
                          try clear c129
                          try clear c130
                          try clear c131
                          try clear c132
                          try clear c134
                          try clear c135
                          try clear c136
                          try clear c140
                          try clear c141
                          try clear c142
                          try clear c143
                          try clear c144
                          try clear c151
                          try clear c152
                          try clear c153
                          try clear c154
                          try clear c155
                          try clear c156
                          try clear c159
                          try clear c159b0
                          try clear c159b1
                          try clear c161
                          try clear c162
                          try clear c163
                          try clear c164
                          try clear c165
                          try clear c166
                          try clear c168
                          try clear c169
                          try clear c170
                          try clear c171
                          try clear c172
                          try clear hcz108_0
                          try clear hcz108_1
                          try clear hcz112_0
                          try clear hcz112_1
                          try clear hcz120_0
                          try clear hcz120_1
                          try clear hcz124_0
                          try clear hcz124_1
                          try clear hcz12_0
                          try clear hcz12_1
                          try clear hcz133_0
                          try clear hcz133_1
                          try clear hcz137_0
                          try clear hcz137_1
                          try clear hcz145_0
                          try clear hcz145_1
                          try clear hcz147_0
                          try clear hcz147_1
                          try clear hcz148_0
                          try clear hcz148_1
                          try clear hcz157_0
                          try clear hcz157_1
                          try clear hcz167_0
                          try clear hcz167_1
                          try clear hcz173_0
                          try clear hcz173_1
                          try clear hcz18_0
                          try clear hcz18_1
                          try clear hcz21_0
                          try clear hcz21_1
                          try clear hcz26_0
                          try clear hcz26_1
                          try clear hcz29_0
                          try clear hcz29_1
                          try clear hcz31_0
                          try clear hcz31_1
                          try clear hcz42_0
                          try clear hcz42_1
                          try clear hcz44_0
                          try clear hcz44_1
                          try clear hcz47_0
                          try clear hcz47_1
                          try clear hcz49_0
                          try clear hcz49_1
                          try clear hcz51_0
                          try clear hcz51_1
                          try clear hcz53_0
                          try clear hcz53_1
                          try clear hcz65_0
                          try clear hcz65_1
                          try clear hcz67_0
                          try clear hcz67_1
                          try clear hcz73_0
                          try clear hcz73_1
                          try clear hcz75_0
                          try clear hcz75_1
                          try clear hcz76_0
                          try clear hcz76_1
                          try clear hcz83_0
                          try clear hcz83_1
                          try clear hcz91_0
                          try clear hcz91_1
                          try clear hcz95_0
                          try clear hcz95_1
                          try clear hfz108_0
                          try clear hfz108_1
                          try clear hfz112_0
                          try clear hfz112_1
                          try clear hfz120_0
                          try clear hfz120_1
                          try clear hfz124_0
                          try clear hfz124_1
                          try clear hfz12_0
                          try clear hfz12_1
                          try clear hfz133_0
                          try clear hfz133_1
                          try clear hfz137_0
                          try clear hfz137_1
                          try clear hfz145_0
                          try clear hfz145_1
                          try clear hfz147_0
                          try clear hfz147_1
                          try clear hfz148_0
                          try clear hfz148_1
                          try clear hfz157_0
                          try clear hfz157_1
                          try clear hfz167_0
                          try clear hfz167_1
                          try clear hfz173_0
                          try clear hfz173_1
                          try clear hfz18_0
                          try clear hfz18_1
                          try clear hfz21_0
                          try clear hfz21_1
                          try clear hfz26_0
                          try clear hfz26_1
                          try clear hfz29_0
                          try clear hfz29_1
                          try clear hfz31_0
                          try clear hfz31_1
                          try clear hfz42_0
                          try clear hfz42_1
                          try clear hfz44_0
                          try clear hfz44_1
                          try clear hfz47_0
                          try clear hfz47_1
                          try clear hfz49_0
                          try clear hfz49_1
                          try clear hfz51_0
                          try clear hfz51_1
                          try clear hfz53_0
                          try clear hfz53_1
                          try clear hfz65_0
                          try clear hfz65_1
                          try clear hfz67_0
                          try clear hfz67_1
                          try clear hfz73_0
                          try clear hfz73_1
                          try clear hfz75_0
                          try clear hfz75_1
                          try clear hfz76_0
                          try clear hfz76_1
                          try clear hfz83_0
                          try clear hfz83_1
                          try clear hfz91_0
                          try clear hfz91_1
                          try clear hfz95_0
                          try clear hfz95_1
                          try clear p2
                          obtain ⟨kq, x120_127, rfl, HA, HJ127, HO_103001, HO_104001, HO_105001, HO_131001, HO_137001, HO_151001, HO_157001, BK102, BK103, BK104, BK130, BK136, BK150, BK156, HB⟩ := hcut
                          cases kq with
                          | zero => exact absurd HA.out (by simp [morainelaw02_NumRing.j4])
                          | succ kj127 =>
                            have H := HA.out
                            clear HA
                            simp only [morainelaw02_NumRing.j4] at H
                            by_cases c175 : x120_127 = true
                            · subst c175
                              have H1 : (some false) = some r := by rw [if_pos rfl] at H; exact H
                              clear H
                              have H := H1
                              clear H1
                              exact absurd ((Option.some.inj H).trans hr) (by decide)
                            · replace c175 := Bool.eq_false_iff.mpr c175
                              subst c175
                              have H1 : ((num_Mul.f t125 t126 t119 t120).bind fun bt158 => ((num_Mul.f t109 t110 t119 t120).bind fun bt164 => ((num_Mul.f t114 t115 t119 t120).bind fun bt170 => (if t129 = 0 then (if bt158.2.2 = 0 then (if bt164.2.2 = 0 then (morainelaw02_NumRing.j5 kj127 (bt170.2.2 != 0) bt158.1 bt158.2.1 bt164.1 bt164.2.1 bt170.1 bt170.2.1) else (morainelaw02_NumRing.j5 kj127 true bt158.1 bt158.2.1 bt164.1 bt164.2.1 bt170.1 bt170.2.1)) else (morainelaw02_NumRing.j5 kj127 true bt158.1 bt158.2.1 bt164.1 bt164.2.1 bt170.1 bt170.2.1)) else (morainelaw02_NumRing.j5 kj127 true bt158.1 bt158.2.1 bt164.1 bt164.2.1 bt170.1 bt170.2.1))))) = some r := by rw [if_neg (show ¬ (false = true) by decide)] at H; exact H
                              clear H
                              have H := H1
                              clear H1
                              replace H := Option.bind_eq_some_iff.mp H
                              obtain ⟨⟨t158, t159, t162⟩, A1760, H⟩ := H
                              replace H : ((num_Mul.f t109 t110 t119 t120).bind fun bt164 => ((num_Mul.f t114 t115 t119 t120).bind fun bt170 => (if t129 = 0 then (if t162 = 0 then (if bt164.2.2 = 0 then (morainelaw02_NumRing.j5 kj127 (bt170.2.2 != 0) t158 t159 bt164.1 bt164.2.1 bt170.1 bt170.2.1) else (morainelaw02_NumRing.j5 kj127 true t158 t159 bt164.1 bt164.2.1 bt170.1 bt170.2.1)) else (morainelaw02_NumRing.j5 kj127 true t158 t159 bt164.1 bt164.2.1 bt170.1 bt170.2.1)) else (morainelaw02_NumRing.j5 kj127 true t158 t159 bt164.1 bt164.2.1 bt170.1 bt170.2.1)))) = some r := H
                              have A176 := Aside0.mk A1760
                              clear A1760
                              replace H := Option.bind_eq_some_iff.mp H
                              obtain ⟨⟨t164, t165, t168⟩, A1770, H⟩ := H
                              replace H : ((num_Mul.f t114 t115 t119 t120).bind fun bt170 => (if t129 = 0 then (if t162 = 0 then (if t168 = 0 then (morainelaw02_NumRing.j5 kj127 (bt170.2.2 != 0) t158 t159 t164 t165 bt170.1 bt170.2.1) else (morainelaw02_NumRing.j5 kj127 true t158 t159 t164 t165 bt170.1 bt170.2.1)) else (morainelaw02_NumRing.j5 kj127 true t158 t159 t164 t165 bt170.1 bt170.2.1)) else (morainelaw02_NumRing.j5 kj127 true t158 t159 t164 t165 bt170.1 bt170.2.1))) = some r := H
                              have A177 := Aside0.mk A1770
                              clear A1770
                              replace H := Option.bind_eq_some_iff.mp H
                              obtain ⟨⟨t170, t171, t174⟩, A1780, H⟩ := H
                              replace H : (if t129 = 0 then (if t162 = 0 then (if t168 = 0 then (morainelaw02_NumRing.j5 kj127 (t174 != 0) t158 t159 t164 t165 t170 t171) else (morainelaw02_NumRing.j5 kj127 true t158 t159 t164 t165 t170 t171)) else (morainelaw02_NumRing.j5 kj127 true t158 t159 t164 t165 t170 t171)) else (morainelaw02_NumRing.j5 kj127 true t158 t159 t164 t165 t170 t171)) = some r := H
                              have A178 := Aside0.mk A1780
                              clear A1780
                              have HC179 := Aside0.mk H
                              clear H
                              have hnb180 := NB130_102.out
                              have hnc180 := NB102_130.out
                              have hnb181 := NB130_103.out
                              have hnc181 := NB103_130.out
                              have hnb182 := NB130_104.out
                              have hnc182 := NB104_130.out
                              have hnb183 := NB130_136.out
                              have hnc183 := NB136_130.out
                              have hnb184 := NB130_150.out
                              have hnc184 := NB150_130.out
                              have hnb185 := NB130_156.out
                              have hnc185 := NB156_130.out
                              have hcz186_0 : wc.cell? ⟨gb130, 0, none⟩ = some (.bool t125) := (blk_cell BK130.out 0).trans rfl
                              have hcz186_1 : wc.cell? ⟨gb130, 1, none⟩ = some (.slice Ao74 t126.length co74) := (blk_cell BK130.out 1).trans rfl
                              have hfz186_0 := blk_frozen BK130.out 0
                              have hfz186_1 := blk_frozen BK130.out 1
                              have hnb187 := NB104_102.out
                              have hnc187 := NB102_104.out
                              have hnb188 := NB104_103.out
                              have hnc188 := NB103_104.out
                              have hnb189 := NB104_136.out
                              have hnc189 := NB136_104.out
                              have hnb190 := NB104_150.out
                              have hnc190 := NB150_104.out
                              have hnb191 := NB104_156.out
                              have hnc191 := NB156_104.out
                              have hcz192_0 : wc.cell? ⟨gb104, 0, none⟩ = some (.bool t119) := (blk_cell BK104.out 0).trans rfl
                              have hcz192_1 : wc.cell? ⟨gb104, 1, none⟩ = some (.slice Ao54 t120.length co54) := (blk_cell BK104.out 1).trans rfl
                              have hfz192_0 := blk_frozen BK104.out 0
                              have hfz192_1 := blk_frozen BK104.out 1
                              go_upto_region 23 with (first | ((with_reducible refine gate_callee (f := 36) rfl ?_); refine goesL_ (some 124) rfl rfl Tryd.func36 (by kernel_rfl) rfl #[.agg #[.bool t125, .slice Ao74 t126.length co74], .agg #[.bool t119, .slice Ao54 t120.length co54]] rfl (by (try simp only [List.map_toArray, List.map_cons, List.map_nil]); first | done | rfl | (simp only [List.length_drop, List.length_take]; rfl)) ?_; (with_reducible refine (num_Mul.calls t125 _ _ t126 t119 _ _ t120 t158 t159 t162 _ ?side1 ?side2 ?side3 ?side4 A176.out).mono ?_); (case side1 => repeat (first | exact (Kd.R_reads' HO_131001.out).2.2 | (with_reducible refine Kd.C_alloc ?_ _) | (with_reducible refine Kd.C_drewN ?_ _) | (with_reducible refine Kd.C_drew ?_))); (case side2 => exact (Kd.R_reads' HO_131001.out).2.1); (case side3 => repeat (first | exact (Kd.R_reads' HO_105001.out).2.2 | (with_reducible refine Kd.C_alloc ?_ _) | (with_reducible refine Kd.C_drewN ?_ _) | (with_reducible refine Kd.C_drew ?_))); (case side4 => exact (Kd.R_reads' HO_105001.out).2.1); rintro e w193 ⟨v160, rfl, ho0, hb⟩; refine ⟨_, rfl, ?_⟩; have HO161 := Aside0.mk (Kd.R_lower (Kd.R_new' (Kd.R_new' (Kd.R_new' (Kd.R_new' (Kd.R_new' (Kd.R_new' (Kd.R_new' ho0 (ql HO_103001)) (ql HO_104001)) (ql HO_105001)) (ql HO_131001)) (ql HO_137001)) (ql HO_151001)) (ql HO_157001)) (below_size (by repeat (first | (with_reducible first | exact HB.out | apply below_alloc | apply pw_below_drewN | apply below_drew1 | refine qs ?_ (by assumption)) | exact HB.out)))); replace HO_103001 := qe HO_103001 ho0 hb; replace HO_104001 := qe HO_104001 ho0 hb; replace HO_105001 := qe HO_105001 ho0 hb; replace HO_131001 := qe HO_131001 ho0 hb; replace HO_137001 := qe HO_137001 ho0 hb; replace HO_151001 := qe HO_151001 ho0 hb; replace HO_157001 := qe HO_157001 ho0 hb; replace BK102 := qb BK102 hb; replace BK103 := qb BK103 hb; replace BK104 := qb BK104 hb; replace BK130 := qb BK130 hb; replace BK136 := qb BK136 hb; replace BK150 := qb BK150 hb; replace BK156 := qb BK156 hb; replace HB := Aside0.mk (below_step (by repeat (first | (with_reducible first | exact HB.out | apply below_alloc | apply pw_below_drewN | apply below_drew1 | refine qs ?_ (by assumption)) | exact HB.out)) hb); (try clear hb); (try clear hb2); (try clear hk); (try clear hi); (try clear ho0)) | ((with_reducible refine gate_dst (N := 18) rfl ?_); refine box_event ?hg (N := 18) ?hd (cs := #[.bool false, .slice none 0 0]) (t := 25) ?hr ?_; (case hd => rfl); (case hg => rfl); (case hr => first | (go_simp; done) | (go_simp; rfl)); intro gb163 hg w194 hbox hb; replace HO_103001 := qr HO_103001 hb; replace HO_104001 := qr HO_104001 hb; replace HO_105001 := qr HO_105001 hb; replace HO_131001 := qr HO_131001 hb; replace HO_137001 := qr HO_137001 hb; replace HO_151001 := qr HO_151001 hb; replace HO_157001 := qr HO_157001 hb; replace HO161 := qr HO161 hb; have BK163 := Aside0.mk (hbox); have GW163 := qg hg (by repeat (first | (with_reducible first | exact HB.out | apply below_alloc | apply pw_below_drewN | apply below_drew1 | refine qs ?_ (by assumption)) | exact HB.out)); have GE163 := qg hg (by repeat (first | (with_reducible first | exact HB.out | apply below_alloc | apply pw_below_drewN | apply below_drew1 | refine qs ?_ (by assumption)) | exact HB.out)); replace HB := Aside0.mk (below_step (by repeat (first | (with_reducible first | exact HB.out | apply below_alloc | apply pw_below_drewN | apply below_drew1 | refine qs ?_ (by assumption)) | exact HB.out)) hb); have NB102_163 := qn BK102 hg; have NB163_102 := qm BK102 hg; replace BK102 := qb BK102 hb; have NB103_163 := qn BK103 hg; have NB163_103 := qm BK103 hg; replace BK103 := qb BK103 hb; have NB104_163 := qn BK104 hg; have NB163_104 := qm BK104 hg; replace BK104 := qb BK104 hb; have NB130_163 := qn BK130 hg; have NB163_130 := qm BK130 hg; replace BK130 := qb BK130 hb; have NB136_163 := qn BK136 hg; have NB163_136 := qm BK136 hg; replace BK136 := qb BK136 hb; have NB150_163 := qn BK150 hg; have NB163_150 := qm BK150 hg; replace BK150 := qb BK150 hb; have NB156_163 := qn BK156 hg; have NB163_156 := qm BK156 hg; replace BK156 := qb BK156 hb; clear hb hbox hg; have hnb195 := NB163_102.out; have hnc195 := NB102_163.out; have hnb196 := NB163_103.out; have hnc196 := NB103_163.out; have hnb197 := NB163_104.out; have hnc197 := NB104_163.out; have hnb198 := NB163_130.out; have hnc198 := NB130_163.out; have hnb199 := NB163_136.out; have hnc199 := NB136_163.out; have hnb200 := NB163_150.out; have hnc200 := NB150_163.out; have hnb201 := NB163_156.out; have hnc201 := NB156_163.out; have hcz202_0 : w194.cell? ⟨gb163, 0, none⟩ = some (.bool false) := (blk_cell BK163.out 0).trans rfl; have hcz202_1 : w194.cell? ⟨gb163, 1, none⟩ = some (.slice none 0 0) := (blk_cell BK163.out 1).trans rfl; have hfz202_0 := blk_frozen BK163.out 0; have hfz202_1 := blk_frozen BK163.out 1; obtain ⟨Ao203, co203, eo203⟩ := Kd.R_slice HO161.out; subst eo203; have hnb204 := NB102_103.out; have hnc204 := NB103_102.out; have hnb205 := NB102_136.out; have hnc205 := NB136_102.out; have hnb206 := NB102_150.out; have hnc206 := NB150_102.out; have hnb207 := NB102_156.out; have hnc207 := NB156_102.out; have hcz208_0 : w194.cell? ⟨gb102, 0, none⟩ = some (.bool t109) := (blk_cell BK102.out 0).trans rfl; have hcz208_1 : w194.cell? ⟨gb102, 1, none⟩ = some (.slice Ao45 t110.length co45) := (blk_cell BK102.out 1).trans rfl; have hfz208_0 := blk_frozen BK102.out 0; have hfz208_1 := blk_frozen BK102.out 1; have hcz209_0 : w194.cell? ⟨gb104, 0, none⟩ = some (.bool t119) := (blk_cell BK104.out 0).trans rfl; have hcz209_1 : w194.cell? ⟨gb104, 1, none⟩ = some (.slice Ao54 t120.length co54) := (blk_cell BK104.out 1).trans rfl; have hfz209_0 := blk_frozen BK104.out 0; have hfz209_1 := blk_frozen BK104.out 1) | ((with_reducible refine gate_callee (f := 36) rfl ?_); refine goesL_ (some 130) rfl rfl Tryd.func36 (by kernel_rfl) rfl #[.agg #[.bool t109, .slice Ao45 t110.length co45], .agg #[.bool t119, .slice Ao54 t120.length co54]] rfl (by (try simp only [List.map_toArray, List.map_cons, List.map_nil]); first | done | rfl | (simp only [List.length_drop, List.length_take]; rfl)) ?_; (with_reducible refine (num_Mul.calls t109 _ _ t110 t119 _ _ t120 t164 t165 t168 _ ?side1 ?side2 ?side3 ?side4 A177.out).mono ?_); (case side1 => refine (Kd.R_reads' (e := 63) (base := w.heap.size) (ok := fun k_ => ((some k_ ≠ (.slice Ao50 t115.length co50 : Value).ownBlock ∧ (some k_ ≠ (.slice Ao54 t120.length co54 : Value).ownBlock ∧ (some k_ ≠ (.slice Ao74 t126.length co74 : Value).ownBlock ∧ (some k_ ≠ (.slice Ao84 t132.length co84 : Value).ownBlock ∧ (some k_ ≠ (.slice Ao146 t146.length co146 : Value).ownBlock ∧ some k_ ≠ (.slice Ao158 t152.length co158 : Value).ownBlock))))) ∧ some k_ ≠ (.slice Ao203 t159.length co203 : Value).ownBlock)) (n := t110.length) (c := co45) ?_).2.2; exact (by (with_reducible repeat (first | apply Kd.R_alloc | apply Kd.R_drewN | apply Kd.R_drew)); exact (Kd.R_mono (qz HO_103001 BK163 (by decide) (.bool t158) (.slice Ao203 t159.length co203)) (fun _ h_ => h_.1)))); (case side2 => exact (Kd.R_reads' HO_103001.out).2.1); (case side3 => refine (Kd.R_reads' (e := 63) (base := w.heap.size) (ok := fun k_ => ((some k_ ≠ (.slice Ao45 t110.length co45 : Value).ownBlock ∧ (some k_ ≠ (.slice Ao50 t115.length co50 : Value).ownBlock ∧ (some k_ ≠ (.slice Ao74 t126.length co74 : Value).ownBlock ∧ (some k_ ≠ (.slice Ao84 t132.length co84 : Value).ownBlock ∧ (some k_ ≠ (.slice Ao146 t146.length co146 : Value).ownBlock ∧ some k_ ≠ (.slice Ao158 t152.length co158 : Value).ownBlock))))) ∧ some k_ ≠ (.slice Ao203 t159.length co203 : Value).ownBlock)) (n := t120.length) (c := co54) ?_).2.2; exact (by (with_reducible repeat (first | apply Kd.R_alloc | apply Kd.R_drewN | apply Kd.R_drew)); exact (Kd.R_mono (qz HO_105001 BK163 (by decide) (.bool t158) (.slice Ao203 t159.length co203)) (fun _ h_ => h_.1)))); (case side4 => exact (Kd.R_reads' HO_105001.out).2.1); rintro e w210 ⟨v166, rfl, ho0, hb⟩; refine ⟨_, rfl, ?_⟩; have n0_ := Aside0.mk (Kd.R_elder' (by (with_reducible repeat (first | apply Kd.R_alloc | apply Kd.R_drewN | apply Kd.R_drew)); exact (Kd.R_mono (qz HO_103001 BK163 (by decide) (.bool t158) (.slice Ao203 t159.length co203)) (fun _ h_ => h_.1))) (Kd.R_base ho0) hb); have n1_ := Aside0.mk (Kd.R_elder' (by (with_reducible repeat (first | apply Kd.R_alloc | apply Kd.R_drewN | apply Kd.R_drew)); exact (Kd.R_mono (qz HO_104001 BK163 (by decide) (.bool t158) (.slice Ao203 t159.length co203)) (fun _ h_ => h_.1))) (Kd.R_base ho0) hb); have n2_ := Aside0.mk (Kd.R_elder' (by (with_reducible repeat (first | apply Kd.R_alloc | apply Kd.R_drewN | apply Kd.R_drew)); exact (Kd.R_mono (qz HO_105001 BK163 (by decide) (.bool t158) (.slice Ao203 t159.length co203)) (fun _ h_ => h_.1))) (Kd.R_base ho0) hb); have n3_ := Aside0.mk (Kd.R_elder' (by (with_reducible repeat (first | apply Kd.R_alloc | apply Kd.R_drewN | apply Kd.R_drew)); exact (Kd.R_mono (qz HO_131001 BK163 (by decide) (.bool t158) (.slice Ao203 t159.length co203)) (fun _ h_ => h_.1))) (Kd.R_base ho0) hb); have n4_ := Aside0.mk (Kd.R_elder' (by (with_reducible repeat (first | apply Kd.R_alloc | apply Kd.R_drewN | apply Kd.R_drew)); exact (Kd.R_mono (qz HO_137001 BK163 (by decide) (.bool t158) (.slice Ao203 t159.length co203)) (fun _ h_ => h_.1))) (Kd.R_base ho0) hb); have n5_ := Aside0.mk (Kd.R_elder' (by (with_reducible repeat (first | apply Kd.R_alloc | apply Kd.R_drewN | apply Kd.R_drew)); exact (Kd.R_mono (qz HO_151001 BK163 (by decide) (.bool t158) (.slice Ao203 t159.length co203)) (fun _ h_ => h_.1))) (Kd.R_base ho0) hb); have n6_ := Aside0.mk (Kd.R_elder' (by (with_reducible repeat (first | apply Kd.R_alloc | apply Kd.R_drewN | apply Kd.R_drew)); exact (Kd.R_mono (qz HO_157001 BK163 (by decide) (.bool t158) (.slice Ao203 t159.length co203)) (fun _ h_ => h_.1))) (Kd.R_base ho0) hb); have n7_ := Aside0.mk (Kd.R_elder' (by (with_reducible repeat (first | apply Kd.R_alloc | apply Kd.R_drewN | apply Kd.R_drew)); exact (Kd.R_mono (qz HO161 BK163 (by decide) (.bool t158) (.slice Ao203 t159.length co203)) (fun _ h_ => h_.1))) (Kd.R_base ho0) hb); have n8_ := Aside0.mk (Kd.R_lower (Kd.R_new' (Kd.R_new' (Kd.R_new' (Kd.R_new' (Kd.R_new' (Kd.R_new' (Kd.R_new' (Kd.R_new' ho0 (Kd.R_lt (by (with_reducible repeat (first | apply Kd.R_alloc | apply Kd.R_drewN | apply Kd.R_drew)); exact (Kd.R_mono (qz HO_103001 BK163 (by decide) (.bool t158) (.slice Ao203 t159.length co203)) (fun _ h_ => h_.1))))) (Kd.R_lt (by (with_reducible repeat (first | apply Kd.R_alloc | apply Kd.R_drewN | apply Kd.R_drew)); exact (Kd.R_mono (qz HO_104001 BK163 (by decide) (.bool t158) (.slice Ao203 t159.length co203)) (fun _ h_ => h_.1))))) (Kd.R_lt (by (with_reducible repeat (first | apply Kd.R_alloc | apply Kd.R_drewN | apply Kd.R_drew)); exact (Kd.R_mono (qz HO_105001 BK163 (by decide) (.bool t158) (.slice Ao203 t159.length co203)) (fun _ h_ => h_.1))))) (Kd.R_lt (by (with_reducible repeat (first | apply Kd.R_alloc | apply Kd.R_drewN | apply Kd.R_drew)); exact (Kd.R_mono (qz HO_131001 BK163 (by decide) (.bool t158) (.slice Ao203 t159.length co203)) (fun _ h_ => h_.1))))) (Kd.R_lt (by (with_reducible repeat (first | apply Kd.R_alloc | apply Kd.R_drewN | apply Kd.R_drew)); exact (Kd.R_mono (qz HO_137001 BK163 (by decide) (.bool t158) (.slice Ao203 t159.length co203)) (fun _ h_ => h_.1))))) (Kd.R_lt (by (with_reducible repeat (first | apply Kd.R_alloc | apply Kd.R_drewN | apply Kd.R_drew)); exact (Kd.R_mono (qz HO_151001 BK163 (by decide) (.bool t158) (.slice Ao203 t159.length co203)) (fun _ h_ => h_.1))))) (Kd.R_lt (by (with_reducible repeat (first | apply Kd.R_alloc | apply Kd.R_drewN | apply Kd.R_drew)); exact (Kd.R_mono (qz HO_157001 BK163 (by decide) (.bool t158) (.slice Ao203 t159.length co203)) (fun _ h_ => h_.1))))) (Kd.R_lt (by (with_reducible repeat (first | apply Kd.R_alloc | apply Kd.R_drewN | apply Kd.R_drew)); exact (Kd.R_mono (qz HO161 BK163 (by decide) (.bool t158) (.slice Ao203 t159.length co203)) (fun _ h_ => h_.1))))) (below_size (by repeat (first | (with_reducible first | exact HB.out | apply below_alloc | apply pw_below_drewN | apply below_drew1 | refine qs ?_ (by assumption)) | exact HB.out)))); have n9_ := Aside0.mk (blk_below (g := gb102) (o := .cells #[.bool t109, .slice Ao45 t110.length co45] 25 (0, 0)) (by (with_reducible repeat (first | refine qN ?_ _ | refine qW ?_ | refine qA ?_ _)); refine qf ?_ NB102_163; (with_reducible repeat (first | refine qN ?_ _ | refine qW ?_ | refine qA ?_ _)); exact BK102.out) hb); have n10_ := Aside0.mk (blk_below (g := gb103) (o := .cells #[.bool t114, .slice Ao50 t115.length co50] 25 (0, 0)) (by (with_reducible repeat (first | refine qN ?_ _ | refine qW ?_ | refine qA ?_ _)); refine qf ?_ NB103_163; (with_reducible repeat (first | refine qN ?_ _ | refine qW ?_ | refine qA ?_ _)); exact BK103.out) hb); have n11_ := Aside0.mk (blk_below (g := gb104) (o := .cells #[.bool t119, .slice Ao54 t120.length co54] 25 (0, 0)) (by (with_reducible repeat (first | refine qN ?_ _ | refine qW ?_ | refine qA ?_ _)); refine qf ?_ NB104_163; (with_reducible repeat (first | refine qN ?_ _ | refine qW ?_ | refine qA ?_ _)); exact BK104.out) hb); have n12_ := Aside0.mk (blk_below (g := gb130) (o := .cells #[.bool t125, .slice Ao74 t126.length co74] 25 (0, 0)) (by (with_reducible repeat (first | refine qN ?_ _ | refine qW ?_ | refine qA ?_ _)); refine qf ?_ NB130_163; (with_reducible repeat (first | refine qN ?_ _ | refine qW ?_ | refine qA ?_ _)); exact BK130.out) hb); have n13_ := Aside0.mk (blk_below (g := gb136) (o := .cells #[.bool t131, .slice Ao84 t132.length co84] 25 (0, 0)) (by (with_reducible repeat (first | refine qN ?_ _ | refine qW ?_ | refine qA ?_ _)); refine qf ?_ NB136_163; (with_reducible repeat (first | refine qN ?_ _ | refine qW ?_ | refine qA ?_ _)); exact BK136.out) hb); have n14_ := Aside0.mk (blk_below (g := gb150) (o := .cells #[.bool t145, .slice Ao146 t146.length co146] 25 (0, 0)) (by (with_reducible repeat (first | refine qN ?_ _ | refine qW ?_ | refine qA ?_ _)); refine qf ?_ NB150_163; (with_reducible repeat (first | refine qN ?_ _ | refine qW ?_ | refine qA ?_ _)); exact BK150.out) hb); have n15_ := Aside0.mk (blk_below (g := gb156) (o := .cells #[.bool t151, .slice Ao158 t152.length co158] 25 (0, 0)) (by (with_reducible repeat (first | refine qN ?_ _ | refine qW ?_ | refine qA ?_ _)); refine qf ?_ NB156_163; (with_reducible repeat (first | refine qN ?_ _ | refine qW ?_ | refine qA ?_ _)); exact BK156.out) hb); have n16_ := Aside0.mk (blk_below (g := gb163) (o := .cells #[.bool t158, .slice Ao203 t159.length co203] 25 (0, 0)) (by (with_reducible repeat (first | refine qN ?_ _ | refine qW ?_ | refine qA ?_ _)); refine blk_put (cs := #[.bool t158, .slice none 0 0]) ?_ 1 _ rfl; (with_reducible repeat (first | refine qN ?_ _ | refine qW ?_ | refine qA ?_ _)); refine blk_put (cs := #[.bool false, .slice none 0 0]) ?_ 0 _ rfl; (with_reducible repeat (first | refine qN ?_ _ | refine qW ?_ | refine qA ?_ _)); exact BK163.out) hb); have n17_ := Aside0.mk (below_step (by repeat (first | (with_reducible first | exact HB.out | apply below_alloc | apply pw_below_drewN | apply below_drew1 | refine qs ?_ (by assumption)) | exact HB.out)) hb); clear HO_103001; clear HO_104001; clear HO_105001; clear HO_131001; clear HO_137001; clear HO_151001; clear HO_157001; clear HO161; clear BK102; clear BK103; clear BK104; clear BK130; clear BK136; clear BK150; clear BK156; clear BK163; clear HB; have HO_103001 := n0_; have HO_104001 := n1_; have HO_105001 := n2_; have HO_131001 := n3_; have HO_137001 := n4_; have HO_151001 := n5_; have HO_157001 := n6_; have HO161 := n7_; have HO167 := n8_; have BK102 := n9_; have BK103 := n10_; have BK104 := n11_; have BK130 := n12_; have BK136 := n13_; have BK150 := n14_; have BK156 := n15_; have BK163 := n16_; have HB := n17_; clear n0_ n1_ n2_ n3_ n4_ n5_ n6_ n7_ n8_ n9_ n10_ n11_ n12_ n13_ n14_ n15_ n16_ n17_; (try clear hb); (try clear hb2); (try clear hk); (try clear hi); (try clear ho0)) | ((with_reducible refine gate_dst (N := 20) rfl ?_); refine box_event ?hg (N := 20) ?hd (cs := #[.bool false, .slice none 0 0]) (t := 25) ?hr ?_; (case hd => rfl); (case hg => rfl); (case hr => first | (go_simp; done) | (go_simp; rfl)); intro gb169 hg w211 hbox hb; replace HO_103001 := qr HO_103001 hb; replace HO_104001 := qr HO_104001 hb; replace HO_105001 := qr HO_105001 hb; replace HO_131001 := qr HO_131001 hb; replace HO_137001 := qr HO_137001 hb; replace HO_151001 := qr HO_151001 hb; replace HO_157001 := qr HO_157001 hb; replace HO161 := qr HO161 hb; replace HO167 := qr HO167 hb; have BK169 := Aside0.mk (hbox); have GW169 := qg hg (by repeat (first | (with_reducible first | exact HB.out | apply below_alloc | apply pw_below_drewN | apply below_drew1 | refine qs ?_ (by assumption)) | exact HB.out)); have GE169 := qg hg (by repeat (first | (with_reducible first | exact HB.out | apply below_alloc | apply pw_below_drewN | apply below_drew1 | refine qs ?_ (by assumption)) | exact HB.out)); replace HB := Aside0.mk (below_step (by repeat (first | (with_reducible first | exact HB.out | apply below_alloc | apply pw_below_drewN | apply below_drew1 | refine qs ?_ (by assumption)) | exact HB.out)) hb); have NB102_169 := qn BK102 hg; have NB169_102 := qm BK102 hg; replace BK102 := qb BK102 hb; have NB103_169 := qn BK103 hg; have NB169_103 := qm BK103 hg; replace BK103 := qb BK103 hb; have NB104_169 := qn BK104 hg; have NB169_104 := qm BK104 hg; replace BK104 := qb BK104 hb; have NB130_169 := qn BK130 hg; have NB169_130 := qm BK130 hg; replace BK130 := qb BK130 hb; have NB136_169 := qn BK136 hg; have NB169_136 := qm BK136 hg; replace BK136 := qb BK136 hb; have NB150_169 := qn BK150 hg; have NB169_150 := qm BK150 hg; replace BK150 := qb BK150 hb; have NB156_169 := qn BK156 hg; have NB169_156 := qm BK156 hg; replace BK156 := qb BK156 hb; have NB163_169 := qn BK163 hg; have NB169_163 := qm BK163 hg; replace BK163 := qb BK163 hb; clear hb hbox hg; have hnb212 := NB169_102.out; have hnc212 := NB102_169.out; have hnb213 := NB169_103.out; have hnc213 := NB103_169.out; have hnb214 := NB169_104.out; have hnc214 := NB104_169.out; have hnb215 := NB169_130.out; have hnc215 := NB130_169.out; have hnb216 := NB169_136.out; have hnc216 := NB136_169.out; have hnb217 := NB169_150.out; have hnc217 := NB150_169.out; have hnb218 := NB169_156.out; have hnc218 := NB156_169.out; have hnb219 := NB169_163.out; have hnc219 := NB163_169.out; have hcz220_0 : w211.cell? ⟨gb169, 0, none⟩ = some (.bool false) := (blk_cell BK169.out 0).trans rfl; have hcz220_1 : w211.cell? ⟨gb169, 1, none⟩ = some (.slice none 0 0) := (blk_cell BK169.out 1).trans rfl; have hfz220_0 := blk_frozen BK169.out 0; have hfz220_1 := blk_frozen BK169.out 1; obtain ⟨Ao221, co221, eo221⟩ := Kd.R_slice HO167.out; subst eo221; have hnb222 := NB103_136.out; have hnc222 := NB136_103.out; have hnb223 := NB103_150.out; have hnc223 := NB150_103.out; have hnb224 := NB103_156.out; have hnc224 := NB156_103.out; have hcz225_0 : w211.cell? ⟨gb103, 0, none⟩ = some (.bool t114) := (blk_cell BK103.out 0).trans rfl; have hcz225_1 : w211.cell? ⟨gb103, 1, none⟩ = some (.slice Ao50 t115.length co50) := (blk_cell BK103.out 1).trans rfl; have hfz225_0 := blk_frozen BK103.out 0; have hfz225_1 := blk_frozen BK103.out 1; have hcz226_0 : w211.cell? ⟨gb104, 0, none⟩ = some (.bool t119) := (blk_cell BK104.out 0).trans rfl; have hcz226_1 : w211.cell? ⟨gb104, 1, none⟩ = some (.slice Ao54 t120.length co54) := (blk_cell BK104.out 1).trans rfl; have hfz226_0 := blk_frozen BK104.out 0; have hfz226_1 := blk_frozen BK104.out 1) | ((with_reducible refine gate_callee (f := 36) rfl ?_); refine goesL_ (some 136) rfl rfl Tryd.func36 (by kernel_rfl) rfl #[.agg #[.bool t114, .slice Ao50 t115.length co50], .agg #[.bool t119, .slice Ao54 t120.length co54]] rfl (by (try simp only [List.map_toArray, List.map_cons, List.map_nil]); first | done | rfl | (simp only [List.length_drop, List.length_take]; rfl)) ?_; (with_reducible refine (num_Mul.calls t114 _ _ t115 t119 _ _ t120 t170 t171 t174 _ ?side1 ?side2 ?side3 ?side4 A178.out).mono ?_); (case side1 => refine (Kd.R_reads' (e := 63) (base := w.heap.size) (ok := fun k_ => (((some k_ ≠ (.slice Ao45 t110.length co45 : Value).ownBlock ∧ (some k_ ≠ (.slice Ao54 t120.length co54 : Value).ownBlock ∧ (some k_ ≠ (.slice Ao74 t126.length co74 : Value).ownBlock ∧ (some k_ ≠ (.slice Ao84 t132.length co84 : Value).ownBlock ∧ (some k_ ≠ (.slice Ao146 t146.length co146 : Value).ownBlock ∧ some k_ ≠ (.slice Ao158 t152.length co158 : Value).ownBlock))))) ∧ some k_ ≠ (.slice Ao203 t159.length co203 : Value).ownBlock) ∧ some k_ ≠ (.slice Ao221 t165.length co221 : Value).ownBlock)) (n := t115.length) (c := co50) ?_).2.2; exact (by (with_reducible repeat (first | apply Kd.R_alloc | apply Kd.R_drewN | apply Kd.R_drew)); exact (Kd.R_mono (qz HO_104001 BK169 (by decide) (.bool t164) (.slice Ao221 t165.length co221)) (fun _ h_ => h_.1)))); (case side2 => exact (Kd.R_reads' HO_104001.out).2.1); (case side3 => refine (Kd.R_reads' (e := 63) (base := w.heap.size) (ok := fun k_ => (((some k_ ≠ (.slice Ao45 t110.length co45 : Value).ownBlock ∧ (some k_ ≠ (.slice Ao50 t115.length co50 : Value).ownBlock ∧ (some k_ ≠ (.slice Ao74 t126.length co74 : Value).ownBlock ∧ (some k_ ≠ (.slice Ao84 t132.length co84 : Value).ownBlock ∧ (some k_ ≠ (.slice Ao146 t146.length co146 : Value).ownBlock ∧ some k_ ≠ (.slice Ao158 t152.length co158 : Value).ownBlock))))) ∧ some k_ ≠ (.slice Ao203 t159.length co203 : Value).ownBlock) ∧ some k_ ≠ (.slice Ao221 t165.length co221 : Value).ownBlock)) (n := t120.length) (c := co54) ?_).2.2; exact (by (with_reducible repeat (first | apply Kd.R_alloc | apply Kd.R_drewN | apply Kd.R_drew)); exact (Kd.R_mono (qz HO_105001 BK169 (by decide) (.bool t164) (.slice Ao221 t165.length co221)) (fun _ h_ => h_.1)))); (case side4 => exact (Kd.R_reads' HO_105001.out).2.1); rintro e w227 ⟨v172, rfl, ho0, hb⟩; refine ⟨_, rfl, ?_⟩; have n0_ := Aside0.mk (Kd.R_elder' (by (with_reducible repeat (first | apply Kd.R_alloc | apply Kd.R_drewN | apply Kd.R_drew)); exact (Kd.R_mono (qz HO_103001 BK169 (by decide) (.bool t164) (.slice Ao221 t165.length co221)) (fun _ h_ => h_.1))) (Kd.R_base ho0) hb); have n1_ := Aside0.mk (Kd.R_elder' (by (with_reducible repeat (first | apply Kd.R_alloc | apply Kd.R_drewN | apply Kd.R_drew)); exact (Kd.R_mono (qz HO_104001 BK169 (by decide) (.bool t164) (.slice Ao221 t165.length co221)) (fun _ h_ => h_.1))) (Kd.R_base ho0) hb); have n2_ := Aside0.mk (Kd.R_elder' (by (with_reducible repeat (first | apply Kd.R_alloc | apply Kd.R_drewN | apply Kd.R_drew)); exact (Kd.R_mono (qz HO_105001 BK169 (by decide) (.bool t164) (.slice Ao221 t165.length co221)) (fun _ h_ => h_.1))) (Kd.R_base ho0) hb); have n3_ := Aside0.mk (Kd.R_elder' (by (with_reducible repeat (first | apply Kd.R_alloc | apply Kd.R_drewN | apply Kd.R_drew)); exact (Kd.R_mono (qz HO_131001 BK169 (by decide) (.bool t164) (.slice Ao221 t165.length co221)) (fun _ h_ => h_.1))) (Kd.R_base ho0) hb); have n4_ := Aside0.mk (Kd.R_elder' (by (with_reducible repeat (first | apply Kd.R_alloc | apply Kd.R_drewN | apply Kd.R_drew)); exact (Kd.R_mono (qz HO_137001 BK169 (by decide) (.bool t164) (.slice Ao221 t165.length co221)) (fun _ h_ => h_.1))) (Kd.R_base ho0) hb); have n5_ := Aside0.mk (Kd.R_elder' (by (with_reducible repeat (first | apply Kd.R_alloc | apply Kd.R_drewN | apply Kd.R_drew)); exact (Kd.R_mono (qz HO_151001 BK169 (by decide) (.bool t164) (.slice Ao221 t165.length co221)) (fun _ h_ => h_.1))) (Kd.R_base ho0) hb); have n6_ := Aside0.mk (Kd.R_elder' (by (with_reducible repeat (first | apply Kd.R_alloc | apply Kd.R_drewN | apply Kd.R_drew)); exact (Kd.R_mono (qz HO_157001 BK169 (by decide) (.bool t164) (.slice Ao221 t165.length co221)) (fun _ h_ => h_.1))) (Kd.R_base ho0) hb); have n7_ := Aside0.mk (Kd.R_elder' (by (with_reducible repeat (first | apply Kd.R_alloc | apply Kd.R_drewN | apply Kd.R_drew)); exact (Kd.R_mono (qz HO161 BK169 (by decide) (.bool t164) (.slice Ao221 t165.length co221)) (fun _ h_ => h_.1))) (Kd.R_base ho0) hb); have n8_ := Aside0.mk (Kd.R_elder' (by (with_reducible repeat (first | apply Kd.R_alloc | apply Kd.R_drewN | apply Kd.R_drew)); exact (Kd.R_mono (qz HO167 BK169 (by decide) (.bool t164) (.slice Ao221 t165.length co221)) (fun _ h_ => h_.1))) (Kd.R_base ho0) hb); have n9_ := Aside0.mk (Kd.R_lower (Kd.R_new' (Kd.R_new' (Kd.R_new' (Kd.R_new' (Kd.R_new' (Kd.R_new' (Kd.R_new' (Kd.R_new' (Kd.R_new' ho0 (Kd.R_lt (by (with_reducible repeat (first | apply Kd.R_alloc | apply Kd.R_drewN | apply Kd.R_drew)); exact (Kd.R_mono (qz HO_103001 BK169 (by decide) (.bool t164) (.slice Ao221 t165.length co221)) (fun _ h_ => h_.1))))) (Kd.R_lt (by (with_reducible repeat (first | apply Kd.R_alloc | apply Kd.R_drewN | apply Kd.R_drew)); exact (Kd.R_mono (qz HO_104001 BK169 (by decide) (.bool t164) (.slice Ao221 t165.length co221)) (fun _ h_ => h_.1))))) (Kd.R_lt (by (with_reducible repeat (first | apply Kd.R_alloc | apply Kd.R_drewN | apply Kd.R_drew)); exact (Kd.R_mono (qz HO_105001 BK169 (by decide) (.bool t164) (.slice Ao221 t165.length co221)) (fun _ h_ => h_.1))))) (Kd.R_lt (by (with_reducible repeat (first | apply Kd.R_alloc | apply Kd.R_drewN | apply Kd.R_drew)); exact (Kd.R_mono (qz HO_131001 BK169 (by decide) (.bool t164) (.slice Ao221 t165.length co221)) (fun _ h_ => h_.1))))) (Kd.R_lt (by (with_reducible repeat (first | apply Kd.R_alloc | apply Kd.R_drewN | apply Kd.R_drew)); exact (Kd.R_mono (qz HO_137001 BK169 (by decide) (.bool t164) (.slice Ao221 t165.length co221)) (fun _ h_ => h_.1))))) (Kd.R_lt (by (with_reducible repeat (first | apply Kd.R_alloc | apply Kd.R_drewN | apply Kd.R_drew)); exact (Kd.R_mono (qz HO_151001 BK169 (by decide) (.bool t164) (.slice Ao221 t165.length co221)) (fun _ h_ => h_.1))))) (Kd.R_lt (by (with_reducible repeat (first | apply Kd.R_alloc | apply Kd.R_drewN | apply Kd.R_drew)); exact (Kd.R_mono (qz HO_157001 BK169 (by decide) (.bool t164) (.slice Ao221 t165.length co221)) (fun _ h_ => h_.1))))) (Kd.R_lt (by (with_reducible repeat (first | apply Kd.R_alloc | apply Kd.R_drewN | apply Kd.R_drew)); exact (Kd.R_mono (qz HO161 BK169 (by decide) (.bool t164) (.slice Ao221 t165.length co221)) (fun _ h_ => h_.1))))) (Kd.R_lt (by (with_reducible repeat (first | apply Kd.R_alloc | apply Kd.R_drewN | apply Kd.R_drew)); exact (Kd.R_mono (qz HO167 BK169 (by decide) (.bool t164) (.slice Ao221 t165.length co221)) (fun _ h_ => h_.1))))) (below_size (by repeat (first | (with_reducible first | exact HB.out | apply below_alloc | apply pw_below_drewN | apply below_drew1 | refine qs ?_ (by assumption)) | exact HB.out)))); have n10_ := Aside0.mk (blk_below (g := gb102) (o := .cells #[.bool t109, .slice Ao45 t110.length co45] 25 (0, 0)) (by (with_reducible repeat (first | refine qN ?_ _ | refine qW ?_ | refine qA ?_ _)); refine qf ?_ NB102_169; (with_reducible repeat (first | refine qN ?_ _ | refine qW ?_ | refine qA ?_ _)); exact BK102.out) hb); have n11_ := Aside0.mk (blk_below (g := gb103) (o := .cells #[.bool t114, .slice Ao50 t115.length co50] 25 (0, 0)) (by (with_reducible repeat (first | refine qN ?_ _ | refine qW ?_ | refine qA ?_ _)); refine qf ?_ NB103_169; (with_reducible repeat (first | refine qN ?_ _ | refine qW ?_ | refine qA ?_ _)); exact BK103.out) hb); have n12_ := Aside0.mk (blk_below (g := gb104) (o := .cells #[.bool t119, .slice Ao54 t120.length co54] 25 (0, 0)) (by (with_reducible repeat (first | refine qN ?_ _ | refine qW ?_ | refine qA ?_ _)); refine qf ?_ NB104_169; (with_reducible repeat (first | refine qN ?_ _ | refine qW ?_ | refine qA ?_ _)); exact BK104.out) hb); have n13_ := Aside0.mk (blk_below (g := gb130) (o := .cells #[.bool t125, .slice Ao74 t126.length co74] 25 (0, 0)) (by (with_reducible repeat (first | refine qN ?_ _ | refine qW ?_ | refine qA ?_ _)); refine qf ?_ NB130_169; (with_reducible repeat (first | refine qN ?_ _ | refine qW ?_ | refine qA ?_ _)); exact BK130.out) hb); have n14_ := Aside0.mk (blk_below (g := gb136) (o := .cells #[.bool t131, .slice Ao84 t132.length co84] 25 (0, 0)) (by (with_reducible repeat (first | refine qN ?_ _ | refine qW ?_ | refine qA ?_ _)); refine qf ?_ NB136_169; (with_reducible repeat (first | refine qN ?_ _ | refine qW ?_ | refine qA ?_ _)); exact BK136.out) hb); have n15_ := Aside0.mk (blk_below (g := gb150) (o := .cells #[.bool t145, .slice Ao146 t146.length co146] 25 (0, 0)) (by (with_reducible repeat (first | refine qN ?_ _ | refine qW ?_ | refine qA ?_ _)); refine qf ?_ NB150_169; (with_reducible repeat (first | refine qN ?_ _ | refine qW ?_ | refine qA ?_ _)); exact BK150.out) hb); have n16_ := Aside0.mk (blk_below (g := gb156) (o := .cells #[.bool t151, .slice Ao158 t152.length co158] 25 (0, 0)) (by (with_reducible repeat (first | refine qN ?_ _ | refine qW ?_ | refine qA ?_ _)); refine qf ?_ NB156_169; (with_reducible repeat (first | refine qN ?_ _ | refine qW ?_ | refine qA ?_ _)); exact BK156.out) hb); have n17_ := Aside0.mk (blk_below (g := gb163) (o := .cells #[.bool t158, .slice Ao203 t159.length co203] 25 (0, 0)) (by (with_reducible repeat (first | refine qN ?_ _ | refine qW ?_ | refine qA ?_ _)); refine qf ?_ NB163_169; (with_reducible repeat (first | refine qN ?_ _ | refine qW ?_ | refine qA ?_ _)); exact BK163.out) hb); have n18_ := Aside0.mk (blk_below (g := gb169) (o := .cells #[.bool t164, .slice Ao221 t165.length co221] 25 (0, 0)) (by (with_reducible repeat (first | refine qN ?_ _ | refine qW ?_ | refine qA ?_ _)); refine blk_put (cs := #[.bool t164, .slice none 0 0]) ?_ 1 _ rfl; (with_reducible repeat (first | refine qN ?_ _ | refine qW ?_ | refine qA ?_ _)); refine blk_put (cs := #[.bool false, .slice none 0 0]) ?_ 0 _ rfl; (with_reducible repeat (first | refine qN ?_ _ | refine qW ?_ | refine qA ?_ _)); exact BK169.out) hb); have n19_ := Aside0.mk (below_step (by repeat (first | (with_reducible first | exact HB.out | apply below_alloc | apply pw_below_drewN | apply below_drew1 | refine qs ?_ (by assumption)) | exact HB.out)) hb); clear HO_103001; clear HO_104001; clear HO_105001; clear HO_131001; clear HO_137001; clear HO_151001; clear HO_157001; clear HO161; clear HO167; clear BK102; clear BK103; clear BK104; clear BK130; clear BK136; clear BK150; clear BK156; clear BK163; clear BK169; clear HB; have HO_103001 := n0_; have HO_104001 := n1_; have HO_105001 := n2_; have HO_131001 := n3_; have HO_137001 := n4_; have HO_151001 := n5_; have HO_157001 := n6_; have HO161 := n7_; have HO167 := n8_; have HO173 := n9_; have BK102 := n10_; have BK103 := n11_; have BK104 := n12_; have BK130 := n13_; have BK136 := n14_; have BK150 := n15_; have BK156 := n16_; have BK163 := n17_; have BK169 := n18_; have HB := n19_; clear n0_ n1_ n2_ n3_ n4_ n5_ n6_ n7_ n8_ n9_ n10_ n11_ n12_ n13_ n14_ n15_ n16_ n17_ n18_ n19_; (try clear hb); (try clear hb2); (try clear hk); (try clear hi); (try clear ho0)) | ((with_reducible refine gate_dst (N := 22) rfl ?_); refine box_event ?hg (N := 22) ?hd (cs := #[.bool false, .slice none 0 0]) (t := 25) ?hr ?_; (case hd => rfl); (case hg => rfl); (case hr => first | (go_simp; done) | (go_simp; rfl)); intro gb175 hg w228 hbox hb; replace HO_103001 := qr HO_103001 hb; replace HO_104001 := qr HO_104001 hb; replace HO_105001 := qr HO_105001 hb; replace HO_131001 := qr HO_131001 hb; replace HO_137001 := qr HO_137001 hb; replace HO_151001 := qr HO_151001 hb; replace HO_157001 := qr HO_157001 hb; replace HO161 := qr HO161 hb; replace HO167 := qr HO167 hb; replace HO173 := qr HO173 hb; have BK175 := Aside0.mk (hbox); have GW175 := qg hg (by repeat (first | (with_reducible first | exact HB.out | apply below_alloc | apply pw_below_drewN | apply below_drew1 | refine qs ?_ (by assumption)) | exact HB.out)); have GE175 := qg hg (by repeat (first | (with_reducible first | exact HB.out | apply below_alloc | apply pw_below_drewN | apply below_drew1 | refine qs ?_ (by assumption)) | exact HB.out)); replace HB := Aside0.mk (below_step (by repeat (first | (with_reducible first | exact HB.out | apply below_alloc | apply pw_below_drewN | apply below_drew1 | refine qs ?_ (by assumption)) | exact HB.out)) hb); have NB102_175 := qn BK102 hg; have NB175_102 := qm BK102 hg; replace BK102 := qb BK102 hb; have NB103_175 := qn BK103 hg; have NB175_103 := qm BK103 hg; replace BK103 := qb BK103 hb; have NB104_175 := qn BK104 hg; have NB175_104 := qm BK104 hg; replace BK104 := qb BK104 hb; have NB130_175 := qn BK130 hg; have NB175_130 := qm BK130 hg; replace BK130 := qb BK130 hb; have NB136_175 := qn BK136 hg; have NB175_136 := qm BK136 hg; replace BK136 := qb BK136 hb; have NB150_175 := qn BK150 hg; have NB175_150 := qm BK150 hg; replace BK150 := qb BK150 hb; have NB156_175 := qn BK156 hg; have NB175_156 := qm BK156 hg; replace BK156 := qb BK156 hb; have NB163_175 := qn BK163 hg; have NB175_163 := qm BK163 hg; replace BK163 := qb BK163 hb; have NB169_175 := qn BK169 hg; have NB175_169 := qm BK169 hg; replace BK169 := qb BK169 hb; clear hb hbox hg; have hnb229 := NB175_102.out; have hnc229 := NB102_175.out; have hnb230 := NB175_103.out; have hnc230 := NB103_175.out; have hnb231 := NB175_104.out; have hnc231 := NB104_175.out; have hnb232 := NB175_130.out; have hnc232 := NB130_175.out; have hnb233 := NB175_136.out; have hnc233 := NB136_175.out; have hnb234 := NB175_150.out; have hnc234 := NB150_175.out; have hnb235 := NB175_156.out; have hnc235 := NB156_175.out; have hnb236 := NB175_163.out; have hnc236 := NB163_175.out; have hnb237 := NB175_169.out; have hnc237 := NB169_175.out; have hcz238_0 : w228.cell? ⟨gb175, 0, none⟩ = some (.bool false) := (blk_cell BK175.out 0).trans rfl; have hcz238_1 : w228.cell? ⟨gb175, 1, none⟩ = some (.slice none 0 0) := (blk_cell BK175.out 1).trans rfl; have hfz238_0 := blk_frozen BK175.out 0; have hfz238_1 := blk_frozen BK175.out 1; obtain ⟨Ao239, co239, eo239⟩ := Kd.R_slice HO173.out; subst eo239))
                              (try simp only [Act.put, List.setIfInBounds_toArray, List.set_cons_zero, List.set_cons_succ])
                              go_cut [152] (fun v152 wc => ∃ (kq : Nat) (x152_178 : Bool), v152 = .bool x152_178 ∧ Aside0 (morainelaw02_NumRing.j5 kq x152_178 t158 t159 t164 t165 t170 t171 = some r) ∧ Aside0 (kq ≤ kj127) ∧ Aside0 (Kd.R (Kd.int .u32) 63 wc w.heap.size (fun k_ => some k_ ≠ ((.slice Ao50 t115.length co50) : Value).ownBlock ∧ some k_ ≠ ((.slice Ao54 t120.length co54) : Value).ownBlock ∧ some k_ ≠ ((.slice Ao74 t126.length co74) : Value).ownBlock ∧ some k_ ≠ ((.slice Ao84 t132.length co84) : Value).ownBlock ∧ some k_ ≠ ((.slice Ao146 t146.length co146) : Value).ownBlock ∧ some k_ ≠ ((.slice Ao158 t152.length co158) : Value).ownBlock ∧ some k_ ≠ ((.slice Ao203 t159.length co203) : Value).ownBlock ∧ some k_ ≠ ((.slice Ao221 t165.length co221) : Value).ownBlock ∧ some k_ ≠ ((.slice Ao239 t171.length co239) : Value).ownBlock) (.slice Ao45 t110.length co45) t110) ∧ Aside0 (Kd.R (Kd.int .u32) 63 wc w.heap.size (fun k_ => some k_ ≠ ((.slice Ao45 t110.length co45) : Value).ownBlock ∧ some k_ ≠ ((.slice Ao54 t120.length co54) : Value).ownBlock ∧ some k_ ≠ ((.slice Ao74 t126.length co74) : Value).ownBlock ∧ some k_ ≠ ((.slice Ao84 t132.length co84) : Value).ownBlock ∧ some k_ ≠ ((.slice Ao146 t146.length co146) : Value).ownBlock ∧ some k_ ≠ ((.slice Ao158 t152.length co158) : Value).ownBlock ∧ some k_ ≠ ((.slice Ao203 t159.length co203) : Value).ownBlock ∧ some k_ ≠ ((.slice Ao221 t165.length co221) : Value).ownBlock ∧ some k_ ≠ ((.slice Ao239 t171.length co239) : Value).ownBlock) (.slice Ao50 t115.length co50) t115) ∧ Aside0 (Kd.R (Kd.int .u32) 63 wc w.heap.size (fun k_ => some k_ ≠ ((.slice Ao45 t110.length co45) : Value).ownBlock ∧ some k_ ≠ ((.slice Ao50 t115.length co50) : Value).ownBlock ∧ some k_ ≠ ((.slice Ao74 t126.length co74) : Value).ownBlock ∧ some k_ ≠ ((.slice Ao84 t132.length co84) : Value).ownBlock ∧ some k_ ≠ ((.slice Ao146 t146.length co146) : Value).ownBlock ∧ some k_ ≠ ((.slice Ao158 t152.length co158) : Value).ownBlock ∧ some k_ ≠ ((.slice Ao203 t159.length co203) : Value).ownBlock ∧ some k_ ≠ ((.slice Ao221 t165.length co221) : Value).ownBlock ∧ some k_ ≠ ((.slice Ao239 t171.length co239) : Value).ownBlock) (.slice Ao54 t120.length co54) t120) ∧ Aside0 (Kd.R (Kd.int .u32) 63 wc w.heap.size (fun k_ => some k_ ≠ ((.slice Ao45 t110.length co45) : Value).ownBlock ∧ some k_ ≠ ((.slice Ao50 t115.length co50) : Value).ownBlock ∧ some k_ ≠ ((.slice Ao54 t120.length co54) : Value).ownBlock ∧ some k_ ≠ ((.slice Ao84 t132.length co84) : Value).ownBlock ∧ some k_ ≠ ((.slice Ao146 t146.length co146) : Value).ownBlock ∧ some k_ ≠ ((.slice Ao158 t152.length co158) : Value).ownBlock ∧ some k_ ≠ ((.slice Ao203 t159.length co203) : Value).ownBlock ∧ some k_ ≠ ((.slice Ao221 t165.length co221) : Value).ownBlock ∧ some k_ ≠ ((.slice Ao239 t171.length co239) : Value).ownBlock) (.slice Ao74 t126.length co74) t126) ∧ Aside0 (Kd.R (Kd.int .u32) 63 wc w.heap.size (fun k_ => some k_ ≠ ((.slice Ao45 t110.length co45) : Value).ownBlock ∧ some k_ ≠ ((.slice Ao50 t115.length co50) : Value).ownBlock ∧ some k_ ≠ ((.slice Ao54 t120.length co54) : Value).ownBlock ∧ some k_ ≠ ((.slice Ao74 t126.length co74) : Value).ownBlock ∧ some k_ ≠ ((.slice Ao146 t146.length co146) : Value).ownBlock ∧ some k_ ≠ ((.slice Ao158 t152.length co158) : Value).ownBlock ∧ some k_ ≠ ((.slice Ao203 t159.length co203) : Value).ownBlock ∧ some k_ ≠ ((.slice Ao221 t165.length co221) : Value).ownBlock ∧ some k_ ≠ ((.slice Ao239 t171.length co239) : Value).ownBlock) (.slice Ao84 t132.length co84) t132) ∧ Aside0 (Kd.R (Kd.int .u32) 63 wc w.heap.size (fun k_ => some k_ ≠ ((.slice Ao45 t110.length co45) : Value).ownBlock ∧ some k_ ≠ ((.slice Ao50 t115.length co50) : Value).ownBlock ∧ some k_ ≠ ((.slice Ao54 t120.length co54) : Value).ownBlock ∧ some k_ ≠ ((.slice Ao74 t126.length co74) : Value).ownBlock ∧ some k_ ≠ ((.slice Ao84 t132.length co84) : Value).ownBlock ∧ some k_ ≠ ((.slice Ao158 t152.length co158) : Value).ownBlock ∧ some k_ ≠ ((.slice Ao203 t159.length co203) : Value).ownBlock ∧ some k_ ≠ ((.slice Ao221 t165.length co221) : Value).ownBlock ∧ some k_ ≠ ((.slice Ao239 t171.length co239) : Value).ownBlock) (.slice Ao146 t146.length co146) t146) ∧ Aside0 (Kd.R (Kd.int .u32) 63 wc w.heap.size (fun k_ => some k_ ≠ ((.slice Ao45 t110.length co45) : Value).ownBlock ∧ some k_ ≠ ((.slice Ao50 t115.length co50) : Value).ownBlock ∧ some k_ ≠ ((.slice Ao54 t120.length co54) : Value).ownBlock ∧ some k_ ≠ ((.slice Ao74 t126.length co74) : Value).ownBlock ∧ some k_ ≠ ((.slice Ao84 t132.length co84) : Value).ownBlock ∧ some k_ ≠ ((.slice Ao146 t146.length co146) : Value).ownBlock ∧ some k_ ≠ ((.slice Ao203 t159.length co203) : Value).ownBlock ∧ some k_ ≠ ((.slice Ao221 t165.length co221) : Value).ownBlock ∧ some k_ ≠ ((.slice Ao239 t171.length co239) : Value).ownBlock) (.slice Ao158 t152.length co158) t152) ∧ Aside0 (Kd.R (Kd.int .u32) 63 wc w.heap.size (fun k_ => some k_ ≠ ((.slice Ao45 t110.length co45) : Value).ownBlock ∧ some k_ ≠ ((.slice Ao50 t115.length co50) : Value).ownBlock ∧ some k_ ≠ ((.slice Ao54 t120.length co54) : Value).ownBlock ∧ some k_ ≠ ((.slice Ao74 t126.length co74) : Value).ownBlock ∧ some k_ ≠ ((.slice Ao84 t132.length co84) : Value).ownBlock ∧ some k_ ≠ ((.slice Ao146 t146.length co146) : Value).ownBlock ∧ some k_ ≠ ((.slice Ao158 t152.length co158) : Value).ownBlock ∧ some k_ ≠ ((.slice Ao221 t165.length co221) : Value).ownBlock ∧ some k_ ≠ ((.slice Ao239 t171.length co239) : Value).ownBlock) (.slice Ao203 t159.length co203) t159) ∧ Aside0 (Kd.R (Kd.int .u32) 63 wc w.heap.size (fun k_ => some k_ ≠ ((.slice Ao45 t110.length co45) : Value).ownBlock ∧ some k_ ≠ ((.slice Ao50 t115.length co50) : Value).ownBlock ∧ some k_ ≠ ((.slice Ao54 t120.length co54) : Value).ownBlock ∧ some k_ ≠ ((.slice Ao74 t126.length co74) : Value).ownBlock ∧ some k_ ≠ ((.slice Ao84 t132.length co84) : Value).ownBlock ∧ some k_ ≠ ((.slice Ao146 t146.length co146) : Value).ownBlock ∧ some k_ ≠ ((.slice Ao158 t152.length co158) : Value).ownBlock ∧ some k_ ≠ ((.slice Ao203 t159.length co203) : Value).ownBlock ∧ some k_ ≠ ((.slice Ao239 t171.length co239) : Value).ownBlock) (.slice Ao221 t165.length co221) t165) ∧ Aside0 (Kd.R (Kd.int .u32) 63 wc w.heap.size (fun k_ => some k_ ≠ ((.slice Ao45 t110.length co45) : Value).ownBlock ∧ some k_ ≠ ((.slice Ao50 t115.length co50) : Value).ownBlock ∧ some k_ ≠ ((.slice Ao54 t120.length co54) : Value).ownBlock ∧ some k_ ≠ ((.slice Ao74 t126.length co74) : Value).ownBlock ∧ some k_ ≠ ((.slice Ao84 t132.length co84) : Value).ownBlock ∧ some k_ ≠ ((.slice Ao146 t146.length co146) : Value).ownBlock ∧ some k_ ≠ ((.slice Ao158 t152.length co158) : Value).ownBlock ∧ some k_ ≠ ((.slice Ao203 t159.length co203) : Value).ownBlock ∧ some k_ ≠ ((.slice Ao221 t165.length co221) : Value).ownBlock) (.slice Ao239 t171.length co239) t171) ∧ Aside0 (wc.heap[gb102]? = some (.cells #[.bool t109, (.slice Ao45 t110.length co45)] 25 (0, 0))) ∧ Aside0 (wc.heap[gb103]? = some (.cells #[.bool t114, (.slice Ao50 t115.length co50)] 25 (0, 0))) ∧ Aside0 (wc.heap[gb104]? = some (.cells #[.bool t119, (.slice Ao54 t120.length co54)] 25 (0, 0))) ∧ Aside0 (wc.heap[gb130]? = some (.cells #[.bool t125, (.slice Ao74 t126.length co74)] 25 (0, 0))) ∧ Aside0 (wc.heap[gb136]? = some (.cells #[.bool t131, (.slice Ao84 t132.length co84)] 25 (0, 0))) ∧ Aside0 (wc.heap[gb150]? = some (.cells #[.bool t145, (.slice Ao146 t146.length co146)] 25 (0, 0))) ∧ Aside0 (wc.heap[gb156]? = some (.cells #[.bool t151, (.slice Ao158 t152.length co158)] 25 (0, 0))) ∧ Aside0 (wc.heap[gb163]? = some (.cells #[.bool t158, (.slice Ao203 t159.length co203)] 25 (0, 0))) ∧ Aside0 (wc.heap[gb169]? = some (.cells #[.bool t164, (.slice Ao221 t165.length co221)] 25 (0, 0))) ∧ Aside0 (wc.heap[gb175]? = some (.cells #[.bool t170, (.slice Ao239 t171.length co239)] 25 (0, 0))) ∧ Aside0 (Below w.heap.size w wc))
                              case first =>
                                have H := HC179.out
                                clear HC179
                                by_cases c240 : t129 = 0
                                · rw [if_pos c240] at H
                                  have c240b0 : (t129 == 0) = true := beq_iff_eq.mpr c240
                                  have c240b1 : (t129 != 0) = false := bne_eq_false_iff_eq.mpr c240
                                  clear c240
                                  (first | rw [c240b0] | (simp only [i64_w, i32_w]; rw [c240b0]) | skip)
                                  by_cases c241 : t162 = 0
                                  · rw [if_pos c241] at H
                                    have c241b0 : (t162 == 0) = true := beq_iff_eq.mpr c241
                                    have c241b1 : (t162 != 0) = false := bne_eq_false_iff_eq.mpr c241
                                    clear c241
                                    by_cases c242 : t168 = 0
                                    · rw [if_pos c242] at H
                                      have c242b0 : (t168 == 0) = true := beq_iff_eq.mpr c242
                                      have c242b1 : (t168 != 0) = false := bne_eq_false_iff_eq.mpr c242
                                      clear c242
                                      have H' := Aside0.mk H
                                      clear H
                                      go_wp2
                                      go_meet
                                      case rel => exact ⟨_, ((t174 != 0)), (by first | rfl | (simp; done) | (simp [*]; done)), H', ⟨by have := HJ3.out; have := HJ38.out; have := HJ61.out; have := HJ97.out; have := HJ127.out; first | omega | exact Nat.le_refl _⟩, ⟨by (with_reducible repeat (first | apply Kd.R_alloc | apply Kd.R_drewN | apply Kd.R_drew)); exact Kd.R_mono (qz HO_103001 BK175 (by decide) (.bool t170) (.slice Ao239 t171.length co239)) (fun _ hk => ⟨hk.1.1.1.1.1, ⟨hk.1.1.1.1.2.1, ⟨hk.1.1.1.1.2.2.1, ⟨hk.1.1.1.1.2.2.2.1, ⟨hk.1.1.1.1.2.2.2.2.1, ⟨hk.1.1.1.1.2.2.2.2.2, ⟨hk.1.1.1.2, ⟨hk.1.1.2, hk.1.2⟩⟩⟩⟩⟩⟩⟩⟩)⟩, ⟨by (with_reducible repeat (first | apply Kd.R_alloc | apply Kd.R_drewN | apply Kd.R_drew)); exact Kd.R_mono (qz HO_104001 BK175 (by decide) (.bool t170) (.slice Ao239 t171.length co239)) (fun _ hk => ⟨hk.1.1.1.1.1, ⟨hk.1.1.1.1.2.1, ⟨hk.1.1.1.1.2.2.1, ⟨hk.1.1.1.1.2.2.2.1, ⟨hk.1.1.1.1.2.2.2.2.1, ⟨hk.1.1.1.1.2.2.2.2.2, ⟨hk.1.1.1.2, ⟨hk.1.1.2, hk.1.2⟩⟩⟩⟩⟩⟩⟩⟩)⟩, ⟨by (with_reducible repeat (first | apply Kd.R_alloc | apply Kd.R_drewN | apply Kd.R_drew)); exact Kd.R_mono (qz HO_105001 BK175 (by decide) (.bool t170) (.slice Ao239 t171.length co239)) (fun _ hk => ⟨hk.1.1.1.1.1, ⟨hk.1.1.1.1.2.1, ⟨hk.1.1.1.1.2.2.1, ⟨hk.1.1.1.1.2.2.2.1, ⟨hk.1.1.1.1.2.2.2.2.1, ⟨hk.1.1.1.1.2.2.2.2.2, ⟨hk.1.1.1.2, ⟨hk.1.1.2, hk.1.2⟩⟩⟩⟩⟩⟩⟩⟩)⟩, ⟨by (with_reducible repeat (first | apply Kd.R_alloc | apply Kd.R_drewN | apply Kd.R_drew)); exact Kd.R_mono (qz HO_131001 BK175 (by decide) (.bool t170) (.slice Ao239 t171.length co239)) (fun _ hk => ⟨hk.1.1.1.1.1, ⟨hk.1.1.1.1.2.1, ⟨hk.1.1.1.1.2.2.1, ⟨hk.1.1.1.1.2.2.2.1, ⟨hk.1.1.1.1.2.2.2.2.1, ⟨hk.1.1.1.1.2.2.2.2.2, ⟨hk.1.1.1.2, ⟨hk.1.1.2, hk.1.2⟩⟩⟩⟩⟩⟩⟩⟩)⟩, ⟨by (with_reducible repeat (first | apply Kd.R_alloc | apply Kd.R_drewN | apply Kd.R_drew)); exact Kd.R_mono (qz HO_137001 BK175 (by decide) (.bool t170) (.slice Ao239 t171.length co239)) (fun _ hk => ⟨hk.1.1.1.1.1, ⟨hk.1.1.1.1.2.1, ⟨hk.1.1.1.1.2.2.1, ⟨hk.1.1.1.1.2.2.2.1, ⟨hk.1.1.1.1.2.2.2.2.1, ⟨hk.1.1.1.1.2.2.2.2.2, ⟨hk.1.1.1.2, ⟨hk.1.1.2, hk.1.2⟩⟩⟩⟩⟩⟩⟩⟩)⟩, ⟨by (with_reducible repeat (first | apply Kd.R_alloc | apply Kd.R_drewN | apply Kd.R_drew)); exact Kd.R_mono (qz HO_151001 BK175 (by decide) (.bool t170) (.slice Ao239 t171.length co239)) (fun _ hk => ⟨hk.1.1.1.1.1, ⟨hk.1.1.1.1.2.1, ⟨hk.1.1.1.1.2.2.1, ⟨hk.1.1.1.1.2.2.2.1, ⟨hk.1.1.1.1.2.2.2.2.1, ⟨hk.1.1.1.1.2.2.2.2.2, ⟨hk.1.1.1.2, ⟨hk.1.1.2, hk.1.2⟩⟩⟩⟩⟩⟩⟩⟩)⟩, ⟨by (with_reducible repeat (first | apply Kd.R_alloc | apply Kd.R_drewN | apply Kd.R_drew)); exact Kd.R_mono (qz HO_157001 BK175 (by decide) (.bool t170) (.slice Ao239 t171.length co239)) (fun _ hk => ⟨hk.1.1.1.1.1, ⟨hk.1.1.1.1.2.1, ⟨hk.1.1.1.1.2.2.1, ⟨hk.1.1.1.1.2.2.2.1, ⟨hk.1.1.1.1.2.2.2.2.1, ⟨hk.1.1.1.1.2.2.2.2.2, ⟨hk.1.1.1.2, ⟨hk.1.1.2, hk.1.2⟩⟩⟩⟩⟩⟩⟩⟩)⟩, ⟨by (with_reducible repeat (first | apply Kd.R_alloc | apply Kd.R_drewN | apply Kd.R_drew)); exact Kd.R_mono (qz HO161 BK175 (by decide) (.bool t170) (.slice Ao239 t171.length co239)) (fun _ hk => ⟨hk.1.1.1.1.1.1.1.1.1.2, ⟨hk.1.1.1.1.1.1.1.1.2, ⟨hk.1.1.1.1.1.1.1.2, ⟨hk.1.1.1.1.1.1.2, ⟨hk.1.1.1.1.1.2, ⟨hk.1.1.1.1.2, ⟨hk.1.1.1.2, ⟨hk.1.1.2, hk.1.2⟩⟩⟩⟩⟩⟩⟩⟩)⟩, ⟨by (with_reducible repeat (first | apply Kd.R_alloc | apply Kd.R_drewN | apply Kd.R_drew)); exact Kd.R_mono (qz HO167 BK175 (by decide) (.bool t170) (.slice Ao239 t171.length co239)) (fun _ hk => ⟨hk.1.1.1.1.1.1.1.1.1.2, ⟨hk.1.1.1.1.1.1.1.1.2, ⟨hk.1.1.1.1.1.1.1.2, ⟨hk.1.1.1.1.1.1.2, ⟨hk.1.1.1.1.1.2, ⟨hk.1.1.1.1.2, ⟨hk.1.1.1.2, ⟨hk.1.1.2, hk.1.2⟩⟩⟩⟩⟩⟩⟩⟩)⟩, ⟨by (with_reducible repeat (first | apply Kd.R_alloc | apply Kd.R_drewN | apply Kd.R_drew)); exact Kd.R_mono (qz HO173 BK175 (by decide) (.bool t170) (.slice Ao239 t171.length co239)) (fun _ hk => ⟨hk.1.1.1.1.1.1.1.1.1.2, ⟨hk.1.1.1.1.1.1.1.1.2, ⟨hk.1.1.1.1.1.1.1.2, ⟨hk.1.1.1.1.1.1.2, ⟨hk.1.1.1.1.1.2, ⟨hk.1.1.1.1.2, ⟨hk.1.1.1.2, ⟨hk.1.1.2, hk.1.2⟩⟩⟩⟩⟩⟩⟩⟩)⟩, ⟨by (with_reducible repeat (first | refine qN ?_ _ | refine qW ?_ | refine qA ?_ _)); refine qf ?_ NB102_175; (with_reducible repeat (first | refine qN ?_ _ | refine qW ?_ | refine qA ?_ _)); exact BK102.out⟩, ⟨by (with_reducible repeat (first | refine qN ?_ _ | refine qW ?_ | refine qA ?_ _)); refine qf ?_ NB103_175; (with_reducible repeat (first | refine qN ?_ _ | refine qW ?_ | refine qA ?_ _)); exact BK103.out⟩, ⟨by (with_reducible repeat (first | refine qN ?_ _ | refine qW ?_ | refine qA ?_ _)); refine qf ?_ NB104_175; (with_reducible repeat (first | refine qN ?_ _ | refine qW ?_ | refine qA ?_ _)); exact BK104.out⟩, ⟨by (with_reducible repeat (first | refine qN ?_ _ | refine qW ?_ | refine qA ?_ _)); refine qf ?_ NB130_175; (with_reducible repeat (first | refine qN ?_ _ | refine qW ?_ | refine qA ?_ _)); exact BK130.out⟩, ⟨by (with_reducible repeat (first | refine qN ?_ _ | refine qW ?_ | refine qA ?_ _)); refine qf ?_ NB136_175; (with_reducible repeat (first | refine qN ?_ _ | refine qW ?_ | refine qA ?_ _)); exact BK136.out⟩, ⟨by (with_reducible repeat (first | refine qN ?_ _ | refine qW ?_ | refine qA ?_ _)); refine qf ?_ NB150_175; (with_reducible repeat (first | refine qN ?_ _ | refine qW ?_ | refine qA ?_ _)); exact BK150.out⟩, ⟨by (with_reducible repeat (first | refine qN ?_ _ | refine qW ?_ | refine qA ?_ _)); refine qf ?_ NB156_175; (with_reducible repeat (first | refine qN ?_ _ | refine qW ?_ | refine qA ?_ _)); exact BK156.out⟩, ⟨by (with_reducible repeat (first | refine qN ?_ _ | refine qW ?_ | refine qA ?_ _)); refine qf ?_ NB163_175; (with_reducible repeat (first | refine qN ?_ _ | refine qW ?_ | refine qA ?_ _)); exact BK163.out⟩, ⟨by (with_reducible repeat (first | refine qN ?_ _ | refine qW ?_ | refine qA ?_ _)); refine qf ?_ NB169_175; (with_reducible repeat (first | refine qN ?_ _ | refine qW ?_ | refine qA ?_ _)); exact BK169.out⟩, ⟨by (with_reducible repeat (first | refine qN ?_ _ | refine qW ?_ | refine qA ?_ _)); refine blk_put (cs := #[.bool t170, .slice none 0 0]) ?_ 1 _ rfl; (with_reducible repeat (first | refine qN ?_ _ | refine qW ?_ | refine qA ?_ _)); refine blk_put (cs := #[.bool false, .slice none 0 0]) ?_ 0 _ rfl; (with_reducible repeat (first | refine qN ?_ _ | refine qW ?_ | refine qA ?_ _)); exact BK175.out⟩, ⟨by repeat (first | (with_reducible first | exact HB.out | apply below_alloc | apply pw_below_drewN | apply below_drew1 | refine qs ?_ (by assumption)) | exact HB.out)⟩⟩
                                    · rw [if_neg c242] at H
                                      have c242b0 : (t168 == 0) = false := beq_eq_false_iff_ne.mpr c242
                                      have c242b1 : (t168 != 0) = true := bne_iff_ne.mpr c242
                                      have H' := Aside0.mk H
                                      clear H
                                      go_wp2
                                      go_meet
                                      case rel => exact ⟨_, (true), (by first | rfl | (simp; done) | (simp [*]; done)), H', ⟨by have := HJ3.out; have := HJ38.out; have := HJ61.out; have := HJ97.out; have := HJ127.out; first | omega | exact Nat.le_refl _⟩, ⟨by (with_reducible repeat (first | apply Kd.R_alloc | apply Kd.R_drewN | apply Kd.R_drew)); exact Kd.R_mono (qz HO_103001 BK175 (by decide) (.bool t170) (.slice Ao239 t171.length co239)) (fun _ hk => ⟨hk.1.1.1.1.1, ⟨hk.1.1.1.1.2.1, ⟨hk.1.1.1.1.2.2.1, ⟨hk.1.1.1.1.2.2.2.1, ⟨hk.1.1.1.1.2.2.2.2.1, ⟨hk.1.1.1.1.2.2.2.2.2, ⟨hk.1.1.1.2, ⟨hk.1.1.2, hk.1.2⟩⟩⟩⟩⟩⟩⟩⟩)⟩, ⟨by (with_reducible repeat (first | apply Kd.R_alloc | apply Kd.R_drewN | apply Kd.R_drew)); exact Kd.R_mono (qz HO_104001 BK175 (by decide) (.bool t170) (.slice Ao239 t171.length co239)) (fun _ hk => ⟨hk.1.1.1.1.1, ⟨hk.1.1.1.1.2.1, ⟨hk.1.1.1.1.2.2.1, ⟨hk.1.1.1.1.2.2.2.1, ⟨hk.1.1.1.1.2.2.2.2.1, ⟨hk.1.1.1.1.2.2.2.2.2, ⟨hk.1.1.1.2, ⟨hk.1.1.2, hk.1.2⟩⟩⟩⟩⟩⟩⟩⟩)⟩, ⟨by (with_reducible repeat (first | apply Kd.R_alloc | apply Kd.R_drewN | apply Kd.R_drew)); exact Kd.R_mono (qz HO_105001 BK175 (by decide) (.bool t170) (.slice Ao239 t171.length co239)) (fun _ hk => ⟨hk.1.1.1.1.1, ⟨hk.1.1.1.1.2.1, ⟨hk.1.1.1.1.2.2.1, ⟨hk.1.1.1.1.2.2.2.1, ⟨hk.1.1.1.1.2.2.2.2.1, ⟨hk.1.1.1.1.2.2.2.2.2, ⟨hk.1.1.1.2, ⟨hk.1.1.2, hk.1.2⟩⟩⟩⟩⟩⟩⟩⟩)⟩, ⟨by (with_reducible repeat (first | apply Kd.R_alloc | apply Kd.R_drewN | apply Kd.R_drew)); exact Kd.R_mono (qz HO_131001 BK175 (by decide) (.bool t170) (.slice Ao239 t171.length co239)) (fun _ hk => ⟨hk.1.1.1.1.1, ⟨hk.1.1.1.1.2.1, ⟨hk.1.1.1.1.2.2.1, ⟨hk.1.1.1.1.2.2.2.1, ⟨hk.1.1.1.1.2.2.2.2.1, ⟨hk.1.1.1.1.2.2.2.2.2, ⟨hk.1.1.1.2, ⟨hk.1.1.2, hk.1.2⟩⟩⟩⟩⟩⟩⟩⟩)⟩, ⟨by (with_reducible repeat (first | apply Kd.R_alloc | apply Kd.R_drewN | apply Kd.R_drew)); exact Kd.R_mono (qz HO_137001 BK175 (by decide) (.bool t170) (.slice Ao239 t171.length co239)) (fun _ hk => ⟨hk.1.1.1.1.1, ⟨hk.1.1.1.1.2.1, ⟨hk.1.1.1.1.2.2.1, ⟨hk.1.1.1.1.2.2.2.1, ⟨hk.1.1.1.1.2.2.2.2.1, ⟨hk.1.1.1.1.2.2.2.2.2, ⟨hk.1.1.1.2, ⟨hk.1.1.2, hk.1.2⟩⟩⟩⟩⟩⟩⟩⟩)⟩, ⟨by (with_reducible repeat (first | apply Kd.R_alloc | apply Kd.R_drewN | apply Kd.R_drew)); exact Kd.R_mono (qz HO_151001 BK175 (by decide) (.bool t170) (.slice Ao239 t171.length co239)) (fun _ hk => ⟨hk.1.1.1.1.1, ⟨hk.1.1.1.1.2.1, ⟨hk.1.1.1.1.2.2.1, ⟨hk.1.1.1.1.2.2.2.1, ⟨hk.1.1.1.1.2.2.2.2.1, ⟨hk.1.1.1.1.2.2.2.2.2, ⟨hk.1.1.1.2, ⟨hk.1.1.2, hk.1.2⟩⟩⟩⟩⟩⟩⟩⟩)⟩, ⟨by (with_reducible repeat (first | apply Kd.R_alloc | apply Kd.R_drewN | apply Kd.R_drew)); exact Kd.R_mono (qz HO_157001 BK175 (by decide) (.bool t170) (.slice Ao239 t171.length co239)) (fun _ hk => ⟨hk.1.1.1.1.1, ⟨hk.1.1.1.1.2.1, ⟨hk.1.1.1.1.2.2.1, ⟨hk.1.1.1.1.2.2.2.1, ⟨hk.1.1.1.1.2.2.2.2.1, ⟨hk.1.1.1.1.2.2.2.2.2, ⟨hk.1.1.1.2, ⟨hk.1.1.2, hk.1.2⟩⟩⟩⟩⟩⟩⟩⟩)⟩, ⟨by (with_reducible repeat (first | apply Kd.R_alloc | apply Kd.R_drewN | apply Kd.R_drew)); exact Kd.R_mono (qz HO161 BK175 (by decide) (.bool t170) (.slice Ao239 t171.length co239)) (fun _ hk => ⟨hk.1.1.1.1.1.1.1.1.1.2, ⟨hk.1.1.1.1.1.1.1.1.2, ⟨hk.1.1.1.1.1.1.1.2, ⟨hk.1.1.1.1.1.1.2, ⟨hk.1.1.1.1.1.2, ⟨hk.1.1.1.1.2, ⟨hk.1.1.1.2, ⟨hk.1.1.2, hk.1.2⟩⟩⟩⟩⟩⟩⟩⟩)⟩, ⟨by (with_reducible repeat (first | apply Kd.R_alloc | apply Kd.R_drewN | apply Kd.R_drew)); exact Kd.R_mono (qz HO167 BK175 (by decide) (.bool t170) (.slice Ao239 t171.length co239)) (fun _ hk => ⟨hk.1.1.1.1.1.1.1.1.1.2, ⟨hk.1.1.1.1.1.1.1.1.2, ⟨hk.1.1.1.1.1.1.1.2, ⟨hk.1.1.1.1.1.1.2, ⟨hk.1.1.1.1.1.2, ⟨hk.1.1.1.1.2, ⟨hk.1.1.1.2, ⟨hk.1.1.2, hk.1.2⟩⟩⟩⟩⟩⟩⟩⟩)⟩, ⟨by (with_reducible repeat (first | apply Kd.R_alloc | apply Kd.R_drewN | apply Kd.R_drew)); exact Kd.R_mono (qz HO173 BK175 (by decide) (.bool t170) (.slice Ao239 t171.length co239)) (fun _ hk => ⟨hk.1.1.1.1.1.1.1.1.1.2, ⟨hk.1.1.1.1.1.1.1.1.2, ⟨hk.1.1.1.1.1.1.1.2, ⟨hk.1.1.1.1.1.1.2, ⟨hk.1.1.1.1.1.2, ⟨hk.1.1.1.1.2, ⟨hk.1.1.1.2, ⟨hk.1.1.2, hk.1.2⟩⟩⟩⟩⟩⟩⟩⟩)⟩, ⟨by (with_reducible repeat (first | refine qN ?_ _ | refine qW ?_ | refine qA ?_ _)); refine qf ?_ NB102_175; (with_reducible repeat (first | refine qN ?_ _ | refine qW ?_ | refine qA ?_ _)); exact BK102.out⟩, ⟨by (with_reducible repeat (first | refine qN ?_ _ | refine qW ?_ | refine qA ?_ _)); refine qf ?_ NB103_175; (with_reducible repeat (first | refine qN ?_ _ | refine qW ?_ | refine qA ?_ _)); exact BK103.out⟩, ⟨by (with_reducible repeat (first | refine qN ?_ _ | refine qW ?_ | refine qA ?_ _)); refine qf ?_ NB104_175; (with_reducible repeat (first | refine qN ?_ _ | refine qW ?_ | refine qA ?_ _)); exact BK104.out⟩, ⟨by (with_reducible repeat (first | refine qN ?_ _ | refine qW ?_ | refine qA ?_ _)); refine qf ?_ NB130_175; (with_reducible repeat (first | refine qN ?_ _ | refine qW ?_ | refine qA ?_ _)); exact BK130.out⟩, ⟨by (with_reducible repeat (first | refine qN ?_ _ | refine qW ?_ | refine qA ?_ _)); refine qf ?_ NB136_175; (with_reducible repeat (first | refine qN ?_ _ | refine qW ?_ | refine qA ?_ _)); exact BK136.out⟩, ⟨by (with_reducible repeat (first | refine qN ?_ _ | refine qW ?_ | refine qA ?_ _)); refine qf ?_ NB150_175; (with_reducible repeat (first | refine qN ?_ _ | refine qW ?_ | refine qA ?_ _)); exact BK150.out⟩, ⟨by (with_reducible repeat (first | refine qN ?_ _ | refine qW ?_ | refine qA ?_ _)); refine qf ?_ NB156_175; (with_reducible repeat (first | refine qN ?_ _ | refine qW ?_ | refine qA ?_ _)); exact BK156.out⟩, ⟨by (with_reducible repeat (first | refine qN ?_ _ | refine qW ?_ | refine qA ?_ _)); refine qf ?_ NB163_175; (with_reducible repeat (first | refine qN ?_ _ | refine qW ?_ | refine qA ?_ _)); exact BK163.out⟩, ⟨by (with_reducible repeat (first | refine qN ?_ _ | refine qW ?_ | refine qA ?_ _)); refine qf ?_ NB169_175; (with_reducible repeat (first | refine qN ?_ _ | refine qW ?_ | refine qA ?_ _)); exact BK169.out⟩, ⟨by (with_reducible repeat (first | refine qN ?_ _ | refine qW ?_ | refine qA ?_ _)); refine blk_put (cs := #[.bool t170, .slice none 0 0]) ?_ 1 _ rfl; (with_reducible repeat (first | refine qN ?_ _ | refine qW ?_ | refine qA ?_ _)); refine blk_put (cs := #[.bool false, .slice none 0 0]) ?_ 0 _ rfl; (with_reducible repeat (first | refine qN ?_ _ | refine qW ?_ | refine qA ?_ _)); exact BK175.out⟩, ⟨by repeat (first | (with_reducible first | exact HB.out | apply below_alloc | apply pw_below_drewN | apply below_drew1 | refine qs ?_ (by assumption)) | exact HB.out)⟩⟩
                                  · rw [if_neg c241] at H
                                    have c241b0 : (t162 == 0) = false := beq_eq_false_iff_ne.mpr c241
                                    have c241b1 : (t162 != 0) = true := bne_iff_ne.mpr c241
                                    have H' := Aside0.mk H
                                    clear H
                                    go_wp2
                                    go_meet
                                    case rel => exact ⟨_, (true), (by first | rfl | (simp; done) | (simp [*]; done)), H', ⟨by have := HJ3.out; have := HJ38.out; have := HJ61.out; have := HJ97.out; have := HJ127.out; first | omega | exact Nat.le_refl _⟩, ⟨by (with_reducible repeat (first | apply Kd.R_alloc | apply Kd.R_drewN | apply Kd.R_drew)); exact Kd.R_mono (qz HO_103001 BK175 (by decide) (.bool t170) (.slice Ao239 t171.length co239)) (fun _ hk => ⟨hk.1.1.1.1.1, ⟨hk.1.1.1.1.2.1, ⟨hk.1.1.1.1.2.2.1, ⟨hk.1.1.1.1.2.2.2.1, ⟨hk.1.1.1.1.2.2.2.2.1, ⟨hk.1.1.1.1.2.2.2.2.2, ⟨hk.1.1.1.2, ⟨hk.1.1.2, hk.1.2⟩⟩⟩⟩⟩⟩⟩⟩)⟩, ⟨by (with_reducible repeat (first | apply Kd.R_alloc | apply Kd.R_drewN | apply Kd.R_drew)); exact Kd.R_mono (qz HO_104001 BK175 (by decide) (.bool t170) (.slice Ao239 t171.length co239)) (fun _ hk => ⟨hk.1.1.1.1.1, ⟨hk.1.1.1.1.2.1, ⟨hk.1.1.1.1.2.2.1, ⟨hk.1.1.1.1.2.2.2.1, ⟨hk.1.1.1.1.2.2.2.2.1, ⟨hk.1.1.1.1.2.2.2.2.2, ⟨hk.1.1.1.2, ⟨hk.1.1.2, hk.1.2⟩⟩⟩⟩⟩⟩⟩⟩)⟩, ⟨by (with_reducible repeat (first | apply Kd.R_alloc | apply Kd.R_drewN | apply Kd.R_drew)); exact Kd.R_mono (qz HO_105001 BK175 (by decide) (.bool t170) (.slice Ao239 t171.length co239)) (fun _ hk => ⟨hk.1.1.1.1.1, ⟨hk.1.1.1.1.2.1, ⟨hk.1.1.1.1.2.2.1, ⟨hk.1.1.1.1.2.2.2.1, ⟨hk.1.1.1.1.2.2.2.2.1, ⟨hk.1.1.1.1.2.2.2.2.2, ⟨hk.1.1.1.2, ⟨hk.1.1.2, hk.1.2⟩⟩⟩⟩⟩⟩⟩⟩)⟩, ⟨by (with_reducible repeat (first | apply Kd.R_alloc | apply Kd.R_drewN | apply Kd.R_drew)); exact Kd.R_mono (qz HO_131001 BK175 (by decide) (.bool t170) (.slice Ao239 t171.length co239)) (fun _ hk => ⟨hk.1.1.1.1.1, ⟨hk.1.1.1.1.2.1, ⟨hk.1.1.1.1.2.2.1, ⟨hk.1.1.1.1.2.2.2.1, ⟨hk.1.1.1.1.2.2.2.2.1, ⟨hk.1.1.1.1.2.2.2.2.2, ⟨hk.1.1.1.2, ⟨hk.1.1.2, hk.1.2⟩⟩⟩⟩⟩⟩⟩⟩)⟩, ⟨by (with_reducible repeat (first | apply Kd.R_alloc | apply Kd.R_drewN | apply Kd.R_drew)); exact Kd.R_mono (qz HO_137001 BK175 (by decide) (.bool t170) (.slice Ao239 t171.length co239)) (fun _ hk => ⟨hk.1.1.1.1.1, ⟨hk.1.1.1.1.2.1, ⟨hk.1.1.1.1.2.2.1, ⟨hk.1.1.1.1.2.2.2.1, ⟨hk.1.1.1.1.2.2.2.2.1, ⟨hk.1.1.1.1.2.2.2.2.2, ⟨hk.1.1.1.2, ⟨hk.1.1.2, hk.1.2⟩⟩⟩⟩⟩⟩⟩⟩)⟩, ⟨by (with_reducible repeat (first | apply Kd.R_alloc | apply Kd.R_drewN | apply Kd.R_drew)); exact Kd.R_mono (qz HO_151001 BK175 (by decide) (.bool t170) (.slice Ao239 t171.length co239)) (fun _ hk => ⟨hk.1.1.1.1.1, ⟨hk.1.1.1.1.2.1, ⟨hk.1.1.1.1.2.2.1, ⟨hk.1.1.1.1.2.2.2.1, ⟨hk.1.1.1.1.2.2.2.2.1, ⟨hk.1.1.1.1.2.2.2.2.2, ⟨hk.1.1.1.2, ⟨hk.1.1.2, hk.1.2⟩⟩⟩⟩⟩⟩⟩⟩)⟩, ⟨by (with_reducible repeat (first | apply Kd.R_alloc | apply Kd.R_drewN | apply Kd.R_drew)); exact Kd.R_mono (qz HO_157001 BK175 (by decide) (.bool t170) (.slice Ao239 t171.length co239)) (fun _ hk => ⟨hk.1.1.1.1.1, ⟨hk.1.1.1.1.2.1, ⟨hk.1.1.1.1.2.2.1, ⟨hk.1.1.1.1.2.2.2.1, ⟨hk.1.1.1.1.2.2.2.2.1, ⟨hk.1.1.1.1.2.2.2.2.2, ⟨hk.1.1.1.2, ⟨hk.1.1.2, hk.1.2⟩⟩⟩⟩⟩⟩⟩⟩)⟩, ⟨by (with_reducible repeat (first | apply Kd.R_alloc | apply Kd.R_drewN | apply Kd.R_drew)); exact Kd.R_mono (qz HO161 BK175 (by decide) (.bool t170) (.slice Ao239 t171.length co239)) (fun _ hk => ⟨hk.1.1.1.1.1.1.1.1.1.2, ⟨hk.1.1.1.1.1.1.1.1.2, ⟨hk.1.1.1.1.1.1.1.2, ⟨hk.1.1.1.1.1.1.2, ⟨hk.1.1.1.1.1.2, ⟨hk.1.1.1.1.2, ⟨hk.1.1.1.2, ⟨hk.1.1.2, hk.1.2⟩⟩⟩⟩⟩⟩⟩⟩)⟩, ⟨by (with_reducible repeat (first | apply Kd.R_alloc | apply Kd.R_drewN | apply Kd.R_drew)); exact Kd.R_mono (qz HO167 BK175 (by decide) (.bool t170) (.slice Ao239 t171.length co239)) (fun _ hk => ⟨hk.1.1.1.1.1.1.1.1.1.2, ⟨hk.1.1.1.1.1.1.1.1.2, ⟨hk.1.1.1.1.1.1.1.2, ⟨hk.1.1.1.1.1.1.2, ⟨hk.1.1.1.1.1.2, ⟨hk.1.1.1.1.2, ⟨hk.1.1.1.2, ⟨hk.1.1.2, hk.1.2⟩⟩⟩⟩⟩⟩⟩⟩)⟩, ⟨by (with_reducible repeat (first | apply Kd.R_alloc | apply Kd.R_drewN | apply Kd.R_drew)); exact Kd.R_mono (qz HO173 BK175 (by decide) (.bool t170) (.slice Ao239 t171.length co239)) (fun _ hk => ⟨hk.1.1.1.1.1.1.1.1.1.2, ⟨hk.1.1.1.1.1.1.1.1.2, ⟨hk.1.1.1.1.1.1.1.2, ⟨hk.1.1.1.1.1.1.2, ⟨hk.1.1.1.1.1.2, ⟨hk.1.1.1.1.2, ⟨hk.1.1.1.2, ⟨hk.1.1.2, hk.1.2⟩⟩⟩⟩⟩⟩⟩⟩)⟩, ⟨by (with_reducible repeat (first | refine qN ?_ _ | refine qW ?_ | refine qA ?_ _)); refine qf ?_ NB102_175; (with_reducible repeat (first | refine qN ?_ _ | refine qW ?_ | refine qA ?_ _)); exact BK102.out⟩, ⟨by (with_reducible repeat (first | refine qN ?_ _ | refine qW ?_ | refine qA ?_ _)); refine qf ?_ NB103_175; (with_reducible repeat (first | refine qN ?_ _ | refine qW ?_ | refine qA ?_ _)); exact BK103.out⟩, ⟨by (with_reducible repeat (first | refine qN ?_ _ | refine qW ?_ | refine qA ?_ _)); refine qf ?_ NB104_175; (with_reducible repeat (first | refine qN ?_ _ | refine qW ?_ | refine qA ?_ _)); exact BK104.out⟩, ⟨by (with_reducible repeat (first | refine qN ?_ _ | refine qW ?_ | refine qA ?_ _)); refine qf ?_ NB130_175; (with_reducible repeat (first | refine qN ?_ _ | refine qW ?_ | refine qA ?_ _)); exact BK130.out⟩, ⟨by (with_reducible repeat (first | refine qN ?_ _ | refine qW ?_ | refine qA ?_ _)); refine qf ?_ NB136_175; (with_reducible repeat (first | refine qN ?_ _ | refine qW ?_ | refine qA ?_ _)); exact BK136.out⟩, ⟨by (with_reducible repeat (first | refine qN ?_ _ | refine qW ?_ | refine qA ?_ _)); refine qf ?_ NB150_175; (with_reducible repeat (first | refine qN ?_ _ | refine qW ?_ | refine qA ?_ _)); exact BK150.out⟩, ⟨by (with_reducible repeat (first | refine qN ?_ _ | refine qW ?_ | refine qA ?_ _)); refine qf ?_ NB156_175; (with_reducible repeat (first | refine qN ?_ _ | refine qW ?_ | refine qA ?_ _)); exact BK156.out⟩, ⟨by (with_reducible repeat (first | refine qN ?_ _ | refine qW ?_ | refine qA ?_ _)); refine qf ?_ NB163_175; (with_reducible repeat (first | refine qN ?_ _ | refine qW ?_ | refine qA ?_ _)); exact BK163.out⟩, ⟨by (with_reducible repeat (first | refine qN ?_ _ | refine qW ?_ | refine qA ?_ _)); refine qf ?_ NB169_175; (with_reducible repeat (first | refine qN ?_ _ | refine qW ?_ | refine qA ?_ _)); exact BK169.out⟩, ⟨by (with_reducible repeat (first | refine qN ?_ _ | refine qW ?_ | refine qA ?_ _)); refine blk_put (cs := #[.bool t170, .slice none 0 0]) ?_ 1 _ rfl; (with_reducible repeat (first | refine qN ?_ _ | refine qW ?_ | refine qA ?_ _)); refine blk_put (cs := #[.bool false, .slice none 0 0]) ?_ 0 _ rfl; (with_reducible repeat (first | refine qN ?_ _ | refine qW ?_ | refine qA ?_ _)); exact BK175.out⟩, ⟨by repeat (first | (with_reducible first | exact HB.out | apply below_alloc | apply pw_below_drewN | apply below_drew1 | refine qs ?_ (by assumption)) | exact HB.out)⟩⟩
                                · rw [if_neg c240] at H
                                  have c240b0 : (t129 == 0) = false := beq_eq_false_iff_ne.mpr c240
                                  have c240b1 : (t129 != 0) = true := bne_iff_ne.mpr c240
                                  (first | rw [c240b0] | (simp only [i64_w, i32_w]; rw [c240b0]) | skip)
                                  have H' := Aside0.mk H
                                  clear H
                                  go_wp2
                                  go_meet
                                  case rel => exact ⟨_, (true), (by first | rfl | (simp; done) | (simp [*]; done)), H', ⟨by have := HJ3.out; have := HJ38.out; have := HJ61.out; have := HJ97.out; have := HJ127.out; first | omega | exact Nat.le_refl _⟩, ⟨by (with_reducible repeat (first | apply Kd.R_alloc | apply Kd.R_drewN | apply Kd.R_drew)); exact Kd.R_mono (qz HO_103001 BK175 (by decide) (.bool t170) (.slice Ao239 t171.length co239)) (fun _ hk => ⟨hk.1.1.1.1.1, ⟨hk.1.1.1.1.2.1, ⟨hk.1.1.1.1.2.2.1, ⟨hk.1.1.1.1.2.2.2.1, ⟨hk.1.1.1.1.2.2.2.2.1, ⟨hk.1.1.1.1.2.2.2.2.2, ⟨hk.1.1.1.2, ⟨hk.1.1.2, hk.1.2⟩⟩⟩⟩⟩⟩⟩⟩)⟩, ⟨by (with_reducible repeat (first | apply Kd.R_alloc | apply Kd.R_drewN | apply Kd.R_drew)); exact Kd.R_mono (qz HO_104001 BK175 (by decide) (.bool t170) (.slice Ao239 t171.length co239)) (fun _ hk => ⟨hk.1.1.1.1.1, ⟨hk.1.1.1.1.2.1, ⟨hk.1.1.1.1.2.2.1, ⟨hk.1.1.1.1.2.2.2.1, ⟨hk.1.1.1.1.2.2.2.2.1, ⟨hk.1.1.1.1.2.2.2.2.2, ⟨hk.1.1.1.2, ⟨hk.1.1.2, hk.1.2⟩⟩⟩⟩⟩⟩⟩⟩)⟩, ⟨by (with_reducible repeat (first | apply Kd.R_alloc | apply Kd.R_drewN | apply Kd.R_drew)); exact Kd.R_mono (qz HO_105001 BK175 (by decide) (.bool t170) (.slice Ao239 t171.length co239)) (fun _ hk => ⟨hk.1.1.1.1.1, ⟨hk.1.1.1.1.2.1, ⟨hk.1.1.1.1.2.2.1, ⟨hk.1.1.1.1.2.2.2.1, ⟨hk.1.1.1.1.2.2.2.2.1, ⟨hk.1.1.1.1.2.2.2.2.2, ⟨hk.1.1.1.2, ⟨hk.1.1.2, hk.1.2⟩⟩⟩⟩⟩⟩⟩⟩)⟩, ⟨by (with_reducible repeat (first | apply Kd.R_alloc | apply Kd.R_drewN | apply Kd.R_drew)); exact Kd.R_mono (qz HO_131001 BK175 (by decide) (.bool t170) (.slice Ao239 t171.length co239)) (fun _ hk => ⟨hk.1.1.1.1.1, ⟨hk.1.1.1.1.2.1, ⟨hk.1.1.1.1.2.2.1, ⟨hk.1.1.1.1.2.2.2.1, ⟨hk.1.1.1.1.2.2.2.2.1, ⟨hk.1.1.1.1.2.2.2.2.2, ⟨hk.1.1.1.2, ⟨hk.1.1.2, hk.1.2⟩⟩⟩⟩⟩⟩⟩⟩)⟩, ⟨by (with_reducible repeat (first | apply Kd.R_alloc | apply Kd.R_drewN | apply Kd.R_drew)); exact Kd.R_mono (qz HO_137001 BK175 (by decide) (.bool t170) (.slice Ao239 t171.length co239)) (fun _ hk => ⟨hk.1.1.1.1.1, ⟨hk.1.1.1.1.2.1, ⟨hk.1.1.1.1.2.2.1, ⟨hk.1.1.1.1.2.2.2.1, ⟨hk.1.1.1.1.2.2.2.2.1, ⟨hk.1.1.1.1.2.2.2.2.2, ⟨hk.1.1.1.2, ⟨hk.1.1.2, hk.1.2⟩⟩⟩⟩⟩⟩⟩⟩)⟩, ⟨by (with_reducible repeat (first | apply Kd.R_alloc | apply Kd.R_drewN | apply Kd.R_drew)); exact Kd.R_mono (qz HO_151001 BK175 (by decide) (.bool t170) (.slice Ao239 t171.length co239)) (fun _ hk => ⟨hk.1.1.1.1.1, ⟨hk.1.1.1.1.2.1, ⟨hk.1.1.1.1.2.2.1, ⟨hk.1.1.1.1.2.2.2.1, ⟨hk.1.1.1.1.2.2.2.2.1, ⟨hk.1.1.1.1.2.2.2.2.2, ⟨hk.1.1.1.2, ⟨hk.1.1.2, hk.1.2⟩⟩⟩⟩⟩⟩⟩⟩)⟩, ⟨by (with_reducible repeat (first | apply Kd.R_alloc | apply Kd.R_drewN | apply Kd.R_drew)); exact Kd.R_mono (qz HO_157001 BK175 (by decide) (.bool t170) (.slice Ao239 t171.length co239)) (fun _ hk => ⟨hk.1.1.1.1.1, ⟨hk.1.1.1.1.2.1, ⟨hk.1.1.1.1.2.2.1, ⟨hk.1.1.1.1.2.2.2.1, ⟨hk.1.1.1.1.2.2.2.2.1, ⟨hk.1.1.1.1.2.2.2.2.2, ⟨hk.1.1.1.2, ⟨hk.1.1.2, hk.1.2⟩⟩⟩⟩⟩⟩⟩⟩)⟩, ⟨by (with_reducible repeat (first | apply Kd.R_alloc | apply Kd.R_drewN | apply Kd.R_drew)); exact Kd.R_mono (qz HO161 BK175 (by decide) (.bool t170) (.slice Ao239 t171.length co239)) (fun _ hk => ⟨hk.1.1.1.1.1.1.1.1.1.2, ⟨hk.1.1.1.1.1.1.1.1.2, ⟨hk.1.1.1.1.1.1.1.2, ⟨hk.1.1.1.1.1.1.2, ⟨hk.1.1.1.1.1.2, ⟨hk.1.1.1.1.2, ⟨hk.1.1.1.2, ⟨hk.1.1.2, hk.1.2⟩⟩⟩⟩⟩⟩⟩⟩)⟩, ⟨by (with_reducible repeat (first | apply Kd.R_alloc | apply Kd.R_drewN | apply Kd.R_drew)); exact Kd.R_mono (qz HO167 BK175 (by decide) (.bool t170) (.slice Ao239 t171.length co239)) (fun _ hk => ⟨hk.1.1.1.1.1.1.1.1.1.2, ⟨hk.1.1.1.1.1.1.1.1.2, ⟨hk.1.1.1.1.1.1.1.2, ⟨hk.1.1.1.1.1.1.2, ⟨hk.1.1.1.1.1.2, ⟨hk.1.1.1.1.2, ⟨hk.1.1.1.2, ⟨hk.1.1.2, hk.1.2⟩⟩⟩⟩⟩⟩⟩⟩)⟩, ⟨by (with_reducible repeat (first | apply Kd.R_alloc | apply Kd.R_drewN | apply Kd.R_drew)); exact Kd.R_mono (qz HO173 BK175 (by decide) (.bool t170) (.slice Ao239 t171.length co239)) (fun _ hk => ⟨hk.1.1.1.1.1.1.1.1.1.2, ⟨hk.1.1.1.1.1.1.1.1.2, ⟨hk.1.1.1.1.1.1.1.2, ⟨hk.1.1.1.1.1.1.2, ⟨hk.1.1.1.1.1.2, ⟨hk.1.1.1.1.2, ⟨hk.1.1.1.2, ⟨hk.1.1.2, hk.1.2⟩⟩⟩⟩⟩⟩⟩⟩)⟩, ⟨by (with_reducible repeat (first | refine qN ?_ _ | refine qW ?_ | refine qA ?_ _)); refine qf ?_ NB102_175; (with_reducible repeat (first | refine qN ?_ _ | refine qW ?_ | refine qA ?_ _)); exact BK102.out⟩, ⟨by (with_reducible repeat (first | refine qN ?_ _ | refine qW ?_ | refine qA ?_ _)); refine qf ?_ NB103_175; (with_reducible repeat (first | refine qN ?_ _ | refine qW ?_ | refine qA ?_ _)); exact BK103.out⟩, ⟨by (with_reducible repeat (first | refine qN ?_ _ | refine qW ?_ | refine qA ?_ _)); refine qf ?_ NB104_175; (with_reducible repeat (first | refine qN ?_ _ | refine qW ?_ | refine qA ?_ _)); exact BK104.out⟩, ⟨by (with_reducible repeat (first | refine qN ?_ _ | refine qW ?_ | refine qA ?_ _)); refine qf ?_ NB130_175; (with_reducible repeat (first | refine qN ?_ _ | refine qW ?_ | refine qA ?_ _)); exact BK130.out⟩, ⟨by (with_reducible repeat (first | refine qN ?_ _ | refine qW ?_ | refine qA ?_ _)); refine qf ?_ NB136_175; (with_reducible repeat (first | refine qN ?_ _ | refine qW ?_ | refine qA ?_ _)); exact BK136.out⟩, ⟨by (with_reducible repeat (first | refine qN ?_ _ | refine qW ?_ | refine qA ?_ _)); refine qf ?_ NB150_175; (with_reducible repeat (first | refine qN ?_ _ | refine qW ?_ | refine qA ?_ _)); exact BK150.out⟩, ⟨by (with_reducible repeat (first | refine qN ?_ _ | refine qW ?_ | refine qA ?_ _)); refine qf ?_ NB156_175; (with_reducible repeat (first | refine qN ?_ _ | refine qW ?_ | refine qA ?_ _)); exact BK156.out⟩, ⟨by (with_reducible repeat (first | refine qN ?_ _ | refine qW ?_ | refine qA ?_ _)); refine qf ?_ NB163_175; (with_reducible repeat (first | refine qN ?_ _ | refine qW ?_ | refine qA ?_ _)); exact BK163.out⟩, ⟨by (with_reducible repeat (first | refine qN ?_ _ | refine qW ?_ | refine qA ?_ _)); refine qf ?_ NB169_175; (with_reducible repeat (first | refine qN ?_ _ | refine qW ?_ | refine qA ?_ _)); exact BK169.out⟩, ⟨by (with_reducible repeat (first | refine qN ?_ _ | refine qW ?_ | refine qA ?_ _)); refine blk_put (cs := #[.bool t170, .slice none 0 0]) ?_ 1 _ rfl; (with_reducible repeat (first | refine qN ?_ _ | refine qW ?_ | refine qA ?_ _)); refine blk_put (cs := #[.bool false, .slice none 0 0]) ?_ 0 _ rfl; (with_reducible repeat (first | refine qN ?_ _ | refine qW ?_ | refine qA ?_ _)); exact BK175.out⟩, ⟨by repeat (first | (with_reducible first | exact HB.out | apply below_alloc | apply pw_below_drewN | apply below_drew1 | refine qs ?_ (by assumption)) | exact HB.out)⟩⟩
                              case rest =>
                                clear HC179
                                try clear c1
                                try clear c2
                                try clear p2
                                try clear c3
                                try clear c4
                                try clear c5
                                try clear c6
                                try clear c7
                                try clear c8
                                try clear c9
                                try clear c10
                                try clear c11
                                try clear c12
                                try clear c13
                                try clear c14
                                try clear c15
                                try clear c16
                                try clear c17
                                try clear c18
                                try clear c19
                                try clear c20
                                try clear c21
                                try clear c22
                                try clear c23
                                try clear c24
                                try clear c25
                                try clear c28
                                try clear c33
                                try clear c36
                                try clear c38
                                try clear c40
                                try clear c41
                                try clear c42
                                try clear c46
                                try clear c55
                                try clear c55b0
                                try clear c55b1
                                try clear c56
                                try clear c56b0
                                try clear c56b1
                                try clear c57
                                try clear c63
                                try clear c64
                                try clear c66
                                try clear c70
                                try clear c71
                                try clear c72
                                try clear c79
                                try clear c80
                                try clear c81
                                try clear c82
                                try clear c85
                                try clear c85b0
                                try clear c85b1
                                try clear c87
                                try clear c88
                                try clear c89
                                try clear c90
                                try clear c92
                                try clear c93
                                try clear c94
                                try clear c97
                                try clear c99
                                try clear c99b0
                                try clear c99b1
                                try clear c101
                                try clear c101b0
                                try clear c101b1
                                try clear c103
                                try clear c104
                                try clear c105
                                try clear c106
                                try clear c107
                                try clear c109
                                try clear c110
                                try clear c111
                                try clear c115
                                try clear c116
                                try clear c117
                                try clear c118
                                try clear c119
                                try clear c122
                                try clear c123
                                try clear c129
                                try clear c130
                                try clear c131
                                try clear c132
                                try clear c134
                                try clear c135
                                try clear c136
                                try clear c140
                                try clear c141
                                try clear c142
                                try clear c143
                                try clear c144
                                try clear c151
                                try clear c152
                                try clear c153
                                try clear c154
                                try clear c155
                                try clear c156
                                try clear c159
                                try clear c159b0
                                try clear c159b1
                                try clear c161
                                try clear c162
                                try clear c163
                                try clear c164
                                try clear c165
                                try clear c166
                                try clear c168
                                try clear c169
                                try clear c170
                                try clear c171
                                try clear c172
                                try clear c175
                                try clear c180
                                try clear c181
                                try clear c182
                                try clear c183
                                try clear c184
                                try clear c185
                                try clear c187
                                try clear c188
                                try clear c189
                                try clear c190
                                try clear c191
                                try clear c195
                                try clear c196
                                try clear c197
                                try clear c198
                                try clear c199
                                try clear c200
                                try clear c201
                                try clear c204
                                try clear c205
                                try clear c206
                                try clear c207
                                try clear c212
                                try clear c213
                                try clear c214
                                try clear c215
                                try clear c216
                                try clear c217
                                try clear c218
                                try clear c219
                                try clear c222
                                try clear c223
                                try clear c224
                                try clear c229
                                try clear c230
                                try clear c231
                                try clear c232
                                try clear c233
                                try clear c234
                                try clear c235
                                try clear c236
                                try clear c237
                                try clear c240
                                try clear c240b0
                                try clear c240b1
                                try clear c241
                                try clear c241b0
                                try clear c241b1
                                try clear c242
                                try clear c242b0
                                try clear c242b1
                                try clear hcz108_0
                                try clear hcz108_1
                                try clear hcz112_0
                                try clear hcz112_1
                                try clear hcz120_0
                                try clear hcz120_1
                                try clear hcz124_0
                                try clear hcz124_1
                                try clear hcz12_0
                                try clear hcz12_1
                                try clear hcz133_0
                                try clear hcz133_1
                                try clear hcz137_0
                                try clear hcz137_1
                                try clear hcz145_0
                                try clear hcz145_1
                                try clear hcz147_0
                                try clear hcz147_1
                                try clear hcz148_0
                                try clear hcz148_1
                                try clear hcz157_0
                                try clear hcz157_1
                                try clear hcz167_0
                                try clear hcz167_1
                                try clear hcz173_0
                                try clear hcz173_1
                                try clear hcz186_0
                                try clear hcz186_1
                                try clear hcz18_0
                                try clear hcz18_1
                                try clear hcz192_0
                                try clear hcz192_1
                                try clear hcz202_0
                                try clear hcz202_1
                                try clear hcz208_0
                                try clear hcz208_1
                                try clear hcz209_0
                                try clear hcz209_1
                                try clear hcz21_0
                                try clear hcz21_1
                                try clear hcz220_0
                                try clear hcz220_1
                                try clear hcz225_0
                                try clear hcz225_1
                                try clear hcz226_0
                                try clear hcz226_1
                                try clear hcz238_0
                                try clear hcz238_1
                                try clear hcz26_0
                                try clear hcz26_1
                                try clear hcz29_0
                                try clear hcz29_1
                                try clear hcz31_0
                                try clear hcz31_1
                                try clear hcz42_0
                                try clear hcz42_1
                                try clear hcz44_0
                                try clear hcz44_1
                                try clear hcz47_0
                                try clear hcz47_1
                                try clear hcz49_0
                                try clear hcz49_1
                                try clear hcz51_0
                                try clear hcz51_1
                                try clear hcz53_0
                                try clear hcz53_1
                                try clear hcz65_0
                                try clear hcz65_1
                                try clear hcz67_0
                                try clear hcz67_1
                                try clear hcz73_0
                                try clear hcz73_1
                                try clear hcz75_0
                                try clear hcz75_1
                                try clear hcz76_0
                                try clear hcz76_1
                                try clear hcz83_0
                                try clear hcz83_1
                                try clear hcz91_0
                                try clear hcz91_1
                                try clear hcz95_0
                                try clear hcz95_1
                                try clear hfz108_0
                                try clear hfz108_1
                                try clear hfz112_0
                                try clear hfz112_1
                                try clear hfz120_0
                                try clear hfz120_1
                                try clear hfz124_0
                                try clear hfz124_1
                                try clear hfz12_0
                                try clear hfz12_1
                                try clear hfz133_0
                                try clear hfz133_1
                                try clear hfz137_0
                                try clear hfz137_1
                                try clear hfz145_0
                                try clear hfz145_1
                                try clear hfz147_0
                                try clear hfz147_1
                                try clear hfz148_0
                                try clear hfz148_1
                                try clear hfz157_0
                                try clear hfz157_1
                                try clear hfz167_0
                                try clear hfz167_1
                                try clear hfz173_0
                                try clear hfz173_1
                                try clear hfz186_0
                                try clear hfz186_1
                                try clear hfz18_0
                                try clear hfz18_1
                                try clear hfz192_0
                                try clear hfz192_1
                                try clear hfz202_0
                                try clear hfz202_1
                                try clear hfz208_0
                                try clear hfz208_1
                                try clear hfz209_0
                                try clear hfz209_1
                                try clear hfz21_0
                                try clear hfz21_1
                                try clear hfz220_0
                                try clear hfz220_1
                                try clear hfz225_0
                                try clear hfz225_1
                                try clear hfz226_0
                                try clear hfz226_1
                                try clear hfz238_0
                                try clear hfz238_1
                                try clear hfz26_0
                                try clear hfz26_1
                                try clear hfz29_0
                                try clear hfz29_1
                                try clear hfz31_0
                                try clear hfz31_1
                                try clear hfz42_0
                                try clear hfz42_1
                                try clear hfz44_0
                                try clear hfz44_1
                                try clear hfz47_0
                                try clear hfz47_1
                                try clear hfz49_0
                                try clear hfz49_1
                                try clear hfz51_0
                                try clear hfz51_1
                                try clear hfz53_0
                                try clear hfz53_1
                                try clear hfz65_0
                                try clear hfz65_1
                                try clear hfz67_0
                                try clear hfz67_1
                                try clear hfz73_0
                                try clear hfz73_1
                                try clear hfz75_0
                                try clear hfz75_1
                                try clear hfz76_0
                                try clear hfz76_1
                                try clear hfz83_0
                                try clear hfz83_1
                                try clear hfz91_0
                                try clear hfz91_1
                                try clear hfz95_0
                                try clear hfz95_1
                                try clear p2
                                obtain ⟨kq, x152_178, rfl, HA, HJ178, HO_103001, HO_104001, HO_105001, HO_131001, HO_137001, HO_151001, HO_157001, HO_164001, HO_170001, HO_176001, BK102, BK103, BK104, BK130, BK136, BK150, BK156, BK163, BK169, BK175, HB⟩ := hcut
                                cases kq with
                                | zero => exact absurd HA.out (by simp [morainelaw02_NumRing.j5])
                                | succ kj178 =>
                                  have H := HA.out
                                  clear HA
                                  simp only [morainelaw02_NumRing.j5] at H
                                  by_cases c243 : x152_178 = true
                                  · subst c243
                                    have H1 : ((morainelaw02_awake.f).bind fun t176 => (some t176)) = some r := by rw [if_pos rfl] at H; exact H
                                    clear H
                                    have H := H1
                                    clear H1
                                    replace H := Option.bind_eq_some_iff.mp H
                                    obtain ⟨t176, A2440, H⟩ := H
                                    replace H : (some t176) = some r := H
                                    have A244 := Aside0.mk A2440
                                    clear A2440
                                    obtain rfl := Option.some.inj H
                                    go_wp2_with (first | ((with_reducible refine gate_callee (f := 20) rfl ?_); refine goesL_ (some 153) rfl rfl Tryd.func20 (by kernel_rfl) rfl #[] rfl (by (try simp only [List.map_toArray, List.map_cons, List.map_nil]); first | done | rfl | (simp only [List.length_drop, List.length_take]; rfl)) ?_; (with_reducible refine (morainelaw02_awake.calls  t176 _ A244.out (NumV.Tab.below HT.out (by repeat (first | exact HB.out | apply below_alloc | apply pw_below_drewN | apply below_drew1 | refine below_set ?_ (Aside0.out (by assumption)))))).mono ?_); rintro e w245 ⟨rfl, hb⟩; refine ⟨_, rfl, ?_⟩; replace HO_103001 := qr HO_103001 hb; replace HO_104001 := qr HO_104001 hb; replace HO_105001 := qr HO_105001 hb; replace HO_131001 := qr HO_131001 hb; replace HO_137001 := qr HO_137001 hb; replace HO_151001 := qr HO_151001 hb; replace HO_157001 := qr HO_157001 hb; replace HO_164001 := qr HO_164001 hb; replace HO_170001 := qr HO_170001 hb; replace HO_176001 := qr HO_176001 hb; replace BK102 := qb BK102 hb; replace BK103 := qb BK103 hb; replace BK104 := qb BK104 hb; replace BK130 := qb BK130 hb; replace BK136 := qb BK136 hb; replace BK150 := qb BK150 hb; replace BK156 := qb BK156 hb; replace BK163 := qb BK163 hb; replace BK169 := qb BK169 hb; replace BK175 := qb BK175 hb; replace HB := Aside0.mk (below_step (by repeat (first | (with_reducible first | exact HB.out | apply below_alloc | apply pw_below_drewN | apply below_drew1 | refine qs ?_ (by assumption)) | exact HB.out)) hb); (try clear hb); (try clear hb2); (try clear hk); (try clear hi)))
                                    go_ret
                                    exact ⟨by first | rfl | (simp [errW_none, errW_some] <;> rfl) | (simp [*, errW_none, errW_some] <;> rfl), by repeat (first | (with_reducible first | exact HB.out | apply below_alloc | apply pw_below_drewN | apply below_drew1 | refine qs ?_ (by assumption)) | exact HB.out)⟩
                                  · replace c243 := Bool.eq_false_iff.mpr c243
                                    subst c243
                                    have H1 : ((num_Add.f t164 t165 t170 t171).bind fun bt177 => (if bt177.2.2 = 0 then ((moraineref02_Same.f bt177.1 bt177.2.1 t158 t159).bind fun t183 => (if t183 = true then ((morainelaw02_awake.f).bind fun t184 => (some t184)) else (some false))) else (some false))) = some r := by rw [if_neg (show ¬ (false = true) by decide)] at H; exact H
                                    clear H
                                    have H := H1
                                    clear H1
                                    replace H := Option.bind_eq_some_iff.mp H
                                    obtain ⟨⟨t177, t178, t181⟩, A2460, H⟩ := H
                                    replace H : (if t181 = 0 then ((moraineref02_Same.f t177 t178 t158 t159).bind fun t183 => (if t183 = true then ((morainelaw02_awake.f).bind fun t184 => (some t184)) else (some false))) else (some false)) = some r := H
                                    have A246 := Aside0.mk A2460
                                    clear A2460
                                    by_cases c247 : t181 = 0
                                    · rw [if_pos c247] at H
                                      have c247b0 : (t181 == 0) = true := beq_iff_eq.mpr c247
                                      have c247b1 : (t181 != 0) = false := bne_eq_false_iff_eq.mpr c247
                                      clear c247
                                      replace H := Option.bind_eq_some_iff.mp H
                                      obtain ⟨t183, A2480, H⟩ := H
                                      replace H : (if t183 = true then ((morainelaw02_awake.f).bind fun t184 => (some t184)) else (some false)) = some r := H
                                      have A248 := Aside0.mk A2480
                                      clear A2480
                                      by_cases c249 : t183 = true
                                      · subst c249
                                        have H1 : ((morainelaw02_awake.f).bind fun t184 => (some t184)) = some r := by rw [if_pos rfl] at H; exact H
                                        clear H
                                        have H := H1
                                        clear H1
                                        replace H := Option.bind_eq_some_iff.mp H
                                        obtain ⟨t184, A2500, H⟩ := H
                                        replace H : (some t184) = some r := H
                                        have A250 := Aside0.mk A2500
                                        clear A2500
                                        obtain rfl := Option.some.inj H
                                        have hnb251 := NB169_102.out
                                        have hnc251 := NB102_169.out
                                        have hnb252 := NB169_103.out
                                        have hnc252 := NB103_169.out
                                        have hnb253 := NB169_104.out
                                        have hnc253 := NB104_169.out
                                        have hnb254 := NB169_130.out
                                        have hnc254 := NB130_169.out
                                        have hnb255 := NB169_136.out
                                        have hnc255 := NB136_169.out
                                        have hnb256 := NB169_150.out
                                        have hnc256 := NB150_169.out
                                        have hnb257 := NB169_156.out
                                        have hnc257 := NB156_169.out
                                        have hnb258 := NB169_163.out
                                        have hnc258 := NB163_169.out
                                        have hnb259 := NB169_175.out
                                        have hnc259 := NB175_169.out
                                        have hcz260_0 : wc.cell? ⟨gb169, 0, none⟩ = some (.bool t164) := (blk_cell BK169.out 0).trans rfl
                                        have hcz260_1 : wc.cell? ⟨gb169, 1, none⟩ = some (.slice Ao221 t165.length co221) := (blk_cell BK169.out 1).trans rfl
                                        have hfz260_0 := blk_frozen BK169.out 0
                                        have hfz260_1 := blk_frozen BK169.out 1
                                        have hnb261 := NB175_102.out
                                        have hnc261 := NB102_175.out
                                        have hnb262 := NB175_103.out
                                        have hnc262 := NB103_175.out
                                        have hnb263 := NB175_104.out
                                        have hnc263 := NB104_175.out
                                        have hnb264 := NB175_130.out
                                        have hnc264 := NB130_175.out
                                        have hnb265 := NB175_136.out
                                        have hnc265 := NB136_175.out
                                        have hnb266 := NB175_150.out
                                        have hnc266 := NB150_175.out
                                        have hnb267 := NB175_156.out
                                        have hnc267 := NB156_175.out
                                        have hnb268 := NB175_163.out
                                        have hnc268 := NB163_175.out
                                        have hcz269_0 : wc.cell? ⟨gb175, 0, none⟩ = some (.bool t170) := (blk_cell BK175.out 0).trans rfl
                                        have hcz269_1 : wc.cell? ⟨gb175, 1, none⟩ = some (.slice Ao239 t171.length co239) := (blk_cell BK175.out 1).trans rfl
                                        have hfz269_0 := blk_frozen BK175.out 0
                                        have hfz269_1 := blk_frozen BK175.out 1
                                        go_wp2_with (first | ((with_reducible refine gate_callee (f := 41) rfl ?_); refine goesL_ (some 157) rfl rfl Tryd.func41 (by kernel_rfl) rfl #[.agg #[.bool t164, .slice Ao221 t165.length co221], .agg #[.bool t170, .slice Ao239 t171.length co239]] rfl (by (try simp only [List.map_toArray, List.map_cons, List.map_nil]); first | done | rfl | (simp only [List.length_drop, List.length_take]; rfl)) ?_; (with_reducible refine (num_Add.calls t164 _ _ t165 t170 _ _ t171 t177 t178 t181 _ ?side1 ?side2 ?side3 ?side4 A246.out).mono ?_); (case side1 => repeat (first | exact (Kd.R_reads' HO_170001.out).2.2 | (with_reducible refine Kd.C_alloc ?_ _) | (with_reducible refine Kd.C_drewN ?_ _) | (with_reducible refine Kd.C_drew ?_))); (case side2 => exact (Kd.R_reads' HO_170001.out).2.1); (case side3 => repeat (first | exact (Kd.R_reads' HO_176001.out).2.2 | (with_reducible refine Kd.C_alloc ?_ _) | (with_reducible refine Kd.C_drewN ?_ _) | (with_reducible refine Kd.C_drew ?_))); (case side4 => exact (Kd.R_reads' HO_176001.out).2.1); rintro e w270 ⟨v179, rfl, ho0, hb⟩; refine ⟨_, rfl, ?_⟩; have HO180 := Aside0.mk (Kd.R_lower (Kd.R_new' (Kd.R_new' (Kd.R_new' (Kd.R_new' (Kd.R_new' (Kd.R_new' (Kd.R_new' (Kd.R_new' (Kd.R_new' (Kd.R_new' ho0 (ql HO_103001)) (ql HO_104001)) (ql HO_105001)) (ql HO_131001)) (ql HO_137001)) (ql HO_151001)) (ql HO_157001)) (ql HO_164001)) (ql HO_170001)) (ql HO_176001)) (below_size (by repeat (first | (with_reducible first | exact HB.out | apply below_alloc | apply pw_below_drewN | apply below_drew1 | refine qs ?_ (by assumption)) | exact HB.out)))); replace HO_103001 := qe HO_103001 ho0 hb; replace HO_104001 := qe HO_104001 ho0 hb; replace HO_105001 := qe HO_105001 ho0 hb; replace HO_131001 := qe HO_131001 ho0 hb; replace HO_137001 := qe HO_137001 ho0 hb; replace HO_151001 := qe HO_151001 ho0 hb; replace HO_157001 := qe HO_157001 ho0 hb; replace HO_164001 := qe HO_164001 ho0 hb; replace HO_170001 := qe HO_170001 ho0 hb; replace HO_176001 := qe HO_176001 ho0 hb; replace BK102 := qb BK102 hb; replace BK103 := qb BK103 hb; replace BK104 := qb BK104 hb; replace BK130 := qb BK130 hb; replace BK136 := qb BK136 hb; replace BK150 := qb BK150 hb; replace BK156 := qb BK156 hb; replace BK163 := qb BK163 hb; replace BK169 := qb BK169 hb; replace BK175 := qb BK175 hb; replace HB := Aside0.mk (below_step (by repeat (first | (with_reducible first | exact HB.out | apply below_alloc | apply pw_below_drewN | apply below_drew1 | refine qs ?_ (by assumption)) | exact HB.out)) hb); (try clear hb); (try clear hb2); (try clear hk); (try clear hi); (try clear ho0)) | ((with_reducible refine gate_dst (N := 24) rfl ?_); refine box_event ?hg (N := 24) ?hd (cs := #[.bool false, .slice none 0 0]) (t := 25) ?hr ?_; (case hd => rfl); (case hg => rfl); (case hr => first | (go_simp; done) | (go_simp; rfl)); intro gb182 hg w271 hbox hb; replace HO_103001 := qr HO_103001 hb; replace HO_104001 := qr HO_104001 hb; replace HO_105001 := qr HO_105001 hb; replace HO_131001 := qr HO_131001 hb; replace HO_137001 := qr HO_137001 hb; replace HO_151001 := qr HO_151001 hb; replace HO_157001 := qr HO_157001 hb; replace HO_164001 := qr HO_164001 hb; replace HO_170001 := qr HO_170001 hb; replace HO_176001 := qr HO_176001 hb; replace HO180 := qr HO180 hb; have BK182 := Aside0.mk (hbox); have GW182 := qg hg (by repeat (first | (with_reducible first | exact HB.out | apply below_alloc | apply pw_below_drewN | apply below_drew1 | refine qs ?_ (by assumption)) | exact HB.out)); have GE182 := qg hg (by repeat (first | (with_reducible first | exact HB.out | apply below_alloc | apply pw_below_drewN | apply below_drew1 | refine qs ?_ (by assumption)) | exact HB.out)); replace HB := Aside0.mk (below_step (by repeat (first | (with_reducible first | exact HB.out | apply below_alloc | apply pw_below_drewN | apply below_drew1 | refine qs ?_ (by assumption)) | exact HB.out)) hb); have NB102_182 := qn BK102 hg; have NB182_102 := qm BK102 hg; replace BK102 := qb BK102 hb; have NB103_182 := qn BK103 hg; have NB182_103 := qm BK103 hg; replace BK103 := qb BK103 hb; have NB104_182 := qn BK104 hg; have NB182_104 := qm BK104 hg; replace BK104 := qb BK104 hb; have NB130_182 := qn BK130 hg; have NB182_130 := qm BK130 hg; replace BK130 := qb BK130 hb; have NB136_182 := qn BK136 hg; have NB182_136 := qm BK136 hg; replace BK136 := qb BK136 hb; have NB150_182 := qn BK150 hg; have NB182_150 := qm BK150 hg; replace BK150 := qb BK150 hb; have NB156_182 := qn BK156 hg; have NB182_156 := qm BK156 hg; replace BK156 := qb BK156 hb; have NB163_182 := qn BK163 hg; have NB182_163 := qm BK163 hg; replace BK163 := qb BK163 hb; have NB169_182 := qn BK169 hg; have NB182_169 := qm BK169 hg; replace BK169 := qb BK169 hb; have NB175_182 := qn BK175 hg; have NB182_175 := qm BK175 hg; replace BK175 := qb BK175 hb; clear hb hbox hg; have hnb272 := NB182_102.out; have hnc272 := NB102_182.out; have hnb273 := NB182_103.out; have hnc273 := NB103_182.out; have hnb274 := NB182_104.out; have hnc274 := NB104_182.out; have hnb275 := NB182_130.out; have hnc275 := NB130_182.out; have hnb276 := NB182_136.out; have hnc276 := NB136_182.out; have hnb277 := NB182_150.out; have hnc277 := NB150_182.out; have hnb278 := NB182_156.out; have hnc278 := NB156_182.out; have hnb279 := NB182_163.out; have hnc279 := NB163_182.out; have hnb280 := NB182_169.out; have hnc280 := NB169_182.out; have hnb281 := NB182_175.out; have hnc281 := NB175_182.out; have hcz282_0 : w271.cell? ⟨gb182, 0, none⟩ = some (.bool false) := (blk_cell BK182.out 0).trans rfl; have hcz282_1 : w271.cell? ⟨gb182, 1, none⟩ = some (.slice none 0 0) := (blk_cell BK182.out 1).trans rfl; have hfz282_0 := blk_frozen BK182.out 0; have hfz282_1 := blk_frozen BK182.out 1; obtain ⟨Ao283, co283, eo283⟩ := Kd.R_slice HO180.out; subst eo283; have hnb284 := NB163_102.out; have hnc284 := NB102_163.out; have hnb285 := NB163_103.out; have hnc285 := NB103_163.out; have hnb286 := NB163_104.out; have hnc286 := NB104_163.out; have hnb287 := NB163_130.out; have hnc287 := NB130_163.out; have hnb288 := NB163_136.out; have hnc288 := NB136_163.out; have hnb289 := NB163_150.out; have hnc289 := NB150_163.out; have hnb290 := NB163_156.out; have hnc290 := NB156_163.out; have hcz291_0 : w271.cell? ⟨gb163, 0, none⟩ = some (.bool t158) := (blk_cell BK163.out 0).trans rfl; have hcz291_1 : w271.cell? ⟨gb163, 1, none⟩ = some (.slice Ao203 t159.length co203) := (blk_cell BK163.out 1).trans rfl; have hfz291_0 := blk_frozen BK163.out 0; have hfz291_1 := blk_frozen BK163.out 1) | (go_at_call 17; (with_reducible refine (moraineref02_Same.calls t177 _ _ t178 t158 _ _ t159 true _ ?side1 ?side2 ?side3 ?side4 A248.out).mono ?_); (case side1 => refine (Kd.R_reads' (e := 63) (base := w.heap.size) (ok := fun k_ => ((((((((((True ∧ some k_ ≠ (.slice Ao45 t110.length co45 : Value).ownBlock) ∧ some k_ ≠ (.slice Ao50 t115.length co50 : Value).ownBlock) ∧ some k_ ≠ (.slice Ao54 t120.length co54 : Value).ownBlock) ∧ some k_ ≠ (.slice Ao74 t126.length co74 : Value).ownBlock) ∧ some k_ ≠ (.slice Ao84 t132.length co84 : Value).ownBlock) ∧ some k_ ≠ (.slice Ao146 t146.length co146 : Value).ownBlock) ∧ some k_ ≠ (.slice Ao158 t152.length co158 : Value).ownBlock) ∧ some k_ ≠ (.slice Ao203 t159.length co203 : Value).ownBlock) ∧ some k_ ≠ (.slice Ao221 t165.length co221 : Value).ownBlock) ∧ some k_ ≠ (.slice Ao239 t171.length co239 : Value).ownBlock)) (n := t178.length) (c := co283) ?_).2.2; exact (by (with_reducible repeat (first | apply Kd.R_alloc | apply Kd.R_drewN | apply Kd.R_drew)); exact (Kd.R_mono (qz HO180 BK182 (by decide) (.bool t177) (.slice Ao283 t178.length co283)) (fun _ h_ => h_.1)))); (case side2 => exact (Kd.R_reads' HO180.out).2.1); (case side3 => refine (Kd.R_reads' (e := 63) (base := w.heap.size) (ok := fun k_ => ((some k_ ≠ (.slice Ao45 t110.length co45 : Value).ownBlock ∧ (some k_ ≠ (.slice Ao50 t115.length co50 : Value).ownBlock ∧ (some k_ ≠ (.slice Ao54 t120.length co54 : Value).ownBlock ∧ (some k_ ≠ (.slice Ao74 t126.length co74 : Value).ownBlock ∧ (some k_ ≠ (.slice Ao84 t132.length co84 : Value).ownBlock ∧ (some k_ ≠ (.slice Ao146 t146.length co146 : Value).ownBlock ∧ (some k_ ≠ (.slice Ao158 t152.length co158 : Value).ownBlock ∧ (some k_ ≠ (.slice Ao221 t165.length co221 : Value).ownBlock ∧ some k_ ≠ (.slice Ao239 t171.length co239 : Value).ownBlock)))))))) ∧ some k_ ≠ (.slice Ao283 t178.length co283 : Value).ownBlock)) (n := t159.length) (c := co203) ?_).2.2; exact (by (with_reducible repeat (first | apply Kd.R_alloc | apply Kd.R_drewN | apply Kd.R_drew)); exact (Kd.R_mono (qz HO_164001 BK182 (by decide) (.bool t177) (.slice Ao283 t178.length co283)) (fun _ h_ => h_.1)))); (case side4 => exact (Kd.R_reads' HO_164001.out).2.1); rintro e w292 ⟨rfl, hb⟩; have n0_ := Aside0.mk (Kd.R_below (by (with_reducible repeat (first | apply Kd.R_alloc | apply Kd.R_drewN | apply Kd.R_drew)); exact (Kd.R_mono (qz HO_103001 BK182 (by decide) (.bool t177) (.slice Ao283 t178.length co283)) (fun _ h_ => h_.1))) hb); have n1_ := Aside0.mk (Kd.R_below (by (with_reducible repeat (first | apply Kd.R_alloc | apply Kd.R_drewN | apply Kd.R_drew)); exact (Kd.R_mono (qz HO_104001 BK182 (by decide) (.bool t177) (.slice Ao283 t178.length co283)) (fun _ h_ => h_.1))) hb); have n2_ := Aside0.mk (Kd.R_below (by (with_reducible repeat (first | apply Kd.R_alloc | apply Kd.R_drewN | apply Kd.R_drew)); exact (Kd.R_mono (qz HO_105001 BK182 (by decide) (.bool t177) (.slice Ao283 t178.length co283)) (fun _ h_ => h_.1))) hb); have n3_ := Aside0.mk (Kd.R_below (by (with_reducible repeat (first | apply Kd.R_alloc | apply Kd.R_drewN | apply Kd.R_drew)); exact (Kd.R_mono (qz HO_131001 BK182 (by decide) (.bool t177) (.slice Ao283 t178.length co283)) (fun _ h_ => h_.1))) hb); have n4_ := Aside0.mk (Kd.R_below (by (with_reducible repeat (first | apply Kd.R_alloc | apply Kd.R_drewN | apply Kd.R_drew)); exact (Kd.R_mono (qz HO_137001 BK182 (by decide) (.bool t177) (.slice Ao283 t178.length co283)) (fun _ h_ => h_.1))) hb); have n5_ := Aside0.mk (Kd.R_below (by (with_reducible repeat (first | apply Kd.R_alloc | apply Kd.R_drewN | apply Kd.R_drew)); exact (Kd.R_mono (qz HO_151001 BK182 (by decide) (.bool t177) (.slice Ao283 t178.length co283)) (fun _ h_ => h_.1))) hb); have n6_ := Aside0.mk (Kd.R_below (by (with_reducible repeat (first | apply Kd.R_alloc | apply Kd.R_drewN | apply Kd.R_drew)); exact (Kd.R_mono (qz HO_157001 BK182 (by decide) (.bool t177) (.slice Ao283 t178.length co283)) (fun _ h_ => h_.1))) hb); have n7_ := Aside0.mk (Kd.R_below (by (with_reducible repeat (first | apply Kd.R_alloc | apply Kd.R_drewN | apply Kd.R_drew)); exact (Kd.R_mono (qz HO_164001 BK182 (by decide) (.bool t177) (.slice Ao283 t178.length co283)) (fun _ h_ => h_.1))) hb); have n8_ := Aside0.mk (Kd.R_below (by (with_reducible repeat (first | apply Kd.R_alloc | apply Kd.R_drewN | apply Kd.R_drew)); exact (Kd.R_mono (qz HO_170001 BK182 (by decide) (.bool t177) (.slice Ao283 t178.length co283)) (fun _ h_ => h_.1))) hb); have n9_ := Aside0.mk (Kd.R_below (by (with_reducible repeat (first | apply Kd.R_alloc | apply Kd.R_drewN | apply Kd.R_drew)); exact (Kd.R_mono (qz HO_176001 BK182 (by decide) (.bool t177) (.slice Ao283 t178.length co283)) (fun _ h_ => h_.1))) hb); have n10_ := Aside0.mk (Kd.R_below (by (with_reducible repeat (first | apply Kd.R_alloc | apply Kd.R_drewN | apply Kd.R_drew)); exact (Kd.R_mono (qz HO180 BK182 (by decide) (.bool t177) (.slice Ao283 t178.length co283)) (fun _ h_ => h_.1))) hb); have n11_ := Aside0.mk (blk_below (g := gb102) (o := .cells #[.bool t109, .slice Ao45 t110.length co45] 25 (0, 0)) (by (with_reducible repeat (first | refine qN ?_ _ | refine qW ?_ | refine qA ?_ _)); refine qf ?_ NB102_182; (with_reducible repeat (first | refine qN ?_ _ | refine qW ?_ | refine qA ?_ _)); exact BK102.out) hb); have n12_ := Aside0.mk (blk_below (g := gb103) (o := .cells #[.bool t114, .slice Ao50 t115.length co50] 25 (0, 0)) (by (with_reducible repeat (first | refine qN ?_ _ | refine qW ?_ | refine qA ?_ _)); refine qf ?_ NB103_182; (with_reducible repeat (first | refine qN ?_ _ | refine qW ?_ | refine qA ?_ _)); exact BK103.out) hb); have n13_ := Aside0.mk (blk_below (g := gb104) (o := .cells #[.bool t119, .slice Ao54 t120.length co54] 25 (0, 0)) (by (with_reducible repeat (first | refine qN ?_ _ | refine qW ?_ | refine qA ?_ _)); refine qf ?_ NB104_182; (with_reducible repeat (first | refine qN ?_ _ | refine qW ?_ | refine qA ?_ _)); exact BK104.out) hb); have n14_ := Aside0.mk (blk_below (g := gb130) (o := .cells #[.bool t125, .slice Ao74 t126.length co74] 25 (0, 0)) (by (with_reducible repeat (first | refine qN ?_ _ | refine qW ?_ | refine qA ?_ _)); refine qf ?_ NB130_182; (with_reducible repeat (first | refine qN ?_ _ | refine qW ?_ | refine qA ?_ _)); exact BK130.out) hb); have n15_ := Aside0.mk (blk_below (g := gb136) (o := .cells #[.bool t131, .slice Ao84 t132.length co84] 25 (0, 0)) (by (with_reducible repeat (first | refine qN ?_ _ | refine qW ?_ | refine qA ?_ _)); refine qf ?_ NB136_182; (with_reducible repeat (first | refine qN ?_ _ | refine qW ?_ | refine qA ?_ _)); exact BK136.out) hb); have n16_ := Aside0.mk (blk_below (g := gb150) (o := .cells #[.bool t145, .slice Ao146 t146.length co146] 25 (0, 0)) (by (with_reducible repeat (first | refine qN ?_ _ | refine qW ?_ | refine qA ?_ _)); refine qf ?_ NB150_182; (with_reducible repeat (first | refine qN ?_ _ | refine qW ?_ | refine qA ?_ _)); exact BK150.out) hb); have n17_ := Aside0.mk (blk_below (g := gb156) (o := .cells #[.bool t151, .slice Ao158 t152.length co158] 25 (0, 0)) (by (with_reducible repeat (first | refine qN ?_ _ | refine qW ?_ | refine qA ?_ _)); refine qf ?_ NB156_182; (with_reducible repeat (first | refine qN ?_ _ | refine qW ?_ | refine qA ?_ _)); exact BK156.out) hb); have n18_ := Aside0.mk (blk_below (g := gb163) (o := .cells #[.bool t158, .slice Ao203 t159.length co203] 25 (0, 0)) (by (with_reducible repeat (first | refine qN ?_ _ | refine qW ?_ | refine qA ?_ _)); refine qf ?_ NB163_182; (with_reducible repeat (first | refine qN ?_ _ | refine qW ?_ | refine qA ?_ _)); exact BK163.out) hb); have n19_ := Aside0.mk (blk_below (g := gb169) (o := .cells #[.bool t164, .slice Ao221 t165.length co221] 25 (0, 0)) (by (with_reducible repeat (first | refine qN ?_ _ | refine qW ?_ | refine qA ?_ _)); refine qf ?_ NB169_182; (with_reducible repeat (first | refine qN ?_ _ | refine qW ?_ | refine qA ?_ _)); exact BK169.out) hb); have n20_ := Aside0.mk (blk_below (g := gb175) (o := .cells #[.bool t170, .slice Ao239 t171.length co239] 25 (0, 0)) (by (with_reducible repeat (first | refine qN ?_ _ | refine qW ?_ | refine qA ?_ _)); refine qf ?_ NB175_182; (with_reducible repeat (first | refine qN ?_ _ | refine qW ?_ | refine qA ?_ _)); exact BK175.out) hb); have n21_ := Aside0.mk (blk_below (g := gb182) (o := .cells #[.bool t177, .slice Ao283 t178.length co283] 25 (0, 0)) (by (with_reducible repeat (first | refine qN ?_ _ | refine qW ?_ | refine qA ?_ _)); refine blk_put (cs := #[.bool t177, .slice none 0 0]) ?_ 1 _ rfl; (with_reducible repeat (first | refine qN ?_ _ | refine qW ?_ | refine qA ?_ _)); refine blk_put (cs := #[.bool false, .slice none 0 0]) ?_ 0 _ rfl; (with_reducible repeat (first | refine qN ?_ _ | refine qW ?_ | refine qA ?_ _)); exact BK182.out) hb); have n22_ := Aside0.mk (below_step (by repeat (first | (with_reducible first | exact HB.out | apply below_alloc | apply pw_below_drewN | apply below_drew1 | refine qs ?_ (by assumption)) | exact HB.out)) hb); clear HO_103001; clear HO_104001; clear HO_105001; clear HO_131001; clear HO_137001; clear HO_151001; clear HO_157001; clear HO_164001; clear HO_170001; clear HO_176001; clear HO180; clear BK102; clear BK103; clear BK104; clear BK130; clear BK136; clear BK150; clear BK156; clear BK163; clear BK169; clear BK175; clear BK182; clear HB; have HO_103001 := n0_; have HO_104001 := n1_; have HO_105001 := n2_; have HO_131001 := n3_; have HO_137001 := n4_; have HO_151001 := n5_; have HO_157001 := n6_; have HO_164001 := n7_; have HO_170001 := n8_; have HO_176001 := n9_; have HO180 := n10_; have BK102 := n11_; have BK103 := n12_; have BK104 := n13_; have BK130 := n14_; have BK136 := n15_; have BK150 := n16_; have BK156 := n17_; have BK163 := n18_; have BK169 := n19_; have BK175 := n20_; have BK182 := n21_; have HB := n22_; clear n0_ n1_ n2_ n3_ n4_ n5_ n6_ n7_ n8_ n9_ n10_ n11_ n12_ n13_ n14_ n15_ n16_ n17_ n18_ n19_ n20_ n21_ n22_; (try clear hb); (try clear hb2); (try clear hk); (try clear hi)) | (go_at_call 20; (with_reducible refine (morainelaw02_awake.calls  t184 _ A250.out (NumV.Tab.below HT.out (by repeat (first | exact HB.out | apply below_alloc | apply pw_below_drewN | apply below_drew1 | refine below_set ?_ (Aside0.out (by assumption)))))).mono ?_); rintro e w293 ⟨rfl, hb⟩; replace HO_103001 := qr HO_103001 hb; replace HO_104001 := qr HO_104001 hb; replace HO_105001 := qr HO_105001 hb; replace HO_131001 := qr HO_131001 hb; replace HO_137001 := qr HO_137001 hb; replace HO_151001 := qr HO_151001 hb; replace HO_157001 := qr HO_157001 hb; replace HO_164001 := qr HO_164001 hb; replace HO_170001 := qr HO_170001 hb; replace HO_176001 := qr HO_176001 hb; replace HO180 := qr HO180 hb; replace BK102 := qb BK102 hb; replace BK103 := qb BK103 hb; replace BK104 := qb BK104 hb; replace BK130 := qb BK130 hb; replace BK136 := qb BK136 hb; replace BK150 := qb BK150 hb; replace BK156 := qb BK156 hb; replace BK163 := qb BK163 hb; replace BK169 := qb BK169 hb; replace BK175 := qb BK175 hb; replace BK182 := qb BK182 hb; replace HB := Aside0.mk (below_step (by repeat (first | (with_reducible first | exact HB.out | apply below_alloc | apply pw_below_drewN | apply below_drew1 | refine qs ?_ (by assumption)) | exact HB.out)) hb); (try clear hb); (try clear hb2); (try clear hk); (try clear hi)))
                                        go_ret
                                        exact ⟨by first | rfl | (simp [errW_none, errW_some] <;> rfl) | (simp [*, errW_none, errW_some] <;> rfl), by repeat (first | (with_reducible first | exact HB.out | apply below_alloc | apply pw_below_drewN | apply below_drew1 | refine qs ?_ (by assumption)) | exact HB.out)⟩
                                      · replace c249 := Bool.eq_false_iff.mpr c249
                                        subst c249
                                        have H1 : (some false) = some r := by rw [if_neg (show ¬ (false = true) by decide)] at H; exact H
                                        clear H
                                        have H := H1
                                        clear H1
                                        exact absurd ((Option.some.inj H).trans hr) (by decide)
                                    · rw [if_neg c247] at H
                                      have c247b0 : (t181 == 0) = false := beq_eq_false_iff_ne.mpr c247
                                      have c247b1 : (t181 != 0) = true := bne_iff_ne.mpr c247
                                      exact absurd ((Option.some.inj H).trans hr) (by decide)
end Go.Proofs.YthhpnlbeniihhaaDoor.PNumRing
