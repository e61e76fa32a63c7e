/- Of any list of numbers: the greatest number that divides all is the document's (law NumGcds). Conditions: none. -/
import Derived.Test.YthhpnlbeniihhaaDoorProg
import Derived.Below
import Derived.Deep.Draws
import Derived.Deep.AppendLies
import Derived.Maps.AppendAt
import Derived.OwnWalk
import Derived.Laws.BytesArg
import Derived.Laws.MakeOwn
import Derived.Laws.OwnMore
import Derived.Deep.OwnRows
import Derived.Tactics
import Derived.Lib.ConvBytes
import Derived.Laws.Slices
import Derived.WalkKit
import Derived.KernelRfl
import Derived.RowKit3
import Derived.Deep.LoopGhost
import Derived.Deep.QuietTactic
import Derived.BigQuiet
import Derived.WideLaws
import Derived.Deep.DeepCutAuto
import Derived.Deep.CutBlock
import Derived.Deep.RegionHeld3
import Derived.Laws.Rows
import Derived.Lib.AppendStr
import Derived.ArgAppend
import Derived.Laws.IdiomCopy
import Derived.OrdersHeld
import Derived.Laws.BitsLemmas
import Derived.RowKit
import Derived.Deep.SlicePairs
import Derived.Test.YthhpnlbeniihhaaDoorTie
import Derived.ProofKit
import Derived.OpenShut
import Derived.Deep.DeepHandedRow
import Derived.Carry
import Derived.Test.YthhpnlbeniihhaaDoorCNumGcds3
-- Printed by a program of this session's (wip/tools/printr.py, over the kit's print program).
namespace Go.Proofs.YthhpnlbeniihhaaDoor.PRef
open Go.RowKit Go.Proofs.YthhpnlbeniihhaaDoorW.PrintWords Go.Proofs.YthhpnlbeniihhaaDoorW.PrintLast Go.Proofs.YthhpnlbeniihhaaDoorW.PrintMore
attribute [local go_sem] max2_int min2_int max_two min_two max_three min_three max_four min_four   -- for this text's walks alone
set_option linter.unusedVariables false
set_option linter.unusedSimpArgs false
def morainelaw02_is.f (k : Nat) (a0_0 : Bool) (l0_1 : List Int) (a1 : Int) (a2_0 : Bool) (l2_1 : List Int) : Option (Bool) := (moraineref02_Num.f k a2_0 l2_1).bind fun bt360 => (if a1 = bt360.2.2 then ((moraineref02_Same.f k a0_0 l0_1 bt360.1 bt360.2.1).bind fun t366 => (some t366)) else (some false))
set_option maxHeartbeats 8000000 in
set_option maxRecDepth 100000 in
theorem morainelaw02_is.calls (k : Nat) (a0_0 : Bool) (A0_1 : Option Addr) (c0_1 : Nat) (l0_1 : List Int) (a1 : Int) (a2_0 : Bool) (A2_1 : Option Addr) (c2_1 : Nat) (l2_1 : List Int) (r : Bool) (w : World) (hr0_1 : Kd.C (Kd.int .u32) w A0_1 l0_1.length l0_1) (hc0_1 : l0_1.length ≤ c0_1) (hr2_1 : Kd.C (Kd.int .u8) w A2_1 l2_1.length l2_1) (hc2_1 : l2_1.length ≤ c2_1) (h : morainelaw02_is.f k a0_0 l0_1 a1 a2_0 l2_1 = some r) :
  Calls Tryd.prog 27 #[.agg #[.bool a0_0, .slice A0_1 l0_1.length c0_1], .int .i64 a1, .agg #[.bool a2_0, .slice A2_1 l2_1.length c2_1]] w fun e w' => e = .returned (.bool r) ∧ Below w.heap.size w w' := by
 have hu25 := Tryd.underlying25
 have hu34 := Tryd.underlying34
 have HR0_1 := Aside0.mk hr0_1
 have HC0_1 := Aside0.mk hc0_1
 clear hr0_1 hc0_1
 have HR2_1 := Aside0.mk hr2_1
 have HC2_1 := Aside0.mk hc2_1
 clear hr2_1 hc2_1
 have HB := Aside0.mk (Below.refl w.heap.size w)
 have H : ((moraineref02_Num.f k a2_0 l2_1).bind fun bt360 => (if a1 = bt360.2.2 then ((moraineref02_Same.f k a0_0 l0_1 bt360.1 bt360.2.1).bind fun t366 => (some t366)) else (some false))) = some r := h
 clear h
 replace H := Option.bind_eq_some_iff.mp H
 obtain ⟨⟨t360, t361, t364⟩, A40, H⟩ := H
 replace H : (if a1 = t364 then ((moraineref02_Same.f k a0_0 l0_1 t360 t361).bind fun t366 => (some t366)) else (some false)) = some r := H
 have A4 := Aside0.mk A40
 clear A40
 by_cases c5 : a1 = t364
 ·rw [if_pos c5] at H
  have c5b0 : (a1 == t364) = true := beq_iff_eq.mpr c5
  have c5b1 : (a1 != t364) = false := bne_eq_false_iff_eq.mpr c5
  clear c5
  replace H := Option.bind_eq_some_iff.mp H
  obtain ⟨t366, A60, H⟩ := H
  replace H : (some t366) = some r := H
  have A6 := Aside0.mk A60
  clear A60
  obtain rfl := Option.some.inj H
  go_enter Tryd.func27, Tryd.ntmps27
  go_wp2_with (first | ((with_reducible refine gate_dst (N := 3) rfl ?_); refine box_event ?hg (N := 3) ?hd (cs := #[.bool a0_0, .slice A0_1 l0_1.length c0_1]) (t := 25) ?hr ?_; (case hd => rfl); (case hg => rfl); (case hr => go_simp <;> rfl); intro gb358 hg w7 hbox hb; have BK358 := Aside0.mk (hbox); have GW358 := qg hg (by repeat (first | (with_reducible first | exact HB.out | apply qx | apply qv | apply qw) | exact HB.out)); have GE358 := GW358; replace HB := Aside0.mk (below_step (by repeat (first | (with_reducible first | exact HB.out | apply qx | apply qv | apply qw) | exact HB.out)) hb); clear hb hbox hg) | ((with_reducible refine gate_dst (N := 5) rfl ?_); refine box_event ?hg (N := 5) ?hd (cs := #[.bool a2_0, .slice A2_1 l2_1.length c2_1]) (t := 34) ?hr ?_; (case hd => rfl); (case hg => rfl); (case hr => go_simp <;> rfl); intro gb359 hg w8 hbox hb; have BK359 := Aside0.mk (hbox); have GW359 := qg hg (by repeat (first | (with_reducible first | exact HB.out | apply qx | apply qv | apply qw | refine below_set ?_ GE358.out) | exact HB.out)); have GE359 := GW359; replace HB := Aside0.mk (below_step (by repeat (first | (with_reducible first | exact HB.out | apply qx | apply qv | apply qw | refine below_set ?_ GE358.out) | exact HB.out)) hb); have NB358_359 := qn BK358 hg; have NB359_358 := qm BK358 hg; replace BK358 := qb BK358 hb; clear hb hbox hg; have hnb9 := NB359_358.out; have hnc9 := NB358_359.out; have hcz10_0 : w8.cell? ⟨gb359, 0, none⟩ = some (.bool a2_0) := qc BK359 0; have hcz10_1 : w8.cell? ⟨gb359, 1, none⟩ = some (.slice A2_1 l2_1.length c2_1) := qc BK359 1; have hfz10_0 := blk_frozen BK359.out 0; have hfz10_1 := blk_frozen BK359.out 1) | ((with_reducible refine gate_callee (f := 52) rfl ?_); refine goesL_ (some 11) rfl rfl Tryd.func52 (by kernel_rfl) rfl #[.agg #[.bool a2_0, .slice A2_1 l2_1.length c2_1]] rfl (by (try simp only [zM, zO, zP]); first|done|rfl) ?_; (with_reducible refine (moraineref02_Num.calls k a2_0 _ _ l2_1 t360 t361 t364 _ ?side1 ?side2 A4.out).mono ?_); (case side1 => exact qC HR2_1 HB); (case side2 => exact HC2_1.out); rintro e w11 ⟨v362, rfl, ho0, hb⟩; refine ⟨_, rfl, ?_⟩; have HO363 := Aside0.mk (Kd.R_lower ho0 (below_size (by repeat with_reducible first|exact HB.out|apply qx|apply qv|apply qw|refine qs ?_ (by assumption)))); replace BK358 := qb BK358 hb; replace BK359 := qb BK359 hb; replace HB := Aside0.mk (below_step (by repeat with_reducible first|exact HB.out|apply qx|apply qv|apply qw|refine qs ?_ (by assumption)) hb); (try clear hb); (try clear hb2); (try clear hk); (try clear hi); (try clear ho0)) | ((with_reducible refine gate_dst (N := 7) rfl ?_); refine box_event ?hg (N := 7) ?hd (cs := #[.bool false, .slice none 0 0]) (t := 25) ?hr ?_; (case hd => rfl); (case hg => rfl); (case hr => go_simp <;> rfl); intro gb365 hg w12 hbox hb; replace HO363 := qr HO363 hb; have BK365 := Aside0.mk (hbox); have GW365 := qg hg (by repeat with_reducible first|exact HB.out|apply qx|apply qv|apply qw|refine qs ?_ (by assumption)); have GE365 := GW365; replace HB := Aside0.mk (below_step (by repeat with_reducible first|exact HB.out|apply qx|apply qv|apply qw|refine qs ?_ (by assumption)) hb); have NB358_365 := qn BK358 hg; have NB365_358 := qm BK358 hg; replace BK358 := qb BK358 hb; have NB359_365 := qn BK359 hg; have NB365_359 := qm BK359 hg; replace BK359 := qb BK359 hb; clear hb hbox hg; have hnb13 := NB365_358.out; have hnc13 := NB358_365.out; have hnb14 := NB365_359.out; have hnc14 := NB359_365.out; have hcz15_0 : w12.cell? ⟨gb365, 0, none⟩ = some (.bool false) := qc BK365 0; have hcz15_1 : w12.cell? ⟨gb365, 1, none⟩ = some (.slice none 0 0) := qc BK365 1; have hfz15_0 := blk_frozen BK365.out 0; have hfz15_1 := blk_frozen BK365.out 1; obtain ⟨Ao16, co16, eo16⟩ := Kd.R_slice HO363.out; subst eo16; have hcz17_0 : w12.cell? ⟨gb358, 0, none⟩ = some (.bool a0_0) := qc BK358 0; have hcz17_1 : w12.cell? ⟨gb358, 1, none⟩ = some (.slice A0_1 l0_1.length c0_1) := qc BK358 1; have hfz17_0 := blk_frozen BK358.out 0; have hfz17_1 := blk_frozen BK358.out 1) | (go_at_call 17; (with_reducible refine (moraineref02_Same.calls k a0_0 _ _ l0_1 t360 _ _ t361 t366 _ ?side1 ?side2 ?side3 ?side4 A6.out).mono ?_); (case side1 => exact Kd.C_below HR0_1.out (by repeat with_reducible first|exact HB.out|apply qx|apply qv|apply qw|refine qs ?_ (by assumption))); (case side2 => exact HC0_1.out); (case side3 => refine (Kd.R_reads' (e := 63) (base := w.heap.size) (ok := fun k_ => True) (n := t361.length) (c := co16) ?_).2.2; exact (by (with_reducible repeat first|apply Kd.R_alloc|apply Kd.R_drewN|apply Kd.R_drew); exact (Kd.R_mono (qz HO363 BK365 (by decide) (.bool t360) (.slice Ao16 t361.length co16)) (fun _ h_ => h_.1)))); (case side4 => exact (Kd.R_reads' HO363.out).2.1); rintro e w18 ⟨rfl, hb⟩; have n0_ := Aside0.mk (Kd.R_below (by (with_reducible repeat first|apply Kd.R_alloc|apply Kd.R_drewN|apply Kd.R_drew); exact (Kd.R_mono (qz HO363 BK365 (by decide) (.bool t360) (.slice Ao16 t361.length co16)) (fun _ h_ => h_.1))) hb); have n1_ := Aside0.mk (blk_below (g := gb358) (o := .cells #[.bool a0_0, .slice A0_1 l0_1.length c0_1] 25 (0, 0)) (by (with_reducible repeat first|refine qN ?_ _|refine qW ?_|refine qA ?_ _); refine qf ?_ NB358_365; (with_reducible repeat first|refine qN ?_ _|refine qW ?_|refine qA ?_ _); exact BK358.out) hb); have n2_ := Aside0.mk (blk_below (g := gb359) (o := .cells #[.bool a2_0, .slice A2_1 l2_1.length c2_1] 34 (0, 0)) (by (with_reducible repeat first|refine qN ?_ _|refine qW ?_|refine qA ?_ _); refine qf ?_ NB359_365; (with_reducible repeat first|refine qN ?_ _|refine qW ?_|refine qA ?_ _); exact BK359.out) hb); have n3_ := Aside0.mk (blk_below (g := gb365) (o := .cells #[.bool t360, .slice Ao16 t361.length co16] 25 (0, 0)) (by (with_reducible repeat first|refine qN ?_ _|refine qW ?_|refine qA ?_ _); refine blk_put (cs := #[.bool t360, .slice none 0 0]) ?_ 1 _ rfl; (with_reducible repeat first|refine qN ?_ _|refine qW ?_|refine qA ?_ _); refine blk_put (cs := #[.bool false, .slice none 0 0]) ?_ 0 _ rfl; (with_reducible repeat first|refine qN ?_ _|refine qW ?_|refine qA ?_ _); exact BK365.out) hb); have n4_ := Aside0.mk (below_step (by repeat with_reducible first|exact HB.out|apply qx|apply qv|apply qw|refine qs ?_ (by assumption)) hb); clear HO363; clear BK358; clear BK359; clear BK365; clear HB; have HO363 := n0_; have BK358 := n1_; have BK359 := n2_; have BK365 := n3_; have HB := n4_; clear n0_ n1_ n2_ n3_ n4_; (try clear hb); (try clear hb2); (try clear hk); (try clear hi)))
  go_ret
  exact ⟨by first | rfl | (simp [errW_none, errW_some] <;> rfl) | (simp [*, errW_none, errW_some] <;> rfl), by repeat (first | (with_reducible first | exact HB.out | apply qx | apply qv | apply qw | refine qs ?_ (by assumption)) | exact HB.out)⟩
 ·rw [if_neg c5] at H
  have c5b0 : (a1 == t364) = false := beq_eq_false_iff_ne.mpr c5
  have c5b1 : (a1 != t364) = true := bne_iff_ne.mpr c5
  obtain rfl := Option.some.inj H
  go_enter Tryd.func27, Tryd.ntmps27
  go_wp2_with (first | ((with_reducible refine gate_dst (N := 3) rfl ?_); refine box_event ?hg (N := 3) ?hd (cs := #[.bool a0_0, .slice A0_1 l0_1.length c0_1]) (t := 25) ?hr ?_; (case hd => rfl); (case hg => rfl); (case hr => go_simp <;> rfl); intro gb358 hg w19 hbox hb; have BK358 := Aside0.mk (hbox); have GW358 := qg hg (by repeat (first | (with_reducible first | exact HB.out | apply qx | apply qv | apply qw) | exact HB.out)); have GE358 := GW358; replace HB := Aside0.mk (below_step (by repeat (first | (with_reducible first | exact HB.out | apply qx | apply qv | apply qw) | exact HB.out)) hb); clear hb hbox hg) | ((with_reducible refine gate_dst (N := 5) rfl ?_); refine box_event ?hg (N := 5) ?hd (cs := #[.bool a2_0, .slice A2_1 l2_1.length c2_1]) (t := 34) ?hr ?_; (case hd => rfl); (case hg => rfl); (case hr => go_simp <;> rfl); intro gb359 hg w20 hbox hb; have BK359 := Aside0.mk (hbox); have GW359 := qg hg (by repeat (first | (with_reducible first | exact HB.out | apply qx | apply qv | apply qw | refine below_set ?_ GE358.out) | exact HB.out)); have GE359 := GW359; replace HB := Aside0.mk (below_step (by repeat (first | (with_reducible first | exact HB.out | apply qx | apply qv | apply qw | refine below_set ?_ GE358.out) | exact HB.out)) hb); have NB358_359 := qn BK358 hg; have NB359_358 := qm BK358 hg; replace BK358 := qb BK358 hb; clear hb hbox hg; have hnb21 := NB359_358.out; have hnc21 := NB358_359.out; have hcz22_0 : w20.cell? ⟨gb359, 0, none⟩ = some (.bool a2_0) := qc BK359 0; have hcz22_1 : w20.cell? ⟨gb359, 1, none⟩ = some (.slice A2_1 l2_1.length c2_1) := qc BK359 1; have hfz22_0 := blk_frozen BK359.out 0; have hfz22_1 := blk_frozen BK359.out 1) | ((with_reducible refine gate_callee (f := 52) rfl ?_); refine goesL_ (some 11) rfl rfl Tryd.func52 (by kernel_rfl) rfl #[.agg #[.bool a2_0, .slice A2_1 l2_1.length c2_1]] rfl (by (try simp only [zM, zO, zP]); first|done|rfl) ?_; (with_reducible refine (moraineref02_Num.calls k a2_0 _ _ l2_1 t360 t361 t364 _ ?side1 ?side2 A4.out).mono ?_); (case side1 => exact qC HR2_1 HB); (case side2 => exact HC2_1.out); rintro e w23 ⟨v362, rfl, ho0, hb⟩; refine ⟨_, rfl, ?_⟩; have HO363 := Aside0.mk (Kd.R_lower ho0 (below_size (by repeat with_reducible first|exact HB.out|apply qx|apply qv|apply qw|refine qs ?_ (by assumption)))); replace BK358 := qb BK358 hb; replace BK359 := qb BK359 hb; replace HB := Aside0.mk (below_step (by repeat with_reducible first|exact HB.out|apply qx|apply qv|apply qw|refine qs ?_ (by assumption)) hb); (try clear hb); (try clear hb2); (try clear hk); (try clear hi); (try clear ho0)) | ((with_reducible refine gate_dst (N := 7) rfl ?_); refine box_event ?hg (N := 7) ?hd (cs := #[.bool false, .slice none 0 0]) (t := 25) ?hr ?_; (case hd => rfl); (case hg => rfl); (case hr => go_simp <;> rfl); intro gb365 hg w24 hbox hb; replace HO363 := qr HO363 hb; have BK365 := Aside0.mk (hbox); have GW365 := qg hg (by repeat with_reducible first|exact HB.out|apply qx|apply qv|apply qw|refine qs ?_ (by assumption)); have GE365 := GW365; replace HB := Aside0.mk (below_step (by repeat with_reducible first|exact HB.out|apply qx|apply qv|apply qw|refine qs ?_ (by assumption)) hb); have NB358_365 := qn BK358 hg; have NB365_358 := qm BK358 hg; replace BK358 := qb BK358 hb; have NB359_365 := qn BK359 hg; have NB365_359 := qm BK359 hg; replace BK359 := qb BK359 hb; clear hb hbox hg; have hnb25 := NB365_358.out; have hnc25 := NB358_365.out; have hnb26 := NB365_359.out; have hnc26 := NB359_365.out; have hcz27_0 : w24.cell? ⟨gb365, 0, none⟩ = some (.bool false) := qc BK365 0; have hcz27_1 : w24.cell? ⟨gb365, 1, none⟩ = some (.slice none 0 0) := qc BK365 1; have hfz27_0 := blk_frozen BK365.out 0; have hfz27_1 := blk_frozen BK365.out 1; obtain ⟨Ao28, co28, eo28⟩ := Kd.R_slice HO363.out; subst eo28))
  go_ret
  exact ⟨by first | rfl | (simp [errW_none, errW_some] <;> rfl) | (simp [*, errW_none, errW_some] <;> rfl), by repeat (first | (with_reducible first | exact HB.out | apply qx | apply qv | apply qw | refine qs ?_ (by assumption)) | exact HB.out)⟩
def morainelaw02_long.f (a0_0 : Bool) (l0_1 : List Int) : Option (Bool) := some (decide ((l0_1.length : Int) > 60))
set_option maxHeartbeats 8000000 in
set_option maxRecDepth 100000 in
theorem morainelaw02_long.calls (a0_0 : Bool) (A0_1 : Option Addr) (c0_1 : Nat) (l0_1 : List Int) (r : Bool) (w : World) (hr0_1 : Kd.C (Kd.int .u32) w A0_1 l0_1.length l0_1) (hc0_1 : l0_1.length ≤ c0_1) (h : morainelaw02_long.f a0_0 l0_1 = some r) :
  Calls Tryd.prog 21 #[.agg #[.bool a0_0, .slice A0_1 l0_1.length c0_1]] w fun e w' => e = .returned (.bool r) ∧ Below w.heap.size w w' := by
 have hu25 := Tryd.underlying25
 have HR0_1 := Aside0.mk hr0_1
 have HC0_1 := Aside0.mk hc0_1
 clear hr0_1 hc0_1
 have HB := Aside0.mk (Below.refl w.heap.size w)
 have H : (some (decide ((l0_1.length : Int) > 60))) = some r := h
 clear h
 obtain rfl := Option.some.inj H
 go_enter Tryd.func21, Tryd.ntmps21
 go_wp2_with (first | ((with_reducible refine gate_dst (N := 1) rfl ?_); refine box_event ?hg (N := 1) ?hd (cs := #[.bool a0_0, .slice A0_1 l0_1.length c0_1]) (t := 25) ?hr ?_; (case hd => rfl); (case hg => rfl); (case hr => go_simp <;> rfl); intro gb367 hg w2 hbox hb; have BK367 := Aside0.mk (hbox); have GW367 := qg hg (by repeat (first | (with_reducible first | exact HB.out | apply qx | apply qv | apply qw) | exact HB.out)); have GE367 := GW367; replace HB := Aside0.mk (below_step (by repeat (first | (with_reducible first | exact HB.out | apply qx | apply qv | apply qw) | exact HB.out)) hb); clear hb hbox hg; have hcz3_0 : w2.cell? ⟨gb367, 0, none⟩ = some (.bool a0_0) := qc BK367 0; have hcz3_1 : w2.cell? ⟨gb367, 1, none⟩ = some (.slice A0_1 l0_1.length c0_1) := qc BK367 1; have hfz3_0 := blk_frozen BK367.out 0; have hfz3_1 := blk_frozen BK367.out 1))
 go_ret
 exact ⟨by first | rfl | (simp [errW_none, errW_some] <;> rfl) | (simp [*, errW_none, errW_some] <;> rfl), by repeat (first | (with_reducible first | exact HB.out | apply qx | apply qv | apply qw | refine below_set ?_ GE367.out) | exact HB.out)⟩
end Go.Proofs.YthhpnlbeniihhaaDoor.PRef
namespace Go.Proofs.YthhpnlbeniihhaaDoor.RefC
open Go.RowKit Go.Proofs.YthhpnlbeniihhaaDoorW.PrintWords Go.Proofs.YthhpnlbeniihhaaDoorW.PrintLast Go.Proofs.YthhpnlbeniihhaaDoorW.PrintMore Go.Proofs.YthhpnlbeniihhaaDoor.Limb Go.Proofs.YthhpnlbeniihhaaDoor.Bit Go.Proofs.YthhpnlbeniihhaaDoor.NumA Go.Proofs.YthhpnlbeniihhaaDoor.NumE Go.Proofs.YthhpnlbeniihhaaDoor.NumG Go.Proofs.YthhpnlbeniihhaaDoor.NumJ Go.Proofs.YthhpnlbeniihhaaDoor.RefA Go.Proofs.YthhpnlbeniihhaaDoor.RefB Go.Proofs.YthhpnlbeniihhaaDoor.PRef
set_option linter.unusedVariables false
set_option linter.unusedSimpArgs false
/-- A whole number's sign and bits. -/
def vb (z : Int) : Bool := decide (z < 0)
def vl (z : Int) : List Int := Bit.bits z.natAbs
theorem ok_vl (z : Int) : OkB (vl z) := ok_bits _
theorem bv_vl (z : Int) : bv (vl z) = z.natAbs := bv_bits _
theorem v_mk (b : Bool) (n : Nat) (z : Int) (hn : z.natAbs = n) (hb : n ≠ 0 → b = decide (z < 0)) : (b && decide (n ≠ 0), Bit.bits n) = (vb z, vl z) := by
  subst hn
  unfold vb vl
  by_cases h : z.natAbs = 0
  · have : z = 0 := by omega
    subst this; simp
  · rw [hb h]; simp [h]
theorem Value_at (neg : Bool) (l : List Int) (ok : OkL l) (hl : l.length < 1099511627776) : Ev (fun k => moraineref02_Value.f k neg l) (vb (val neg l), vl (val neg l)) := by
  have h := Value_ev neg l ok hl
  rw [v_mk neg (mag l) (val neg l) (by unfold val; cases neg <;> simp) (fun h => by unfold val; cases neg <;> simp; omega)] at h
  exact h
theorem bits_pos (n : Nat) : decide (0 < (Bit.bits n).length) = decide (n ≠ 0) := by
  rw [decide_eq_decide]
  have := bits_len n 0
  rw [Nat.pow_zero] at this
  omega
end Go.Proofs.YthhpnlbeniihhaaDoor.RefC
namespace Go.Proofs.YthhpnlbeniihhaaDoor.RefD
end Go.Proofs.YthhpnlbeniihhaaDoor.RefD
namespace Go.Proofs.YthhpnlbeniihhaaDoor.RefE
open Go.RowKit Go.Proofs.YthhpnlbeniihhaaDoorW.PrintWords Go.Proofs.YthhpnlbeniihhaaDoorW.PrintLast Go.Proofs.YthhpnlbeniihhaaDoorW.PrintMore Go.Proofs.YthhpnlbeniihhaaDoor.Limb Go.Proofs.YthhpnlbeniihhaaDoor.Bit Go.Proofs.YthhpnlbeniihhaaDoor.NumA Go.Proofs.YthhpnlbeniihhaaDoor.NumB Go.Proofs.YthhpnlbeniihhaaDoor.NumE Go.Proofs.YthhpnlbeniihhaaDoor.NumG Go.Proofs.YthhpnlbeniihhaaDoor.NumJ Go.Proofs.YthhpnlbeniihhaaDoor.Quo Go.Proofs.YthhpnlbeniihhaaDoor.Plain Go.Proofs.YthhpnlbeniihhaaDoor.RefA Go.Proofs.YthhpnlbeniihhaaDoor.RefB Go.Proofs.YthhpnlbeniihhaaDoor.RefC Go.Proofs.YthhpnlbeniihhaaDoor.RefD Go.Proofs.YthhpnlbeniihhaaDoor.PRef
set_option linter.unusedVariables false
set_option linter.unusedSimpArgs false
theorem or_word (x t : Nat) (hx : x < 2 ^ t) (ht : t < 32) : Go.bits .or .u32 (x : Int) (shl .u32 1 (t : Int)) = ((x + 2 ^ t : Nat) : Int) := by
  have hp : (2 : Nat) ^ t < 2 ^ 32 := Nat.pow_lt_pow_right (by decide) ht
  have e : shl .u32 1 (t : Int) = ((2 ^ t : Nat) : Int) := by
    unfold shl
    rw [Int.toNat_natCast, Nat.min_eq_left (by show t ≤ 32; omega), Int.one_mul, IntKind.wrap_u32]
    have : ((2 : Int) ^ t) = ((2 ^ t : Nat) : Int) := by rw [Int.natCast_pow]; rfl
    rw [this]
    omega
  have hor : x ||| 2 ^ t = x + 2 ^ t := by
    have := Nat.two_pow_add_eq_or_of_lt hx 1
    rw [Nat.mul_one] at this
    rw [Nat.or_comm, ← this, Nat.add_comm]
  have h1 : x < 4294967296 := by omega
  rw [e, u32_or _ _ (by omega) (by omega) (by omega) (by omega), Int.toNat_natCast, Int.toNat_natCast, hor]
theorem num_last (z : Int) (M : List Int) (ok : OkL M) (hl : M.length = ((vl z).length + 31) / 32) (hm : mag M = z.natAbs) : M = sl z := by
  have ht : tr M = sl z := by unfold sl; rw [tr_limbs ok, hm]
  rw [← ht]
  have hle := tr_len_le M
  have hge : M.length ≤ (tr M).length := by
    by_cases h0 : (vl z).length = 0
    · omega
    · have hb : ¬ ((vl z).length ≤ (vl z).length - 1) := by omega
      have hb2 : ¬ (z.natAbs < 2 ^ ((vl z).length - 1)) := fun h => hb ((bits_len z.natAbs _).mpr h)
      have hq : ¬ ((tr M).length ≤ M.length - 1) := by
        intro h
        rw [ht] at h
        unfold sl at h
        rw [limbs_len] at h
        refine hb2 (Nat.lt_of_lt_of_le h ?_)
        rw [show (4294967296 : Nat) = 2 ^ 32 from rfl, ← Nat.pow_mul]
        exact Nat.pow_le_pow_right (by decide) (by omega)
      omega
  rw [← tr_take M, List.take_of_length_le hge]
theorem w_div (i : Nat) (h : i < 4611686018427387904) : wrap64 (Int.tdiv (i : Int) 32) = ((i / 32 : Nat) : Int) := by
  rw [Int.tdiv_eq_ediv_of_nonneg (by omega), w64s (by omega) (by omega)]; omega
theorem t_mod (i : Nat) : Int.tmod (i : Int) 32 = ((i % 32 : Nat) : Int) := by rw [Int.tmod_eq_emod_of_nonneg (by omega)]; omega
theorem okL_app {M : List Int} (h : OkL M) : OkL (M ++ [0]) := by
  intro x hx
  rcases List.mem_append.mp hx with hx | hx
  · exact h x hx
  · obtain rfl : x = 0 := by simpa using hx
    decide
theorem okL_set {M : List Int} (h : OkL M) (q : Nat) {x : Nat} (hx : x < 4294967296) : OkL (M.set q (x : Int)) := by
  intro y hy
  rcases List.mem_or_eq_of_mem_set hy with hy | rfl
  · exact h y hy
  · omega
theorem mag_app (M : List Int) : mag (M ++ [0]) = mag M := by rw [mag_append]; simp [mag]
/-- One bit set into a row of limbs that stands below it. -/
theorem set_up {M : List Int} (ok : OkL M) (i : Nat) (hq : i / 32 < M.length) (hm : mag M < 2 ^ i) :
    nl M (i / 32) < 2 ^ (i % 32) ∧ mag (M.set (i / 32) ((nl M (i / 32) + 2 ^ (i % 32) : Nat) : Int)) = mag M + 2 ^ i := by
  have hp := pow_split i
  have h1 : nl M (i / 32) < 2 ^ (i % 32) := by
    rw [← mag_limb ok]
    refine Nat.lt_of_le_of_lt (Nat.mod_le _ _) ?_
    rw [Nat.div_lt_iff_lt_mul (Nat.pow_pos (by decide)), Nat.mul_comm, ← hp]
    exact hm
  refine ⟨h1, ?_⟩
  have hs := mag_set M (i / 32) ((nl M (i / 32) + 2 ^ (i % 32) : Nat) : Int) hq
  rw [Int.toNat_natCast, Nat.mul_add, ← hp] at hs
  omega
theorem num_step (z : Int) (hz : (vl z).length ≤ 1536) (i k : Nat) (hi : i < (vl z).length) (M : List Int) (hM : M.length = i / 32 + 1) (ok : OkL M) (hm : mag M = bv ((vl z).take i)) (R : Bool × List Int × Int)
    (h : ∀ N : List Int, N.length = i / 32 + 1 → OkL N → mag N = bv ((vl z).take (i + 1)) → moraineref02_Num.l0 k ((i + 1 : Nat) : Int) (vb z) (vl z) (vb z) N = some R) :
    (if (rd (vl z) (i : Int)) = 1 then (if 0 ≤ (wrap64 (Int.tdiv (i : Int) 32)) then (if (wrap64 (Int.tdiv (i : Int) 32)) < (M.length : Int) then (if 0 ≤ (Int.tmod (i : Int) 32) then (moraineref02_Num.l0 k (wrap64 ((i : Int) + 1)) (vb z) (vl z) (vb z) (M.set ((wrap64 (Int.tdiv (i : Int) 32)) : Int).toNat (Go.bits .or .u32 (rd M (wrap64 (Int.tdiv (i : Int) 32))) (shl .u32 1 (Int.tmod (i : Int) 32))))) else (none)) else (none)) else (none)) else (moraineref02_Num.l0 k (wrap64 ((i : Int) + 1)) (vb z) (vl z) (vb z) M)) = some R := by
  have hb := nl_le (ok_vl z) i
  have hrd : rd (vl z) (i : Int) = ((nl (vl z) i : Nat) : Int) := (nl_cast (OkB.okL (ok_vl z)) i).symm
  have hlt := bv_take_lt (ok_vl z) i (by omega)
  have hn := bv_take_next (vl z) i
  rw [w_div i (by omega), t_mod, w_next i (by omega), hrd]
  by_cases h1 : nl (vl z) i = 1
  · obtain ⟨hs1, hs2⟩ := set_up ok i (by omega) (by rw [hm]; exact hlt)
    have hw : nl M (i / 32) + 2 ^ (i % 32) < 4294967296 := by
      have : (2 : Nat) ^ (i % 32) ≤ 2 ^ 31 := Nat.pow_le_pow_right (by decide) (by omega)
      omega
    rw [if_pos (by omega), if_pos (by omega), if_pos (by omega), if_pos (by omega), ← nl_cast ok, or_word _ _ hs1 (by omega), Int.toNat_natCast]
    exact h _ (by rw [List.length_set]; exact hM) (okL_set ok _ hw) (by rw [hs2, hm, hn, h1]; omega)
  · have h0 : nl (vl z) i = 0 := by omega
    rw [if_neg (by omega)]
    exact h M hM ok (by rw [hm, hn, h0]; omega)
theorem num_loop (z : Int) (hz : (vl z).length ≤ 1536) (d : Nat) : ∀ (i k : Nat) (M : List Int), i + d = (vl z).length → d < k → M.length = (i + 31) / 32 → OkL M → mag M = bv ((vl z).take i) →
    moraineref02_Num.l0 k (i : Int) (vb z) (vl z) (vb z) M = some (vb z, sl z, 0) := by
  induction d with
  | zero =>
    intro i k M hi hk hM ok hm
    obtain ⟨k, rfl⟩ : ∃ j, k = j + 1 := ⟨k - 1, by omega⟩
    obtain rfl : i = (vl z).length := by omega
    rw [List.take_length, bv_vl] at hm
    rw [moraineref02_Num.l0, if_neg (by omega), num_last z M ok hM hm]
  | succ d ih =>
    intro i k M hi hk hM ok hm
    obtain ⟨k, rfl⟩ : ∃ j, k = j + 1 := ⟨k - 1, by omega⟩
    have hlt : i < (vl z).length := by omega
    have next : ∀ N : List Int, N.length = i / 32 + 1 → OkL N → mag N = bv ((vl z).take (i + 1)) → moraineref02_Num.l0 k ((i + 1 : Nat) : Int) (vb z) (vl z) (vb z) N = some (vb z, sl z, 0) :=
      fun N hN oN mN => ih (i + 1) k N (by omega) (by omega) (by omega) oN mN
    rw [moraineref02_Num.l0, if_pos (by omega)]
    by_cases h0 : i % 32 = 0
    · rw [if_pos (by rw [t_mod]; omega), if_pos (by omega), bsome, if_pos (by omega)]
      exact num_step z hz i k hlt (M ++ [0]) (by rw [List.length_append, List.length_singleton]; omega) (okL_app ok) (by rw [mag_app]; exact hm) _ next
    · rw [if_neg (by rw [t_mod]; omega), if_pos (by omega)]
      exact num_step z hz i k hlt M (by omega) ok hm _ next
theorem pow_words (n k m : Nat) (h : m = 32 * k) : n < 2 ^ m ↔ n < 4294967296 ^ k := by
  subst h
  rw [Nat.pow_mul]
/-- Num: a number of limbs, or 'too big'. -/
theorem Num_at (z : Int) : moraineref02_Num.f ((vl z).length + 1) (vb z) (vl z) = some (mkI z) := by
  unfold moraineref02_Num.f
  have hlen : (vl z).length ≤ 1536 ↔ Fits z := (bits_len z.natAbs 1536).trans (pow_words z.natAbs 48 1536 rfl)
  by_cases h : (vl z).length ≤ 1536
  · rw [if_neg (by omega), mkI_fits (hlen.mp h)]
    exact num_loop z h (vl z).length 0 _ [] (by omega) (by omega) rfl (fun x hx => by cases hx) (by simp [bv, mag])
  · rw [if_pos (by omega), mkI_big (fun hf => h (hlen.mpr hf))]
end Go.Proofs.YthhpnlbeniihhaaDoor.RefE
namespace Go.Proofs.YthhpnlbeniihhaaDoor
open Go.RowKit Go.Proofs.YthhpnlbeniihhaaDoorW.PrintWords Go.Proofs.YthhpnlbeniihhaaDoorW.PrintLast Go.Proofs.YthhpnlbeniihhaaDoorW.PrintMore Go.Proofs.YthhpnlbeniihhaaDoor.NumG Go.Proofs.YthhpnlbeniihhaaDoor.NumA
set_option linter.unusedVariables false
theorem same_loop (a b : Bool) (l m : List Int) (hl : l.length = m.length) (hb : l.length < 1073741824) : ∀ (d i k : Nat), i + d = l.length → d < k → (l.take i = m.take i) →
    PRef.moraineref02_Same.l0 k (i : Int) a l b m = some (decide (l = m)) := by
  intro d
  induction d with
  | zero =>
    intro i k hi hk ht
    obtain ⟨k, rfl⟩ : ∃ j, k = j + 1 := ⟨k - 1, by omega⟩
    rw [PRef.moraineref02_Same.l0, if_neg (by omega)]
    have : l = m := by
      have e1 : l.take i = l := List.take_of_length_le (by omega)
      have e2 : m.take i = m := List.take_of_length_le (by omega)
      rw [e1, e2] at ht; exact ht
    rw [decide_eq_true this]
  | succ d ih =>
    intro i k hi hk ht
    obtain ⟨k, rfl⟩ : ∃ j, k = j + 1 := ⟨k - 1, by omega⟩
    have h1 : i < l.length := by omega
    have h2 : i < m.length := by omega
    rw [PRef.moraineref02_Same.l0, if_pos (by omega), if_pos (by omega), if_pos (by omega), rd_nat l i h1, rd_nat m i h2]
    by_cases he : l[i] = m[i]
    · rw [if_pos he, show wrap64 ((i : Int) + 1) = ((i + 1 : Nat) : Int) by unfold wrap64; omega]
      refine ih (i + 1) k (by omega) (by omega) ?_
      rw [List.take_succ_eq_append_getElem h1, List.take_succ_eq_append_getElem h2, ht, he]
    · rw [if_neg he, decide_eq_false]
      intro hlm
      subst hlm
      exact he rfl
def moraineref02_Same.f (a0_0 : Bool) (l0_1 : List Int) (a1_0 : Bool) (l1_1 : List Int) : Option Bool := if l0_1.length < 1073741824 then some (decide (a0_0 = a1_0 ∧ l0_1 = l1_1)) else none
theorem same_eq (a b : Bool) (l m : List Int) (hb : l.length < 1073741824) : PRef.moraineref02_Same.f (l.length + 2) a l b m = some (decide (a = b ∧ l = m)) := by
  unfold PRef.moraineref02_Same.f
  by_cases hab : a = b
  · subst hab
    rw [if_neg (by simp)]
    by_cases hl : l.length = m.length
    · rw [show ((l.length : Int) != (m.length : Int)) = false by rw [hl]; simp, PRef.moraineref02_Same.j0, if_neg (by decide)]
      refine (same_loop a a l m hl hb l.length 0 (l.length + 1) (by omega) (by omega) (by simp)).trans ?_
      simp
    · rw [show ((l.length : Int) != (m.length : Int)) = true by rw [bne_iff_ne]; omega, PRef.moraineref02_Same.j0, if_pos rfl, decide_eq_false]
      rintro ⟨-, rfl⟩
      exact hl rfl
  · rw [if_pos (by simpa using hab), PRef.moraineref02_Same.j0, if_pos rfl, decide_eq_false]
    rintro ⟨h, -⟩
    exact hab h
theorem moraineref02_Same.calls (a0_0 : Bool) (A0_1 : Option Addr) (c0_1 : Nat) (l0_1 : List Int) (a1_0 : Bool) (A1_1 : Option Addr) (c1_1 : Nat) (l1_1 : List Int) (r : Bool) (w : World) (hr0_1 : Kd.C (Kd.int .u32) w A0_1 l0_1.length l0_1) (hc0_1 : l0_1.length ≤ c0_1) (hr1_1 : Kd.C (Kd.int .u32) w A1_1 l1_1.length l1_1) (hc1_1 : l1_1.length ≤ c1_1) (h : moraineref02_Same.f a0_0 l0_1 a1_0 l1_1 = some r) :
    Calls Tryd.prog 17 #[.agg #[.bool a0_0, .slice A0_1 l0_1.length c0_1], .agg #[.bool a1_0, .slice A1_1 l1_1.length c1_1]] w fun e w' => e = .returned (.bool r) ∧ Below w.heap.size w w' := by
  unfold moraineref02_Same.f at h
  by_cases hb : l0_1.length < 1073741824
  · rw [if_pos hb] at h
    exact PRef.moraineref02_Same.calls (l0_1.length + 2) a0_0 A0_1 c0_1 l0_1 a1_0 A1_1 c1_1 l1_1 r w hr0_1 hc0_1 hr1_1 hc1_1 ((same_eq _ _ _ _ hb).trans h)
  · rw [if_neg hb] at h; cases h
end Go.Proofs.YthhpnlbeniihhaaDoor
namespace Go.Proofs.YthhpnlbeniihhaaDoor.Raw
open Go.Proofs.YthhpnlbeniihhaaDoor Go.Proofs.YthhpnlbeniihhaaDoor.Limb Go.Proofs.YthhpnlbeniihhaaDoor.NumA Go.Proofs.YthhpnlbeniihhaaDoor.NumB Go.Proofs.YthhpnlbeniihhaaDoor.NumC Go.Proofs.YthhpnlbeniihhaaDoor.NumJ Go.Proofs.YthhpnlbeniihhaaDoor.NumS Go.Proofs.YthhpnlbeniihhaaDoor.NumU Go.Proofs.YthhpnlbeniihhaaDoor.Vals Go.Proofs.YthhpnlbeniihhaaDoor.Plain
section
variable {n : Bool} {l : List Int} (h : okN l)
include h
end
section
variable {n1 n2 : Bool} {l m : List Int} (h1 : okN l) (h2 : okN m)
include h1 h2
end
/-- A row's number is as small as its row is short. -/
theorem val_lt {n : Bool} {l : List Int} (h : OkL l) {k : Nat} (hk : l.length ≤ k) : (val n l).natAbs < 4294967296 ^ k := by
  rw [natAbs_val]
  exact Nat.lt_of_lt_of_le (mag_lt h) (Nat.pow_le_pow_right (by decide) hk)
theorem okN_nil : okN [] := ⟨fun x hx => (by cases hx), by decide⟩
/-- mkI's row, whatever the number. -/
theorem okN_mkI (z : Int) : okN (mkI z).2.1 := by
  by_cases h : Fits z
  · rw [mkI_fits h]; exact okN_sl h
  · rw [mkI_big h]; exact okN_nil
theorem aw : (morainelaw02_awake.f).bind (fun t => some t) = some true := rfl
end Go.Proofs.YthhpnlbeniihhaaDoor.Raw
-- Printed by a program of this session's (wip/tools/printr.py, over the kit's print program).
namespace Go.Proofs.YthhpnlbeniihhaaDoor.PRef
open Go.RowKit Go.Proofs.YthhpnlbeniihhaaDoorW.PrintWords Go.Proofs.YthhpnlbeniihhaaDoorW.PrintLast Go.Proofs.YthhpnlbeniihhaaDoorW.PrintMore
attribute [local go_sem] max2_int min2_int max_two min_two max_three min_three max_four min_four   -- for this text's walks alone
set_option linter.unusedVariables false
set_option linter.unusedSimpArgs false
def morainelaw02_spoil.l0 : Nat → Int → Bool → List Int → Option (List Int)
 | 0, _, _, _ => none
 | k + 1, x2, x369000, x369001 => if x2 < (x369001.length : Int) then (if 0 ≤ x2 then (morainelaw02_spoil.l0 k (wrap64 (x2 + 1)) x369000 (x369001.set (x2 : Int).toNat (((rd x369001 x2) + 1) % 4294967296))) else (none)) else (some x369001)
def morainelaw02_spoil.f (k : Nat) (a0_0 : Bool) (l0_1 : List Int) : Option (List Int) := morainelaw02_spoil.l0 k 0 a0_0 l0_1
set_option maxHeartbeats 8000000 in
set_option maxRecDepth 100000 in
theorem morainelaw02_spoil.calls (k : Nat) (a0_0 : Bool) (P0_1_ : Nat → Prop) (u9000_ : Value) (l0_1 : List Int) (r : List Int) (w0 w : World) (hB : Below w0.heap.size w0 w) (ho0_1 : Kd.R (Kd.int .u32) 63 w w0.heap.size P0_1_ u9000_ l0_1) (h : morainelaw02_spoil.f k a0_0 l0_1 = some r) :
  Calls Tryd.prog 33 #[.agg #[.bool a0_0, u9000_]] w fun e w' => e = .returned (.tuple #[]) ∧ Kd.R (Kd.int .u32) 63 w' w0.heap.size (fun k_ => (P0_1_ k_ ∨ w.heap.size ≤ k_)) u9000_ r ∧ Below w0.heap.size w0 w' ∧ Kept w w' (fun k_ => P0_1_ k_) := by
 have hu25 := Tryd.underlying25
 have HO0_1 := Aside0.mk (show Kd.R (Kd.int .u32) 63 w w0.heap.size (fun k_ => (P0_1_ k_ ∨ w.heap.size ≤ k_)) u9000_ l0_1 from Kd.R_mono ho0_1 (fun k_ hk => (.inl hk)))
 have HK := Aside0.mk (Kept.refl w (fun k_ => P0_1_ k_))
 have HW0 := Aside0.mk hB.size
 have HB := Aside0.mk hB
 clear hB
 have H : (morainelaw02_spoil.l0 k 0 a0_0 l0_1) = some r := h
 clear h
 have H' := Aside0.mk H
 clear H
 obtain ⟨Ao2, co2, eo2⟩ := Kd.R_slice HO0_1.out
 subst eo2
 go_enter Tryd.func33, Tryd.ntmps33
 go_wp2_with (first | ((with_reducible refine gate_dst (N := 1) rfl ?_); refine box_event ?hg (N := 1) ?hd (cs := #[.bool a0_0, .slice Ao2 l0_1.length co2]) (t := 25) ?hr ?_; (case hd => rfl); (case hg => rfl); (case hr => go_simp <;> rfl); intro gb368 hg w3 hbox hb; have n0_ := qr HO0_1 hb; have n1_ := Aside0.mk (Kept.below (S := (fun k_ => P0_1_ k_)) (by repeat (first | (with_reducible first | exact HK.out | apply Kept.alloc | apply Kept.drewN | apply Kept.drew) | exact HK.out)) hb); have n2_ := Aside0.mk (below_step (by repeat (first | (with_reducible first | exact HB.out | apply qx | apply qv | apply qw) | exact HB.out)) hb); have n3_ := Aside0.mk (hbox); have n4_ := Aside0.mk ((by rw [hg]; exact (by first | exact HK.out.1 | exact (show Kept w _ (fun k_ => P0_1_ k_) from by repeat (first | (with_reducible first | exact HK.out | apply Kept.alloc | apply Kept.drewN | apply Kept.drew) | exact HK.out)).1) : w.heap.size ≤ gb368)); have n5_ := Aside0.mk ((by rw [hg]; exact (below_size (by repeat (first | (with_reducible first | exact HB.out | apply qx | apply qv | apply qw) | exact HB.out))) : w0.heap.size ≤ gb368)); clear HO0_1; clear HK; clear HB; have HO0_1 := n0_; have HK := n1_; have HB := n2_; have BK368 := n3_; have GW368 := n4_; have GE368 := n5_; clear n0_ n1_ n2_ n3_ n4_ n5_; clear hb hbox hg))
 go_loopg [2] k (fun kq v2 w' => ∃ (x2_1 : Int) (x369001_1 : List Int), v2 = .int .i64 x2_1 ∧ Aside0 (morainelaw02_spoil.l0 kq x2_1 a0_0 x369001_1 = some r) ∧ Aside0 (kq ≤ k) ∧ Aside0 (Kd.R (Kd.int .u32) 63 w' w0.heap.size (fun k_ => (P0_1_ k_ ∨ w.heap.size ≤ k_)) (.slice Ao2 l0_1.length co2) x369001_1) ∧ Aside0 (w'.heap[gb368]? = some (.cells #[.bool a0_0, (.slice Ao2 l0_1.length co2)] 25 (0, 0))) ∧ Aside0 (Kept w w' (fun k_ => P0_1_ k_)) ∧ Aside0 (Below w0.heap.size w0 w'))
 case atStart => exact ⟨(0), (l0_1), (by first | rfl | (simp; done) | (simp [*]; done)), H', ⟨Nat.le_refl _⟩, ⟨qq HO0_1⟩, ⟨qk BK368⟩, ⟨by repeat (first | (with_reducible first | exact HK.out | apply Kept.alloc | apply Kept.drewN | apply Kept.drew | refine Kept.setCell ?_ (.inr GW368.out) _) | exact HK.out)⟩, ⟨by repeat (first | (with_reducible first | exact HB.out | apply qx | apply qv | apply qw | refine below_set ?_ GE368.out) | exact HB.out)⟩⟩
 case round =>
  clear H'
  try clear p2
  try clear c3
  obtain ⟨x2_1, x369001_1, rfl, HA, HK1, HO_369001, BK368, HK, HB⟩ := hrel
  have hl369001_1 := (Kd.R_reads' HO_369001.out).1
  rw [hl369001_1] at HO_369001
  (try simp only [hl369001_1])
  (try simp only [hl369001_1] at BK368)
  cases gk with
  | zero => exact absurd HA.out (by simp [morainelaw02_spoil.l0])
  | succ k1 =>
   have H := HA.out
   clear HA
   simp only [morainelaw02_spoil.l0] at H
   by_cases c4 : x2_1 < (x369001_1.length : Int)
   ·rw [if_pos c4] at H
    have c4b0 : decide (x2_1 < (x369001_1.length : Int)) = true := decide_eq_true c4
    clear c4
    by_cases c5 : 0 ≤ x2_1
    ·rw [if_pos c5] at H
     have c5b0 : decide (0 ≤ x2_1) = true := decide_eq_true c5
     clear c5
     obtain ⟨y370, hy370⟩ : ∃ y_ : List Int, y_ = (x369001_1.set (x2_1 : Int).toNat (((rd x369001_1 x2_1) + 1) % 4294967296)) := ⟨_, rfl⟩
     replace H : (morainelaw02_spoil.l0 k1 (wrap64 (x2_1 + 1)) a0_0 y370) = some r := by first | (rw [hy370]; with_reducible exact H) | (have H2_ := (Option.bind_some _ _).symm.trans H; rw [hy370]; with_reducible exact H2_) | (have H2_ := (Option.bind_some _ _).symm.trans H; with_reducible exact H2_) | with_reducible exact H | (rw [hy370]; exact H) | exact H
     have Ny370 := Aside0.mk hy370
     clear hy370
     have H' := Aside0.mk H
     clear H
     have hcz7_0 : wr.cell? ⟨gb368, 0, none⟩ = some (.bool a0_0) := qc BK368 0
     have hcz7_1 : wr.cell? ⟨gb368, 1, none⟩ = some (.slice Ao2 x369001_1.length co2) := qc BK368 1
     have hfz7_0 := blk_frozen BK368.out 0
     have hfz7_1 := blk_frozen BK368.out 1
     have p369 : 0 ≤ (x2_1 : Int) := of_decide_eq_true (by first | (with_reducible assumption) | assumption)
     have q369 : x2_1 < (x369001_1.length : Int) := of_decide_eq_true (by first | (with_reducible assumption) | assumption)
     obtain ⟨ad369, e369, hx369_0⟩ := Kd.at_int (Kd.R_reads' HO_369001.out).2.2 x2_1 p369 q369
     cases e369
     replace p369 := eq_true p369
     replace q369 := eq_true q369
     have p6 : 0 ≤ (x2_1 : Int) := of_decide_eq_true (by first | (with_reducible assumption) | assumption)
     have q6 : (x2_1 : Int) < ((x369001_1.length : Int) : Int) := of_decide_eq_true (by first | (with_reducible assumption) | assumption)
     obtain ⟨go6, co6, eo6, gb6, gl6, cl6, HG6⟩ := Kd.R_form HO_369001.out (by omega)
     (first | cases eo6 | (injection eo6 with ea_ en_ ec_; (first | subst ea_ | (injection ea_ with ea_; subst ea_)); subst ec_; clear en_))
     have GB6 := Aside0.mk gb6
     have GG6 := Aside0.mk HG6
     clear gb6 gl6 HG6
     have HMgo6 := Aside0.mk (show (P0_1_ go6 ∨ w.heap.size ≤ go6) from (HO_369001.out.1 _ rfl))
     (first | simp only [add_plain] at hx369_0 | skip)
     obtain ⟨hx6_0, hf6_0⟩ := Kd.R_celln 0 HO_369001.out (x2_1 : Int) p6 q6
     replace p6 := eq_true p6
     replace q6 := eq_true q6
     have HP8 := Kd.R_putg HO_369001.out (x2_1 : Int) (((rd x369001_1 x2_1) + 1) % 4294967296)
     go_wp2_with (first | ((with_reducible refine gate_store (t := 63) (p := 16) rfl ?_); refine store_event (t := 63) (p := 16) (v := ?vo_w9) (w1 := (wr.setCell ⟨go6, (x2_1 : Int).toNat, none⟩ (.int .u32 (((rd x369001_1 x2_1) + 1) % 4294967296)))) ?hg ?ho ?hn ?hr ?_; (case ho => rfl); (case hg => rfl); (case hn => rfl); (case hr => first | (go_simp; done) | (go_simp; rfl)); intro w9 hw; have hg : wr.grownBy w9 (some go6) := (by rw [hw]; exact HP8.2); have hp_ : Kd.R (Kd.int .u32) 63 w9 w0.heap.size (fun k_ => (P0_1_ k_ ∨ w.heap.size ≤ k_)) (.slice (some ⟨go6, 0, none⟩) x369001_1.length co2) y370 := (by rw [hw, Ny370.out]; exact HP8.1); clear HP8; have n0_ := Aside0.mk (hp_); have n1_ := Aside0.mk (blk_grown (g := gb368) (o := .cells #[.bool a0_0, .slice (some ⟨go6, 0, none⟩) x369001_1.length co2] 25 (0, 0)) (by (with_reducible repeat first|refine qN ?_ _|refine qW ?_|refine qA ?_ _); exact BK368.out) hg (Kd.R_ne HO_369001.out BK368.out (by decide))); have n2_ := Aside0.mk ((by rw [hw]; exact below_set (HB.out) GB6.out : Below w0.heap.size w0 w9)); have n3_ := Aside0.mk (Kept.of_grown (S := (fun k_ => P0_1_ k_)) hg (by repeat (first | (with_reducible first | exact HK.out | apply Kept.alloc | apply Kept.drewN | apply Kept.drew | refine Kept.setCell ?_ (.inr GW368.out) _) | exact HK.out)) (fun k_ e_ => (HO_369001.out.1 k_ e_))); clear HO_369001; clear BK368; clear HB; clear HK; have HO_369001 := n0_; have BK368 := n1_; have HB := n2_; have HK := n3_; clear n0_ n1_ n2_ n3_; clear hg hw hp_))
     (try simp only [← hl369001_1])
     go_roundg k1
     case measure => have := HK1.out; omega
     case rel => exact ⟨(wrap64 (x2_1 + 1)), (y370), (by first | rfl | (simp; done) | (simp [*]; done)), H', ⟨by have := HK1.out; omega⟩, ⟨by (try simp only [hl369001_1]); (with_reducible repeat first|apply Kd.R_alloc|apply Kd.R_drewN|apply Kd.R_drew); exact HO_369001.out⟩, ⟨by (try simp only [hl369001_1]); (with_reducible repeat first|refine qN ?_ _|refine qW ?_|refine qA ?_ _); exact BK368.out⟩, ⟨by repeat (first | (with_reducible first | exact HK.out | apply Kept.alloc | apply Kept.drewN | apply Kept.drew | refine Kept.setCell ?_ (.inr GW368.out) _) | exact HK.out)⟩, ⟨by repeat (first | (with_reducible first | exact HB.out | apply qx | apply qv | apply qw | refine below_set ?_ GE368.out) | exact HB.out)⟩⟩
    ·rw [if_neg c5] at H
     exact absurd H (by simp)
   ·rw [if_neg c4] at H
    have c4b0 : decide (x2_1 < (x369001_1.length : Int)) = false := decide_eq_false c4
    clear c4
    obtain rfl := Option.some.inj H
    have hcz10_0 : wr.cell? ⟨gb368, 0, none⟩ = some (.bool a0_0) := qc BK368 0
    have hcz10_1 : wr.cell? ⟨gb368, 1, none⟩ = some (.slice Ao2 x369001_1.length co2) := qc BK368 1
    have hfz10_0 := blk_frozen BK368.out 0
    have hfz10_1 := blk_frozen BK368.out 1
    go_wp2
    first | go_end0 | ((try simp only [Exit.inBlock, Exit.then]); refine bodyPost_ret (results_none rfl _ _ _) rfl ?_)
    exact ⟨by first | rfl | (simp [errW_none, errW_some] <;> rfl) | (simp [*, errW_none, errW_some] <;> rfl), (by first | exact (by (with_reducible repeat first|apply Kd.R_alloc|apply Kd.R_drewN|apply Kd.R_drew); exact HO_369001.out) | (simp only [hl369001_1]; exact (by (with_reducible repeat first|apply Kd.R_alloc|apply Kd.R_drewN|apply Kd.R_drew); exact HO_369001.out))), by repeat (first | (with_reducible first | exact HB.out | apply qx | apply qv | apply qw | refine below_set ?_ GE368.out) | exact HB.out), by repeat (first | (with_reducible first | exact HK.out | apply Kept.alloc | apply Kept.drewN | apply Kept.drew | refine Kept.setCell ?_ (.inr GW368.out) _) | exact HK.out)⟩
end Go.Proofs.YthhpnlbeniihhaaDoor.PRef
namespace Go.Proofs.YthhpnlbeniihhaaDoor
open Go.RowKit Go.Proofs.YthhpnlbeniihhaaDoorW.PrintWords Go.Proofs.YthhpnlbeniihhaaDoorW.PrintLast Go.Proofs.YthhpnlbeniihhaaDoorW.PrintMore Go.Proofs.YthhpnlbeniihhaaDoor.Limb Go.Proofs.YthhpnlbeniihhaaDoor.Bit Go.Proofs.YthhpnlbeniihhaaDoor.NumA Go.Proofs.YthhpnlbeniihhaaDoor.NumB Go.Proofs.YthhpnlbeniihhaaDoor.NumE Go.Proofs.YthhpnlbeniihhaaDoor.NumG Go.Proofs.YthhpnlbeniihhaaDoor.NumJ Go.Proofs.YthhpnlbeniihhaaDoor.Plain Go.Proofs.YthhpnlbeniihhaaDoor.RefA Go.Proofs.YthhpnlbeniihhaaDoor.RefB Go.Proofs.YthhpnlbeniihhaaDoor.RefC Go.Proofs.YthhpnlbeniihhaaDoor.RefD Go.Proofs.YthhpnlbeniihhaaDoor.RefE
set_option linter.unusedVariables false
set_option linter.unusedSimpArgs false
/-- A sign and bits as a whole number. -/
def bval (b : Bool) (l : List Int) : Int := if b then -(bv l : Int) else (bv l : Int)
/-- Bits without noughts at the end, no sign of nought, few of them. -/
def canV (b : Bool) (l : List Int) : Prop := l.length < 1073741824 ∧ l = Bit.bits (bv l) ∧ (b = true → bv l ≠ 0)
instance instCanV (b : Bool) (l : List Int) : Decidable (canV b l) := by unfold canV; infer_instance
theorem bval_v (z : Int) : bval (vb z) (vl z) = z := by
  unfold bval
  rw [bv_vl]
  unfold vb
  by_cases h : z < 0 <;> simp [h] <;> omega
theorem canV.as_ {b : Bool} {l : List Int} (h : canV b l) : ∃ z, b = vb z ∧ l = vl z ∧ (vl z).length < 1073741824 := by
  refine ⟨bval b l, ?_, ?_, ?_⟩
  · unfold vb bval
    cases b with
    | true => have := h.2.2 rfl; simp; omega
    | false => simp
  · unfold vl bval
    rw [show (if b = true then -(bv l : Int) else (bv l : Int)).natAbs = bv l by cases b <;> simp]
    exact h.2.1
  · unfold vl bval
    rw [show (if b = true then -(bv l : Int) else (bv l : Int)).natAbs = bv l by cases b <;> simp, ← h.2.1]
    exact h.1
theorem canV_v {z : Int} (h : (vl z).length < 1073741824) : canV (vb z) (vl z) := by
  refine ⟨h, by rw [bv_vl]; rfl, fun hb => ?_⟩
  rw [bv_vl]
  unfold vb at hb
  have := of_decide_eq_true hb
  omega
def moraineref02_Value.f (a0_0 : Bool) (l0_1 : List Int) : Option (Bool × List Int) := if okN l0_1 then some (vb (val a0_0 l0_1), vl (val a0_0 l0_1)) else none
theorem moraineref02_Value.calls (a0_0 : Bool) (A0_1 : Option Addr) (c0_1 : Nat) (l0_1 : List Int) (r1 : Bool) (r2 : List Int) (w : World) (hr0_1 : Kd.C (Kd.int .u32) w A0_1 l0_1.length l0_1) (hc0_1 : l0_1.length ≤ c0_1) (h : moraineref02_Value.f a0_0 l0_1 = some (r1, r2)) :
    Calls Tryd.prog 24 #[.agg #[.bool a0_0, .slice A0_1 l0_1.length c0_1]] w fun e w' => ∃ v1_ : Value, e = .returned (.agg #[.bool r1, v1_]) ∧ Kd.R (Kd.int .u8) 5 w' w.heap.size (fun _ => True) v1_ r2 ∧ Below w.heap.size w w' := by
  unfold moraineref02_Value.f at h
  by_cases hg : okN l0_1
  · rw [if_pos hg] at h
    obtain ⟨k, hk⟩ := (Value_at a0_0 l0_1 hg.1 (by have := hg.2; omega)).rounds
    exact PRef.moraineref02_Value.calls k a0_0 A0_1 c0_1 l0_1 r1 r2 w hr0_1 hc0_1 (hk.trans h)
  · rw [if_neg hg] at h; cases h
def moraineref02_Copy.f (a0_0 : Bool) (l0_1 : List Int) : Option (Bool × List Int) := if l0_1.length < 1073741824 then some (a0_0, l0_1) else none
theorem moraineref02_Copy.calls (a0_0 : Bool) (A0_1 : Option Addr) (c0_1 : Nat) (l0_1 : List Int) (r1 : Bool) (r2 : List Int) (w : World) (hr0_1 : Kd.C (Kd.int .u32) w A0_1 l0_1.length l0_1) (hc0_1 : l0_1.length ≤ c0_1) (h : moraineref02_Copy.f a0_0 l0_1 = some (r1, r2)) :
    Calls Tryd.prog 28 #[.agg #[.bool a0_0, .slice A0_1 l0_1.length c0_1]] w fun e w' => ∃ v1_ : Value, e = .returned (.agg #[.bool r1, v1_]) ∧ Kd.R (Kd.int .u32) 63 w' w.heap.size (fun _ => True) v1_ r2 ∧ Below w.heap.size w w' := by
  unfold moraineref02_Copy.f at h
  by_cases hg : l0_1.length < 1073741824
  · rw [if_pos hg] at h
    refine PRef.moraineref02_Copy.calls a0_0 A0_1 c0_1 l0_1 r1 r2 w hr0_1 hc0_1 (Eq.trans ?_ h)
    unfold PRef.moraineref02_Copy.f
    rw [bsome, if_pos (by rw [List.length_nil]; omega)]
    rfl
  · rw [if_neg hg] at h; cases h
def moraineref02_Num.f (a0_0 : Bool) (l0_1 : List Int) : Option (Bool × List Int × Int) := if canV a0_0 l0_1 then some (mkI (bval a0_0 l0_1)) else none
theorem moraineref02_Num.calls (a0_0 : Bool) (A0_1 : Option Addr) (c0_1 : Nat) (l0_1 : List Int) (r1 : Bool) (r2 : List Int) (r3 : Int) (w : World) (hr0_1 : Kd.C (Kd.int .u8) w A0_1 l0_1.length l0_1) (hc0_1 : l0_1.length ≤ c0_1) (h : moraineref02_Num.f a0_0 l0_1 = some (r1, r2, r3)) :
    Calls Tryd.prog 52 #[.agg #[.bool a0_0, .slice A0_1 l0_1.length c0_1]] w fun e w' => ∃ v1_ : Value, e = .returned (.tuple #[.agg #[.bool r1, v1_], .int .i64 r3]) ∧ Kd.R (Kd.int .u32) 63 w' w.heap.size (fun _ => True) v1_ r2 ∧ Below w.heap.size w w' := by
  unfold moraineref02_Num.f at h
  by_cases hg : canV a0_0 l0_1
  · rw [if_pos hg] at h
    obtain ⟨z, rfl, rfl, lz⟩ := hg.as_
    rw [bval_v] at h
    exact PRef.moraineref02_Num.calls _ _ A0_1 c0_1 _ r1 r2 r3 w hr0_1 hc0_1 ((Num_at z).trans h)
  · rw [if_neg hg] at h; cases h
end Go.Proofs.YthhpnlbeniihhaaDoor
namespace Go.Proofs.YthhpnlbeniihhaaDoor
end Go.Proofs.YthhpnlbeniihhaaDoor
-- Printed by a program of this session's (wip/tools/printr.py, over the kit's print program).
namespace Go.Proofs.YthhpnlbeniihhaaDoor.PNumGcds
open Go.RowKit Go.Proofs.YthhpnlbeniihhaaDoorW.PrintWords Go.Proofs.YthhpnlbeniihhaaDoorW.PrintLast Go.Proofs.YthhpnlbeniihhaaDoorW.PrintMore
attribute [local go_sem] max2_int min2_int max_two min_two max_three min_three max_four min_four   -- for this text's walks alone
set_option linter.unusedVariables false
set_option linter.unusedSimpArgs false
def errW : Option Int → Value
  | none => .nilIface
  | some c => .iface 0 (.int .i64 c)
theorem errW_none : errW none = .nilIface := rfl
theorem errW_some (c : Int) : errW (some c) = .iface 0 (.int .i64 c) := rfl
theorem info25 : (Tryd.prog.info? 25).map (fun i => (i.zero, i.size, i.bytes)) = some (some (.agg #[(.bool false), (.slice none 0 0)]), 2, 32) := by kernel_rfl
theorem info34 : (Tryd.prog.info? 34).map (fun i => (i.zero, i.size, i.bytes)) = some (some (.agg #[(.bool false), (.slice none 0 0)]), 2, 32) := by kernel_rfl
-- the values' own types
structure S25 where
  f0 : Bool
  f1 : (List Int)
def z25 : S25 := ⟨false, ([] : List Int)⟩
def k25 : Kd S25 := Kd.iso (Kd.pair Kd.bool (Kd.slice 63 (Kd.int .u32))) (fun x : S25 => (x.f0, x.f1))
theorem k25_open {w : World} {x : S25} {cs : List Value} (h : k25.K w x cs) : ∃ A1 c1, cs = [.bool x.f0, .slice A1 x.f1.length c1] ∧ x.f1.length ≤ c1 ∧ (Kd.int .u32).C w A1 x.f1.length x.f1 := by
  obtain ⟨_, _, rfl, rfl, ⟨A1, c1, rfl, l1, g1⟩⟩ := h
  exact ⟨A1, c1, rfl, l1, g1⟩
theorem k25_openM {w : World} {base : Nat} {ok : Nat → Prop} {x : S25} {cs : List Value} (h : k25.M w base ok x cs) : ∃ v1, cs = [.bool x.f0, v1] ∧ (Kd.int .u32).R 63 w base ok v1 x.f1 := by
  obtain ⟨_, _, rfl, rfl, ⟨v1, rfl, g1⟩⟩ := h
  exact ⟨v1, rfl, g1⟩
theorem k25_mk (w : World) (x : S25) {A1 : Option Addr} {c1 : Nat} (l1 : x.f1.length ≤ c1) (g1 : (Kd.int .u32).C w A1 x.f1.length x.f1) : k25.K w x [.bool x.f0, .slice A1 x.f1.length c1] := ⟨[.bool x.f0], [.slice A1 x.f1.length c1], rfl, rfl, ⟨A1, c1, rfl, l1, g1⟩⟩
theorem k25_mkM (w : World) (base : Nat) (ok : Nat → Prop) (x : S25) {v1 : Value} (g1 : (Kd.int .u32).R 63 w base ok v1 x.f1) : k25.M w base ok x [.bool x.f0, v1] := ⟨[.bool x.f0], [v1], rfl, rfl, ⟨v1, rfl, g1⟩⟩
def rd_T25 (xs : List S25) (i : Int) : S25 := xs.getD i.toNat z25
theorem at_T25 {w : World} {A : Option Addr} {n : Nat} {xs : List S25} (h : Kd.C k25 w A n xs) (i : Int) (h0 : 0 ≤ i) (h1 : i < n) : ∃ ad A1 c1, A = some ad ∧ w.cell? (ad.add (i.toNat * 2)) = some (.bool (rd_T25 xs i).f0) ∧ w.cell? ⟨(ad.add (i.toNat * 2)).block, (ad.add (i.toNat * 2)).off + 1, none⟩ = some (.slice A1 (rd_T25 xs i).f1.length c1) ∧ (rd_T25 xs i).f1.length ≤ c1 ∧ (Kd.int .u32).C w A1 (rd_T25 xs i).f1.length (rd_T25 xs i).f1 := by
  obtain ⟨ad, c, e, _, hK, hc0⟩ := Kd.C_get h z25 i h0 h1
  have hc : ∀ j u, c[j]? = some u → w.cell? (ad.add (i.toNat * 2 + j)) = some u := hc0
  obtain ⟨A1, c1, rfl, l1, g1⟩ := k25_open hK
  exact ⟨ad, A1, c1, e, hc 0 _ rfl, by rw [← add_field _ _ 1 (by omega)]; exact hc 1 _ rfl, l1, g1⟩
structure S34 where
  f0 : Bool
  f1 : (List Int)
def z34 : S34 := ⟨false, ([] : List Int)⟩
def k34 : Kd S34 := Kd.iso (Kd.pair Kd.bool (Kd.slice 5 (Kd.int .u8))) (fun x : S34 => (x.f0, x.f1))
theorem k34_open {w : World} {x : S34} {cs : List Value} (h : k34.K w x cs) : ∃ A1 c1, cs = [.bool x.f0, .slice A1 x.f1.length c1] ∧ x.f1.length ≤ c1 ∧ (Kd.int .u8).C w A1 x.f1.length x.f1 := by
  obtain ⟨_, _, rfl, rfl, ⟨A1, c1, rfl, l1, g1⟩⟩ := h
  exact ⟨A1, c1, rfl, l1, g1⟩
theorem k34_mkM (w : World) (base : Nat) (ok : Nat → Prop) (x : S34) {v1 : Value} (g1 : (Kd.int .u8).R 5 w base ok v1 x.f1) : k34.M w base ok x [.bool x.f0, v1] := ⟨[.bool x.f0], [v1], rfl, rfl, ⟨v1, rfl, g1⟩⟩
def rd_T34 (xs : List S34) (i : Int) : S34 := xs.getD i.toNat z34
theorem at_T34 {w : World} {A : Option Addr} {n : Nat} {xs : List S34} (h : Kd.C k34 w A n xs) (i : Int) (h0 : 0 ≤ i) (h1 : i < n) : ∃ ad A1 c1, A = some ad ∧ w.cell? (ad.add (i.toNat * 2)) = some (.bool (rd_T34 xs i).f0) ∧ w.cell? ⟨(ad.add (i.toNat * 2)).block, (ad.add (i.toNat * 2)).off + 1, none⟩ = some (.slice A1 (rd_T34 xs i).f1.length c1) ∧ (rd_T34 xs i).f1.length ≤ c1 ∧ (Kd.int .u8).C w A1 (rd_T34 xs i).f1.length (rd_T34 xs i).f1 := by
  obtain ⟨ad, c, e, _, hK, hc0⟩ := Kd.C_get h z34 i h0 h1
  have hc : ∀ j u, c[j]? = some u → w.cell? (ad.add (i.toNat * 2 + j)) = some u := hc0
  obtain ⟨A1, c1, rfl, l1, g1⟩ := k34_open hK
  exact ⟨ad, A1, c1, e, hc 0 _ rfl, by rw [← add_field _ _ 1 (by omega)]; exact hc 1 _ rfl, l1, g1⟩
end Go.Proofs.YthhpnlbeniihhaaDoor.PNumGcds
namespace Go.Proofs.YthhpnlbeniihhaaDoor.Row
open Go.ChangeShapes Go.WideShapes Go.ChangeAt Go.RowKit Go.Proofs.YthhpnlbeniihhaaDoor.Limb Go.Proofs.YthhpnlbeniihhaaDoor.NumA
set_option maxRecDepth 100000
section
variable {H : Type} {enc : TypeId × Value → H} {W : World} {base : Nat}
open Go.Proofs.YthhpnlbeniihhaaDoorW.PrintWords Go.Proofs.YthhpnlbeniihhaaDoorW.PrintLast Go.Proofs.YthhpnlbeniihhaaDoorW.PrintMore
/-- A number's two cells, as they read. -/
theorem num_cells {n : Nat} {u0 u1 : Value} {Y0 Y1 : DataW H × List MemPlace} (h0 : DataW.trod enc Tryd.prog W 0 (fun _ => true) true n 4 [u0] = some Y0) (h1 : DataW.trod enc Tryd.prog W 0 (fun _ => true) true n 23 [u1] = some Y1) :
    ∃ (x : PNumGcds.S25), OkL x.f1 ∧ PNumGcds.k25.K W x [u0, u1] := by
  obtain ⟨b, hb, -⟩ := DataW.trod_bool (Tryd.underlying4) h0
  obtain rfl : u0 = .bool b := by simpa using hb
  rcases open_ints Tryd.underlying23 Tryd.underlying63 (by kernel_rfl) h1 with ⟨hcs, hy1⟩ | ⟨x, ln, c, zs, hcs, _, hl2, hm, hz, hy1, hcell, hwz⟩
  · obtain rfl : u1 = .slice none 0 0 := by simpa using hcs
    exact ⟨⟨b, []⟩, (fun x hx => by cases hx), PNumGcds.k25_mk W ⟨b, []⟩ (Nat.le_refl _) (Kd.C_of_reads (d := 0) ⟨rfl, Nat.zero_le _, fun i => absurd i (Nat.lt_irrefl 0)⟩)⟩
  · obtain rfl : u1 = .slice (some x) ln c := by simpa using hcs
    have hz' : zs.length = c := by simpa using hz
    have hln : (zs.take ln).length = ln := by rw [List.length_take]; omega
    have hC : Kd.C (Kd.int .u32) W (some x) (zs.take ln).length (zs.take ln) := by
      rw [hln]
      refine Kd.C_of_reads (d := 0) ⟨hln, ?_, ?_⟩
      · unfold maxLen at hm; omega
      · intro _
        refine ⟨x, rfl, fun j hj => ?_⟩
        rw [hcell j (by omega)]
        congr 2
        rw [List.getD_eq_getElem?_getD, List.getD_eq_getElem?_getD, List.getElem?_take_of_lt hj]
    refine ⟨⟨b, zs.take ln⟩, ?_, ?_⟩
    · intro y hy
      have := bounds_u32 (hwz y (List.mem_of_mem_take hy))
      omega
    · have := PNumGcds.k25_mk W ⟨b, zs.take ln⟩ (c1 := c) (by show (zs.take ln).length ≤ c; rw [hln]; exact hl2) hC
      simpa only [hln] using this
/-- A row of numbers that is handed in. -/
theorem open_nums {v : Value} {d : DataW H} {p : List MemPlace} (hval : Value.okWide Tryd.prog W .any base 48 v) (h : DataW.Trod enc Tryd.prog W 0 (fun _ => true) true 48 v d p) :
    ∃ (A : Option Addr) (c : Nat) (l : List PNumGcds.S25), v = .slice A l.length c ∧ (∀ x ∈ l, OkL x.f1) ∧ l.length ≤ c ∧ Kd.C PNumGcds.k25 W A l.length l := by
  obtain ⟨A, ln, c, rfl⟩ := okWide_slice Tryd.underlying48 hval
  obtain ⟨fuel, hf⟩ := h
  have hf' : DataW.trod enc Tryd.prog W 0 (fun _ => true) true fuel 48 [.slice A ln c] = some (d, p) := hf
  rcases Go.Deep.open_slice_pairs Tryd.underlying48 Tryd.underlying25 (by kernel_rfl) rfl rfl (by kernel_rfl) (by kernel_rfl) hf' with ⟨hcs, -⟩ | ⟨a, len, cap, m, n, V0, V1, D0, D1, P0, P1, hcs, _, hl, hm, hmm, -, hall⟩
  · obtain ⟨rfl, rfl, rfl⟩ : A = none ∧ ln = 0 ∧ c = 0 := by simpa using hcs
    exact ⟨none, 0, [], rfl, (fun x hx => by cases hx), Nat.le_refl _, rfl, by decide, fun i => absurd i (by decide)⟩
  · obtain ⟨rfl, rfl, rfl⟩ : A = some a ∧ ln = len ∧ c = cap := by simpa using hcs
    simp only [if_true] at hmm
    subst hmm
    have : Inhabited PNumGcds.S25 := ⟨PNumGcds.z25⟩
    obtain ⟨f, hfe⟩ := Go.Deep.choose_lt (α := PNumGcds.S25) (n := ln) (p := fun i x => OkL x.f1 ∧ PNumGcds.k25.K W x [V0 i, V1 i]) (fun i hi => num_cells (hall i (by omega)).2.2.1 (hall i (by omega)).2.2.2)
    have hlen : ((List.range ln).map f).length = ln := by simp
    refine ⟨some a, m, (List.range ln).map f, by rw [hlen], ?_, by rw [hlen]; exact hl, ?_⟩
    · intro x hx
      obtain ⟨i, hi, rfl⟩ := List.mem_map.1 hx
      exact (hfe i (List.mem_range.1 hi)).1
    · rw [hlen]
      refine ⟨hlen, by unfold maxLen at hm; omega, fun _ => ⟨a, rfl, fun j p hj => ?_⟩⟩
      rw [List.getElem?_map] at hj
      obtain ⟨i, hi, rfl⟩ := Option.map_eq_some_iff.mp hj
      obtain ⟨hj1, hj2⟩ : j < ln ∧ j = i := by rw [List.getElem?_eq_some_iff] at hi; obtain ⟨h1, h2⟩ := hi; simp at h1 h2; exact ⟨h1, h2⟩
      subst hj2
      refine ⟨[V0 j, V1 j], rfl, (hfe j hj1).2, fun q u hq => ?_⟩
      have h2 := hall j (by omega)
      match q, hq with
      | 0, hq => obtain rfl := Option.some.inj hq; exact h2.1
      | 1, hq => obtain rfl := Option.some.inj hq; exact h2.2.1
end
end Go.Proofs.YthhpnlbeniihhaaDoor.Row
namespace Go.Proofs.YthhpnlbeniihhaaDoor
open Go.RowKit Go.Proofs.YthhpnlbeniihhaaDoorW.PrintWords Go.Proofs.YthhpnlbeniihhaaDoorW.PrintLast Go.Proofs.YthhpnlbeniihhaaDoorW.PrintMore Go.Proofs.YthhpnlbeniihhaaDoor.Limb
set_option linter.unusedVariables false
set_option linter.unusedSimpArgs false
/-- Boxes (block, cells, type), rows of bytes, rows of limbs: all made since w0; the rows of limbs are no two the same. -/
structure St (w0 W : World) (B : List (Nat × Array Value × Nat)) (R8 R32 : List (Value × List Int)) : Prop where
  below : Below w0.heap.size w0 W
  ge : ∀ p ∈ B, w0.heap.size ≤ p.1
  box : ∀ p ∈ B, W.heap[p.1]? = some (.cells p.2.1 p.2.2 (0, 0))
  ty : ∀ p ∈ B, p.2.2 ≠ 5 ∧ p.2.2 ≠ 63
  nd : B.Pairwise (fun p q => p.1 ≠ q.1)
  r8 : ∀ p ∈ R8, Kd.R (Kd.int .u8) 5 W w0.heap.size (fun _ => True) p.1 p.2
  r32 : ∀ p ∈ R32, Kd.R (Kd.int .u32) 63 W w0.heap.size (fun _ => True) p.1 p.2
  ap : R32.Pairwise (fun p q => ∀ k, p.1.ownBlock = some k → q.1.ownBlock ≠ some k)
namespace St
variable {w0 W W1 : World} {B : List (Nat × Array Value × Nat)} {R8 R32 : List (Value × List Int)}
theorem start (w : World) : St w w [] [] [] :=
  ⟨Below.refl _ _, (fun p h => by cases h), (fun p h => by cases h), (fun p h => by cases h), .nil, (fun p h => by cases h), (fun p h => by cases h), .nil⟩
theorem call (S : St w0 W B R8 R32) (hb : Below W.heap.size W W1) : St w0 W1 B R8 R32 :=
  ⟨below_step S.below hb, S.ge, fun p h => blk_below (S.box p h) hb, S.ty, S.nd, fun p h => Kd.R_below (S.r8 p h) hb, fun p h => Kd.R_below (S.r32 p h) hb, S.ap⟩
theorem drewN (S : St w0 W B R8 R32) (n : Nat) : St w0 (W.drewN n) B R8 R32 := S.call (pw_below_drewN (Below.refl _ _) n)
theorem drew (S : St w0 W B R8 R32) : St w0 W.drew B R8 R32 := S.call (below_drew1 (Below.refl _ _))
theorem alloc (S : St w0 W B R8 R32) (o : Obj) : St w0 (W.alloc o) B R8 R32 := S.call (below_alloc (Below.refl _ _) o)
/-- A box that is made. -/
theorem boxed (S : St w0 W B R8 R32) (cs : Array Value) (t : Nat) (ht : t ≠ 5 ∧ t ≠ 63) : St w0 (W.alloc (.cells cs t (0, 0))) ((W.heap.size, cs, t) :: B) R8 R32 := by
  have T := S.alloc (.cells cs t (0, 0))
  refine ⟨T.below, fun p h => ?_, fun p h => ?_, fun p h => ?_, List.pairwise_cons.mpr ⟨fun p h e => ?_, T.nd⟩, T.r8, T.r32, T.ap⟩
  · rcases List.mem_cons.mp h with rfl | h
    · exact below_size S.below
    · exact S.ge p h
  · rcases List.mem_cons.mp h with rfl | h
    · exact blk_new W _
    · exact T.box p h
  · rcases List.mem_cons.mp h with rfl | h
    · exact ht
    · exact S.ty p h
  · have := blk_lt (S.box p h)
    have e1 : W.heap.size = p.1 := e
    omega
/-- A store into the box that was made last. -/
theorem set0 {g : Nat} {cs : Array Value} {t : Nat} (S : St w0 W ((g, cs, t) :: B) R8 R32) (j : Nat) (v : Value) : St w0 (W.setCell ⟨g, j, none⟩ v) ((g, cs.setIfInBounds j v, t) :: B) R8 R32 := by
  have hg := S.box _ List.mem_cons_self
  have ht := S.ty _ List.mem_cons_self
  obtain ⟨hn, hnd⟩ := List.pairwise_cons.mp S.nd
  refine ⟨below_set S.below (S.ge _ List.mem_cons_self), fun p h => ?_, fun p h => ?_, fun p h => ?_, List.pairwise_cons.mpr ⟨fun p h => hn p h, hnd⟩, fun p h => ?_, fun p h => ?_, S.ap⟩
  · rcases List.mem_cons.mp h with rfl | h
    · exact S.ge (g, cs, t) List.mem_cons_self
    · exact S.ge p (List.mem_cons_of_mem _ h)
  · rcases List.mem_cons.mp h with rfl | h
    · exact blk_set hg j v
    · exact blk_far (S.box p (List.mem_cons_of_mem _ h)) (p := ⟨g, j, none⟩) (fun e => hn p h e.symm) v
  · rcases List.mem_cons.mp h with rfl | h
    · exact ht
    · exact S.ty p (List.mem_cons_of_mem _ h)
  · exact Kd.R_set (S.r8 p h) hg (fun q hq => by
      have : q = 5 := by simpa [Kd.int, Kd.scalar] using hq
      subst this; exact fun e => ht.1 e.symm) j v
  · exact Kd.R_set (S.r32 p h) hg (fun q hq => by
      have : q = 63 := by simpa [Kd.int, Kd.scalar] using hq
      subst this; exact fun e => ht.2 e.symm) j v
/-- A store into any of the boxes. -/
theorem setI (S : St w0 W B R8 R32) (i : Nat) {g : Nat} {cs : Array Value} {t : Nat} (h : B[i]? = some (g, cs, t)) (j : Nat) (v : Value) : St w0 (W.setCell ⟨g, j, none⟩ v) (B.set i (g, cs.setIfInBounds j v, t)) R8 R32 := by
  have hm := List.mem_of_getElem? h
  obtain ⟨hi, ei⟩ := List.getElem?_eq_some_iff.mp h
  have hg := S.box _ hm
  have ht := S.ty _ hm
  have key : ∀ p ∈ B.set i (g, cs.setIfInBounds j v, t), p = (g, cs.setIfInBounds j v, t) ∨ (p ∈ B ∧ p.1 ≠ g) := by
    intro p hp
    obtain ⟨k, hk, rfl⟩ := List.getElem_of_mem hp
    rw [List.length_set] at hk
    by_cases hki : i = k
    · subst hki; left; rw [List.getElem_set_self]
    · right
      rw [List.getElem_set_ne hki]
      refine ⟨List.getElem_mem hk, ?_⟩
      have hpw := List.pairwise_iff_getElem.mp S.nd
      rcases Nat.lt_or_gt_of_ne hki with hlt | hgt
      · have := hpw i k hi hk hlt
        rw [ei] at this
        exact fun e => this e.symm
      · have := hpw k i hk hi hgt
        rw [ei] at this
        exact this
  refine ⟨below_set S.below (S.ge _ hm), fun p hp => ?_, fun p hp => ?_, fun p hp => ?_, ?_, fun p h => ?_, fun p h => ?_, S.ap⟩
  · rcases key p hp with rfl | ⟨h1, h2⟩
    · exact S.ge (g, cs, t) hm
    · exact S.ge p h1
  · rcases key p hp with rfl | ⟨h1, h2⟩
    · exact blk_set hg j v
    · exact blk_far (S.box p h1) (p := ⟨g, j, none⟩) h2 v
  · rcases key p hp with rfl | ⟨h1, h2⟩
    · exact ht
    · exact S.ty p h1
  · have hpw := List.pairwise_iff_getElem.mp S.nd
    have e1 : ∀ k (hk : k < (B.set i (g, cs.setIfInBounds j v, t)).length), ((B.set i (g, cs.setIfInBounds j v, t))[k]).1 = (B[k]'(by rw [List.length_set] at hk; exact hk)).1 := by
      intro k hk
      by_cases hki : i = k
      · subst hki; rw [List.getElem_set_self, ei]
      · rw [List.getElem_set_ne hki]
    refine List.pairwise_iff_getElem.mpr (fun a b ha hb hab => ?_)
    rw [e1 a ha, e1 b hb]
    exact hpw a b (by rw [List.length_set] at ha; exact ha) (by rw [List.length_set] at hb; exact hb) hab
  · exact Kd.R_set (S.r8 p h) hg (fun q hq => by
      have : q = 5 := by simpa [Kd.int, Kd.scalar] using hq
      subst this; exact fun e => ht.1 e.symm) j v
  · exact Kd.R_set (S.r32 p h) hg (fun q hq => by
      have : q = 63 := by simpa [Kd.int, Kd.scalar] using hq
      subst this; exact fun e => ht.2 e.symm) j v
/-- Both cells of a box are written. -/
theorem set2 (S : St w0 W B R8 R32) (i : Nat) {g t : Nat} {x y : Value} (h : B[i]? = some (g, #[x, y], t)) (v0 v1 : Value) : St w0 ((W.setCell ⟨g, 0, none⟩ v0).setCell ⟨g, 1, none⟩ v1) (B.set i (g, #[v0, v1], t)) R8 R32 := by
  have hi : i < B.length := (List.getElem?_eq_some_iff.mp h).1
  have S1 := S.setI i h 0 v0
  have S2 := S1.setI i (cs := #[v0, y]) (g := g) (t := t) (by rw [List.getElem?_set_self hi]; rfl) 1 v1
  rw [List.set_set] at S2
  exact S2
/-- A variable of two cells, made of what a call answered: the facts that the walk wants, and the state behind it. -/
theorem put (S : St w0 W B R8 R32) (z0 z1 v0 v1 : Value) (t : Nat) (ht : t ≠ 5 ∧ t ≠ 63) :
    (W.alloc (.cells #[z0, z1] t (0, 0))).cell? ⟨W.heap.size, 0, none⟩ = some z0 ∧ (W.alloc (.cells #[z0, z1] t (0, 0))).cell? ⟨W.heap.size, 1, none⟩ = some z1 ∧
    (W.alloc (.cells #[z0, z1] t (0, 0))).frozen? ⟨W.heap.size, 0, none⟩ = false ∧ (W.alloc (.cells #[z0, z1] t (0, 0))).frozen? ⟨W.heap.size, 1, none⟩ = false ∧
    St w0 (((W.alloc (.cells #[z0, z1] t (0, 0))).setCell ⟨W.heap.size, 0, none⟩ v0).setCell ⟨W.heap.size, 1, none⟩ v1) ((W.heap.size, #[v0, v1], t) :: B) R8 R32 := by
  have T := S.boxed #[z0, z1] t ht
  have hg := T.box _ List.mem_cons_self
  exact ⟨blk_cell hg 0, blk_cell hg 1, blk_frozen hg 0, blk_frozen hg 1, (T.set0 0 v0).set0 1 v1⟩
theorem blk (S : St w0 W B R8 R32) (i : Nat) {g t : Nat} {cs : Array Value} (h : B[i]? = some (g, cs, t)) : W.heap[g]? = some (.cells cs t (0, 0)) := S.box _ (List.mem_of_getElem? h)
/-- What a box of two cells holds. -/
theorem cells (S : St w0 W B R8 R32) (i : Nat) {g t : Nat} {x y : Value} (h : B[i]? = some (g, #[x, y], t)) : W.cell? ⟨g, 0, none⟩ = some x ∧ W.cell? ⟨g, 1, none⟩ = some y := by
  have hg := S.box _ (List.mem_of_getElem? h)
  exact ⟨blk_cell hg 0, blk_cell hg 1⟩
theorem froz (S : St w0 W B R8 R32) (i : Nat) {g t : Nat} {cs : Array Value} (h : B[i]? = some (g, cs, t)) (j : Nat) : W.frozen? ⟨g, j, none⟩ = false := blk_frozen (S.box _ (List.mem_of_getElem? h)) j
theorem bits (S : St w0 W B R8 R32) (i : Nat) {A : Option Addr} {n c : Nat} {xs : List Int} (h : R8[i]? = some (.slice A n c, xs)) : n = xs.length ∧ n ≤ c ∧ Kd.C (Kd.int .u8) W A xs.length xs := Kd.R_reads' (S.r8 _ (List.mem_of_getElem? h))
theorem limbs (S : St w0 W B R8 R32) (i : Nat) {A : Option Addr} {n c : Nat} {xs : List Int} (h : R32[i]? = some (.slice A n c, xs)) : n = xs.length ∧ n ≤ c ∧ Kd.C (Kd.int .u32) W A xs.length xs := Kd.R_reads' (S.r32 _ (List.mem_of_getElem? h))
/-- What came in reads as it did. -/
theorem came {α : Type} {d : Kd α} {A : Option Addr} {n : Nat} {xs : List α} (S : St w0 W B R8 R32) (h : Kd.C d w0 A n xs) : Kd.C d W A n xs := Kd.C_below h S.below
end St
end Go.Proofs.YthhpnlbeniihhaaDoor
namespace Go.Proofs.YthhpnlbeniihhaaDoor.Hand
open Go.RowKit Go.Proofs.YthhpnlbeniihhaaDoorW.PrintWords Go.Proofs.YthhpnlbeniihhaaDoorW.PrintLast Go.Proofs.YthhpnlbeniihhaaDoorW.PrintMore Go.Proofs.YthhpnlbeniihhaaDoor Go.Proofs.YthhpnlbeniihhaaDoor.Limb Go.Proofs.YthhpnlbeniihhaaDoor.Bit Go.Proofs.YthhpnlbeniihhaaDoor.NumA Go.Proofs.YthhpnlbeniihhaaDoor.RefC
set_option linter.unusedVariables false
set_option linter.unusedSimpArgs false
theorem info8 : (Tryd.prog.info? 5).map (fun i => (i.zero, i.size, i.bytes)) = some (some (.int .u8 0), 1, 1) := by kernel_rfl
set_option maxHeartbeats 1000000 in
theorem cut_calls (A : Option Addr) (c : Nat) (l : List Int) (w : World) (hl : Kd.C (Kd.int .u8) w A l.length l) (hc : l.length ≤ c) :
    Calls Tryd.prog 85 #[.slice A l.length c] w fun e w' => e = .returned (.slice A (tr l).length c) ∧ Drawn0 w w' := by
  have HL := Aside0.mk hl
  have HC := Aside0.mk hc
  clear hl hc
  go_enter Tryd.func85, Tryd.ntmps85
  go_wp2
  go_loopw [3] (fun v3 w' => ∃ x : Int, v3 = .int .i64 x ∧ Aside0 (0 ≤ x ∧ TrimAt l x.toNat) ∧ Drawn0 w w') (fun v3 _ => (intOf v3).toNat)
  case atStart => exact ⟨l.length, rfl, ⟨by omega, trim_start l⟩, Drawn0.refl _⟩
  case round =>
    obtain ⟨x, rfl, HT, ⟨q, rfl⟩⟩ := hrel
    by_cases h0 : x = 0
    · subst h0
      go_wp2
      go_ret
      rw [trim_end HT.out.2]
      exact ⟨rfl, ⟨q, rfl⟩⟩
    · obtain ⟨j, hj⟩ : ∃ j : Int, x - 1 = j := ⟨_, rfl⟩
      have hx : TrimAt l (j.toNat + 1) := by have := HT.out; rw [show j.toNat + 1 = x.toNat by omega]; exact this.2
      have hlen := hx.1
      have hL := (HL.out).2.1
      have hx0 := HT.out.1
      have hw : IntKind.i64.wrap (x - 1) = j := by rw [IntKind.wrap_i64]; omega
      have hw2 : wrap64 (x - 1) = j := by unfold wrap64; omega
      have c0 : decide (0 < x) = true := decide_eq_true (by have := HT.out.1; omega)
      have p0 : 0 ≤ j := by have := HT.out.1; omega
      have q0 : j < (l.length : Int) := by omega
      obtain ⟨ad, e0, hcell⟩ := Kd.at_int HL.out j p0 q0
      have HX := Aside0.mk hx
      have HP := Aside0.mk p0
      have HQ := Aside0.mk q0
      have HXJ := Aside0.mk hj
      clear hx hlen hL h0 hj hx0
      cases e0
      replace p0 := eq_true p0
      replace q0 := eq_true q0
      by_cases hz : rd l j = 0
      · have z0 : (rd l j == 0) = true := beq_iff_eq.mpr hz
        have HZ := Aside0.mk hz
        clear hz
        go_wp2
        go_roundw
        case rel => exact ⟨j, rfl, ⟨HP.out, trim_step HX.out (by rw [Int.toNat_of_nonneg HP.out]; exact HZ.out)⟩, ⟨q, rfl⟩⟩
        case measure => have := HXJ.out; have := HP.out; simp [intOf]; omega
      · have z0 : (rd l j == 0) = false := beq_eq_false_iff_ne.mpr hz
        have HZ := Aside0.mk hz
        have hxl : x ≤ (l.length : Int) := by have := HXJ.out; have := HQ.out; omega
        obtain ⟨i0, hi0, _, _, _⟩ := info_parts info8
        have hcut := cut_to (P := Tryd.prog) 32 5 .i64 Tryd.underlying32 hi0 (some ad) l.length c x (by have := HXJ.out; have := HP.out; omega) hxl HC.out
        clear hi0 hz
        have HXL := Aside0.mk hxl
        clear hxl
        go_wp2
        go_ret
        have e : (tr l).length = x.toNat := by
          have h1 := HXJ.out
          have h2 := HP.out
          have h3 := HXL.out
          rw [trim_stop HX.out (by rw [Int.toNat_of_nonneg h2]; exact HZ.out), List.length_take]
          omega
        rw [e]
        exact ⟨rfl, ⟨q, rfl⟩⟩
set_option maxRecDepth 100000 in
set_option maxHeartbeats 4000000 in
theorem value_calls (neg : Bool) (A : Option Addr) (c : Nat) (l : List Int) (w : World) (hl : Kd.C (Kd.int .u8) w A l.length l) (hc : l.length ≤ c) :
    Calls Tryd.prog 62 #[.bool neg, .slice A l.length c] w fun e w' => e = .returned (.agg #[.bool (neg && decide (0 < (tr l).length)), .slice A (tr l).length c]) ∧ Below w.heap.size w w' := by
  have C := cut_calls A c l (w.alloc (.cells #[.bool false, .slice none 0 0] 34 (0, 0))) (Kd.C_alloc hl _) hc
  generalize (tr l).length = n at *
  have S0 := St.start w
  obtain ⟨z0, z1, f0, f1, S1⟩ := S0.put (.bool false) (.slice none 0 0) (.bool (neg && decide (0 < n))) (.slice A n c) 34 (by decide)
  have HS := Aside0.mk S1
  have CC := Lib.hid C
  clear C S0 S1 hl hc
  cases neg with
  | false =>
    go_enter Tryd.func62, Tryd.ntmps62
    go_wp2_with fail
    refine CC.out.mono ?_
    rintro e w' ⟨rfl, ⟨nd, rfl⟩⟩
    go_wp2
    refine bodyPost_ret (results_cell_row rfl _ _ w.heap.size 34 #[.bool (false && decide (0 < n)), .slice A n c] (0, 0) _ rfl (blk_drewN (HS.out.box _ List.mem_cons_self) nd) Tryd.underlying34 rfl (by kernel_rfl)) rfl ?_
    exact ⟨rfl, pw_below_drewN HS.out.below nd⟩
  | true =>
    go_enter Tryd.func62, Tryd.ntmps62
    go_wp2_with fail
    refine CC.out.mono ?_
    rintro e w' ⟨rfl, ⟨nd, rfl⟩⟩
    go_wp2
    refine bodyPost_ret (results_cell_row rfl _ _ w.heap.size 34 #[.bool (true && decide (0 < n)), .slice A n c] (0, 0) _ rfl (blk_drewN (HS.out.box _ List.mem_cons_self) nd) Tryd.underlying34 rfl (by kernel_rfl)) rfl ?_
    exact ⟨rfl, pw_below_drewN HS.out.below nd⟩
end Go.Proofs.YthhpnlbeniihhaaDoor.Hand
namespace Go.Proofs.YthhpnlbeniihhaaDoor.Ref
open Go.RowKit Go.Proofs.YthhpnlbeniihhaaDoorW.PrintWords Go.Proofs.YthhpnlbeniihhaaDoorW.PrintLast Go.Proofs.YthhpnlbeniihhaaDoorW.PrintMore Go.Proofs.YthhpnlbeniihhaaDoor Go.Proofs.YthhpnlbeniihhaaDoor.Limb Go.Proofs.YthhpnlbeniihhaaDoor.Bit Go.Proofs.YthhpnlbeniihhaaDoor.NumA Go.Proofs.YthhpnlbeniihhaaDoor.NumB Go.Proofs.YthhpnlbeniihhaaDoor.NumG Go.Proofs.YthhpnlbeniihhaaDoor.NumJ Go.Proofs.YthhpnlbeniihhaaDoor.Vals Go.Proofs.YthhpnlbeniihhaaDoor.Plain Go.Proofs.YthhpnlbeniihhaaDoor.Raw Go.Proofs.YthhpnlbeniihhaaDoor.RefC
theorem same_self (a : Bool) (l : List Int) (h : l.length < 1073741824) : moraineref02_Same.f a l a l = some true := by
  unfold moraineref02_Same.f; rw [if_pos h]; simp
theorem value_raw {n : Bool} {l : List Int} (h : okN l) : moraineref02_Value.f n l = some (vb (val n l), vl (val n l)) := by unfold moraineref02_Value.f; rw [if_pos h]
theorem copy_raw {n : Bool} {l : List Int} (h : okN l) : moraineref02_Copy.f n l = some (n, l) := by unfold moraineref02_Copy.f; rw [if_pos h.2]
theorem num_at {z : Int} (h : (vl z).length < 1073741824) : moraineref02_Num.f (vb z) (vl z) = some (mkI z) := by unfold moraineref02_Num.f; rw [if_pos (canV_v h), bval_v]
theorem vlen {z : Int} {k : Nat} (h : z.natAbs < 4294967296 ^ k) : (vl z).length ≤ 32 * k := by
  unfold vl
  rw [bits_len, Nat.pow_mul]
  exact h
section
variable {y z : Int} (hy : (vl y).length < 1073741824) (hz : (vl z).length < 1073741824)
include hy hz
end
end Go.Proofs.YthhpnlbeniihhaaDoor.Ref
namespace Go.Proofs.YthhpnlbeniihhaaDoor.RefV
end Go.Proofs.YthhpnlbeniihhaaDoor.RefV
namespace Go.Proofs.YthhpnlbeniihhaaDoor.PNumGcds
open Go.RowKit Go.Proofs.YthhpnlbeniihhaaDoorW.PrintWords Go.Proofs.YthhpnlbeniihhaaDoorW.PrintLast Go.Proofs.YthhpnlbeniihhaaDoorW.PrintMore Go.Proofs.YthhpnlbeniihhaaDoor Go.Proofs.YthhpnlbeniihhaaDoor.Limb Go.Proofs.YthhpnlbeniihhaaDoor.Bit Go.Proofs.YthhpnlbeniihhaaDoor.NumA Go.Proofs.YthhpnlbeniihhaaDoor.NumC Go.Proofs.YthhpnlbeniihhaaDoor.NumJ Go.Proofs.YthhpnlbeniihhaaDoor.NumS Go.Proofs.YthhpnlbeniihhaaDoor.RefA Go.Proofs.YthhpnlbeniihhaaDoor.RefC
set_option linter.unusedVariables false
set_option linter.unusedSimpArgs false
theorem kN_of {w : World} {A : Option Addr} {n : Nat} {xs : List S25} (h : Kd.C k25 w A n xs) : Kd.C kN w A n (xs.map (fun x => (x.f0, x.f1))) := by
  refine ⟨by rw [List.length_map]; exact h.1, h.2.1, fun hn => ?_⟩
  obtain ⟨ad, e, hc⟩ := h.2.2 hn
  refine ⟨ad, e, fun j p hj => ?_⟩
  rw [List.getElem?_map] at hj
  obtain ⟨x, hx, rfl⟩ := Option.map_eq_some_iff.mp hj
  exact hc j x hx
def num_Gcd.f (l0 : List S25) : Option (Bool × List Int × Int) := Go.Proofs.YthhpnlbeniihhaaDoor.num_Gcd.f (l0.map (fun x => (x.f0, x.f1)))
theorem num_Gcd.calls (A0 : Option Addr) (c0 : Nat) (l0 : List S25) (r1 : Bool) (r2 : List Int) (r3 : Int) (w : World) (hr0 : Kd.C k25 w A0 l0.length l0) (hc0 : l0.length ≤ c0) (h : num_Gcd.f l0 = some (r1, r2, r3)) :
    Calls Tryd.prog 34 #[.slice A0 l0.length c0] w fun e w' => ∃ v1_ : Value, e = .returned (.tuple #[.agg #[.bool r1, v1_], .int .i64 r3]) ∧ Kd.R (Kd.int .u32) 63 w' w.heap.size (fun _ => True) v1_ r2 ∧ Below w.heap.size w w' := by
  have h0 : Go.Proofs.YthhpnlbeniihhaaDoor.num_Gcd.f (l0.map (fun x : S25 => (x.f0, x.f1))) = some (r1, r2, r3) := h
  have h1 := Go.Proofs.YthhpnlbeniihhaaDoor.num_Gcd.calls A0 c0 (l0.map (fun x : S25 => (x.f0, x.f1))) r1 r2 r3 w (by rw [List.length_map]; exact kN_of hr0) (by rw [List.length_map]; exact hc0) h0
  rw [List.length_map] at h1
  exact h1
/-- The greatest number that divides all. -/
def gcdB (xs : List S34) : Nat := xs.foldl (fun g x => Nat.gcd g (bv x.f1)) 0
/-- A row of bytes stays where a variable of a sign and a row is written. -/
theorem C8_set {W : World} {g t : Nat} {b : Bool} {A' : Option Addr} {n' c' : Nat} {A : Option Addr} {n : Nat} {xs : List Int} (h : Kd.C (Kd.int .u8) W A n xs) (hg : W.heap[g]? = some (.cells #[.bool b, .slice A' n' c'] t (0, 0))) (j : Nat) (u : Value) : Kd.C (Kd.int .u8) (W.setCell ⟨g, j, none⟩ u) A n xs := by
  refine ⟨h.1, h.2.1, fun hn => ?_⟩
  obtain ⟨ad, e, hc⟩ := h.2.2 hn
  refine ⟨ad, e, fun q p hq => ?_⟩
  obtain ⟨c, l, r, hcell⟩ := hc q p hq
  refine ⟨c, l, r, fun i v hv => ?_⟩
  have h1 := hcell i v hv
  obtain rfl : c = [.int .u8 p] := r
  have hv2 : Value.int .u8 p = v := by
    match i with
    | 0 => exact Option.some.inj hv
    | i + 1 => cases hv
  subst hv2
  rw [World.cell?_setCell_other _ _ _ _ (fun e2 => ?_)]
  · exact h1
  · rw [← e2, blk_cell hg j] at h1
    match j with
    | 0 => cases (Option.some.inj h1)
    | 1 => cases (Option.some.inj h1)
    | j + 2 => cases h1
theorem tr_canon {l : List Int} (h : l = Bit.bits (bv l)) : tr l = l := by rw [h, tr_of_bits]
theorem bits_gt {l : List Int} (h : l = Bit.bits (bv l)) : 0 < l.length ↔ bv l ≠ 0 := by
  have := RefC.bits_pos (bv l)
  rw [← h, decide_eq_decide] at this
  exact this
set_option maxRecDepth 100000 in
set_option maxHeartbeats 8000000 in
theorem refgcd_calls (A : Option Addr) (c : Nat) (xs : List S34) (w : World) (h : Kd.C k34 w A xs.length xs) (hc : xs.length ≤ c) (hok : ∀ x ∈ xs, x.f1 = Bit.bits (bv x.f1) ∧ x.f1.length < 1073741824) :
    Calls Tryd.prog 35 #[.slice A xs.length c] w fun e w' => ∃ Ag cg, e = .returned (.agg #[.bool false, .slice Ag (Bit.bits (gcdB xs)).length cg]) ∧ (Bit.bits (gcdB xs)).length ≤ cg ∧ Kd.C (Kd.int .u8) w' Ag (Bit.bits (gcdB xs)).length (Bit.bits (gcdB xs)) ∧ Below w.heap.size w w' := by
  have hn : xs.length ≤ 9223372036854775807 := by have := h.2.1; omega
  have H := Aside0.mk h
  have HOK := Lib.hid hok
  have HN := Aside0.mk hn
  have S1 := (St.start w).boxed #[.bool false, .slice none 0 0] 34 (by decide)
  have HS1 := Aside0.mk S1
  clear h hc hok hn S1
  go_enter Tryd.func35, Tryd.ntmps35
  go_wp2
  go_loopg [3, 4] xs.length (fun k v3 v4 wr => ∃ (i : Nat) (Ag : Option Addr) (cg : Nat) (G : List Int), v4 = .int .i64 i ∧ v3 = .slice Ag G.length cg ∧ Aside0 (i + k = xs.length ∧ Kd.C (Kd.int .u8) wr Ag G.length G ∧ G.length ≤ cg ∧ G.length < 1073741824 ∧ G = Bit.bits (gcdB (xs.take i))) ∧ Aside0 (St w wr [(w.heap.size, #[.bool false, .slice none 0 0], 34)] [] []))
  case atStart => exact ⟨0, none, 0, [], rfl, rfl, ⟨by omega, Kd.C_nil _ _, by simp, by simp, by rw [List.take_zero]; exact (Bit.bits_zero).symm⟩, HS1⟩
  case round =>
    clear HS1
    obtain ⟨i, Ag, cg, G, rfl, rfl, HI, HS⟩ := hrel
    by_cases hi : i < xs.length
    · have i0 : (0 : Int) ≤ (i : Int) := by omega
      have i1 : (i : Int) < (xs.length : Int) := by omega
      obtain ⟨ad, Ax, cx, rfl, hcell0, hcell1, hlx, hLx⟩ := at_T34 (Kd.C_below H.out HS.out.below) (i : Int) i0 i1
      obtain ⟨x, hx⟩ : ∃ x, rd_T34 xs (i : Int) = x := ⟨_, rfl⟩
      rw [hx] at hcell0 hcell1 hlx hLx
      have hx2 : xs[i] = x := by
        rw [← hx]
        unfold rd_T34
        rw [Int.toNat_natCast, List.getD_eq_getElem?_getD, List.getElem?_eq_getElem hi]
        rfl
      have hmem : x ∈ xs := by rw [← hx2]; exact List.getElem_mem hi
      have hxo := HOK.out x hmem
      have htake : gcdB (xs.take (i + 1)) = Nat.gcd (gcdB (xs.take i)) (bv x.f1) := by
        unfold gcdB
        rw [List.take_succ_eq_append_getElem hi, List.foldl_append, hx2]
        rfl
      have HXO := Aside0.mk hxo
      have HTK := Aside0.mk htake
      have HI1 := Aside0.mk hi
      have HLX := Aside0.mk hLx
      have HXR := Aside0.mk hlx
      have p0 := eq_true i0
      have q0 := eq_true i1
      have wx : IntKind.i64.wrap ((i : Int) + 1) = ((i + 1 : Nat) : Int) := by have := HI1.out; have := HN.out; rw [IntKind.wrap_i64]; omega
      have wx2 : wrap64 ((i : Int) + 1) = ((i + 1 : Nat) : Int) := by have := HI1.out; have := HN.out; unfold wrap64; omega
      obtain ⟨gk0, hgk⟩ : ∃ gk0, gk0 = gk := ⟨_, rfl⟩
      have HGK := Aside0.mk hgk
      have HI2 := Aside0.mk (show i + gk0 = xs.length by rw [hgk]; exact HI.out.1)
      rw [Int.toNat_natCast] at hcell0 hcell1
      clear hi hx hx2 hlx hLx hmem hxo htake hgk
      go_wp2
      go_loopg [3, 5] (bv x.f1) (fun k v3 v5 w' => ∃ (Ag : Option Addr) (cg : Nat) (G : List Int) (Ax : Option Addr) (cx : Nat) (X : List Int), v3 = .slice Ag G.length cg ∧ v5 = .slice Ax X.length cx ∧ Aside0 ((Kd.C (Kd.int .u8) w' Ag G.length G ∧ G.length ≤ cg ∧ G.length < 1073741824 ∧ G = Bit.bits (bv G)) ∧ (Kd.C (Kd.int .u8) w' Ax X.length X ∧ X.length ≤ cx ∧ X.length < 1073741824 ∧ X = Bit.bits (bv X)) ∧ bv X = k ∧ Nat.gcd (bv G) (bv X) = Nat.gcd (gcdB (xs.take i)) (bv x.f1)) ∧ Aside0 (St w w' [(w.heap.size, #[.bool false, .slice none 0 0], 34)] [] []))
      case atStart => exact ⟨Ag, cg, G, Ax, cx, x.f1, rfl, rfl, ⟨⟨HI.out.2.1, HI.out.2.2.1, HI.out.2.2.2.1, by rw [HI.out.2.2.2.2, bv_bits]⟩, ⟨HLX.out, HXR.out, HXO.out.2, HXO.out.1⟩, rfl, by rw [HI.out.2.2.2.2, bv_bits]⟩, HS⟩
      case round =>
        obtain ⟨Ag, cg, G, Ax, cx, X, rfl, rfl, HJ, HT⟩ := hrel
        clear HS HLX HI
        have tp := bits_gt HJ.out.2.1.2.2.2
        by_cases hx0 : bv X = 0
        · have t0 : decide (0 < X.length) = false := decide_eq_false (fun h => tp.mp h hx0)
          have t1 : decide ((0 : Int) < (X.length : Int)) = false := decide_eq_false (fun h => tp.mp (by omega) hx0)
          have HX0 := Aside0.mk hx0
          clear tp hx0
          go_wp2
          go_roundg (gk0 - 1)
          case measure => have := HI2.out; have := HI1.out; have := HGK.out; omega
          case rel => exact ⟨i + 1, Ag, cg, G, by simp [wx, wx2], rfl, ⟨by have := HI2.out; have := HI1.out; omega, HJ.out.1.1, HJ.out.1.2.1, HJ.out.1.2.2.1, by have h6 := HJ.out.2.2.2; rw [HX0.out, Nat.gcd_zero_right] at h6; rw [HTK.out, ← h6]; exact HJ.out.1.2.2.2⟩, HT⟩
        · have t0 : decide (0 < X.length) = true := decide_eq_true (tp.mpr hx0)
          have t1 : decide ((0 : Int) < (X.length : Int)) = true := decide_eq_true (by have := tp.mpr hx0; omega)
          have okG : OkB G := by rw [HJ.out.1.2.2.2]; exact ok_bits _
          have okX : OkB X := by rw [HJ.out.2.1.2.2.2]; exact ok_bits _
          have hp := parts_ev G X okG okX (tr_canon HJ.out.2.1.2.2.2) (by have := HJ.out.1.2.2.1; omega) (by have := HJ.out.2.1.2.2.1; omega) (Nat.pos_of_ne_zero hx0)
          obtain ⟨kk, hkk⟩ := hp.rounds
          have PP := Lib.hid (fun W h1 h2 => PRef.moraineref02_parts.calls kk Ag cg G Ax cx X _ _ W h1 HJ.out.1.2.1 h2 HJ.out.2.1.2.1 hkk)
          have HX0 := Aside0.mk hx0
          have HRL := Aside0.mk (show (Bit.bits (bv G % bv X)).length < 1073741824 from by
            have h1 : (Bit.bits (bv G % bv X)).length ≤ X.length := by
              rw [bits_len]
              exact Nat.lt_trans (Nat.mod_lt _ (Nat.pos_of_ne_zero hx0)) (bv_lt okX)
            have := HJ.out.2.1.2.2.1
            omega)
          clear tp hx0 okG okX hp hkk
          go_wp2_with fail
          refine (PP.out _ HJ.out.1.1 HJ.out.2.1.1).mono ?_
          rintro e w1 ⟨vq, vr, rfl, hq, hR, hb⟩
          obtain ⟨Aq, cq, rfl⟩ := Kd.R_slice hq
          obtain ⟨Ar, cr, rfl⟩ := Kd.R_slice hR
          have HT1 := Aside0.mk (HT.out.call hb)
          have HXN := Aside0.mk (Kd.C_below HJ.out.2.1.1 hb)
          have HRN := Aside0.mk (Kd.R_reads' hR).2
          clear hq hR hb HT PP
          go_wp2
          go_roundg (bv G % bv X)
          case measure => have := HJ.out.2.2.1; rw [← this]; exact Nat.mod_lt _ (Nat.pos_of_ne_zero HX0.out)
          case rel => exact ⟨Ax, cx, X, Ar, cr, Bit.bits (bv G % bv X), rfl, rfl, ⟨⟨HXN.out, HJ.out.2.1.2.1, HJ.out.2.1.2.2.1, HJ.out.2.1.2.2.2⟩, ⟨HRN.out.2, HRN.out.1, HRL.out, by rw [bv_bits]⟩, bv_bits _, by rw [bv_bits, gcd_step]; exact HJ.out.2.2.2⟩, HT1⟩
    · have he : i = xs.length := by have := HI.out.1; omega
      have hv : G = Bit.bits (gcdB xs) := by have := HI.out.2.2.2.2; rw [he, List.take_length] at this; exact this
      have hi1 : ¬ ((i : Int) < (xs.length : Int)) := by omega
      have t1 : decide (i < xs.length) = false := decide_eq_false hi
      have t2 : decide ((i : Int) < (xs.length : Int)) = false := decide_eq_false hi1
      have HV := Aside0.mk hv
      have C := Hand.value_calls false Ag cg G wr HI.out.2.1 HI.out.2.2.1
      rw [tr_canon (show G = Bit.bits (bv G) by rw [hv, bv_bits]), Bool.false_and] at C
      have CC := Lib.hid C
      clear he hv hi hi1 C
      go_wp2_with fail
      refine CC.out.mono ?_
      rintro e w1 ⟨rfl, hb⟩
      have S2 := HS.out.call hb
      obtain ⟨z0, z1⟩ := S2.cells 0 rfl
      have f0 := S2.froz 0 rfl 0
      have f1 := S2.froz 0 rfl 1
      have HT := Aside0.mk (S2.set2 0 rfl (.bool false) (.slice Ag G.length cg))
      have HC := Aside0.mk (C8_set (C8_set (Kd.C_below HI.out.2.1 hb) (S2.blk 0 rfl) 0 (.bool false)) ((S2.setI 0 rfl 0 (.bool false)).blk 0 rfl) 1 (.slice Ag G.length cg))
      clear S2 hb HS
      go_wp2
      refine bodyPost_ret (results_cell_row rfl _ _ w.heap.size 34 #[.bool false, .slice Ag G.length cg] (0, 0) _ rfl (HT.out.blk 0 rfl) Tryd.underlying34 rfl (by kernel_rfl)) rfl ?_
      rw [← HV.out]
      exact ⟨Ag, cg, rfl, HI.out.2.2.1, HC.out, HT.out.below⟩
def moraineref02_Gcd.f (l0 : List S34) : Option (Bool × List Int) := if ∀ x ∈ l0, x.f1 = Bit.bits (bv x.f1) ∧ x.f1.length < 1073741824 then some (false, Bit.bits (gcdB l0)) else none
theorem moraineref02_Gcd.calls (P : Nat → Prop) (A0 : Option Addr) (c0 : Nat) (l0 : List S34) (r1 : Bool) (r2 : List Int) (w : World) (hs0 : Kd.V k34 34 w w.heap.size (fun k_ => P k_) (.slice A0 l0.length c0) l0) (h : moraineref02_Gcd.f l0 = some (r1, r2)) :
    Calls Tryd.prog 35 #[.slice A0 l0.length c0] w fun e w' => ∃ v1_ : Value, e = .returned (.agg #[.bool r1, v1_]) ∧ (∃ A c, v1_ = .slice A r2.length c ∧ r2.length ≤ c ∧ Kd.C (Kd.int .u8) w' A r2.length r2) ∧ Below w.heap.size w w' := by
  unfold moraineref02_Gcd.f at h
  by_cases hg : ∀ x ∈ l0, x.f1 = Bit.bits (bv x.f1) ∧ x.f1.length < 1073741824
  · rw [if_pos hg] at h
    obtain ⟨rfl, rfl⟩ : false = r1 ∧ Bit.bits (gcdB l0) = r2 := by injection h with h; injection h with h1 h2; exact ⟨h1, h2⟩
    refine (refgcd_calls A0 c0 l0 w (Kd.V_reads' hs0).2.2 (Kd.V_reads' hs0).2.1 hg).mono ?_
    rintro e w' ⟨Ag, cg, rfl, h1, h2, h3⟩
    exact ⟨_, rfl, ⟨Ag, cg, rfl, h1, h2⟩, h3⟩
  · rw [if_neg hg] at h; cases h
end Go.Proofs.YthhpnlbeniihhaaDoor.PNumGcds
-- Printed by a program of this session's (wip/tools/printr.py, over the kit's print program).
namespace Go.Proofs.YthhpnlbeniihhaaDoor.PNumGcds
open Go.RowKit Go.Proofs.YthhpnlbeniihhaaDoorW.PrintWords Go.Proofs.YthhpnlbeniihhaaDoorW.PrintLast Go.Proofs.YthhpnlbeniihhaaDoorW.PrintMore
attribute [local go_sem] max2_int min2_int max_two min_two max_three min_three max_four min_four   -- for this text's walks alone
set_option linter.unusedVariables false
set_option linter.unusedSimpArgs false
-- given
-- given
def morainelaw02_long.f (a0_0 : Bool) (l0_1 : List Int) : Option (Bool) := some (decide ((l0_1.length : Int) > 60))
set_option maxHeartbeats 8000000 in
set_option maxRecDepth 100000 in
theorem morainelaw02_long.calls (a0_0 : Bool) (A0_1 : Option Addr) (c0_1 : Nat) (l0_1 : List Int) (r : Bool) (w : World) (hr0_1 : Kd.C (Kd.int .u32) w A0_1 l0_1.length l0_1) (hc0_1 : l0_1.length ≤ c0_1) (h : morainelaw02_long.f a0_0 l0_1 = some r) :
    Calls Tryd.prog 21 #[.agg #[.bool a0_0, .slice A0_1 l0_1.length c0_1]] w fun e w' => e = .returned (.bool r) ∧ Below w.heap.size w w' := by
  have hu25 := Tryd.underlying25
  have HR0_1 := Aside0.mk hr0_1
  have HC0_1 := Aside0.mk hc0_1
  clear hr0_1 hc0_1
  have HB := Aside0.mk (Below.refl w.heap.size w)
  have H : (some (decide ((l0_1.length : Int) > 60))) = some r := h
  clear h
  obtain rfl := Option.some.inj H
  go_enter Tryd.func21, Tryd.ntmps21
  go_wp2_with (first | ((with_reducible refine gate_dst (N := 1) rfl ?_); refine box_event ?hg (N := 1) ?hd (cs := #[.bool a0_0, .slice A0_1 l0_1.length c0_1]) (t := 25) ?hr ?_; (case hd => rfl); (case hg => rfl); (case hr => first | (go_simp; done) | (go_simp; rfl)); intro gb101 hg w2 hbox hb; have n0_ := Aside0.mk (below_step (by repeat (first | (with_reducible first | exact HB.out | apply below_alloc | apply pw_below_drewN | apply below_drew1) | exact HB.out)) hb); have n1_ := Aside0.mk (hbox); have n2_ := Aside0.mk ((by rw [hg]; exact (below_size (by repeat (first | (with_reducible first | exact HB.out | apply below_alloc | apply pw_below_drewN | apply below_drew1) | exact HB.out))) : w.heap.size ≤ gb101)); have n3_ := Aside0.mk ((by rw [hg]; exact (below_size (by repeat (first | (with_reducible first | exact HB.out | apply below_alloc | apply pw_below_drewN | apply below_drew1) | exact HB.out))) : w.heap.size ≤ gb101)); clear HB; have HB := n0_; have BK101 := n1_; have GW101 := n2_; have GE101 := n3_; clear n0_ n1_ n2_ n3_; clear hb hbox hg; have hcz3_0 : w2.cell? ⟨gb101, 0, none⟩ = some (.bool a0_0) := (blk_cell BK101.out 0).trans rfl; have hcz3_1 : w2.cell? ⟨gb101, 1, none⟩ = some (.slice A0_1 l0_1.length c0_1) := (blk_cell BK101.out 1).trans rfl; have hfz3_0 := blk_frozen BK101.out 0; have hfz3_1 := blk_frozen BK101.out 1))
  go_ret
  exact ⟨by first | rfl | (simp [errW_none, errW_some] <;> rfl) | (simp [*, errW_none, errW_some] <;> rfl), by repeat (first | (with_reducible first | exact HB.out | apply below_alloc | apply pw_below_drewN | apply below_drew1 | refine below_set ?_ GE101.out) | exact HB.out)⟩
-- given
-- given
def morainelaw02_is.f (a0_0 : Bool) (l0_1 : List Int) (a1 : Int) (a2_0 : Bool) (l2_1 : List Int) : Option (Bool) := (moraineref02_Num.f a2_0 l2_1).bind fun bt104 => (if a1 = bt104.2.2 then ((moraineref02_Same.f a0_0 l0_1 bt104.1 bt104.2.1).bind fun t110 => (some t110)) else (some false))
set_option maxHeartbeats 8000000 in
set_option maxRecDepth 100000 in
theorem morainelaw02_is.calls (a0_0 : Bool) (A0_1 : Option Addr) (c0_1 : Nat) (l0_1 : List Int) (a1 : Int) (a2_0 : Bool) (A2_1 : Option Addr) (c2_1 : Nat) (l2_1 : List Int) (r : Bool) (w : World) (hr0_1 : Kd.C (Kd.int .u32) w A0_1 l0_1.length l0_1) (hc0_1 : l0_1.length ≤ c0_1) (hr2_1 : Kd.C (Kd.int .u8) w A2_1 l2_1.length l2_1) (hc2_1 : l2_1.length ≤ c2_1) (h : morainelaw02_is.f a0_0 l0_1 a1 a2_0 l2_1 = some r) :
    Calls Tryd.prog 27 #[.agg #[.bool a0_0, .slice A0_1 l0_1.length c0_1], .int .i64 a1, .agg #[.bool a2_0, .slice A2_1 l2_1.length c2_1]] w fun e w' => e = .returned (.bool r) ∧ Below w.heap.size w w' := by
  have hu25 := Tryd.underlying25
  have hu34 := Tryd.underlying34
  have HR0_1 := Aside0.mk hr0_1
  have HC0_1 := Aside0.mk hc0_1
  clear hr0_1 hc0_1
  have HR2_1 := Aside0.mk hr2_1
  have HC2_1 := Aside0.mk hc2_1
  clear hr2_1 hc2_1
  have HB := Aside0.mk (Below.refl w.heap.size w)
  have H : ((moraineref02_Num.f a2_0 l2_1).bind fun bt104 => (if a1 = bt104.2.2 then ((moraineref02_Same.f a0_0 l0_1 bt104.1 bt104.2.1).bind fun t110 => (some t110)) else (some false))) = some r := h
  clear h
  replace H := Option.bind_eq_some_iff.mp H
  obtain ⟨⟨t104, t105, t108⟩, A40, H⟩ := H
  replace H : (if a1 = t108 then ((moraineref02_Same.f a0_0 l0_1 t104 t105).bind fun t110 => (some t110)) else (some false)) = some r := H
  have A4 := Aside0.mk A40
  clear A40
  by_cases c5 : a1 = t108
  · rw [if_pos c5] at H
    have c5b0 : (a1 == t108) = true := beq_iff_eq.mpr c5
    have c5b1 : (a1 != t108) = false := bne_eq_false_iff_eq.mpr c5
    clear c5
    replace H := Option.bind_eq_some_iff.mp H
    obtain ⟨t110, A60, H⟩ := H
    replace H : (some t110) = some r := H
    have A6 := Aside0.mk A60
    clear A60
    obtain rfl := Option.some.inj H
    go_enter Tryd.func27, Tryd.ntmps27
    go_wp2_with (first | ((with_reducible refine gate_dst (N := 3) rfl ?_); refine box_event ?hg (N := 3) ?hd (cs := #[.bool a0_0, .slice A0_1 l0_1.length c0_1]) (t := 25) ?hr ?_; (case hd => rfl); (case hg => rfl); (case hr => first | (go_simp; done) | (go_simp; rfl)); intro gb102 hg w7 hbox hb; have n0_ := Aside0.mk (below_step (by repeat (first | (with_reducible first | exact HB.out | apply below_alloc | apply pw_below_drewN | apply below_drew1) | exact HB.out)) hb); have n1_ := Aside0.mk (hbox); have n2_ := Aside0.mk ((by rw [hg]; exact (below_size (by repeat (first | (with_reducible first | exact HB.out | apply below_alloc | apply pw_below_drewN | apply below_drew1) | exact HB.out))) : w.heap.size ≤ gb102)); have n3_ := Aside0.mk ((by rw [hg]; exact (below_size (by repeat (first | (with_reducible first | exact HB.out | apply below_alloc | apply pw_below_drewN | apply below_drew1) | exact HB.out))) : w.heap.size ≤ gb102)); clear HB; have HB := n0_; have BK102 := n1_; have GW102 := n2_; have GE102 := n3_; clear n0_ n1_ n2_ n3_; clear hb hbox hg) | ((with_reducible refine gate_dst (N := 5) rfl ?_); refine box_event ?hg (N := 5) ?hd (cs := #[.bool a2_0, .slice A2_1 l2_1.length c2_1]) (t := 34) ?hr ?_; (case hd => rfl); (case hg => rfl); (case hr => first | (go_simp; done) | (go_simp; rfl)); intro gb103 hg w8 hbox hb; have n0_ := Aside0.mk (blk_below (g := gb102) (o := .cells #[.bool a0_0, .slice A0_1 l0_1.length c0_1] 25 (0, 0)) (by (with_reducible repeat (first | refine blk_drewN ?_ _ | refine blk_drew ?_ | refine blk_alloc ?_ _)); exact BK102.out) hb); have n1_ := Aside0.mk (below_step (by repeat (first | (with_reducible first | exact HB.out | apply below_alloc | apply pw_below_drewN | apply below_drew1 | refine below_set ?_ GE102.out) | exact HB.out)) hb); have n2_ := Aside0.mk (hbox); have n3_ := Aside0.mk ((by rw [hg]; exact (below_size (by repeat (first | (with_reducible first | exact HB.out | apply below_alloc | apply pw_below_drewN | apply below_drew1 | refine below_set ?_ GE102.out) | exact HB.out))) : w.heap.size ≤ gb103)); have n4_ := Aside0.mk ((by rw [hg]; exact (below_size (by repeat (first | (with_reducible first | exact HB.out | apply below_alloc | apply pw_below_drewN | apply below_drew1 | refine below_set ?_ GE102.out) | exact HB.out))) : w.heap.size ≤ gb103)); have n5_ := Aside0.mk ((by rw [hg]; exact Nat.ne_of_lt (blk_lt (g := gb102) (o := .cells #[.bool a0_0, .slice A0_1 l0_1.length c0_1] 25 (0, 0)) (by (with_reducible repeat (first | refine blk_drewN ?_ _ | refine blk_drew ?_ | refine blk_alloc ?_ _)); exact BK102.out)) : gb102 ≠ gb103)); have n6_ := Aside0.mk ((by rw [hg]; exact Nat.ne_of_gt (blk_lt (g := gb102) (o := .cells #[.bool a0_0, .slice A0_1 l0_1.length c0_1] 25 (0, 0)) (by (with_reducible repeat (first | refine blk_drewN ?_ _ | refine blk_drew ?_ | refine blk_alloc ?_ _)); exact BK102.out)) : gb103 ≠ gb102)); clear BK102; clear HB; have BK102 := n0_; have HB := n1_; have BK103 := n2_; have GW103 := n3_; have GE103 := n4_; have NB102_103 := n5_; have NB103_102 := n6_; clear n0_ n1_ n2_ n3_ n4_ n5_ n6_; clear hb hbox hg; have hnb9 := NB103_102.out; have hnc9 := NB102_103.out; have hcz10_0 : w8.cell? ⟨gb103, 0, none⟩ = some (.bool a2_0) := (blk_cell BK103.out 0).trans rfl; have hcz10_1 : w8.cell? ⟨gb103, 1, none⟩ = some (.slice A2_1 l2_1.length c2_1) := (blk_cell BK103.out 1).trans rfl; have hfz10_0 := blk_frozen BK103.out 0; have hfz10_1 := blk_frozen BK103.out 1) | ((with_reducible refine gate_callee (f := 52) rfl ?_); refine goesL_ (some 11) rfl rfl Tryd.func52 (by kernel_rfl) rfl #[.agg #[.bool a2_0, .slice A2_1 l2_1.length c2_1]] rfl (by (try simp only [List.map_toArray, List.map_cons, List.map_nil]); first | done | rfl | (simp only [List.length_drop, List.length_take]; rfl)) ?_; (with_reducible refine (moraineref02_Num.calls a2_0 _ _ l2_1 t104 t105 t108 _ ?side1 ?side2 A4.out).mono ?_); (case side1 => repeat (first | exact (Kd.C_below HR2_1.out HB.out) | (with_reducible refine Kd.C_alloc ?_ _) | (with_reducible refine Kd.C_drewN ?_ _) | (with_reducible refine Kd.C_drew ?_))); (case side2 => exact HC2_1.out); rintro e w11 ⟨v106, rfl, ho0, hb⟩; refine ⟨_, rfl, ?_⟩; have n0_ := Aside0.mk (Kd.R_lower ho0 (below_size (by repeat (first | (with_reducible first | exact HB.out | apply below_alloc | apply pw_below_drewN | apply below_drew1 | refine below_set ?_ GE102.out | refine below_set ?_ GE103.out) | exact HB.out)))); have n1_ := Aside0.mk (blk_below (g := gb102) (o := .cells #[.bool a0_0, .slice A0_1 l0_1.length c0_1] 25 (0, 0)) (by (with_reducible repeat (first | refine blk_drewN ?_ _ | refine blk_drew ?_ | refine blk_alloc ?_ _)); exact BK102.out) hb); have n2_ := Aside0.mk (blk_below (g := gb103) (o := .cells #[.bool a2_0, .slice A2_1 l2_1.length c2_1] 34 (0, 0)) (by (with_reducible repeat (first | refine blk_drewN ?_ _ | refine blk_drew ?_ | refine blk_alloc ?_ _)); exact BK103.out) hb); have n3_ := Aside0.mk (below_step (by repeat (first | (with_reducible first | exact HB.out | apply below_alloc | apply pw_below_drewN | apply below_drew1 | refine below_set ?_ GE102.out | refine below_set ?_ GE103.out) | exact HB.out)) hb); clear BK102; clear BK103; clear HB; have HO107 := n0_; have BK102 := n1_; have BK103 := n2_; have HB := n3_; clear n0_ n1_ n2_ n3_; (try clear hb); (try clear hb2); (try clear hk); (try clear hi); (try clear ho0)) | ((with_reducible refine gate_dst (N := 7) rfl ?_); refine box_event ?hg (N := 7) ?hd (cs := #[.bool false, .slice none 0 0]) (t := 25) ?hr ?_; (case hd => rfl); (case hg => rfl); (case hr => first | (go_simp; done) | (go_simp; rfl)); intro gb109 hg w12 hbox hb; have n0_ := Aside0.mk (Kd.R_below (by (with_reducible repeat (first | apply Kd.R_alloc | apply Kd.R_drewN | apply Kd.R_drew)); exact HO107.out) hb); have n1_ := Aside0.mk (blk_below (g := gb102) (o := .cells #[.bool a0_0, .slice A0_1 l0_1.length c0_1] 25 (0, 0)) (by (with_reducible repeat (first | refine blk_drewN ?_ _ | refine blk_drew ?_ | refine blk_alloc ?_ _)); exact BK102.out) hb); have n2_ := Aside0.mk (blk_below (g := gb103) (o := .cells #[.bool a2_0, .slice A2_1 l2_1.length c2_1] 34 (0, 0)) (by (with_reducible repeat (first | refine blk_drewN ?_ _ | refine blk_drew ?_ | refine blk_alloc ?_ _)); exact BK103.out) hb); have n3_ := Aside0.mk (below_step (by repeat (first | (with_reducible first | exact HB.out | apply below_alloc | apply pw_below_drewN | apply below_drew1 | refine below_set ?_ GE102.out | refine below_set ?_ GE103.out) | exact HB.out)) hb); have n4_ := Aside0.mk (hbox); have n5_ := Aside0.mk ((by rw [hg]; exact (below_size (by repeat (first | (with_reducible first | exact HB.out | apply below_alloc | apply pw_below_drewN | apply below_drew1 | refine below_set ?_ GE102.out | refine below_set ?_ GE103.out) | exact HB.out))) : w.heap.size ≤ gb109)); have n6_ := Aside0.mk ((by rw [hg]; exact (below_size (by repeat (first | (with_reducible first | exact HB.out | apply below_alloc | apply pw_below_drewN | apply below_drew1 | refine below_set ?_ GE102.out | refine below_set ?_ GE103.out) | exact HB.out))) : w.heap.size ≤ gb109)); have n7_ := Aside0.mk ((by rw [hg]; exact Nat.ne_of_lt (blk_lt (g := gb102) (o := .cells #[.bool a0_0, .slice A0_1 l0_1.length c0_1] 25 (0, 0)) (by (with_reducible repeat (first | refine blk_drewN ?_ _ | refine blk_drew ?_ | refine blk_alloc ?_ _)); exact BK102.out)) : gb102 ≠ gb109)); have n8_ := Aside0.mk ((by rw [hg]; exact Nat.ne_of_gt (blk_lt (g := gb102) (o := .cells #[.bool a0_0, .slice A0_1 l0_1.length c0_1] 25 (0, 0)) (by (with_reducible repeat (first | refine blk_drewN ?_ _ | refine blk_drew ?_ | refine blk_alloc ?_ _)); exact BK102.out)) : gb109 ≠ gb102)); have n9_ := Aside0.mk ((by rw [hg]; exact Nat.ne_of_lt (blk_lt (g := gb103) (o := .cells #[.bool a2_0, .slice A2_1 l2_1.length c2_1] 34 (0, 0)) (by (with_reducible repeat (first | refine blk_drewN ?_ _ | refine blk_drew ?_ | refine blk_alloc ?_ _)); exact BK103.out)) : gb103 ≠ gb109)); have n10_ := Aside0.mk ((by rw [hg]; exact Nat.ne_of_gt (blk_lt (g := gb103) (o := .cells #[.bool a2_0, .slice A2_1 l2_1.length c2_1] 34 (0, 0)) (by (with_reducible repeat (first | refine blk_drewN ?_ _ | refine blk_drew ?_ | refine blk_alloc ?_ _)); exact BK103.out)) : gb109 ≠ gb103)); clear HO107; clear BK102; clear BK103; clear HB; have HO107 := n0_; have BK102 := n1_; have BK103 := n2_; have HB := n3_; have BK109 := n4_; have GW109 := n5_; have GE109 := n6_; have NB102_109 := n7_; have NB109_102 := n8_; have NB103_109 := n9_; have NB109_103 := n10_; clear n0_ n1_ n2_ n3_ n4_ n5_ n6_ n7_ n8_ n9_ n10_; clear hb hbox hg; have hnb13 := NB109_102.out; have hnc13 := NB102_109.out; have hnb14 := NB109_103.out; have hnc14 := NB103_109.out; have hcz15_0 : w12.cell? ⟨gb109, 0, none⟩ = some (.bool false) := (blk_cell BK109.out 0).trans rfl; have hcz15_1 : w12.cell? ⟨gb109, 1, none⟩ = some (.slice none 0 0) := (blk_cell BK109.out 1).trans rfl; have hfz15_0 := blk_frozen BK109.out 0; have hfz15_1 := blk_frozen BK109.out 1; obtain ⟨Ao16, co16, eo16⟩ := Kd.R_slice HO107.out; subst eo16; have hcz17_0 : w12.cell? ⟨gb102, 0, none⟩ = some (.bool a0_0) := (blk_cell BK102.out 0).trans rfl; have hcz17_1 : w12.cell? ⟨gb102, 1, none⟩ = some (.slice A0_1 l0_1.length c0_1) := (blk_cell BK102.out 1).trans rfl; have hfz17_0 := blk_frozen BK102.out 0; have hfz17_1 := blk_frozen BK102.out 1) | (go_at_call 17; (with_reducible refine (moraineref02_Same.calls a0_0 _ _ l0_1 t104 _ _ t105 t110 _ ?side1 ?side2 ?side3 ?side4 A6.out).mono ?_); (case side1 => exact Kd.C_below HR0_1.out (by repeat (first | (with_reducible first | exact HB.out | apply below_alloc | apply pw_below_drewN | apply below_drew1 | refine below_set ?_ GE102.out | refine below_set ?_ GE103.out | refine below_set ?_ GE109.out) | exact HB.out))); (case side2 => exact HC0_1.out); (case side3 => refine (Kd.R_reads' (e := 63) (base := w.heap.size) (ok := fun k_ => True) (n := t105.length) (c := co16) ?_).2.2; exact (by (with_reducible repeat (first | apply Kd.R_alloc | apply Kd.R_drewN | apply Kd.R_drew)); exact (Kd.R_mono (Kd.R_far (p := ⟨gb109, 1, none⟩) (Kd.R_far (p := ⟨gb109, 0, none⟩) (Kd.R_types HO107.out BK109.out (by decide)) (fun _ hk => hk.2) (.bool t104)) (fun _ hk => hk.2) (.slice Ao16 t105.length co16)) (fun _ h_ => h_.1)))); (case side4 => exact (Kd.R_reads' HO107.out).2.1); rintro e w18 ⟨rfl, hb⟩; have n0_ := Aside0.mk (Kd.R_below (by (with_reducible repeat (first | apply Kd.R_alloc | apply Kd.R_drewN | apply Kd.R_drew)); exact (Kd.R_mono (Kd.R_far (p := ⟨gb109, 1, none⟩) (Kd.R_far (p := ⟨gb109, 0, none⟩) (Kd.R_types HO107.out BK109.out (by decide)) (fun _ hk => hk.2) (.bool t104)) (fun _ hk => hk.2) (.slice Ao16 t105.length co16)) (fun _ h_ => h_.1))) hb); have n1_ := Aside0.mk (blk_below (g := gb102) (o := .cells #[.bool a0_0, .slice A0_1 l0_1.length c0_1] 25 (0, 0)) (by (with_reducible repeat (first | refine blk_drewN ?_ _ | refine blk_drew ?_ | refine blk_alloc ?_ _)); refine blk_far ?_ NB102_109.out _; (with_reducible repeat (first | refine blk_drewN ?_ _ | refine blk_drew ?_ | refine blk_alloc ?_ _)); refine blk_far ?_ NB102_109.out _; (with_reducible repeat (first | refine blk_drewN ?_ _ | refine blk_drew ?_ | refine blk_alloc ?_ _)); exact BK102.out) hb); have n2_ := Aside0.mk (blk_below (g := gb103) (o := .cells #[.bool a2_0, .slice A2_1 l2_1.length c2_1] 34 (0, 0)) (by (with_reducible repeat (first | refine blk_drewN ?_ _ | refine blk_drew ?_ | refine blk_alloc ?_ _)); refine blk_far ?_ NB103_109.out _; (with_reducible repeat (first | refine blk_drewN ?_ _ | refine blk_drew ?_ | refine blk_alloc ?_ _)); refine blk_far ?_ NB103_109.out _; (with_reducible repeat (first | refine blk_drewN ?_ _ | refine blk_drew ?_ | refine blk_alloc ?_ _)); exact BK103.out) hb); have n3_ := Aside0.mk (blk_below (g := gb109) (o := .cells #[.bool t104, .slice Ao16 t105.length co16] 25 (0, 0)) (by (with_reducible repeat (first | refine blk_drewN ?_ _ | refine blk_drew ?_ | refine blk_alloc ?_ _)); refine blk_put (cs := #[.bool t104, .slice none 0 0]) ?_ 1 _ rfl; (with_reducible repeat (first | refine blk_drewN ?_ _ | refine blk_drew ?_ | refine blk_alloc ?_ _)); refine blk_put (cs := #[.bool false, .slice none 0 0]) ?_ 0 _ rfl; (with_reducible repeat (first | refine blk_drewN ?_ _ | refine blk_drew ?_ | refine blk_alloc ?_ _)); exact BK109.out) hb); have n4_ := Aside0.mk (below_step (by repeat (first | (with_reducible first | exact HB.out | apply below_alloc | apply pw_below_drewN | apply below_drew1 | refine below_set ?_ GE102.out | refine below_set ?_ GE103.out | refine below_set ?_ GE109.out) | exact HB.out)) hb); clear HO107; clear BK102; clear BK103; clear BK109; clear HB; have HO107 := n0_; have BK102 := n1_; have BK103 := n2_; have BK109 := n3_; have HB := n4_; clear n0_ n1_ n2_ n3_ n4_; (try clear hb); (try clear hb2); (try clear hk); (try clear hi)))
    go_ret
    exact ⟨by first | rfl | (simp [errW_none, errW_some] <;> rfl) | (simp [*, errW_none, errW_some] <;> rfl), by repeat (first | (with_reducible first | exact HB.out | apply below_alloc | apply pw_below_drewN | apply below_drew1 | refine below_set ?_ GE102.out | refine below_set ?_ GE103.out | refine below_set ?_ GE109.out) | exact HB.out)⟩
  · rw [if_neg c5] at H
    have c5b0 : (a1 == t108) = false := beq_eq_false_iff_ne.mpr c5
    have c5b1 : (a1 != t108) = true := bne_iff_ne.mpr c5
    obtain rfl := Option.some.inj H
    go_enter Tryd.func27, Tryd.ntmps27
    go_wp2_with (first | ((with_reducible refine gate_dst (N := 3) rfl ?_); refine box_event ?hg (N := 3) ?hd (cs := #[.bool a0_0, .slice A0_1 l0_1.length c0_1]) (t := 25) ?hr ?_; (case hd => rfl); (case hg => rfl); (case hr => first | (go_simp; done) | (go_simp; rfl)); intro gb102 hg w19 hbox hb; have n0_ := Aside0.mk (below_step (by repeat (first | (with_reducible first | exact HB.out | apply below_alloc | apply pw_below_drewN | apply below_drew1) | exact HB.out)) hb); have n1_ := Aside0.mk (hbox); have n2_ := Aside0.mk ((by rw [hg]; exact (below_size (by repeat (first | (with_reducible first | exact HB.out | apply below_alloc | apply pw_below_drewN | apply below_drew1) | exact HB.out))) : w.heap.size ≤ gb102)); have n3_ := Aside0.mk ((by rw [hg]; exact (below_size (by repeat (first | (with_reducible first | exact HB.out | apply below_alloc | apply pw_below_drewN | apply below_drew1) | exact HB.out))) : w.heap.size ≤ gb102)); clear HB; have HB := n0_; have BK102 := n1_; have GW102 := n2_; have GE102 := n3_; clear n0_ n1_ n2_ n3_; clear hb hbox hg) | ((with_reducible refine gate_dst (N := 5) rfl ?_); refine box_event ?hg (N := 5) ?hd (cs := #[.bool a2_0, .slice A2_1 l2_1.length c2_1]) (t := 34) ?hr ?_; (case hd => rfl); (case hg => rfl); (case hr => first | (go_simp; done) | (go_simp; rfl)); intro gb103 hg w20 hbox hb; have n0_ := Aside0.mk (blk_below (g := gb102) (o := .cells #[.bool a0_0, .slice A0_1 l0_1.length c0_1] 25 (0, 0)) (by (with_reducible repeat (first | refine blk_drewN ?_ _ | refine blk_drew ?_ | refine blk_alloc ?_ _)); exact BK102.out) hb); have n1_ := Aside0.mk (below_step (by repeat (first | (with_reducible first | exact HB.out | apply below_alloc | apply pw_below_drewN | apply below_drew1 | refine below_set ?_ GE102.out) | exact HB.out)) hb); have n2_ := Aside0.mk (hbox); have n3_ := Aside0.mk ((by rw [hg]; exact (below_size (by repeat (first | (with_reducible first | exact HB.out | apply below_alloc | apply pw_below_drewN | apply below_drew1 | refine below_set ?_ GE102.out) | exact HB.out))) : w.heap.size ≤ gb103)); have n4_ := Aside0.mk ((by rw [hg]; exact (below_size (by repeat (first | (with_reducible first | exact HB.out | apply below_alloc | apply pw_below_drewN | apply below_drew1 | refine below_set ?_ GE102.out) | exact HB.out))) : w.heap.size ≤ gb103)); have n5_ := Aside0.mk ((by rw [hg]; exact Nat.ne_of_lt (blk_lt (g := gb102) (o := .cells #[.bool a0_0, .slice A0_1 l0_1.length c0_1] 25 (0, 0)) (by (with_reducible repeat (first | refine blk_drewN ?_ _ | refine blk_drew ?_ | refine blk_alloc ?_ _)); exact BK102.out)) : gb102 ≠ gb103)); have n6_ := Aside0.mk ((by rw [hg]; exact Nat.ne_of_gt (blk_lt (g := gb102) (o := .cells #[.bool a0_0, .slice A0_1 l0_1.length c0_1] 25 (0, 0)) (by (with_reducible repeat (first | refine blk_drewN ?_ _ | refine blk_drew ?_ | refine blk_alloc ?_ _)); exact BK102.out)) : gb103 ≠ gb102)); clear BK102; clear HB; have BK102 := n0_; have HB := n1_; have BK103 := n2_; have GW103 := n3_; have GE103 := n4_; have NB102_103 := n5_; have NB103_102 := n6_; clear n0_ n1_ n2_ n3_ n4_ n5_ n6_; clear hb hbox hg; have hnb21 := NB103_102.out; have hnc21 := NB102_103.out; have hcz22_0 : w20.cell? ⟨gb103, 0, none⟩ = some (.bool a2_0) := (blk_cell BK103.out 0).trans rfl; have hcz22_1 : w20.cell? ⟨gb103, 1, none⟩ = some (.slice A2_1 l2_1.length c2_1) := (blk_cell BK103.out 1).trans rfl; have hfz22_0 := blk_frozen BK103.out 0; have hfz22_1 := blk_frozen BK103.out 1) | ((with_reducible refine gate_callee (f := 52) rfl ?_); refine goesL_ (some 11) rfl rfl Tryd.func52 (by kernel_rfl) rfl #[.agg #[.bool a2_0, .slice A2_1 l2_1.length c2_1]] rfl (by (try simp only [List.map_toArray, List.map_cons, List.map_nil]); first | done | rfl | (simp only [List.length_drop, List.length_take]; rfl)) ?_; (with_reducible refine (moraineref02_Num.calls a2_0 _ _ l2_1 t104 t105 t108 _ ?side1 ?side2 A4.out).mono ?_); (case side1 => repeat (first | exact (Kd.C_below HR2_1.out HB.out) | (with_reducible refine Kd.C_alloc ?_ _) | (with_reducible refine Kd.C_drewN ?_ _) | (with_reducible refine Kd.C_drew ?_))); (case side2 => exact HC2_1.out); rintro e w23 ⟨v106, rfl, ho0, hb⟩; refine ⟨_, rfl, ?_⟩; have n0_ := Aside0.mk (Kd.R_lower ho0 (below_size (by repeat (first | (with_reducible first | exact HB.out | apply below_alloc | apply pw_below_drewN | apply below_drew1 | refine below_set ?_ GE102.out | refine below_set ?_ GE103.out) | exact HB.out)))); have n1_ := Aside0.mk (blk_below (g := gb102) (o := .cells #[.bool a0_0, .slice A0_1 l0_1.length c0_1] 25 (0, 0)) (by (with_reducible repeat (first | refine blk_drewN ?_ _ | refine blk_drew ?_ | refine blk_alloc ?_ _)); exact BK102.out) hb); have n2_ := Aside0.mk (blk_below (g := gb103) (o := .cells #[.bool a2_0, .slice A2_1 l2_1.length c2_1] 34 (0, 0)) (by (with_reducible repeat (first | refine blk_drewN ?_ _ | refine blk_drew ?_ | refine blk_alloc ?_ _)); exact BK103.out) hb); have n3_ := Aside0.mk (below_step (by repeat (first | (with_reducible first | exact HB.out | apply below_alloc | apply pw_below_drewN | apply below_drew1 | refine below_set ?_ GE102.out | refine below_set ?_ GE103.out) | exact HB.out)) hb); clear BK102; clear BK103; clear HB; have HO107 := n0_; have BK102 := n1_; have BK103 := n2_; have HB := n3_; clear n0_ n1_ n2_ n3_; (try clear hb); (try clear hb2); (try clear hk); (try clear hi); (try clear ho0)) | ((with_reducible refine gate_dst (N := 7) rfl ?_); refine box_event ?hg (N := 7) ?hd (cs := #[.bool false, .slice none 0 0]) (t := 25) ?hr ?_; (case hd => rfl); (case hg => rfl); (case hr => first | (go_simp; done) | (go_simp; rfl)); intro gb109 hg w24 hbox hb; have n0_ := Aside0.mk (Kd.R_below (by (with_reducible repeat (first | apply Kd.R_alloc | apply Kd.R_drewN | apply Kd.R_drew)); exact HO107.out) hb); have n1_ := Aside0.mk (blk_below (g := gb102) (o := .cells #[.bool a0_0, .slice A0_1 l0_1.length c0_1] 25 (0, 0)) (by (with_reducible repeat (first | refine blk_drewN ?_ _ | refine blk_drew ?_ | refine blk_alloc ?_ _)); exact BK102.out) hb); have n2_ := Aside0.mk (blk_below (g := gb103) (o := .cells #[.bool a2_0, .slice A2_1 l2_1.length c2_1] 34 (0, 0)) (by (with_reducible repeat (first | refine blk_drewN ?_ _ | refine blk_drew ?_ | refine blk_alloc ?_ _)); exact BK103.out) hb); have n3_ := Aside0.mk (below_step (by repeat (first | (with_reducible first | exact HB.out | apply below_alloc | apply pw_below_drewN | apply below_drew1 | refine below_set ?_ GE102.out | refine below_set ?_ GE103.out) | exact HB.out)) hb); have n4_ := Aside0.mk (hbox); have n5_ := Aside0.mk ((by rw [hg]; exact (below_size (by repeat (first | (with_reducible first | exact HB.out | apply below_alloc | apply pw_below_drewN | apply below_drew1 | refine below_set ?_ GE102.out | refine below_set ?_ GE103.out) | exact HB.out))) : w.heap.size ≤ gb109)); have n6_ := Aside0.mk ((by rw [hg]; exact (below_size (by repeat (first | (with_reducible first | exact HB.out | apply below_alloc | apply pw_below_drewN | apply below_drew1 | refine below_set ?_ GE102.out | refine below_set ?_ GE103.out) | exact HB.out))) : w.heap.size ≤ gb109)); have n7_ := Aside0.mk ((by rw [hg]; exact Nat.ne_of_lt (blk_lt (g := gb102) (o := .cells #[.bool a0_0, .slice A0_1 l0_1.length c0_1] 25 (0, 0)) (by (with_reducible repeat (first | refine blk_drewN ?_ _ | refine blk_drew ?_ | refine blk_alloc ?_ _)); exact BK102.out)) : gb102 ≠ gb109)); have n8_ := Aside0.mk ((by rw [hg]; exact Nat.ne_of_gt (blk_lt (g := gb102) (o := .cells #[.bool a0_0, .slice A0_1 l0_1.length c0_1] 25 (0, 0)) (by (with_reducible repeat (first | refine blk_drewN ?_ _ | refine blk_drew ?_ | refine blk_alloc ?_ _)); exact BK102.out)) : gb109 ≠ gb102)); have n9_ := Aside0.mk ((by rw [hg]; exact Nat.ne_of_lt (blk_lt (g := gb103) (o := .cells #[.bool a2_0, .slice A2_1 l2_1.length c2_1] 34 (0, 0)) (by (with_reducible repeat (first | refine blk_drewN ?_ _ | refine blk_drew ?_ | refine blk_alloc ?_ _)); exact BK103.out)) : gb103 ≠ gb109)); have n10_ := Aside0.mk ((by rw [hg]; exact Nat.ne_of_gt (blk_lt (g := gb103) (o := .cells #[.bool a2_0, .slice A2_1 l2_1.length c2_1] 34 (0, 0)) (by (with_reducible repeat (first | refine blk_drewN ?_ _ | refine blk_drew ?_ | refine blk_alloc ?_ _)); exact BK103.out)) : gb109 ≠ gb103)); clear HO107; clear BK102; clear BK103; clear HB; have HO107 := n0_; have BK102 := n1_; have BK103 := n2_; have HB := n3_; have BK109 := n4_; have GW109 := n5_; have GE109 := n6_; have NB102_109 := n7_; have NB109_102 := n8_; have NB103_109 := n9_; have NB109_103 := n10_; clear n0_ n1_ n2_ n3_ n4_ n5_ n6_ n7_ n8_ n9_ n10_; clear hb hbox hg; have hnb25 := NB109_102.out; have hnc25 := NB102_109.out; have hnb26 := NB109_103.out; have hnc26 := NB103_109.out; have hcz27_0 : w24.cell? ⟨gb109, 0, none⟩ = some (.bool false) := (blk_cell BK109.out 0).trans rfl; have hcz27_1 : w24.cell? ⟨gb109, 1, none⟩ = some (.slice none 0 0) := (blk_cell BK109.out 1).trans rfl; have hfz27_0 := blk_frozen BK109.out 0; have hfz27_1 := blk_frozen BK109.out 1; obtain ⟨Ao28, co28, eo28⟩ := Kd.R_slice HO107.out; subst eo28))
    go_ret
    exact ⟨by first | rfl | (simp [errW_none, errW_some] <;> rfl) | (simp [*, errW_none, errW_some] <;> rfl), by repeat (first | (with_reducible first | exact HB.out | apply below_alloc | apply pw_below_drewN | apply below_drew1 | refine below_set ?_ GE102.out | refine below_set ?_ GE103.out | refine below_set ?_ GE109.out) | exact HB.out)⟩
-- given
def morainelaw02_spoil.l0 : Nat → Int → Bool → List Int → Option (List Int)
  | 0, _, _, _ => none
  | k + 1, x2, x112000, x112001 => if x2 < (x112001.length : Int) then (if 0 ≤ x2 then (morainelaw02_spoil.l0 k (wrap64 (x2 + 1)) x112000 (x112001.set (x2 : Int).toNat (((rd x112001 x2) + 1) % 4294967296))) else (none)) else (some x112001)
def morainelaw02_spoil.f (k : Nat) (a0_0 : Bool) (l0_1 : List Int) : Option (List Int) := morainelaw02_spoil.l0 k 0 a0_0 l0_1
set_option maxHeartbeats 8000000 in
set_option maxRecDepth 100000 in
theorem morainelaw02_spoil.calls (k : Nat) (a0_0 : Bool) (P0_1_ : Nat → Prop) (u9000_ : Value) (l0_1 : List Int) (r : List Int) (w0 w : World) (hB : Below w0.heap.size w0 w) (ho0_1 : Kd.R (Kd.int .u32) 63 w w0.heap.size P0_1_ u9000_ l0_1) (h : morainelaw02_spoil.f k a0_0 l0_1 = some r) :
    Calls Tryd.prog 33 #[.agg #[.bool a0_0, u9000_]] w fun e w' => e = .returned (.tuple #[]) ∧ Kd.R (Kd.int .u32) 63 w' w0.heap.size (fun k_ => (P0_1_ k_ ∨ w.heap.size ≤ k_)) u9000_ r ∧ Below w0.heap.size w0 w' ∧ Kept w w' (fun k_ => P0_1_ k_) := by
  have hu25 := Tryd.underlying25
  have HO0_1 := Aside0.mk (show Kd.R (Kd.int .u32) 63 w w0.heap.size (fun k_ => (P0_1_ k_ ∨ w.heap.size ≤ k_)) u9000_ l0_1 from Kd.R_mono ho0_1 (fun k_ hk => (.inl hk)))
  have HK := Aside0.mk (Kept.refl w (fun k_ => P0_1_ k_))
  have HW0 := Aside0.mk hB.size
  have HB := Aside0.mk hB
  clear hB
  have H : (morainelaw02_spoil.l0 k 0 a0_0 l0_1) = some r := h
  clear h
  have H' := Aside0.mk H
  clear H
  obtain ⟨Ao2, co2, eo2⟩ := Kd.R_slice HO0_1.out
  subst eo2
  go_enter Tryd.func33, Tryd.ntmps33
  go_wp2_with (first | ((with_reducible refine gate_dst (N := 1) rfl ?_); refine box_event ?hg (N := 1) ?hd (cs := #[.bool a0_0, .slice Ao2 l0_1.length co2]) (t := 25) ?hr ?_; (case hd => rfl); (case hg => rfl); (case hr => first | (go_simp; done) | (go_simp; rfl)); intro gb111 hg w3 hbox hb; have n0_ := Aside0.mk (Kd.R_below (by (with_reducible repeat (first | apply Kd.R_alloc | apply Kd.R_drewN | apply Kd.R_drew)); exact HO0_1.out) hb); have n1_ := Aside0.mk (Kept.below (S := (fun k_ => P0_1_ k_)) (by repeat (first | (with_reducible first | exact HK.out | apply Kept.alloc | apply Kept.drewN | apply Kept.drew) | exact HK.out)) hb); have n2_ := Aside0.mk (below_step (by repeat (first | (with_reducible first | exact HB.out | apply below_alloc | apply pw_below_drewN | apply below_drew1) | exact HB.out)) hb); have n3_ := Aside0.mk (hbox); have n4_ := Aside0.mk ((by rw [hg]; exact (by first | exact HK.out.1 | exact (show Kept w _ (fun k_ => P0_1_ k_) from by repeat (first | (with_reducible first | exact HK.out | apply Kept.alloc | apply Kept.drewN | apply Kept.drew) | exact HK.out)).1) : w.heap.size ≤ gb111)); have n5_ := Aside0.mk ((by rw [hg]; exact (below_size (by repeat (first | (with_reducible first | exact HB.out | apply below_alloc | apply pw_below_drewN | apply below_drew1) | exact HB.out))) : w0.heap.size ≤ gb111)); clear HO0_1; clear HK; clear HB; have HO0_1 := n0_; have HK := n1_; have HB := n2_; have BK111 := n3_; have GW111 := n4_; have GE111 := n5_; clear n0_ n1_ n2_ n3_ n4_ n5_; clear hb hbox hg))
  go_loopg [2] k (fun kq v2 w' => ∃ (x2_1 : Int) (x112001_1 : List Int), v2 = .int .i64 x2_1 ∧ Aside0 (morainelaw02_spoil.l0 kq x2_1 a0_0 x112001_1 = some r) ∧ Aside0 (kq ≤ k) ∧ Aside0 (Kd.R (Kd.int .u32) 63 w' w0.heap.size (fun k_ => (P0_1_ k_ ∨ w.heap.size ≤ k_)) (.slice Ao2 l0_1.length co2) x112001_1) ∧ Aside0 (w'.heap[gb111]? = some (.cells #[.bool a0_0, (.slice Ao2 l0_1.length co2)] 25 (0, 0))) ∧ Aside0 (Kept w w' (fun k_ => P0_1_ k_)) ∧ Aside0 (Below w0.heap.size w0 w'))
  case atStart => exact ⟨(0), (l0_1), (by first | rfl | (simp; done) | (simp [*]; done)), H', ⟨Nat.le_refl _⟩, ⟨by (with_reducible repeat (first | apply Kd.R_alloc | apply Kd.R_drewN | apply Kd.R_drew)); exact HO0_1.out⟩, ⟨by (with_reducible repeat (first | refine blk_drewN ?_ _ | refine blk_drew ?_ | refine blk_alloc ?_ _)); exact BK111.out⟩, ⟨by repeat (first | (with_reducible first | exact HK.out | apply Kept.alloc | apply Kept.drewN | apply Kept.drew | refine Kept.setCell ?_ (.inr GW111.out) _) | exact HK.out)⟩, ⟨by repeat (first | (with_reducible first | exact HB.out | apply below_alloc | apply pw_below_drewN | apply below_drew1 | refine below_set ?_ GE111.out) | exact HB.out)⟩⟩
  case round =>
    clear H'
    try clear p2
    try clear c3
    obtain ⟨x2_1, x112001_1, rfl, HA, HK1, HO_112001, BK111, HK, HB⟩ := hrel
    have hl112001_1 := (Kd.R_reads' HO_112001.out).1
    rw [hl112001_1] at HO_112001
    (try simp only [hl112001_1])
    (try simp only [hl112001_1] at BK111)
    cases gk with
    | zero => exact absurd HA.out (by simp [morainelaw02_spoil.l0])
    | succ k1 =>
      have H := HA.out
      clear HA
      simp only [morainelaw02_spoil.l0] at H
      by_cases c4 : x2_1 < (x112001_1.length : Int)
      · rw [if_pos c4] at H
        have c4b0 : decide (x2_1 < (x112001_1.length : Int)) = true := decide_eq_true c4
        clear c4
        by_cases c5 : 0 ≤ x2_1
        · rw [if_pos c5] at H
          have c5b0 : decide (0 ≤ x2_1) = true := decide_eq_true c5
          clear c5
          obtain ⟨y113, hy113⟩ : ∃ y_ : List Int, y_ = (x112001_1.set (x2_1 : Int).toNat (((rd x112001_1 x2_1) + 1) % 4294967296)) := ⟨_, rfl⟩
          replace H : (morainelaw02_spoil.l0 k1 (wrap64 (x2_1 + 1)) a0_0 y113) = some r := by first | (rw [hy113]; with_reducible exact H) | (have H2_ := (Option.bind_some _ _).symm.trans H; rw [hy113]; with_reducible exact H2_) | (have H2_ := (Option.bind_some _ _).symm.trans H; with_reducible exact H2_) | with_reducible exact H | (rw [hy113]; exact H) | exact H
          have Ny113 := Aside0.mk hy113
          clear hy113
          have H' := Aside0.mk H
          clear H
          have hcz7_0 : wr.cell? ⟨gb111, 0, none⟩ = some (.bool a0_0) := (blk_cell BK111.out 0).trans rfl
          have hcz7_1 : wr.cell? ⟨gb111, 1, none⟩ = some (.slice Ao2 x112001_1.length co2) := (blk_cell BK111.out 1).trans rfl
          have hfz7_0 := blk_frozen BK111.out 0
          have hfz7_1 := blk_frozen BK111.out 1
          have p112 : 0 ≤ (x2_1 : Int) := of_decide_eq_true (by first | (with_reducible assumption) | assumption)
          have q112 : x2_1 < (x112001_1.length : Int) := of_decide_eq_true (by first | (with_reducible assumption) | assumption)
          obtain ⟨ad112, e112, hx112_0⟩ := Kd.at_int (Kd.R_reads' HO_112001.out).2.2 x2_1 p112 q112
          cases e112
          replace p112 := eq_true p112
          replace q112 := eq_true q112
          have p6 : 0 ≤ (x2_1 : Int) := of_decide_eq_true (by first | (with_reducible assumption) | assumption)
          have q6 : (x2_1 : Int) < ((x112001_1.length : Int) : Int) := of_decide_eq_true (by first | (with_reducible assumption) | assumption)
          obtain ⟨go6, co6, eo6, gb6, gl6, cl6, HG6⟩ := Kd.R_form HO_112001.out (by omega)
          (first | cases eo6 | (injection eo6 with ea_ en_ ec_; (first | subst ea_ | (injection ea_ with ea_; subst ea_)); subst ec_; clear en_))
          have GB6 := Aside0.mk gb6
          have GG6 := Aside0.mk HG6
          clear gb6 gl6 HG6
          have HMgo6 := Aside0.mk (show (P0_1_ go6 ∨ w.heap.size ≤ go6) from (HO_112001.out.1 _ rfl))
          (first | simp only [add_plain] at hx112_0 | skip)
          obtain ⟨hx6_0, hf6_0⟩ := Kd.R_celln 0 HO_112001.out (x2_1 : Int) p6 q6
          replace p6 := eq_true p6
          replace q6 := eq_true q6
          have HP8 := Kd.R_putg HO_112001.out (x2_1 : Int) (((rd x112001_1 x2_1) + 1) % 4294967296)
          go_wp2_with (first | ((with_reducible refine gate_store (t := 63) (p := 16) rfl ?_); refine store_event (t := 63) (p := 16) (v := ?vo_w9) (w1 := (wr.setCell ⟨go6, (x2_1 : Int).toNat, none⟩ (.int .u32 (((rd x112001_1 x2_1) + 1) % 4294967296)))) ?hg ?ho ?hn ?hr ?_; (case ho => rfl); (case hg => rfl); (case hn => rfl); (case hr => first | (go_simp; done) | (go_simp; rfl)); intro w9 hw; have hg : wr.grownBy w9 (some go6) := (by rw [hw]; exact HP8.2); have hp_ : Kd.R (Kd.int .u32) 63 w9 w0.heap.size (fun k_ => (P0_1_ k_ ∨ w.heap.size ≤ k_)) (.slice (some ⟨go6, 0, none⟩) x112001_1.length co2) y113 := (by rw [hw, Ny113.out]; exact HP8.1); clear HP8; have n0_ := Aside0.mk (hp_); have n1_ := Aside0.mk (blk_grown (g := gb111) (o := .cells #[.bool a0_0, .slice (some ⟨go6, 0, none⟩) x112001_1.length co2] 25 (0, 0)) (by (with_reducible repeat (first | refine blk_drewN ?_ _ | refine blk_drew ?_ | refine blk_alloc ?_ _)); exact BK111.out) hg (Kd.R_ne HO_112001.out BK111.out (by decide))); have n2_ := Aside0.mk ((by rw [hw]; exact below_set (HB.out) GB6.out : Below w0.heap.size w0 w9)); have n3_ := Aside0.mk (Kept.of_grown (S := (fun k_ => P0_1_ k_)) hg (by repeat (first | (with_reducible first | exact HK.out | apply Kept.alloc | apply Kept.drewN | apply Kept.drew | refine Kept.setCell ?_ (.inr GW111.out) _) | exact HK.out)) (fun k_ e_ => (HO_112001.out.1 k_ e_))); clear HO_112001; clear BK111; clear HB; clear HK; have HO_112001 := n0_; have BK111 := n1_; have HB := n2_; have HK := n3_; clear n0_ n1_ n2_ n3_; clear hg hw hp_))
          (try simp only [← hl112001_1])
          go_roundg k1
          case measure => have := HK1.out; omega
          case rel => exact ⟨(wrap64 (x2_1 + 1)), (y113), (by first | rfl | (simp; done) | (simp [*]; done)), H', ⟨by have := HK1.out; omega⟩, ⟨by (try simp only [hl112001_1]); (with_reducible repeat (first | apply Kd.R_alloc | apply Kd.R_drewN | apply Kd.R_drew)); exact HO_112001.out⟩, ⟨by (try simp only [hl112001_1]); (with_reducible repeat (first | refine blk_drewN ?_ _ | refine blk_drew ?_ | refine blk_alloc ?_ _)); exact BK111.out⟩, ⟨by repeat (first | (with_reducible first | exact HK.out | apply Kept.alloc | apply Kept.drewN | apply Kept.drew | refine Kept.setCell ?_ (.inr GW111.out) _) | exact HK.out)⟩, ⟨by repeat (first | (with_reducible first | exact HB.out | apply below_alloc | apply pw_below_drewN | apply below_drew1 | refine below_set ?_ GE111.out) | exact HB.out)⟩⟩
        · rw [if_neg c5] at H
          exact absurd H (by simp)
      · rw [if_neg c4] at H
        have c4b0 : decide (x2_1 < (x112001_1.length : Int)) = false := decide_eq_false c4
        clear c4
        obtain rfl := Option.some.inj H
        have hcz10_0 : wr.cell? ⟨gb111, 0, none⟩ = some (.bool a0_0) := (blk_cell BK111.out 0).trans rfl
        have hcz10_1 : wr.cell? ⟨gb111, 1, none⟩ = some (.slice Ao2 x112001_1.length co2) := (blk_cell BK111.out 1).trans rfl
        have hfz10_0 := blk_frozen BK111.out 0
        have hfz10_1 := blk_frozen BK111.out 1
        go_wp2
        first | go_end0 | ((try simp only [Exit.inBlock, Exit.then]); refine bodyPost_ret (results_none rfl _ _ _) rfl ?_)
        exact ⟨by first | rfl | (simp [errW_none, errW_some] <;> rfl) | (simp [*, errW_none, errW_some] <;> rfl), (by first | exact (by (with_reducible repeat (first | apply Kd.R_alloc | apply Kd.R_drewN | apply Kd.R_drew)); exact HO_112001.out) | (simp only [hl112001_1]; exact (by (with_reducible repeat (first | apply Kd.R_alloc | apply Kd.R_drewN | apply Kd.R_drew)); exact HO_112001.out))), by repeat (first | (with_reducible first | exact HB.out | apply below_alloc | apply pw_below_drewN | apply below_drew1 | refine below_set ?_ GE111.out) | exact HB.out), by repeat (first | (with_reducible first | exact HK.out | apply Kept.alloc | apply Kept.drewN | apply Kept.drew | refine Kept.setCell ?_ (.inr GW111.out) _) | exact HK.out)⟩
-- given
-- given
mutual
def morainelaw02_NumGcds.l0 : Nat → List (S25) → List (S25) → List (S34) → Int → Option (Bool)
  | 0, _, _, _, _ => none
  | k + 1, x0, x3, x4, x5 => if x5 < (x0.length : Int) then (if 0 ≤ x5 then ((morainelaw02_long.f ((rd_T25 x0 x5).f0) ((rd_T25 x0 x5).f1)).bind fun t116 => (if t116 = true then ((morainelaw02_awake.f).bind fun t117 => (some t117)) else ((moraineref02_Copy.f ((rd_T25 x0 x5).f0) ((rd_T25 x0 x5).f1)).bind fun bt119 => (if x3.length < 4398046511104 then ((moraineref02_Value.f ((rd_T25 x0 x5).f0) ((rd_T25 x0 x5).f1)).bind fun bt127 => (if x4.length < 4398046511104 then (morainelaw02_NumGcds.l0 k x0 (x3 ++ [(⟨bt119.1, bt119.2⟩ : S25)]) (x4 ++ [(⟨bt127.1, bt127.2⟩ : S34)]) (wrap64 (x5 + 1))) else (none))) else (none))))) else (none)) else ((num_Gcd.f x0).bind fun bt134 => ((moraineref02_Gcd.f x4).bind fun bt140 => ((morainelaw02_is.f bt134.1 bt134.2.1 bt134.2.2 bt140.1 bt140.2).bind fun t144 => (if t144 = true then ((morainelaw02_spoil.f k bt134.1 bt134.2.1).bind fun t145 => (morainelaw02_NumGcds.l1 k x0 x3 0)) else (some false)))))
def morainelaw02_NumGcds.l1 : Nat → List (S25) → List (S25) → Int → Option (Bool)
  | 0, _, _, _ => none
  | k + 1, x0, x3, x8 => if x8 < (x0.length : Int) then (if 0 ≤ x8 then (if x8 < (x3.length : Int) then ((moraineref02_Same.f ((rd_T25 x0 x8).f0) ((rd_T25 x0 x8).f1) ((rd_T25 x3 x8).f0) ((rd_T25 x3 x8).f1)).bind fun t148 => (if t148 = true then (morainelaw02_NumGcds.l1 k x0 x3 (wrap64 (x8 + 1))) else (some false))) else (none)) else (none)) else ((morainelaw02_awake.f).bind fun t149 => (some t149))
end
def morainelaw02_NumGcds.f (k : Nat) (l0 : List (S25)) : Option (Bool) := if (l0.length : Int) > 8 then ((morainelaw02_awake.f).bind fun t114 => (some t114)) else (morainelaw02_NumGcds.l0 k l0 ([] : List (S25)) ([] : List (S34)) 0)
def morainelaw02_NumGcds.T19 : Bool × List (List Nat × List Nat) := (true, [([], []), ([], []), ([0, 1], [0, 1]), ([2], [2]), ([], []), ([], []), ([4, 5], [4, 5]), ([6], [6]), ([3, 7], [3, 7]), ([8], [8])])
def morainelaw02_NumGcds.B19 : List Nat := [0, 0, 3, 7, 0, 0, 48, 112, 255, 511]
theorem morainelaw02_NumGcds.tab19 : rtab .any (opsOf Tryd.f7 19) = morainelaw02_NumGcds.T19 := by kernel_rfl
theorem morainelaw02_NumGcds.bits19 : waitsOk morainelaw02_NumGcds.T19.2 morainelaw02_NumGcds.B19 = true := by kernel_rfl
set_option maxHeartbeats 8000000 in
set_option maxRecDepth 100000 in
theorem morainelaw02_NumGcds.calls (k : Nat) (A0 : Option Addr) (c0 : Nat) (l0 : List (S25)) (r : Bool) (w : World) (hr : r = true) (hr0 : Kd.C k25 w A0 l0.length l0) (hc0 : l0.length ≤ c0) (h : morainelaw02_NumGcds.f k l0 = some r) (ht : NumV.Tab w) :
    Calls Tryd.prog 7 #[.slice A0 l0.length c0] w fun e w' => e = .returned (.bool r) ∧ Below w.heap.size w w' := by
  have HT := Aside0.mk ht
  clear ht
  have hu25 := Tryd.underlying25
  have HR0 := Aside0.mk hr0
  have HC0 := Aside0.mk hc0
  clear hr0 hc0
  have HB := Aside0.mk (Below.refl w.heap.size w)
  have H : (if (l0.length : Int) > 8 then ((morainelaw02_awake.f).bind fun t114 => (some t114)) else (morainelaw02_NumGcds.l0 k l0 ([] : List (S25)) ([] : List (S34)) 0)) = some r := h
  clear h
  by_cases c2 : (l0.length : Int) > 8
  · rw [if_pos c2] at H
    have c2b0 : decide (8 < (l0.length : Int)) = true := decide_eq_true c2
    have c2b1 : decide (8 < l0.length) = true := decide_eq_true (by omega)
    clear c2
    replace H := Option.bind_eq_some_iff.mp H
    obtain ⟨t114, A30, H⟩ := H
    replace H : (some t114) = some r := H
    have A3 := Aside0.mk A30
    clear A30
    obtain rfl := Option.some.inj H
    go_enter Tryd.func7, Tryd.ntmps7
    go_wp2_with (first | ((with_reducible refine gate_callee (f := 20) rfl ?_); refine goesL_ (some 12) rfl rfl Tryd.func20 (by kernel_rfl) rfl #[] rfl (by (try simp only [List.map_toArray, List.map_cons, List.map_nil]); first | done | rfl | (simp only [List.length_drop, List.length_take]; rfl)) ?_; (with_reducible refine (morainelaw02_awake.calls  t114 _ A3.out (NumV.Tab.below HT.out (by repeat (first | exact HB.out | apply below_alloc | apply pw_below_drewN | apply below_drew1 | refine below_set ?_ (Aside0.out (by assumption)))))).mono ?_); rintro e w4 ⟨rfl, hb⟩; refine ⟨_, rfl, ?_⟩; have n0_ := Aside0.mk (below_step (by repeat (first | (with_reducible first | exact HB.out | apply below_alloc | apply pw_below_drewN | apply below_drew1) | exact HB.out)) hb); clear HB; have HB := n0_; clear n0_; (try clear hb); (try clear hb2); (try clear hk); (try clear hi)))
    go_ret
    exact ⟨by first | rfl | (simp [errW_none, errW_some] <;> rfl) | (simp [*, errW_none, errW_some] <;> rfl), by repeat (first | (with_reducible first | exact HB.out | apply below_alloc | apply pw_below_drewN | apply below_drew1) | exact HB.out)⟩
  · rw [if_neg c2] at H
    have c2b0 : decide (8 < (l0.length : Int)) = false := decide_eq_false c2
    have c2b1 : decide (8 < l0.length) = false := decide_eq_false (by omega)
    clear c2
    have H' := Aside0.mk H
    clear H
    go_enter Tryd.func7, Tryd.ntmps7
    go_wp2
    go_loopg [3, 4, 5] k (fun kq v3 v4 v5 w' => ∃ (x3_1 : List (S25)) (x4_1 : List (S34)) (x5_1 : Int), v5 = .int .i64 x5_1 ∧ Aside0 (morainelaw02_NumGcds.l0 kq l0 x3_1 x4_1 x5_1 = some r) ∧ Aside0 (kq ≤ k) ∧ Aside0 (Kd.S k25 25 w' w.heap.size (fun _ => True) v3 x3_1) ∧ Aside0 (Kd.S k34 34 w' w.heap.size (fun _ => True) v4 x4_1) ∧ Aside0 (Below w.heap.size w w'))
    case atStart => exact ⟨(([] : List (S25))), (([] : List (S34))), (0), (by first | rfl | (simp; done) | (simp [*]; done)), H', ⟨Nat.le_refl _⟩, ⟨by first | exact Kd.S_nil _ _ _ _ _ | exact Kd.N_nil _ _ _ _ _ | exact Kd.V_nil _ _ _ _ _ | exact Kd.Q_nil _ _ _ _ _ | exact Kd.R_nil _ _ _ _ _⟩, ⟨by first | exact Kd.S_nil _ _ _ _ _ | exact Kd.N_nil _ _ _ _ _ | exact Kd.V_nil _ _ _ _ _ | exact Kd.Q_nil _ _ _ _ _ | exact Kd.R_nil _ _ _ _ _⟩, ⟨by repeat (first | (with_reducible first | exact HB.out | apply below_alloc | apply pw_below_drewN | apply below_drew1) | exact HB.out)⟩⟩
    case round =>
      clear H'
      try clear c2
      try clear c2b0
      try clear c2b1
      try clear p2
      obtain ⟨x3_1, x4_1, x5_1, rfl, HA, HK1, HO_3, HO_4, HB⟩ := hrel
      cases gk with
      | zero => exact absurd HA.out (by simp [morainelaw02_NumGcds.l0])
      | succ k1 =>
        have H := HA.out
        clear HA
        simp only [morainelaw02_NumGcds.l0] at H
        by_cases c5 : x5_1 < (l0.length : Int)
        · rw [if_pos c5] at H
          have c5b0 : decide (x5_1 < (l0.length : Int)) = true := decide_eq_true c5
          clear c5
          by_cases c6 : 0 ≤ x5_1
          · rw [if_pos c6] at H
            have c6b0 : decide (0 ≤ x5_1) = true := decide_eq_true c6
            clear c6
            replace H := Option.bind_eq_some_iff.mp H
            obtain ⟨t116, A70, H⟩ := H
            replace H : (if t116 = true then ((morainelaw02_awake.f).bind fun t117 => (some t117)) else ((moraineref02_Copy.f ((rd_T25 l0 x5_1).f0) ((rd_T25 l0 x5_1).f1)).bind fun bt119 => (if x3_1.length < 4398046511104 then ((moraineref02_Value.f ((rd_T25 l0 x5_1).f0) ((rd_T25 l0 x5_1).f1)).bind fun bt127 => (if x4_1.length < 4398046511104 then (morainelaw02_NumGcds.l0 k1 l0 (x3_1 ++ [(⟨bt119.1, bt119.2⟩ : S25)]) (x4_1 ++ [(⟨bt127.1, bt127.2⟩ : S34)]) (wrap64 (x5_1 + 1))) else (none))) else (none)))) = some r := H
            have A7 := Aside0.mk A70
            clear A70
            by_cases c8 : t116 = true
            · subst c8
              have H1 : ((morainelaw02_awake.f).bind fun t117 => (some t117)) = some r := by rw [if_pos rfl] at H; exact H
              clear H
              have H := H1
              clear H1
              replace H := Option.bind_eq_some_iff.mp H
              obtain ⟨t117, A90, H⟩ := H
              replace H : (some t117) = some r := H
              have A9 := Aside0.mk A90
              clear A90
              obtain rfl := Option.some.inj H
              have p115 : 0 ≤ (x5_1 : Int) := of_decide_eq_true (by first | (with_reducible assumption) | assumption)
              have q115 : x5_1 < (l0.length : Int) := of_decide_eq_true (by first | (with_reducible assumption) | assumption)
              obtain ⟨ad115, A115_1, c115_1, e115, hx115_0, hx115_1, hl115_1, hi115_1⟩ := at_T25 HR0.out x5_1 p115 q115
              cases e115
              replace hx115_0 := (HB.out.cell (World.block_lt_of_cell? w _ hx115_0)).trans hx115_0
              replace hx115_1 := (HB.out.cell (World.block_lt_of_cell? w _ hx115_1)).trans hx115_1
              have HR115_1 := Aside0.mk hi115_1
              have HC115_1 := Aside0.mk hl115_1
              clear hi115_1 hl115_1
              replace p115 := eq_true p115
              replace q115 := eq_true q115
              go_wp2_with (first | ((with_reducible refine gate_callee (f := 21) rfl ?_); refine goesL_ (some 23) rfl rfl Tryd.func21 (by kernel_rfl) rfl #[.agg #[.bool ((rd_T25 l0 x5_1).f0), .slice A115_1 ((rd_T25 l0 x5_1).f1).length c115_1]] rfl (by (try simp only [List.map_toArray, List.map_cons, List.map_nil]); first | done | rfl | (simp only [List.length_drop, List.length_take]; rfl)) ?_; (with_reducible refine (morainelaw02_long.calls ((rd_T25 l0 x5_1).f0) _ _ ((rd_T25 l0 x5_1).f1) true _ ?side1 ?side2 A7.out).mono ?_); (case side1 => repeat (first | exact (Kd.C_below HR115_1.out HB.out) | (with_reducible refine Kd.C_alloc ?_ _) | (with_reducible refine Kd.C_drewN ?_ _) | (with_reducible refine Kd.C_drew ?_))); (case side2 => exact HC115_1.out); rintro e w10 ⟨rfl, hb⟩; refine ⟨_, rfl, ?_⟩; have n0_ := Aside0.mk (Kd.S_below (by (with_reducible repeat (first | apply Kd.S_alloc | apply Kd.S_drewN | apply Kd.S_drew)); exact HO_3.out) hb); have n1_ := Aside0.mk (Kd.S_below (by (with_reducible repeat (first | apply Kd.S_alloc | apply Kd.S_drewN | apply Kd.S_drew)); exact HO_4.out) hb); have n2_ := Aside0.mk (below_step (by repeat (first | (with_reducible first | exact HB.out | apply below_alloc | apply pw_below_drewN | apply below_drew1) | exact HB.out)) hb); clear HO_3; clear HO_4; clear HB; have HO_3 := n0_; have HO_4 := n1_; have HB := n2_; clear n0_ n1_ n2_; (try clear hb); (try clear hb2); (try clear hk); (try clear hi)) | ((with_reducible refine gate_callee (f := 20) rfl ?_); refine goesL_ (some 24) rfl rfl Tryd.func20 (by kernel_rfl) rfl #[] rfl (by (try simp only [List.map_toArray, List.map_cons, List.map_nil]); first | done | rfl | (simp only [List.length_drop, List.length_take]; rfl)) ?_; (with_reducible refine (morainelaw02_awake.calls  t117 _ A9.out (NumV.Tab.below HT.out (by repeat (first | exact HB.out | apply below_alloc | apply pw_below_drewN | apply below_drew1 | refine below_set ?_ (Aside0.out (by assumption)))))).mono ?_); rintro e w11 ⟨rfl, hb⟩; refine ⟨_, rfl, ?_⟩; have n0_ := Aside0.mk (Kd.S_below (by (with_reducible repeat (first | apply Kd.S_alloc | apply Kd.S_drewN | apply Kd.S_drew)); exact HO_3.out) hb); have n1_ := Aside0.mk (Kd.S_below (by (with_reducible repeat (first | apply Kd.S_alloc | apply Kd.S_drewN | apply Kd.S_drew)); exact HO_4.out) hb); have n2_ := Aside0.mk (below_step (by repeat (first | (with_reducible first | exact HB.out | apply below_alloc | apply pw_below_drewN | apply below_drew1) | exact HB.out)) hb); clear HO_3; clear HO_4; clear HB; have HO_3 := n0_; have HO_4 := n1_; have HB := n2_; clear n0_ n1_ n2_; (try clear hb); (try clear hb2); (try clear hk); (try clear hi)))
              go_ret
              exact ⟨by first | rfl | (simp [errW_none, errW_some] <;> rfl) | (simp [*, errW_none, errW_some] <;> rfl), by repeat (first | (with_reducible first | exact HB.out | apply below_alloc | apply pw_below_drewN | apply below_drew1) | exact HB.out)⟩
            · replace c8 := Bool.eq_false_iff.mpr c8
              subst c8
              have H1 : ((moraineref02_Copy.f ((rd_T25 l0 x5_1).f0) ((rd_T25 l0 x5_1).f1)).bind fun bt119 => (if x3_1.length < 4398046511104 then ((moraineref02_Value.f ((rd_T25 l0 x5_1).f0) ((rd_T25 l0 x5_1).f1)).bind fun bt127 => (if x4_1.length < 4398046511104 then (morainelaw02_NumGcds.l0 k1 l0 (x3_1 ++ [(⟨bt119.1, bt119.2⟩ : S25)]) (x4_1 ++ [(⟨bt127.1, bt127.2⟩ : S34)]) (wrap64 (x5_1 + 1))) else (none))) else (none))) = some r := by rw [if_neg (show ¬ (false = true) by decide)] at H; exact H
              clear H
              have H := H1
              clear H1
              replace H := Option.bind_eq_some_iff.mp H
              obtain ⟨⟨t119, t120⟩, A120, H⟩ := H
              replace H : (if x3_1.length < 4398046511104 then ((moraineref02_Value.f ((rd_T25 l0 x5_1).f0) ((rd_T25 l0 x5_1).f1)).bind fun bt127 => (if x4_1.length < 4398046511104 then (morainelaw02_NumGcds.l0 k1 l0 (x3_1 ++ [(⟨t119, t120⟩ : S25)]) (x4_1 ++ [(⟨bt127.1, bt127.2⟩ : S34)]) (wrap64 (x5_1 + 1))) else (none))) else (none)) = some r := H
              have A12 := Aside0.mk A120
              clear A120
              by_cases c13 : x3_1.length < 4398046511104
              · rw [if_pos c13] at H
                have LMc13 := Aside0.mk c13
                clear c13
                obtain ⟨y123, hy123⟩ : ∃ y_ : List (S25), y_ = (x3_1 ++ [(⟨t119, t120⟩ : S25)]) := ⟨_, rfl⟩
                replace H : ((moraineref02_Value.f ((rd_T25 l0 x5_1).f0) ((rd_T25 l0 x5_1).f1)).bind fun bt127 => (if x4_1.length < 4398046511104 then (morainelaw02_NumGcds.l0 k1 l0 y123 (x4_1 ++ [(⟨bt127.1, bt127.2⟩ : S34)]) (wrap64 (x5_1 + 1))) else (none))) = some r := by first | (rw [hy123]; with_reducible exact H) | (have H2_ := (Option.bind_some _ _).symm.trans H; rw [hy123]; with_reducible exact H2_) | (have H2_ := (Option.bind_some _ _).symm.trans H; with_reducible exact H2_) | with_reducible exact H | (rw [hy123]; exact H) | exact H
                have Ny123 := Aside0.mk hy123
                clear hy123
                replace H := Option.bind_eq_some_iff.mp H
                obtain ⟨⟨t127, t128⟩, A140, H⟩ := H
                replace H : (if x4_1.length < 4398046511104 then (morainelaw02_NumGcds.l0 k1 l0 y123 (x4_1 ++ [(⟨t127, t128⟩ : S34)]) (wrap64 (x5_1 + 1))) else (none)) = some r := H
                have A14 := Aside0.mk A140
                clear A140
                by_cases c15 : x4_1.length < 4398046511104
                · rw [if_pos c15] at H
                  have LMc15 := Aside0.mk c15
                  clear c15
                  obtain ⟨y131, hy131⟩ : ∃ y_ : List (S34), y_ = (x4_1 ++ [(⟨t127, t128⟩ : S34)]) := ⟨_, rfl⟩
                  replace H : (morainelaw02_NumGcds.l0 k1 l0 y123 y131 (wrap64 (x5_1 + 1))) = some r := by first | (rw [hy131]; with_reducible exact H) | (have H2_ := (Option.bind_some _ _).symm.trans H; rw [hy131]; with_reducible exact H2_) | (have H2_ := (Option.bind_some _ _).symm.trans H; with_reducible exact H2_) | with_reducible exact H | (rw [hy131]; exact H) | exact H
                  have Ny131 := Aside0.mk hy131
                  clear hy131
                  have H' := Aside0.mk H
                  clear H
                  have p115 : 0 ≤ (x5_1 : Int) := of_decide_eq_true (by first | (with_reducible assumption) | assumption)
                  have q115 : x5_1 < (l0.length : Int) := of_decide_eq_true (by first | (with_reducible assumption) | assumption)
                  obtain ⟨ad115, A115_1, c115_1, e115, hx115_0, hx115_1, hl115_1, hi115_1⟩ := at_T25 HR0.out x5_1 p115 q115
                  cases e115
                  replace hx115_0 := (HB.out.cell (World.block_lt_of_cell? w _ hx115_0)).trans hx115_0
                  replace hx115_1 := (HB.out.cell (World.block_lt_of_cell? w _ hx115_1)).trans hx115_1
                  have HR115_1 := Aside0.mk hi115_1
                  have HC115_1 := Aside0.mk hl115_1
                  clear hi115_1 hl115_1
                  replace p115 := eq_true p115
                  replace q115 := eq_true q115
                  go_wp2_with (first | ((with_reducible refine gate_callee (f := 21) rfl ?_); refine goesL_ (some 23) rfl rfl Tryd.func21 (by kernel_rfl) rfl #[.agg #[.bool ((rd_T25 l0 x5_1).f0), .slice A115_1 ((rd_T25 l0 x5_1).f1).length c115_1]] rfl (by (try simp only [List.map_toArray, List.map_cons, List.map_nil]); first | done | rfl | (simp only [List.length_drop, List.length_take]; rfl)) ?_; (with_reducible refine (morainelaw02_long.calls ((rd_T25 l0 x5_1).f0) _ _ ((rd_T25 l0 x5_1).f1) false _ ?side1 ?side2 A7.out).mono ?_); (case side1 => repeat (first | exact (Kd.C_below HR115_1.out HB.out) | (with_reducible refine Kd.C_alloc ?_ _) | (with_reducible refine Kd.C_drewN ?_ _) | (with_reducible refine Kd.C_drew ?_))); (case side2 => exact HC115_1.out); rintro e w16 ⟨rfl, hb⟩; refine ⟨_, rfl, ?_⟩; have n0_ := Aside0.mk (Kd.S_below (by (with_reducible repeat (first | apply Kd.S_alloc | apply Kd.S_drewN | apply Kd.S_drew)); exact HO_3.out) hb); have n1_ := Aside0.mk (Kd.S_below (by (with_reducible repeat (first | apply Kd.S_alloc | apply Kd.S_drewN | apply Kd.S_drew)); exact HO_4.out) hb); have n2_ := Aside0.mk (below_step (by repeat (first | (with_reducible first | exact HB.out | apply below_alloc | apply pw_below_drewN | apply below_drew1) | exact HB.out)) hb); clear HO_3; clear HO_4; clear HB; have HO_3 := n0_; have HO_4 := n1_; have HB := n2_; clear n0_ n1_ n2_; (try clear hb); (try clear hb2); (try clear hk); (try clear hi); have p118 : 0 ≤ (x5_1 : Int) := of_decide_eq_true (by first | (with_reducible assumption) | assumption); have q118 : x5_1 < (l0.length : Int) := of_decide_eq_true (by first | (with_reducible assumption) | assumption); obtain ⟨ad118, A118_1, c118_1, e118, hx118_0, hx118_1, hl118_1, hi118_1⟩ := at_T25 HR0.out x5_1 p118 q118; obtain rfl : ad115 = ad118 := (by injection e118); replace hx118_0 := (HB.out.cell (World.block_lt_of_cell? w _ hx118_0)).trans hx118_0; replace hx118_1 := (HB.out.cell (World.block_lt_of_cell? w _ hx118_1)).trans hx118_1; have HR118_1 := Aside0.mk hi118_1; have HC118_1 := Aside0.mk hl118_1; clear hi118_1 hl118_1; replace p118 := eq_true p118; replace q118 := eq_true q118) | ((with_reducible refine gate_callee (f := 28) rfl ?_); refine goesL_ (some 30) rfl rfl Tryd.func28 (by kernel_rfl) rfl #[.agg #[.bool ((rd_T25 l0 x5_1).f0), .slice A118_1 ((rd_T25 l0 x5_1).f1).length c118_1]] rfl (by (try simp only [List.map_toArray, List.map_cons, List.map_nil]); first | done | rfl | (simp only [List.length_drop, List.length_take]; rfl)) ?_; (with_reducible refine (moraineref02_Copy.calls ((rd_T25 l0 x5_1).f0) _ _ ((rd_T25 l0 x5_1).f1) t119 t120 _ ?side1 ?side2 A12.out).mono ?_); (case side1 => repeat (first | exact (Kd.C_below HR118_1.out HB.out) | (with_reducible refine Kd.C_alloc ?_ _) | (with_reducible refine Kd.C_drewN ?_ _) | (with_reducible refine Kd.C_drew ?_))); (case side2 => exact HC118_1.out); rintro e w17 ⟨v121, rfl, ho0, hb⟩; refine ⟨_, rfl, ?_⟩; have n0_ := Aside0.mk (Kd.S_elder' (by (with_reducible repeat (first | apply Kd.S_alloc | apply Kd.S_drewN | apply Kd.S_drew)); exact HO_3.out) (Kd.R_base ho0) hb); have n1_ := Aside0.mk (Kd.S_below (by (with_reducible repeat (first | apply Kd.S_alloc | apply Kd.S_drewN | apply Kd.S_drew)); exact HO_4.out) hb); have n2_ := Aside0.mk (Kd.R_lower ho0 (below_size (by repeat (first | (with_reducible first | exact HB.out | apply below_alloc | apply pw_below_drewN | apply below_drew1) | exact HB.out)))); have n3_ := Aside0.mk (below_step (by repeat (first | (with_reducible first | exact HB.out | apply below_alloc | apply pw_below_drewN | apply below_drew1) | exact HB.out)) hb); clear HO_3; clear HO_4; clear HB; have HO_3 := n0_; have HO_4 := n1_; have HO122 := n2_; have HB := n3_; clear n0_ n1_ n2_ n3_; (try clear hb); (try clear hb2); (try clear hk); (try clear hi); (try clear ho0); obtain ⟨Ao19, co19, eo19⟩ := Kd.R_slice HO122.out; subst eo19) | ((with_reducible refine gate_builtin (b := .append) (xs := #[.tmp 25, .tmp 31]) rfl ?_); at_builtin; refine Kd.S_append k25 (w0 := w) w.heap.size rfl (.tmp 25) (.tmp 31) 48 25 (.agg #[(.bool false), (.slice none 0 0)]) 32 rfl Tryd.underlying48 info25 rfl (by decide) (by omega) u3 x3_1 (⟨t119, t120⟩ : S25) [.bool t119, .slice Ao19 t120.length co19] (fun _ => True) (fun k_ => some k_ = (.slice Ao19 t120.length co19 : Value).ownBlock) rfl rfl ?aP (fun k_ hk_ => ((Kd.R_mono (ok' := fun k_ => ((fun _ => True)) k_ ∧ some k_ ≠ (u3 : Value).ownBlock) (Kd.R_apart' (HO122.out) (Kd.S_typed HO_3.out) (by decide)) (fun k_ hk => ⟨trivial, hk.2⟩))).1 k_ hk_.symm) ?aF ?aO ?aB ?aS ?aL ?_; (case aP => exact k25_mkM _ _ _ (⟨t119, t120⟩ : S25) (Kd.R_mono (Kd.R_tight rfl (Kd.R_mono (ok' := fun k_ => ((fun _ => True)) k_ ∧ some k_ ≠ (u3 : Value).ownBlock) (Kd.R_apart' (HO122.out) (Kd.S_typed HO_3.out) (by decide)) (fun k_ hk => ⟨trivial, hk.2⟩))) (fun _ h_ => h_))); (case aB => exact (by repeat (first | (with_reducible first | exact HB.out | apply below_alloc | apply pw_below_drewN | apply below_drew1) | exact HB.out))); (case aF => exact (fun _ _ => trivial)); (case aO => exact (by (with_reducible repeat (first | apply Kd.S_alloc | apply Kd.S_drewN | apply Kd.S_drew)); exact Kd.S_mono HO_3.out (fun k_ hk => ⟨trivial, fun e_ => hk.2 e_⟩))); (case aS => exact (below_size (by repeat (first | (with_reducible first | exact HB.out | apply below_alloc | apply pw_below_drewN | apply below_drew1) | exact HB.out)))); (case aL => have := LMc13.out; omega); intro v124 w18 ho hb hg hat; rw [← Ny123.out] at ho; have n0_ := Aside0.mk (Kd.S_over' (by (with_reducible repeat (first | apply Kd.S_alloc | apply Kd.S_drewN | apply Kd.S_drew)); exact HO_4.out) (Kd.S_typed (by (with_reducible repeat (first | apply Kd.S_alloc | apply Kd.S_drewN | apply Kd.S_drew)); exact HO_3.out)) (by decide) hg); have n1_ := Aside0.mk (hb); have n2_ := Aside0.mk (ho); clear HO_4; clear HB; clear HO_3; clear HO122; have HO_4 := n0_; have HB := n1_; have HO125 := n2_; clear n0_ n1_ n2_; clear ho hb hg hat; have p126 : 0 ≤ (x5_1 : Int) := of_decide_eq_true (by first | (with_reducible assumption) | assumption); have q126 : x5_1 < (l0.length : Int) := of_decide_eq_true (by first | (with_reducible assumption) | assumption); obtain ⟨ad126, A126_1, c126_1, e126, hx126_0, hx126_1, hl126_1, hi126_1⟩ := at_T25 HR0.out x5_1 p126 q126; obtain rfl : ad115 = ad126 := (by injection e126); replace hx126_0 := (HB.out.cell (World.block_lt_of_cell? w _ hx126_0)).trans hx126_0; replace hx126_1 := (HB.out.cell (World.block_lt_of_cell? w _ hx126_1)).trans hx126_1; have HR126_1 := Aside0.mk hi126_1; have HC126_1 := Aside0.mk hl126_1; clear hi126_1 hl126_1; replace p126 := eq_true p126; replace q126 := eq_true q126) | ((with_reducible refine gate_callee (f := 24) rfl ?_); refine goesL_ (some 38) rfl rfl Tryd.func24 (by kernel_rfl) rfl #[.agg #[.bool ((rd_T25 l0 x5_1).f0), .slice A126_1 ((rd_T25 l0 x5_1).f1).length c126_1]] rfl (by (try simp only [List.map_toArray, List.map_cons, List.map_nil]); first | done | rfl | (simp only [List.length_drop, List.length_take]; rfl)) ?_; (with_reducible refine (moraineref02_Value.calls ((rd_T25 l0 x5_1).f0) _ _ ((rd_T25 l0 x5_1).f1) t127 t128 _ ?side1 ?side2 A14.out).mono ?_); (case side1 => repeat (first | exact (Kd.C_below HR126_1.out HB.out) | (with_reducible refine Kd.C_alloc ?_ _) | (with_reducible refine Kd.C_drewN ?_ _) | (with_reducible refine Kd.C_drew ?_))); (case side2 => exact HC126_1.out); rintro e w20 ⟨v129, rfl, ho0, hb⟩; refine ⟨_, rfl, ?_⟩; have n0_ := Aside0.mk (Kd.S_elder' (by (with_reducible repeat (first | apply Kd.S_alloc | apply Kd.S_drewN | apply Kd.S_drew)); exact HO_4.out) (Kd.R_base ho0) hb); have n1_ := Aside0.mk (Kd.S_below (by (with_reducible repeat (first | apply Kd.S_alloc | apply Kd.S_drewN | apply Kd.S_drew)); exact HO125.out) hb); have n2_ := Aside0.mk (Kd.R_lower ho0 (below_size (by repeat (first | (with_reducible first | exact HB.out | apply below_alloc | apply pw_below_drewN | apply below_drew1) | exact HB.out)))); have n3_ := Aside0.mk (below_step (by repeat (first | (with_reducible first | exact HB.out | apply below_alloc | apply pw_below_drewN | apply below_drew1) | exact HB.out)) hb); clear HO_4; clear HO125; clear HB; have HO_4 := n0_; have HO125 := n1_; have HO130 := n2_; have HB := n3_; clear n0_ n1_ n2_ n3_; (try clear hb); (try clear hb2); (try clear hk); (try clear hi); (try clear ho0); obtain ⟨Ao22, co22, eo22⟩ := Kd.R_slice HO130.out; subst eo22) | ((with_reducible refine gate_builtin (b := .append) (xs := #[.tmp 33, .tmp 39]) rfl ?_); at_builtin; refine Kd.S_append k34 (w0 := w) w.heap.size rfl (.tmp 33) (.tmp 39) 49 34 (.agg #[(.bool false), (.slice none 0 0)]) 32 rfl Tryd.underlying49 info34 rfl (by decide) (by omega) u4 x4_1 (⟨t127, t128⟩ : S34) [.bool t127, .slice Ao22 t128.length co22] (fun _ => True) (fun k_ => some k_ = (.slice Ao22 t128.length co22 : Value).ownBlock) rfl rfl ?aP (fun k_ hk_ => ((Kd.R_mono (ok' := fun k_ => ((fun _ => True)) k_ ∧ some k_ ≠ (u4 : Value).ownBlock) (Kd.R_apart' (HO130.out) (Kd.S_typed HO_4.out) (by decide)) (fun k_ hk => ⟨trivial, hk.2⟩))).1 k_ hk_.symm) ?aF ?aO ?aB ?aS ?aL ?_; (case aP => exact k34_mkM _ _ _ (⟨t127, t128⟩ : S34) (Kd.R_mono (Kd.R_tight rfl (Kd.R_mono (ok' := fun k_ => ((fun _ => True)) k_ ∧ some k_ ≠ (u4 : Value).ownBlock) (Kd.R_apart' (HO130.out) (Kd.S_typed HO_4.out) (by decide)) (fun k_ hk => ⟨trivial, hk.2⟩))) (fun _ h_ => h_))); (case aB => exact (by repeat (first | (with_reducible first | exact HB.out | apply below_alloc | apply pw_below_drewN | apply below_drew1) | exact HB.out))); (case aF => exact (fun _ _ => trivial)); (case aO => exact (by (with_reducible repeat (first | apply Kd.S_alloc | apply Kd.S_drewN | apply Kd.S_drew)); exact Kd.S_mono HO_4.out (fun k_ hk => ⟨trivial, fun e_ => hk.2 e_⟩))); (case aS => exact (below_size (by repeat (first | (with_reducible first | exact HB.out | apply below_alloc | apply pw_below_drewN | apply below_drew1) | exact HB.out)))); (case aL => have := LMc15.out; omega); intro v132 w21 ho hb hg hat; rw [← Ny131.out] at ho; have n0_ := Aside0.mk (Kd.S_over' (by (with_reducible repeat (first | apply Kd.S_alloc | apply Kd.S_drewN | apply Kd.S_drew)); exact HO125.out) (Kd.S_typed (by (with_reducible repeat (first | apply Kd.S_alloc | apply Kd.S_drewN | apply Kd.S_drew)); exact HO_4.out)) (by decide) hg); have n1_ := Aside0.mk (hb); have n2_ := Aside0.mk (ho); clear HO125; clear HB; clear HO_4; clear HO130; have HO125 := n0_; have HB := n1_; have HO133 := n2_; clear n0_ n1_ n2_; clear ho hb hg hat))
                  go_roundg k1
                  case measure => have := HK1.out; omega
                  case rel => exact ⟨(y123), (y131), (wrap64 (x5_1 + 1)), (by first | rfl | (simp; done) | (simp [*]; done)), H', ⟨by have := HK1.out; omega⟩, ⟨by (with_reducible repeat (first | apply Kd.S_alloc | apply Kd.S_drewN | apply Kd.S_drew)); exact HO125.out⟩, ⟨by (with_reducible repeat (first | apply Kd.S_alloc | apply Kd.S_drewN | apply Kd.S_drew)); exact HO133.out⟩, ⟨by repeat (first | (with_reducible first | exact HB.out | apply below_alloc | apply pw_below_drewN | apply below_drew1) | exact HB.out)⟩⟩
                · rw [if_neg c15] at H
                  exact absurd H (by simp)
              · rw [if_neg c13] at H
                exact absurd H (by simp)
          · rw [if_neg c6] at H
            exact absurd H (by simp)
        · rw [if_neg c5] at H
          have c5b0 : decide (x5_1 < (l0.length : Int)) = false := decide_eq_false c5
          clear c5
          replace H := Option.bind_eq_some_iff.mp H
          obtain ⟨⟨t134, t135, t138⟩, A230, H⟩ := H
          replace H : ((moraineref02_Gcd.f x4_1).bind fun bt140 => ((morainelaw02_is.f t134 t135 t138 bt140.1 bt140.2).bind fun t144 => (if t144 = true then ((morainelaw02_spoil.f k1 t134 t135).bind fun t145 => (morainelaw02_NumGcds.l1 k1 l0 x3_1 0)) else (some false)))) = some r := H
          have A23 := Aside0.mk A230
          clear A230
          replace H := Option.bind_eq_some_iff.mp H
          obtain ⟨⟨t140, t141⟩, A240, H⟩ := H
          replace H : ((morainelaw02_is.f t134 t135 t138 t140 t141).bind fun t144 => (if t144 = true then ((morainelaw02_spoil.f k1 t134 t135).bind fun t145 => (morainelaw02_NumGcds.l1 k1 l0 x3_1 0)) else (some false))) = some r := H
          have A24 := Aside0.mk A240
          clear A240
          replace H := Option.bind_eq_some_iff.mp H
          obtain ⟨t144, A250, H⟩ := H
          replace H : (if t144 = true then ((morainelaw02_spoil.f k1 t134 t135).bind fun t145 => (morainelaw02_NumGcds.l1 k1 l0 x3_1 0)) else (some false)) = some r := H
          have A25 := Aside0.mk A250
          clear A250
          by_cases c26 : t144 = true
          · subst c26
            have H1 : ((morainelaw02_spoil.f k1 t134 t135).bind fun t145 => (morainelaw02_NumGcds.l1 k1 l0 x3_1 0)) = some r := by rw [if_pos rfl] at H; exact H
            clear H
            have H := H1
            clear H1
            replace H := Option.bind_eq_some_iff.mp H
            obtain ⟨t145, A270, H⟩ := H
            replace H : (morainelaw02_NumGcds.l1 k1 l0 x3_1 0) = some r := H
            have A27 := Aside0.mk A270
            clear A270
            have H' := Aside0.mk H
            clear H
            try go_wp2_with (first | ((with_reducible refine gate_callee (f := 34) rfl ?_); refine goesL_ (some 43) rfl rfl Tryd.func34 (by kernel_rfl) rfl #[.slice A0 l0.length c0] rfl (by (try simp only [List.map_toArray, List.map_cons, List.map_nil]); first | done | rfl | (simp only [List.length_drop, List.length_take]; rfl)) ?_; (with_reducible refine (num_Gcd.calls _ _ l0 t134 t135 t138 _ ?side1 ?side2 A23.out).mono ?_); (case side1 => repeat (first | exact (Kd.C_below HR0.out HB.out) | (with_reducible refine Kd.C_alloc ?_ _) | (with_reducible refine Kd.C_drewN ?_ _) | (with_reducible refine Kd.C_drew ?_))); (case side2 => exact HC0.out); rintro e w28 ⟨v136, rfl, ho0, hb⟩; refine ⟨_, rfl, ?_⟩; have n0_ := Aside0.mk (Kd.S_elder' (by (with_reducible repeat (first | apply Kd.S_alloc | apply Kd.S_drewN | apply Kd.S_drew)); exact HO_3.out) (Kd.R_base ho0) hb); have n1_ := Aside0.mk (Kd.S_below (by (with_reducible repeat (first | apply Kd.S_alloc | apply Kd.S_drewN | apply Kd.S_drew)); exact HO_4.out) hb); have n2_ := Aside0.mk (Kd.R_lower ho0 (below_size (by repeat (first | (with_reducible first | exact HB.out | apply below_alloc | apply pw_below_drewN | apply below_drew1) | exact HB.out)))); have n3_ := Aside0.mk (below_step (by repeat (first | (with_reducible first | exact HB.out | apply below_alloc | apply pw_below_drewN | apply below_drew1) | exact HB.out)) hb); clear HO_3; clear HO_4; clear HB; have HO_3 := n0_; have HO_4 := n1_; have HO137 := n2_; have HB := n3_; clear n0_ n1_ n2_ n3_; (try clear hb); (try clear hb2); (try clear hk); (try clear hi); (try clear ho0)) | ((with_reducible refine gate_dst (N := 6) rfl ?_); refine box_event ?hg (N := 6) ?hd (cs := #[.bool false, .slice none 0 0]) (t := 25) ?hr ?_; (case hd => rfl); (case hg => rfl); (case hr => first | (go_simp; done) | (go_simp; rfl)); intro gb139 hg w29 hbox hb; have n0_ := Aside0.mk (Kd.S_below (Kd.S_elderB (by (with_reducible repeat (first | apply Kd.S_alloc | apply Kd.S_drewN | apply Kd.S_drew)); exact HO_3.out) gb139 (Nat.le_of_eq hg.symm)) hb); have n1_ := Aside0.mk (Kd.S_below (by (with_reducible repeat (first | apply Kd.S_alloc | apply Kd.S_drewN | apply Kd.S_drew)); exact HO_4.out) hb); have n2_ := Aside0.mk (Kd.R_below (by (with_reducible repeat (first | apply Kd.R_alloc | apply Kd.R_drewN | apply Kd.R_drew)); exact HO137.out) hb); have n3_ := Aside0.mk (below_step (by repeat (first | (with_reducible first | exact HB.out | apply below_alloc | apply pw_below_drewN | apply below_drew1) | exact HB.out)) hb); have n4_ := Aside0.mk (hbox); have n5_ := Aside0.mk ((by rw [hg]; exact (below_size (by repeat (first | (with_reducible first | exact HB.out | apply below_alloc | apply pw_below_drewN | apply below_drew1) | exact HB.out))) : w.heap.size ≤ gb139)); have n6_ := Aside0.mk ((by rw [hg]; exact (below_size (by repeat (first | (with_reducible first | exact HB.out | apply below_alloc | apply pw_below_drewN | apply below_drew1) | exact HB.out))) : w.heap.size ≤ gb139)); clear HO_3; clear HO_4; clear HO137; clear HB; have HO_3 := n0_; have HO_4 := n1_; have HO137 := n2_; have HB := n3_; have BK139 := n4_; have GW139 := n5_; have GE139 := n6_; clear n0_ n1_ n2_ n3_ n4_ n5_ n6_; clear hb hbox hg; have hcz30_0 : w29.cell? ⟨gb139, 0, none⟩ = some (.bool false) := (blk_cell BK139.out 0).trans rfl; have hcz30_1 : w29.cell? ⟨gb139, 1, none⟩ = some (.slice none 0 0) := (blk_cell BK139.out 1).trans rfl; have hfz30_0 := blk_frozen BK139.out 0; have hfz30_1 := blk_frozen BK139.out 1; obtain ⟨Ao31, co31, eo31⟩ := Kd.R_slice HO137.out; subst eo31))
            have n0_ : Aside0 (Kd.S k25 25 ((w29.setCell ⟨gb139, 0, none⟩ (.bool t134)).setCell ⟨gb139, 1, none⟩ (.slice Ao31 t135.length co31)) w.heap.size (fun k_ => some k_ ≠ (.slice Ao31 t135.length co31 : Value).ownBlock ∧ k_ ≠ gb139) u3 x3_1) := ⟨by (with_reducible repeat (first | apply Kd.S_alloc | apply Kd.S_drewN | apply Kd.S_drew)); exact Kd.S_mono (Kd.S_far (p := ⟨gb139, 1, none⟩) (Kd.S_far (p := ⟨gb139, 0, none⟩) (Kd.S_mono HO_3.out (fun k_ hk => (⟨hk, hk.2⟩ : _ ∧ k_ ≠ gb139))) (fun _ hk => hk.2) (.bool t134)) (fun _ hk => hk.2) (.slice Ao31 t135.length co31)) (fun _ hk => ⟨hk.1.1.2, hk.1.2⟩)⟩
            have n1_ : Aside0 (Kd.S k34 34 ((w29.setCell ⟨gb139, 0, none⟩ (.bool t134)).setCell ⟨gb139, 1, none⟩ (.slice Ao31 t135.length co31)) w.heap.size (fun _ => True) u4 x4_1) := ⟨by (with_reducible repeat (first | apply Kd.S_alloc | apply Kd.S_drewN | apply Kd.S_drew)); exact Kd.S_mono (Kd.S_far (p := ⟨gb139, 1, none⟩) (Kd.S_far (p := ⟨gb139, 0, none⟩) (Kd.S_types HO_4.out BK139.out (by decide)) (fun _ hk => hk.2) (.bool t134)) (fun _ hk => hk.2) (.slice Ao31 t135.length co31)) (fun _ hk => trivial)⟩
            have n2_ : Aside0 (Kd.R (Kd.int .u32) 63 ((w29.setCell ⟨gb139, 0, none⟩ (.bool t134)).setCell ⟨gb139, 1, none⟩ (.slice Ao31 t135.length co31)) w.heap.size (fun _ => True) (.slice Ao31 t135.length co31) t135) := ⟨by (with_reducible repeat (first | apply Kd.R_alloc | apply Kd.R_drewN | apply Kd.R_drew)); exact Kd.R_mono (Kd.R_far (p := ⟨gb139, 1, none⟩) (Kd.R_far (p := ⟨gb139, 0, none⟩) (Kd.R_types HO137.out BK139.out (by decide)) (fun _ hk => hk.2) (.bool t134)) (fun _ hk => hk.2) (.slice Ao31 t135.length co31)) (fun _ hk => trivial)⟩
            have n3_ : Aside0 (((w29.setCell ⟨gb139, 0, none⟩ (.bool t134)).setCell ⟨gb139, 1, none⟩ (.slice Ao31 t135.length co31)).heap[gb139]? = some (.cells #[.bool t134, .slice Ao31 t135.length co31] 25 (0, 0))) := ⟨by (with_reducible repeat (first | refine blk_drewN ?_ _ | refine blk_drew ?_ | refine blk_alloc ?_ _)); refine blk_put (cs := #[.bool t134, .slice none 0 0]) ?_ 1 _ rfl; (with_reducible repeat (first | refine blk_drewN ?_ _ | refine blk_drew ?_ | refine blk_alloc ?_ _)); refine blk_put (cs := #[.bool false, .slice none 0 0]) ?_ 0 _ rfl; (with_reducible repeat (first | refine blk_drewN ?_ _ | refine blk_drew ?_ | refine blk_alloc ?_ _)); exact BK139.out⟩
            have n4_ : Aside0 (Below w.heap.size w ((w29.setCell ⟨gb139, 0, none⟩ (.bool t134)).setCell ⟨gb139, 1, none⟩ (.slice Ao31 t135.length co31))) := ⟨by repeat (first | (with_reducible first | exact HB.out | apply below_alloc | apply pw_below_drewN | apply below_drew1 | refine below_set ?_ GE139.out) | exact HB.out)⟩
            (try clear HO_3)
            (try clear HO_4)
            (try clear HO137)
            (try clear BK139)
            (try clear HB)
            generalize ((w29.setCell ⟨gb139, 0, none⟩ (.bool t134)).setCell ⟨gb139, 1, none⟩ (.slice Ao31 t135.length co31)) = w32 at n0_ n1_ n2_ n3_ n4_ ⊢
            have HO_3 := n0_
            have HO_4 := n1_
            have HO137 := n2_
            have BK139 := n3_
            have HB := n4_
            clear n0_ n1_ n2_ n3_ n4_
            have n0_ := Aside0.mk (Kd.S_drew HO_3.out)
            have n1_ := Aside0.mk (Kd.S_drew HO_4.out)
            have n2_ := Aside0.mk (Kd.R_drew HO137.out)
            have n3_ := Aside0.mk (blk_drew BK139.out)
            have n4_ := Aside0.mk (below_drew1 HB.out)
            clear HO_3
            clear HO_4
            clear HO137
            clear BK139
            clear HB
            have HO_3 := n0_
            have HO_4 := n1_
            have HO137 := n2_
            have BK139 := n3_
            have HB := n4_
            clear n0_ n1_ n2_ n3_ n4_
            obtain ⟨Ao34, co34, eo34⟩ := Kd.S_slice HO_4.out
            (first | subst eo34 | (injection eo34 with f1_ f2_ f3_; have f4_ := f1_.symm; have f5_ := f3_.symm; clear f1_ f2_ f3_; subst f4_; subst f5_))
            refine start_ (n := 6) (S := fun w' => w'.cell? ⟨gb139, 0, none⟩ = some (.bool t134) ∧ w'.cell? ⟨gb139, 1, none⟩ = some (.slice Ao31 t135.length co31)) (ds := []) #[false, false, false, false, false, false] (by kernel_rfl) rfl rfl ⟨(blk_cell BK139.out 0).trans rfl, (blk_cell BK139.out 1).trans rfl⟩ (fun hHeld => ?_)
            generalize w32.drew = w33 at HO_3 HO_4 HO137 BK139 HB hHeld ⊢
            refine pure_ (i := 1) (N := some 47) (v := ?_) (a' := ?_) #[false, true, false, false, false, false] rfl rfl (by kernel_rfl) (fun _ _ _ h => h) (Or.inl ⟨by rfl, ?_⟩) ?_ ?_
            rotate_left
            · intro w'
              go_simp
              with_reducible rfl
            rotate_left
            · simp only [Act.put, List.setIfInBounds_toArray, List.set_cons_zero, List.set_cons_succ, i64_w, i32_w]
              rfl
            refine pure_ (i := 2) (N := some 48) (v := ?_) (a' := ?_) #[false, true, true, false, false, false] rfl rfl (by kernel_rfl) (fun _ _ _ h => h) (Or.inl ⟨by rfl, ?_⟩) ?_ ?_
            rotate_left
            · intro w'
              go_simp
              with_reducible rfl
            rotate_left
            · simp only [Act.put, List.setIfInBounds_toArray, List.set_cons_zero, List.set_cons_succ, i64_w, i32_w]
              rfl
            refine take_ (i := 0) (N := some 46) (v := ?_) (a' := ?_) #[true, true, true, false, false, false] rfl rfl (by kernel_rfl) (fun _ _ _ h => h) (Or.inl ⟨by rfl, ?_⟩) hHeld ?_ ?_
            rotate_left
            · rintro w' ⟨s0, s1⟩
              go_simp
              with_reducible rfl
            rotate_left
            · simp only [Act.put, List.setIfInBounds_toArray, List.set_cons_zero, List.set_cons_succ, i64_w, i32_w]
              rfl
            refine one_ (i := 3) (N := some 49) #[true, true, true, true, false, false] rfl rfl (by kernel_rfl) (by decide) (fun K hK => ?_)
            refine goes_ Tryd.func35 (by kernel_rfl) rfl #[.slice Ao34 x4_1.length co34] (by rfl) rfl rfl (by (try simp only [List.map_toArray, List.map_cons, List.map_nil]); first | done | rfl | (simp only [List.length_drop, List.length_take]; rfl)) ?_
            with_reducible refine (moraineref02_Gcd.calls (fun k_ => (((True ∧ some k_ ≠ (u3 : Value).ownBlock) ∧ some k_ ≠ (.slice Ao31 t135.length co31 : Value).ownBlock) ∧ k_ ≠ gb139)) _ _ x4_1 t140 t141 _ ?side1 A24.out).mono ?_
            (case side1 => exact Kd.S_V (Kd.S_types (Kd.S_apart' (Kd.S_apart' (HO_4.out) (Kd.S_typed HO_3.out) (by decide)) (Kd.R_typed HO137.out) (by decide)) BK139.out (by decide)))
            rintro e w35 ⟨v142, rfl, ho0, hb⟩
            refine ⟨_, rfl, ?_⟩
            have n0_ := Aside0.mk (Kd.S_below (by (with_reducible repeat (first | apply Kd.S_alloc | apply Kd.S_drewN | apply Kd.S_drew)); exact HO_3.out) hb)
            have n1_ := Aside0.mk (Kd.S_below (by (with_reducible repeat (first | apply Kd.S_alloc | apply Kd.S_drewN | apply Kd.S_drew)); exact HO_4.out) hb)
            have n2_ := Aside0.mk (Kd.R_below (by (with_reducible repeat (first | apply Kd.R_alloc | apply Kd.R_drewN | apply Kd.R_drew)); exact HO137.out) hb)
            have n3_ := Aside0.mk ho0
            have n4_ := Aside0.mk (blk_below (g := gb139) (o := .cells #[.bool t134, .slice Ao31 t135.length co31] 25 (0, 0)) (by (with_reducible repeat (first | refine blk_drewN ?_ _ | refine blk_drew ?_ | refine blk_alloc ?_ _)); exact BK139.out) hb)
            have n5_ := Aside0.mk (below_step (by repeat (first | (with_reducible first | exact HB.out | apply below_alloc | apply pw_below_drewN | apply below_drew1 | refine below_set ?_ GE139.out) | exact HB.out)) hb)
            clear HO_3
            clear HO_4
            clear HO137
            clear BK139
            clear HB
            have HO_3 := n0_
            have HO_4 := n1_
            have HO137 := n2_
            have HO143 := n3_
            have BK139 := n4_
            have HB := n5_
            clear n0_ n1_ n2_ n3_ n4_ n5_
            (try clear hb)
            (try clear hb2)
            (try clear hk)
            (try clear hi)
            (try clear ho0)
            obtain ⟨Ao36, co36, eo36, lo36, ro36⟩ := HO143.out
            (first | subst eo36 | (injection eo36 with f1_ f2_ f3_; have f4_ := f1_.symm; have f5_ := f3_.symm; clear f1_ f2_ f3_; subst f4_; subst f5_))
            refine hK.out _ _ ⟨(blk_cell BK139.out 0).trans rfl, (blk_cell BK139.out 1).trans rfl⟩ (fun hHeld => ?_)
            clear hK K
            refine norm_ (a' := ?_) ?_ ?_
            rotate_left
            · show Act.put _ (some 49) _ = _
              simp only [Act.put, List.setIfInBounds_toArray, List.set_cons_zero, List.set_cons_succ, i64_w, i32_w]
              rfl
            refine one_ (i := 4) (N := some 50) #[true, true, true, true, true, false] rfl rfl (by kernel_rfl) (by decide) (fun K hK => ?_)
            refine goes_ Tryd.func27 (by kernel_rfl) rfl #[.agg #[.bool t134, .slice Ao31 t135.length co31], .int .i64 t138, .agg #[.bool t140, .slice Ao36 t141.length co36]] (by rfl) rfl rfl (by (try simp only [List.map_toArray, List.map_cons, List.map_nil]); first | done | rfl | (simp only [List.length_drop, List.length_take]; rfl)) ?_
            with_reducible refine (morainelaw02_is.calls t134 _ _ t135 t138 t140 _ _ t141 true _ ?side1 ?side2 ?side3 ?side4 A25.out).mono ?_
            (case side1 => repeat (first | exact (Kd.R_reads' HO137.out).2.2 | (with_reducible refine Kd.C_alloc ?_ _) | (with_reducible refine Kd.C_drewN ?_ _) | (with_reducible refine Kd.C_drew ?_)))
            (case side2 => exact (Kd.R_reads' HO137.out).2.1)
            (case side3 => repeat (first | exact ro36 | (with_reducible refine Kd.C_alloc ?_ _) | (with_reducible refine Kd.C_drewN ?_ _) | (with_reducible refine Kd.C_drew ?_)))
            (case side4 => exact lo36)
            rintro e w37 ⟨rfl, hb⟩
            refine ⟨_, rfl, ?_⟩
            have n0_ := Aside0.mk (Kd.S_below (by (with_reducible repeat (first | apply Kd.S_alloc | apply Kd.S_drewN | apply Kd.S_drew)); exact HO_3.out) hb)
            have n1_ := Aside0.mk (Kd.S_below (by (with_reducible repeat (first | apply Kd.S_alloc | apply Kd.S_drewN | apply Kd.S_drew)); exact HO_4.out) hb)
            have n2_ := Aside0.mk (Kd.R_below (by (with_reducible repeat (first | apply Kd.R_alloc | apply Kd.R_drewN | apply Kd.R_drew)); exact HO137.out) hb)
            have n3_ := trivial
            have n4_ := Aside0.mk (blk_below (g := gb139) (o := .cells #[.bool t134, .slice Ao31 t135.length co31] 25 (0, 0)) (by (with_reducible repeat (first | refine blk_drewN ?_ _ | refine blk_drew ?_ | refine blk_alloc ?_ _)); exact BK139.out) hb)
            have n5_ := Aside0.mk (below_step (by repeat (first | (with_reducible first | exact HB.out | apply below_alloc | apply pw_below_drewN | apply below_drew1 | refine below_set ?_ GE139.out) | exact HB.out)) hb)
            clear HO_3
            clear HO_4
            clear HO137
            clear HO143
            clear BK139
            clear HB
            have HO_3 := n0_
            have HO_4 := n1_
            have HO137 := n2_
            have HO143 := n3_
            have BK139 := n4_
            have HB := n5_
            clear n0_ n1_ n2_ n3_ n4_ n5_
            (try clear hb)
            (try clear hb2)
            (try clear hk)
            (try clear hi)
            refine hK.out _ _ ⟨(blk_cell BK139.out 0).trans rfl, (blk_cell BK139.out 1).trans rfl⟩ (fun hHeld => ?_)
            clear hK K
            refine norm_ (a' := ?_) ?_ ?_
            rotate_left
            · show Act.put _ (some 50) _ = _
              simp only [Act.put, List.setIfInBounds_toArray, List.set_cons_zero, List.set_cons_succ, i64_w, i32_w]
              rfl
            refine pure_ (i := 5) (N := some 51) (v := ?_) (a' := ?_) #[true, true, true, true, true, true] rfl rfl (by kernel_rfl) (fun _ _ _ h => h) (Or.inl ⟨by rfl, ?_⟩) ?_ ?_
            rotate_left
            · intro w'
              go_simp
              with_reducible rfl
            rotate_left
            · simp only [Act.put, List.setIfInBounds_toArray, List.set_cons_zero, List.set_cons_succ, i64_w, i32_w]
              rfl
            refine done_ (by kernel_rfl) ?_
            have hcz38_0 : w37.cell? ⟨gb139, 0, none⟩ = some (.bool t134) := (blk_cell BK139.out 0).trans rfl
            have hcz38_1 : w37.cell? ⟨gb139, 1, none⟩ = some (.slice Ao31 t135.length co31) := (blk_cell BK139.out 1).trans rfl
            have hfz38_0 := blk_frozen BK139.out 0
            have hfz38_1 := blk_frozen BK139.out 1
            try go_wp2_with (first | ((with_reducible refine gate_callee (f := 33) rfl ?_); refine goesL_ (some 53) rfl rfl Tryd.func33 (by kernel_rfl) rfl #[.agg #[.bool t134, .slice Ao31 t135.length co31]] rfl (by (try simp only [List.map_toArray, List.map_cons, List.map_nil]); first | done | rfl | (simp only [List.length_drop, List.length_take]; rfl)) ?_; (with_reducible refine (morainelaw02_spoil.calls k1 t134 (fun k_ => some k_ = (.slice Ao31 t135.length co31 : Value).ownBlock) (.slice Ao31 t135.length co31) t135 t145 w _ ?side1 ?side2 A27.out).mono ?_); (case side1 => repeat (first | (with_reducible first | exact HB.out | apply below_alloc | apply pw_below_drewN | apply below_drew1 | refine below_set ?_ GE139.out) | exact HB.out)); (case side2 => exact Kd.R_tight rfl HO137.out); rintro e w39 ⟨rfl, hy0, hb, hkp⟩; refine ⟨_, rfl, ?_⟩; have n0_ := Aside0.mk (Kd.S_mono (ok' := fun k_ => some k_ ≠ (.slice Ao31 t135.length co31 : Value).ownBlock ∧ k_ ≠ gb139) (Kd.S_keptB (HO_3.out) hkp (fun k_ hk_ hs_ => (hk_.1) hs_)) (fun k_ hk_ => ⟨hk_.1.1, hk_.1.2⟩)); have n1_ := trivial; have n2_ := Aside0.mk (Kd.R_reok rfl hy0 (fun k_ e_ => HO137.out.1 k_ e_)); have n3_ := Aside0.mk (blk_kept (by (with_reducible repeat (first | refine blk_drewN ?_ _ | refine blk_drew ?_ | refine blk_alloc ?_ _)); exact BK139.out) hkp (fun hs_ => (fun e_ => (Kd.R_ne HO137.out BK139.out (by decide)) e_) hs_)); have n4_ := trivial; have n5_ := Aside0.mk (hb); clear HO_3; clear HO_4; clear HO137; clear BK139; clear HO143; clear HB; have HO_3 := n0_; have HO_4 := n1_; have HO137 := n2_; have BK139 := n3_; have HO143 := n4_; have HB := n5_; clear n0_ n1_ n2_ n3_ n4_ n5_; (try clear hb); (try clear hkp); (try clear hy0)))
            go_loopg [8] k1 (fun kq v8 w' => ∃ (x8_2 : Int), v8 = .int .i64 x8_2 ∧ Aside0 (morainelaw02_NumGcds.l1 kq l0 x3_1 x8_2 = some r) ∧ Aside0 (kq ≤ k1) ∧ Aside0 (Kd.S k25 25 w' w.heap.size (fun k_ => some k_ ≠ ((.slice Ao31 t135.length co31) : Value).ownBlock ∧ k_ ≠ gb139) u3 x3_1) ∧ Aside0 (Kd.R (Kd.int .u32) 63 w' w.heap.size (fun _ => True) (.slice Ao31 t135.length co31) t145) ∧ Aside0 (w'.heap[gb139]? = some (.cells #[.bool t134, (.slice Ao31 t135.length co31)] 25 (0, 0))) ∧ Aside0 (Below w.heap.size w w'))
            case atStart => exact ⟨(0), (by first | rfl | (simp; done) | (simp [*]; done)), H', ⟨Nat.le_refl _⟩, ⟨by (with_reducible repeat (first | apply Kd.S_alloc | apply Kd.S_drewN | apply Kd.S_drew)); exact HO_3.out⟩, ⟨by (with_reducible repeat (first | apply Kd.R_alloc | apply Kd.R_drewN | apply Kd.R_drew)); exact HO137.out⟩, ⟨by (with_reducible repeat (first | refine blk_drewN ?_ _ | refine blk_drew ?_ | refine blk_alloc ?_ _)); exact BK139.out⟩, ⟨by repeat (first | (with_reducible first | exact HB.out | apply below_alloc | apply pw_below_drewN | apply below_drew1 | refine below_set ?_ GE139.out) | exact HB.out)⟩⟩
            case round =>
              clear H'
              try clear c1
              try clear p1
              try clear q1
              try clear hx1
              try clear c2
              try clear c2b0
              try clear c2b1
              try clear p2
              try clear c3
              try clear c5
              try clear c5b0
              try clear c6
              try clear c6b0
              try clear p6
              try clear c7
              try clear c8
              try clear c11
              try clear p11
              try clear q11
              try clear hx11
              try clear c12
              try clear p12
              try clear q12
              try clear hx12
              try clear c13
              try clear c15
              try clear c20
              try clear c21
              try clear c24
              try clear c26
              try clear c27
              try clear c28
              try clear c33
              try clear c34
              try clear c35
              try clear hcz30_0
              try clear hcz30_1
              try clear hcz38_0
              try clear hcz38_1
              try clear hfz30_0
              try clear hfz30_1
              try clear hfz38_0
              try clear hfz38_1
              try clear hx115_0
              try clear hx115_1
              try clear hx118_0
              try clear hx118_1
              try clear hx126_0
              try clear hx126_1
              try clear p115
              try clear p118
              try clear p126
              try clear p2
              try clear q115
              try clear q118
              try clear q126
              obtain ⟨x8_2, rfl, HA, HK2, HO_3, HO_140001, BK139, HB⟩ := hrel
              have hl140001_2 := (Kd.R_reads' HO_140001.out).1
              rw [hl140001_2] at HO_140001
              (try simp only [hl140001_2])
              (try simp only [hl140001_2] at BK139)
              (try simp only [hl140001_2] at HO_3)
              cases gk with
              | zero => exact absurd HA.out (by simp [morainelaw02_NumGcds.l1])
              | succ k2 =>
                have H := HA.out
                clear HA
                simp only [morainelaw02_NumGcds.l1] at H
                by_cases c40 : x8_2 < (l0.length : Int)
                · rw [if_pos c40] at H
                  have c40b0 : decide (x8_2 < (l0.length : Int)) = true := decide_eq_true c40
                  clear c40
                  by_cases c41 : 0 ≤ x8_2
                  · rw [if_pos c41] at H
                    have c41b0 : decide (0 ≤ x8_2) = true := decide_eq_true c41
                    clear c41
                    by_cases c42 : x8_2 < (x3_1.length : Int)
                    · rw [if_pos c42] at H
                      have c42b0 : decide (x8_2 < (x3_1.length : Int)) = true := decide_eq_true c42
                      clear c42
                      replace H := Option.bind_eq_some_iff.mp H
                      obtain ⟨t148, A430, H⟩ := H
                      replace H : (if t148 = true then (morainelaw02_NumGcds.l1 k2 l0 x3_1 (wrap64 (x8_2 + 1))) else (some false)) = some r := H
                      have A43 := Aside0.mk A430
                      clear A430
                      by_cases c44 : t148 = true
                      · subst c44
                        have H1 : (morainelaw02_NumGcds.l1 k2 l0 x3_1 (wrap64 (x8_2 + 1))) = some r := by rw [if_pos rfl] at H; exact H
                        clear H
                        have H := H1
                        clear H1
                        have H' := Aside0.mk H
                        clear H
                        try go_wp2
                        have n0_ := Aside0.mk (Kd.S_drew HO_3.out)
                        have n1_ := Aside0.mk (Kd.R_drew HO_140001.out)
                        have n2_ := Aside0.mk (blk_drew BK139.out)
                        have n3_ := Aside0.mk (below_drew1 HB.out)
                        clear HO_3
                        clear HO_140001
                        clear BK139
                        clear HB
                        have HO_3 := n0_
                        have HO_140001 := n1_
                        have BK139 := n2_
                        have HB := n3_
                        clear n0_ n1_ n2_ n3_
                        have p146 : 0 ≤ (x8_2 : Int) := of_decide_eq_true (by first | (with_reducible assumption) | assumption)
                        have q146 : x8_2 < (l0.length : Int) := of_decide_eq_true (by first | (with_reducible assumption) | assumption)
                        obtain ⟨ad146, A146_1, c146_1, e146, hx146_0, hx146_1, hl146_1, hi146_1⟩ := at_T25 HR0.out x8_2 p146 q146
                        have hw146_1 := hx146_1
                        have hw146_0 := hx146_0
                        cases e146
                        replace hx146_0 := (HB.out.cell (World.block_lt_of_cell? w _ hx146_0)).trans hx146_0
                        replace hx146_1 := (HB.out.cell (World.block_lt_of_cell? w _ hx146_1)).trans hx146_1
                        have HR146_1 := Aside0.mk hi146_1
                        have HC146_1 := Aside0.mk hl146_1
                        clear hi146_1 hl146_1
                        replace p146 := eq_true p146
                        replace q146 := eq_true q146
                        obtain ⟨Ao46, co46, eo46⟩ := Kd.S_slice HO_3.out
                        (first | subst eo46 | (injection eo46 with f1_ f2_ f3_; have f4_ := f1_.symm; have f5_ := f3_.symm; clear f1_ f2_ f3_; subst f4_; subst f5_))
                        have p147 : 0 ≤ (x8_2 : Int) := of_decide_eq_true (by first | (with_reducible assumption) | assumption)
                        have q147 : x8_2 < (x3_1.length : Int) := of_decide_eq_true (by first | (with_reducible assumption) | assumption)
                        obtain ⟨ad147, A147_1, c147_1, e147, hx147_0, hx147_1, hl147_1, hi147_1⟩ := at_T25 (Kd.S_reads' HO_3.out).2.2 x8_2 p147 q147
                        cases e147
                        obtain ⟨ce147, hce147, hMe147, hcc147⟩ := Kd.S_get HO_3.out z25 x8_2 p147 (by first | exact q147 | exact of_decide_eq_true (by first | (with_reducible assumption) | assumption) | (have e_ := (Kd.S_reads' HO_3.out).1; omega))
                        obtain ⟨ve147_1, rfl, ge147_1⟩ := k25_openM hMe147
                        have hv147_1 := hcc147 1 _ rfl
                        rw [add_field _ _ 1 (by omega)] at hv147_1
                        replace hv147_1 := Option.some.inj (hv147_1.symm.trans hx147_1)
                        rw [hv147_1] at ge147_1
                        have HL147_1 := Aside0.mk (show Kd.R (Kd.int .u32) 63 _ _ _ _ ((rd_T25 x3_1 x8_2).f1) from ge147_1)
                        clear hv147_1 ge147_1
                        clear hcc147 hce147
                        have HR147_1 := Aside0.mk hi147_1
                        have HC147_1 := Aside0.mk hl147_1
                        clear hi147_1 hl147_1
                        replace p147 := eq_true p147
                        replace q147 := eq_true q147
                        refine start_ (n := 10) (S := fun w' => w'.cell? (ad146.add ((x8_2).toNat * 2)) = some (.bool ((rd_T25 l0 x8_2).f0)) ∧ w'.cell? ⟨(ad146.add ((x8_2).toNat * 2)).block, (ad146.add ((x8_2).toNat * 2)).off + 1, none⟩ = some (.slice A146_1 ((rd_T25 l0 x8_2).f1).length c146_1) ∧ w'.cell? (ad147.add ((x8_2).toNat * 2)) = some (.bool ((rd_T25 x3_1 x8_2).f0)) ∧ w'.cell? ⟨(ad147.add ((x8_2).toNat * 2)).block, (ad147.add ((x8_2).toNat * 2)).off + 1, none⟩ = some (.slice A147_1 ((rd_T25 x3_1 x8_2).f1).length c147_1)) (ds := []) #[false, false, false, false, false, false, false, false, false, false] (by kernel_rfl) rfl rfl ⟨((HB.out.cell (World.block_lt_of_cell? w _ hw146_0)).trans hw146_0), ((HB.out.cell (World.block_lt_of_cell? w _ hw146_1)).trans hw146_1), hx147_0, hx147_1⟩ (fun hHeld => ?_); refine with_tabW morainelaw02_NumGcds.tab19 morainelaw02_NumGcds.bits19 (fun HT_ HW_ => ?_)
                        generalize wr.drew = w45 at HO_3 HO_140001 BK139 HB HL147_1 HR146_1 HR147_1 hx146_0 hx146_1 hx147_0 hx147_1 hHeld ⊢
                        refine pure_ (i := 0) (N := some 60) (v := ?_) (a' := ?_) #[true, false, false, false, false, false, false, false, false, false] rfl rfl (any_of HT_.out (by kernel_rfl)) (fun _ _ _ h => h) (Or.inl ⟨by rfl, ?_⟩) ?_ ?_
                        rotate_left
                        · intro w'
                          go_simp
                          with_reducible rfl
                        rotate_left
                        · simp only [Act.put, List.setIfInBounds_toArray, List.set_cons_zero, List.set_cons_succ, i64_w, i32_w]
                          rfl
                        refine pure_ (i := 1) (N := some 61) (v := ?_) (a' := ?_) #[true, true, false, false, false, false, false, false, false, false] rfl rfl (any_of HT_.out (by kernel_rfl)) (fun _ _ _ h => h) (Or.inl ⟨by rfl, ?_⟩) ?_ ?_
                        rotate_left
                        · intro w'
                          go_simp
                          with_reducible rfl
                        rotate_left
                        · simp only [Act.put, List.setIfInBounds_toArray, List.set_cons_zero, List.set_cons_succ, i64_w, i32_w]
                          rfl
                        refine pure_ (i := 2) (N := some 62) (v := ?_) (a' := ?_) #[true, true, true, false, false, false, false, false, false, false] rfl rfl (any_of HT_.out (by kernel_rfl)) (fun _ _ _ h => h) (Or.inl ⟨by rfl, ?_⟩) ?_ ?_
                        rotate_left
                        · intro w'
                          go_simp
                          with_reducible rfl
                        rotate_left
                        · simp only [Act.put, List.setIfInBounds_toArray, List.set_cons_zero, List.set_cons_succ, i64_w, i32_w]
                          rfl
                        refine pure_ (i := 4) (N := some 64) (v := ?_) (a' := ?_) #[true, true, true, false, true, false, false, false, false, false] rfl rfl (any_of HT_.out (by kernel_rfl)) (fun _ _ _ h => h) (Or.inl ⟨by rfl, ?_⟩) ?_ ?_
                        rotate_left
                        · intro w'
                          go_simp
                          with_reducible rfl
                        rotate_left
                        · simp only [Act.put, List.setIfInBounds_toArray, List.set_cons_zero, List.set_cons_succ, i64_w, i32_w]
                          rfl
                        refine pure_ (i := 5) (N := some 65) (v := ?_) (a' := ?_) #[true, true, true, false, true, true, false, false, false, false] rfl rfl (any_of HT_.out (by kernel_rfl)) (fun _ _ _ h => h) (Or.inl ⟨by rfl, ?_⟩) ?_ ?_
                        rotate_left
                        · intro w'
                          go_simp
                          with_reducible rfl
                        rotate_left
                        · simp only [Act.put, List.setIfInBounds_toArray, List.set_cons_zero, List.set_cons_succ, i64_w, i32_w]
                          rfl
                        refine pure_ (i := 6) (N := some 66) (v := ?_) (a' := ?_) #[true, true, true, false, true, true, true, false, false, false] rfl rfl (any_of HT_.out (by kernel_rfl)) (fun _ _ _ h => h) (Or.inl ⟨by rfl, ?_⟩) ?_ ?_
                        rotate_left
                        · intro w'
                          go_simp
                          with_reducible rfl
                        rotate_left
                        · simp only [Act.put, List.setIfInBounds_toArray, List.set_cons_zero, List.set_cons_succ, i64_w, i32_w]
                          rfl
                        refine take_ (i := 3) (N := some 63) (v := ?_) (a' := ?_) #[true, true, true, true, true, true, true, false, false, false] rfl rfl (take_ofW HT_.out HW_.out (by kernel_rfl)) (fun _ _ _ h => h) (Or.inl ⟨by rfl, ?_⟩) hHeld ?_ ?_
                        rotate_left
                        · rintro w' ⟨s0, s1, s2, s3⟩
                          go_simp
                          with_reducible rfl
                        rotate_left
                        · simp only [Act.put, List.setIfInBounds_toArray, List.set_cons_zero, List.set_cons_succ, i64_w, i32_w]
                          rfl
                        refine take_ (i := 7) (N := some 67) (v := ?_) (a' := ?_) #[true, true, true, true, true, true, true, true, false, false] rfl rfl (take_ofW HT_.out HW_.out (by kernel_rfl)) (fun _ _ _ h => h) (Or.inl ⟨by rfl, ?_⟩) hHeld ?_ ?_
                        rotate_left
                        · rintro w' ⟨s0, s1, s2, s3⟩
                          go_simp
                          with_reducible rfl
                        rotate_left
                        · simp only [Act.put, List.setIfInBounds_toArray, List.set_cons_zero, List.set_cons_succ, i64_w, i32_w]
                          rfl
                        refine one_ (i := 8) (N := some 68) #[true, true, true, true, true, true, true, true, true, false] rfl rfl (one_of HT_.out (by kernel_rfl)) (by decide) (fun K hK => ?_)
                        refine goes_ Tryd.func17 (by kernel_rfl) rfl #[.agg #[.bool ((rd_T25 l0 x8_2).f0), .slice A146_1 ((rd_T25 l0 x8_2).f1).length c146_1], .agg #[.bool ((rd_T25 x3_1 x8_2).f0), .slice A147_1 ((rd_T25 x3_1 x8_2).f1).length c147_1]] (by rfl) rfl rfl (by (try simp only [List.map_toArray, List.map_cons, List.map_nil]); first | done | rfl | (simp only [List.length_drop, List.length_take]; rfl)) ?_
                        with_reducible refine (moraineref02_Same.calls ((rd_T25 l0 x8_2).f0) _ _ ((rd_T25 l0 x8_2).f1) ((rd_T25 x3_1 x8_2).f0) _ _ ((rd_T25 x3_1 x8_2).f1) true _ ?side1 ?side2 ?side3 ?side4 A43.out).mono ?_
                        (case side1 => repeat (first | exact (Kd.C_below HR146_1.out HB.out) | (with_reducible refine Kd.C_alloc ?_ _) | (with_reducible refine Kd.C_drewN ?_ _) | (with_reducible refine Kd.C_drew ?_)))
                        (case side2 => exact HC146_1.out)
                        (case side3 => repeat (first | exact (by repeat (first | (with_reducible exact HR147_1.out) | (with_reducible refine Kd.C_alloc ?_ _) | (with_reducible refine Kd.C_drewN ?_ _) | (with_reducible refine Kd.C_drew ?_) | exact HR147_1.out)) | (with_reducible refine Kd.C_alloc ?_ _) | (with_reducible refine Kd.C_drewN ?_ _) | (with_reducible refine Kd.C_drew ?_)))
                        (case side4 => exact HC147_1.out)
                        rintro e w47 ⟨rfl, hb⟩
                        have HS2_ := (hb.cell (World.block_lt_of_cell? _ _ (hHeld.2.2.1))).trans (hHeld.2.2.1)
                        have HS3_ := (hb.cell (World.block_lt_of_cell? _ _ (hHeld.2.2.2))).trans (hHeld.2.2.2)
                        refine ⟨_, rfl, ?_⟩
                        have n0_ := Aside0.mk (Kd.S_below (by (with_reducible repeat (first | apply Kd.S_alloc | apply Kd.S_drewN | apply Kd.S_drew)); exact HO_3.out) hb)
                        have n1_ := Aside0.mk (Kd.R_below (by (with_reducible repeat (first | apply Kd.R_alloc | apply Kd.R_drewN | apply Kd.R_drew)); exact HO_140001.out) hb)
                        have n2_ := Aside0.mk (Kd.R_below (by (with_reducible repeat (first | apply Kd.R_alloc | apply Kd.R_drewN | apply Kd.R_drew)); exact HL147_1.out) hb)
                        have n3_ := Aside0.mk (blk_below (g := gb139) (o := .cells #[.bool t134, .slice Ao31 t145.length co31] 25 (0, 0)) (by (with_reducible repeat (first | refine blk_drewN ?_ _ | refine blk_drew ?_ | refine blk_alloc ?_ _)); exact BK139.out) hb)
                        have n4_ := Aside0.mk (Kd.C_below (by repeat (first | (with_reducible exact HR147_1.out) | (with_reducible refine Kd.C_alloc ?_ _) | (with_reducible refine Kd.C_drewN ?_ _) | (with_reducible refine Kd.C_drew ?_) | exact HR147_1.out)) hb)
                        have n5_ := Aside0.mk (below_step (by repeat (first | (with_reducible first | exact HB.out | apply below_alloc | apply pw_below_drewN | apply below_drew1 | refine below_set ?_ GE139.out) | exact HB.out)) hb)
                        clear HO_3
                        clear HO_140001
                        clear HL147_1
                        clear BK139
                        clear HR147_1
                        clear HB
                        have HO_3 := n0_
                        have HO_140001 := n1_
                        have HL147_1 := n2_
                        have BK139 := n3_
                        have HR147_1 := n4_
                        have HB := n5_
                        clear n0_ n1_ n2_ n3_ n4_ n5_
                        (try clear hb)
                        (try clear hb2)
                        (try clear hk)
                        (try clear hi)
                        refine hK.out _ _ ⟨((HB.out.cell (World.block_lt_of_cell? w _ hw146_0)).trans hw146_0), ((HB.out.cell (World.block_lt_of_cell? w _ hw146_1)).trans hw146_1), HS2_, HS3_⟩ (fun hHeld => ?_)
                        clear hK K
                        refine norm_ (a' := ?_) ?_ ?_
                        rotate_left
                        · show Act.put _ (some 68) _ = _
                          simp only [Act.put, List.setIfInBounds_toArray, List.set_cons_zero, List.set_cons_succ, i64_w, i32_w]
                          rfl
                        refine pure_ (i := 9) (N := some 69) (v := ?_) (a' := ?_) #[true, true, true, true, true, true, true, true, true, true] rfl rfl (any_of HT_.out (by kernel_rfl)) (fun _ _ _ h => h) (Or.inl ⟨by rfl, ?_⟩) ?_ ?_
                        rotate_left
                        · intro w'
                          go_simp
                          with_reducible rfl
                        rotate_left
                        · simp only [Act.put, List.setIfInBounds_toArray, List.set_cons_zero, List.set_cons_succ, i64_w, i32_w]
                          rfl
                        refine done_ (done_of HT_.out (by kernel_rfl)) ?_
                        try go_wp2
                        (try simp only [← hl140001_2])
                        go_roundg k2
                        case measure => have := HK1.out; have := HK2.out; omega
                        case rel => exact ⟨(wrap64 (x8_2 + 1)), (by first | rfl | (simp; done) | (simp [*]; done)), H', ⟨by have := HK1.out; have := HK2.out; omega⟩, ⟨by (try simp only [hl140001_2]); (with_reducible repeat (first | apply Kd.S_alloc | apply Kd.S_drewN | apply Kd.S_drew)); exact HO_3.out⟩, ⟨by (try simp only [hl140001_2]); (with_reducible repeat (first | apply Kd.R_alloc | apply Kd.R_drewN | apply Kd.R_drew)); exact HO_140001.out⟩, ⟨by (try simp only [hl140001_2]); (with_reducible repeat (first | refine blk_drewN ?_ _ | refine blk_drew ?_ | refine blk_alloc ?_ _)); exact BK139.out⟩, ⟨by repeat (first | (with_reducible first | exact HB.out | apply below_alloc | apply pw_below_drewN | apply below_drew1 | refine below_set ?_ GE139.out) | exact HB.out)⟩⟩
                      · replace c44 := Bool.eq_false_iff.mpr c44
                        subst c44
                        have H1 : (some false) = some r := by rw [if_neg (show ¬ (false = true) by decide)] at H; exact H
                        clear H
                        have H := H1
                        clear H1
                        exact absurd ((Option.some.inj H).trans hr) (by decide)
                    · rw [if_neg c42] at H
                      exact absurd H (by simp)
                  · rw [if_neg c41] at H
                    exact absurd H (by simp)
                · rw [if_neg c40] at H
                  have c40b0 : decide (x8_2 < (l0.length : Int)) = false := decide_eq_false c40
                  clear c40
                  replace H := Option.bind_eq_some_iff.mp H
                  obtain ⟨t149, A480, H⟩ := H
                  replace H : (some t149) = some r := H
                  have A48 := Aside0.mk A480
                  clear A480
                  obtain rfl := Option.some.inj H
                  go_wp2_with (first | ((with_reducible refine gate_callee (f := 20) rfl ?_); refine goesL_ (some 70) rfl rfl Tryd.func20 (by kernel_rfl) rfl #[] rfl (by (try simp only [List.map_toArray, List.map_cons, List.map_nil]); first | done | rfl | (simp only [List.length_drop, List.length_take]; rfl)) ?_; (with_reducible refine (morainelaw02_awake.calls  t149 _ A48.out (NumV.Tab.below HT.out (by repeat (first | exact HB.out | apply below_alloc | apply pw_below_drewN | apply below_drew1 | refine below_set ?_ (Aside0.out (by assumption)))))).mono ?_); rintro e w49 ⟨rfl, hb⟩; refine ⟨_, rfl, ?_⟩; have n0_ := Aside0.mk (Kd.S_below (by (with_reducible repeat (first | apply Kd.S_alloc | apply Kd.S_drewN | apply Kd.S_drew)); exact HO_3.out) hb); have n1_ := Aside0.mk (Kd.R_below (by (with_reducible repeat (first | apply Kd.R_alloc | apply Kd.R_drewN | apply Kd.R_drew)); exact HO_140001.out) hb); have n2_ := Aside0.mk (blk_below (g := gb139) (o := .cells #[.bool t134, .slice Ao31 t145.length co31] 25 (0, 0)) (by (with_reducible repeat (first | refine blk_drewN ?_ _ | refine blk_drew ?_ | refine blk_alloc ?_ _)); exact BK139.out) hb); have n3_ := Aside0.mk (below_step (by repeat (first | (with_reducible first | exact HB.out | apply below_alloc | apply pw_below_drewN | apply below_drew1 | refine below_set ?_ GE139.out) | exact HB.out)) hb); clear HO_3; clear HO_140001; clear BK139; clear HB; have HO_3 := n0_; have HO_140001 := n1_; have BK139 := n2_; have HB := n3_; clear n0_ n1_ n2_ n3_; (try clear hb); (try clear hb2); (try clear hk); (try clear hi)))
                  go_ret
                  exact ⟨by first | rfl | (simp [errW_none, errW_some] <;> rfl) | (simp [*, errW_none, errW_some] <;> rfl), by repeat (first | (with_reducible first | exact HB.out | apply below_alloc | apply pw_below_drewN | apply below_drew1 | refine below_set ?_ GE139.out) | exact HB.out)⟩
          · replace c26 := Bool.eq_false_iff.mpr c26
            subst c26
            have H1 : (some false) = some r := by rw [if_neg (show ¬ (false = true) by decide)] at H; exact H
            clear H
            have H := H1
            clear H1
            exact absurd ((Option.some.inj H).trans hr) (by decide)
end Go.Proofs.YthhpnlbeniihhaaDoor.PNumGcds
namespace Go.Proofs.YthhpnlbeniihhaaDoor.PureGcds
open Go.RowKit Go.Proofs.YthhpnlbeniihhaaDoorW.PrintWords Go.Proofs.YthhpnlbeniihhaaDoorW.PrintLast Go.Proofs.YthhpnlbeniihhaaDoorW.PrintMore Go.Proofs.YthhpnlbeniihhaaDoor Go.Proofs.YthhpnlbeniihhaaDoor.Limb Go.Proofs.YthhpnlbeniihhaaDoor.Bit Go.Proofs.YthhpnlbeniihhaaDoor.NumA Go.Proofs.YthhpnlbeniihhaaDoor.NumB Go.Proofs.YthhpnlbeniihhaaDoor.NumG Go.Proofs.YthhpnlbeniihhaaDoor.NumJ Go.Proofs.YthhpnlbeniihhaaDoor.NumS Go.Proofs.YthhpnlbeniihhaaDoor.Vals Go.Proofs.YthhpnlbeniihhaaDoor.Plain Go.Proofs.YthhpnlbeniihhaaDoor.Raw Go.Proofs.YthhpnlbeniihhaaDoor.Ref Go.Proofs.YthhpnlbeniihhaaDoor.RefC Go.Proofs.YthhpnlbeniihhaaDoor.PNumGcds
set_option linter.unusedVariables false
set_option linter.unusedSimpArgs false
theorem spoil_from (a : Bool) (d : Nat) : ∀ (i k : Nat) (l : List Int), i + d = l.length → d < k → l.length < 1073741824 → ∃ r, morainelaw02_spoil.l0 k (i : Int) a l = some r := by
  induction d with
  | zero =>
    intro i k l hi hk hl
    obtain ⟨k, rfl⟩ : ∃ j, k = j + 1 := ⟨k - 1, by omega⟩
    rw [morainelaw02_spoil.l0, if_neg (by omega)]
    exact ⟨_, rfl⟩
  | succ d ih =>
    intro i k l hi hk hl
    obtain ⟨k, rfl⟩ : ∃ j, k = j + 1 := ⟨k - 1, by omega⟩
    rw [morainelaw02_spoil.l0, if_pos (by omega), if_pos (by omega), show wrap64 ((i : Int) + 1) = ((i + 1 : Nat) : Int) by unfold wrap64; omega]
    exact ih (i + 1) k _ (by rw [List.length_set]; omega) (by omega) (by rw [List.length_set]; exact hl)
theorem spoil_some (a : Bool) (l : List Int) (k : Nat) (hk : l.length < k) (hl : l.length < 1073741824) : ∃ r, morainelaw02_spoil.f k a l = some r := spoil_from a l.length 0 k l (by omega) hk hl
theorem is_at {z : Int} (h : (vl z).length < 1073741824) : morainelaw02_is.f (mkI z).1 (mkI z).2.1 (mkI z).2.2 (vb z) (vl z) = some true := by
  unfold morainelaw02_is.f
  rw [num_at h, bsome, if_pos rfl, same_self _ _ (okN_mkI z).2, bsome]
theorem len_mkI (z : Int) : (mkI z).2.1.length ≤ 48 := by
  by_cases h : Fits z
  · rw [mkI_fits h]; exact len_sl h
  · rw [mkI_big h]; decide
theorem rd_at (l : List S25) (i : Nat) (h : i < l.length) : rd_T25 l (i : Int) = l[i] := by
  unfold rd_T25
  rw [Int.toNat_natCast, List.getD_eq_getElem?_getD, List.getElem?_eq_getElem h]
  rfl
/-- A number's value, as the reference's. -/
def toV (x : S25) : S34 := ⟨vb (val x.f0 x.f1), vl (val x.f0 x.f1)⟩
theorem gcd_same (l : List S25) : gcdB (l.map toV) = gcdL (l.map (fun x => (x.f0, x.f1))) := by
  unfold gcdB gcdL
  rw [List.foldl_map, List.foldl_map]
  have e : (fun (g : Nat) (x : S25) => Nat.gcd g (bv (toV x).f1)) = (fun (g : Nat) (x : S25) => Nat.gcd g (mag (x.f0, x.f1).2)) := by
    funext g x
    show Nat.gcd g (bv (vl (val x.f0 x.f1))) = Nat.gcd g (mag x.f1)
    rw [bv_vl, natAbs_val]
  rw [e]
theorem gcd_bound (l : List S25) (K : Nat) (h : ∀ x ∈ l, mag x.f1 < K) : ∀ g, g < K → (l.map (fun x : S25 => (x.f0, x.f1))).foldl (fun g x => Nat.gcd g (mag x.2)) g < K := by
  induction l with
  | nil => intro g hg; exact hg
  | cons x l ih =>
    intro g hg
    refine ih (fun y hy => h y (List.mem_cons_of_mem _ hy)) _ ?_
    have hx := h x List.mem_cons_self
    by_cases h0 : mag x.f1 = 0
    · show Nat.gcd g (mag x.f1) < K
      rw [h0, Nat.gcd_zero_right]; exact hg
    · exact Nat.lt_of_le_of_lt (Nat.gcd_le_right _ (Nat.pos_of_ne_zero h0)) hx
theorem loop1 (l : List S25) (hl : l.length ≤ 8) (hok : ∀ x ∈ l, okN x.f1) (d : Nat) : ∀ (i k : Nat), i + d = l.length → d < k → morainelaw02_NumGcds.l1 k l l (i : Int) = some true := by
  induction d with
  | zero =>
    intro i k hi hk
    obtain ⟨k, rfl⟩ : ∃ j, k = j + 1 := ⟨k - 1, by omega⟩
    rw [morainelaw02_NumGcds.l1, if_neg (by omega)]
    exact aw
  | succ d ih =>
    intro i k hi hk
    obtain ⟨k, rfl⟩ : ∃ j, k = j + 1 := ⟨k - 1, by omega⟩
    have hlt : i < l.length := by omega
    rw [morainelaw02_NumGcds.l1, if_pos (by omega), if_pos (by omega), if_pos (by omega), rd_at l i hlt, same_self _ _ (hok _ (List.getElem_mem hlt)).2, bsome, if_pos rfl, show wrap64 ((i : Int) + 1) = ((i + 1 : Nat) : Int) by unfold wrap64; omega]
    exact ih (i + 1) k (by omega) (by omega)
theorem loop0 (l : List S25) (hl : l.length ≤ 8) (ok : ∀ x ∈ l, OkL x.f1) (d : Nat) : ∀ (i k : Nat), i + d = l.length → d + 60 ≤ k → (∀ x ∈ l.take i, x.f1.length ≤ 60) → morainelaw02_NumGcds.l0 k l (l.take i) ((l.take i).map toV) (i : Int) = some true := by
  induction d with
  | zero =>
    intro i k hi hk hf
    obtain ⟨k, rfl⟩ : ∃ j, k = j + 1 := ⟨k - 1, by omega⟩
    obtain rfl : i = l.length := by omega
    rw [List.take_length] at hf ⊢
    have hok : ∀ x ∈ l, okN x.f1 := fun x hx => ⟨ok x hx, by have := hf x hx; omega⟩
    have hb : ∀ x ∈ l, mag x.f1 < 4294967296 ^ 60 := fun x hx => Nat.lt_of_lt_of_le (mag_lt (ok x hx)) (Nat.pow_le_pow_right (by decide) (hf x hx))
    have hG : gcdL (l.map (fun x => (x.f0, x.f1))) < 4294967296 ^ 60 := gcd_bound l _ hb 0 (Nat.pow_pos (by decide))
    have e1 : PNumGcds.num_Gcd.f l = some (mkI ((gcdL (l.map (fun x => (x.f0, x.f1))) : Nat) : Int)) := by
      unfold PNumGcds.num_Gcd.f
      show Go.Proofs.YthhpnlbeniihhaaDoor.num_Gcd.f (l.map (fun x => (x.f0, x.f1))) = _
      unfold Go.Proofs.YthhpnlbeniihhaaDoor.num_Gcd.f
      rw [if_pos (by
        intro p hp
        obtain ⟨x, hx, rfl⟩ := List.mem_map.mp hp
        exact hok x hx)]
    have e2 : PNumGcds.moraineref02_Gcd.f (l.map toV) = some (vb ((gcdL (l.map (fun x => (x.f0, x.f1))) : Nat) : Int), vl ((gcdL (l.map (fun x => (x.f0, x.f1))) : Nat) : Int)) := by
      unfold PNumGcds.moraineref02_Gcd.f
      rw [if_pos (by
        intro p hp
        obtain ⟨x, hx, rfl⟩ := List.mem_map.mp hp
        refine ⟨?_, ?_⟩
        · show vl (val x.f0 x.f1) = Bit.bits (bv (vl (val x.f0 x.f1)))
          rw [bv_vl]; rfl
        · have : (vl (val x.f0 x.f1)).length ≤ 32 * 60 := vlen (val_lt (ok x hx) (hf x hx))
          show (vl (val x.f0 x.f1)).length < 1073741824
          omega), gcd_same]
      generalize gcdL (l.map (fun x => (x.f0, x.f1))) = G
      have h1 : vb (G : Int) = false := decide_eq_false (by omega)
      have h2 : vl (G : Int) = Bit.bits G := by unfold vl; rw [Int.natAbs_natCast]
      rw [h1, h2]
    generalize gcdL (l.map (fun x => (x.f0, x.f1))) = G at *
    have hv : (vl (G : Int)).length ≤ 32 * 60 := vlen (by rw [Int.natAbs_natCast]; exact hG)
    obtain ⟨r, hr⟩ := spoil_some (mkI (G : Int)).1 (mkI (G : Int)).2.1 k (by have := len_mkI (G : Int); omega) (okN_mkI _).2
    rw [morainelaw02_NumGcds.l0, if_neg (by omega), e1, bsome, e2, bsome]
    dsimp only
    rw [is_at (by omega), bsome, if_pos rfl, hr, bsome]
    exact loop1 l hl hok l.length 0 k (by omega) (by omega)
  | succ d ih =>
    intro i k hi hk hf
    obtain ⟨k, rfl⟩ : ∃ j, k = j + 1 := ⟨k - 1, by omega⟩
    have hlt : i < l.length := by omega
    rw [morainelaw02_NumGcds.l0, if_pos (by omega), if_pos (by omega), rd_at l i hlt]
    unfold morainelaw02_long.f
    rw [bsome]
    by_cases h60 : (l[i].f1.length : Int) > 60
    · rw [if_pos (decide_eq_true h60)]
      exact aw
    · have kl : okN l[i].f1 := ⟨ok _ (List.getElem_mem hlt), by omega⟩
      rw [if_neg (by simpa using h60), copy_raw kl, bsome, if_pos (by rw [List.length_take]; omega), value_raw kl, bsome, if_pos (by rw [List.length_map, List.length_take]; omega), show wrap64 ((i : Int) + 1) = ((i + 1 : Nat) : Int) by unfold wrap64; omega]
      have hn := ih (i + 1) k (by omega) (by omega) (by
        intro x hx
        rw [List.take_succ_eq_append_getElem hlt] at hx
        rcases List.mem_append.mp hx with hx | hx
        · exact hf x hx
        · rw [List.mem_singleton] at hx
          subst hx
          omega)
      rw [List.take_succ_eq_append_getElem hlt, List.map_append] at hn
      exact hn
theorem pure (l : List S25) (ok : ∀ x ∈ l, OkL x.f1) : morainelaw02_NumGcds.f 70 l = some true := by
  unfold morainelaw02_NumGcds.f
  by_cases h : (l.length : Int) > 8
  · rw [if_pos h]; exact aw
  · rw [if_neg h]
    exact loop0 l (by omega) ok l.length 0 70 (by omega) (by omega) (by intro x hx; simp at hx)
end Go.Proofs.YthhpnlbeniihhaaDoor.PureGcds
namespace Go.Proofs.YthhpnlbeniihhaaDoor.numGcds
open Go.ChangeShapes Go.WideShapes Go.ChangeAt Go.RowKit Go.Proofs.YthhpnlbeniihhaaDoor.Limb Go.Proofs.YthhpnlbeniihhaaDoor.Row
open Go.ChangeMaps (open_string shut_string)
set_option linter.unusedVariables false
theorem own : ownKnob Tryd.prog.godebug = none := by kernel_rfl
set_option maxRecDepth 100000 in
theorem contract (H : Type) (enc : TypeId × Value → H) (W : World) (base : Nat) (args : Array Value) (ds gs : List (DataW H)) (before : List MemPlace)
    (hval : ∀ (j : Nat) t v, Tryd.f7.params[j]? = some t → args[j]? = some v → Value.okWide Tryd.prog W .any base t v)
    (hW : DataW.Whole enc Tryd.prog Tryd.f7.params.toList Rows.numGcdsSpec.vars false W args.toList ds gs before)
    (hsz0 : (DataW.weightsEach Tryd.prog (Tryd.f7.params.toList ++ Rows.numGcdsSpec.plain.varTypes Tryd.prog) (ds ++ gs)).all (· ≤ reachBytes) = true) (hL : laidMetH Tryd.prog Rows.numGcdsRow.laid W) :
    Calls Tryd.prog 7 args W fun e W' => ∃ v, e = .returned v ∧ Rows.numGcdsSpec.post enc Tryd.prog Tryd.f7 false true false false W args v W' := by
  have ht : NumV.Tab W := tab hL
  have hsz : (DataW.weightsEach Tryd.prog (Tryd.f7.params.toList ++ Rows.numGcdsSpec.plain.varTypes Tryd.prog) (ds ++ gs)).all (· ≤ reachBytes) = true := hsz0
  have hW' := hW
  obtain ⟨p, q, hA0, hV, rfl, hfz, hnd⟩ := hW
  have hA : DataW.TrodAll enc Tryd.prog W 0 (fun _ => true) true Tryd.f7.params.toList args.toList ds p := hA0
  rw [Tryd.params7] at hA hval hsz
  obtain ⟨v0, vs0, d0, ds0, p0, q0, hargs, rfl, rfl, h0, r0⟩ := trodAll_cons hA
  obtain ⟨rfl, rfl, rfl⟩ := trodAll_nil r0
  obtain rfl : args = #[v0] := by cases args; simp_all
  obtain ⟨rfl, rfl⟩ := trodVars_none hV
  have k0 := h0
  have lt0 : ∀ x ∈ p0, x.block < W.heap.size := by obtain ⟨m, hm⟩ := k0; exact DataW.trod_lt m _ _ _ hm
  obtain ⟨A0, c0, l0, rfl, ok0, hc0, hr0⟩ := open_nums (hval 0 48 v0 rfl rfl) h0
  refine (PNumGcds.morainelaw02_NumGcds.calls 70 A0 c0 l0 true W rfl hr0 hc0 (PureGcds.pure l0  ok0) ht).mono fun e W' ⟨he, bel⟩ => ?_
  subst he
  exact ⟨_, rfl, _, _, _, [], _, [], hW', trodAll_mk1 (shut_bool Tryd.underlying4 _), (trodAll_cons_mk (Below.trod laidOut (by kernel_rfl) (of_decide_eq_true (by kernel_rfl)) k0 bel lt0) trodAll_mk0), rfl, bel.frame _, fun h => by cases h⟩
theorem reads (os : Os) {H : Type} (enc : TypeId × Value → H) : ∃ places, DataW.whole enc Tryd.prog ((laidWorld os).forCall (fun _ _ => 0) ⟨#[], #[.slice none 0 0], []⟩).memory Tryd.f7.params.toList Rows.numGcdsSpec.vars false (#[.slice none 0 0] : Array Value).toList 8 = some ([.nil], [], places) :=
  ⟨[], by kernel_rfl⟩
set_option maxRecDepth 100000 in
theorem lifted (os : Os) (started : os.Started) (H : Type) (enc : TypeId × Value → H) (F : Stop.Interp) :
    ReturnsInHanded {} Tryd.checked os 7 .any ((OpenSpec.ofChange Rows.numGcdsSpec).preRow enc Tryd.prog Tryd.f7 Rows.numGcdsRow.domain false Rows.numGcdsRow.laid) (((OpenSpec.ofChange Rows.numGcdsSpec).at F).post enc Tryd.prog Tryd.f7 false true false false) := by
  obtain ⟨places, hx⟩ := reads os enc
  refine returnsInHanded_of_row (C := Tryd.checked) (s := OpenSpec.ofChange Rows.numGcdsSpec) own started (by kernel_rfl) Tryd.func7
    (witness_row_at (enc := enc) (C := Tryd.checked) false (laidWorld os) #[.slice none 0 0] rfl (by kernel_rfl) (by kernel_rfl) (by kernel_rfl)
      (OpenSpec.preRow_of_cond 8 hx (by kernel_rfl) (fun k hk => by cases hk) (by kernel_rfl) (laid_met os _))) ?_
  intro W base args ds gs before hval hW _ _ hsz hL _ _
  exact contract H enc W base args ds gs before hval hW hsz hL
theorem said : Rows.NumGcdsSaid :=
  OpenClaim.holds_of_cond 7 Tryd.f7 rfl rfl rfl rfl rfl rfl rfl ⟨rfl, rfl, rfl, rfl, rfl⟩ rfl rfl rfl rfl rfl (by kernel_rfl) Tryd.func7 (by kernel_rfl)
    (of_decide_eq_true (by kernel_rfl)) (by unfold Func.isWrapper; first | (rw [if_pos (by decide +kernel)]; kernel_rfl) | (rw [if_neg (by decide +kernel)]; exact ⟨rfl, rfl⟩))
    (fun os started H enc _ F => by rw [OpenClaim.pre_eq_preRow]; exact lifted os started H enc F)
theorem plain (f : FuncId) (fn : Func) (hf : Tryd.pinned.checked.prog.funcNamed "moraine/morainelaw02.NumGcds" = some f) (hfn : Tryd.pinned.checked.prog.funcs[f]? = some fn) :
    false = Tryd.pinned.checked.prog.looks [] ∧ ∀ (j : Nat) t, fn.params[j]? = some t → Tryd.pinned.checked.prog.wantsStandIn t = false := by
  obtain rfl : f = 7 := Option.some.inj ((show Tryd.prog.funcNamed "moraine/morainelaw02.NumGcds" = some 7 by kernel_rfl).symm.trans hf) |>.symm
  obtain rfl : fn = Tryd.f7 := (Option.some.inj (Tryd.func7.symm.trans hfn)).symm
  refine ⟨by kernel_rfl, fun j t ht => ?_⟩
  rw [Tryd.params7] at ht
  have hm : t ∈ (#[48] : Array TypeId) := Array.mem_of_getElem? ht
  obtain rfl : t = 48 := by simpa using hm
  exact (show Tryd.prog.wantsStandIn 48 = false by kernel_rfl)
/-- The tied card. -/
theorem card : Rows.NumGcdsCardSaid :=
  Claim7.holds_tied_plain_at .later [] _ _ _ _ said (fun _ h => by cases h) (by kernel_rfl) (fun _ h => by cases h) numGcds_row_tie rfl ⟨rfl, rfl⟩ (by kernel_rfl) rfl plain (by kernel_rfl)
end Go.Proofs.YthhpnlbeniihhaaDoor.numGcds
namespace Go.Proofs.YthhpnlbeniihhaaDoor
/-- Of any list of numbers: the greatest number that divides all is the document's (law NumGcds). -/
theorem numGcds_holds : Rows.NumGcdsCardSaid := numGcds.card
end Go.Proofs.YthhpnlbeniihhaaDoor
