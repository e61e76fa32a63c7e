/- Contracts and plain laws that the row's proof uses (part 4). Conditions: those that each states. -/
import Derived.Test.YthhpnlbeniihhaaDoorProg
import Derived.Below
import Derived.Deep.Draws
import Derived.Deep.AppendLies
import Derived.Maps.AppendAt
import Derived.OwnWalk
import Derived.Laws.BytesArg
import Derived.Laws.MakeOwn
import Derived.Laws.OwnMore
import Derived.Deep.OwnRows
import Derived.Tactics
import Derived.Lib.ConvBytes
import Derived.Laws.Slices
import Derived.WalkKit
import Derived.KernelRfl
import Derived.RowKit3
import Derived.Deep.LoopGhost
import Derived.Deep.QuietTactic
import Derived.BigQuiet
import Derived.WideLaws
import Derived.Deep.DeepCutAuto
import Derived.Deep.CutBlock
import Derived.Deep.RegionHeld3
import Derived.Laws.Rows
import Derived.Lib.AppendStr
import Derived.ArgAppend
import Derived.Laws.IdiomCopy
import Derived.OrdersHeld
import Derived.Laws.BitsLemmas
import Derived.RowKit
import Derived.Test.YthhpnlbeniihhaaDoorCNumDivides3
-- Printed by a program of this session's (wip/tools/printr.py, over the kit's print program).
namespace Go.Proofs.YthhpnlbeniihhaaDoor.PRef
open Go.RowKit Go.Proofs.YthhpnlbeniihhaaDoorW.PrintWords Go.Proofs.YthhpnlbeniihhaaDoorW.PrintLast Go.Proofs.YthhpnlbeniihhaaDoorW.PrintMore
attribute [local go_sem] max2_int min2_int max_two min_two max_three min_three max_four min_four   -- for this text's walks alone
set_option linter.unusedVariables false
set_option linter.unusedSimpArgs false
def moraineref02_Add.f (k : Nat) (a0_0 : Bool) (l0_1 : List Int) (a1_0 : Bool) (l1_1 : List Int) : Option (Bool × List Int) := if (a0_0 == a1_0) = true then ((moraineref02_plus.f k l0_1 l1_1).bind fun t300 => ((moraineref02_value.f k a0_0 t300).bind fun bt303 => (some (bt303.1, bt303.2)))) else ((moraineref02_less.f k l0_1 l1_1).bind fun t307 => (if t307 = true then ((moraineref02_minus.f k l1_1 l0_1).bind fun t308 => ((moraineref02_value.f k a1_0 t308).bind fun bt311 => (some (bt311.1, bt311.2)))) else ((moraineref02_minus.f k l0_1 l1_1).bind fun t315 => ((moraineref02_value.f k a0_0 t315).bind fun bt318 => (some (bt318.1, bt318.2))))))
def moraineref02_Add.T2 : Bool × List (List Nat × List Nat) := (true, [([], []), ([0], [0]), ([], []), ([2], [2]), ([], []), ([4], [4]), ([3, 5], [3, 5]), ([1, 6, 6], [1, 6]), ([7, 7, 0, 1, 2, 3, 4, 5, 6, 7], [7])])
def moraineref02_Add.B2 : List Nat := [0, 1, 0, 4, 0, 16, 60, 127, 255]
theorem moraineref02_Add.tab2 : rtab .any (opsOf Tryd.f45 2) = moraineref02_Add.T2 := by kernel_rfl
theorem moraineref02_Add.bits2 : waitsOk moraineref02_Add.T2.2 moraineref02_Add.B2 = true := by kernel_rfl
def moraineref02_Add.T4 : Bool × List (List Nat × List Nat) := (true, [([], []), ([0], [0]), ([], []), ([2], [2]), ([], []), ([4], [4]), ([3, 5], [3, 5]), ([1, 6, 6], [1, 6]), ([7, 7, 0, 1, 2, 3, 4, 5, 6, 7], [7])])
def moraineref02_Add.B4 : List Nat := [0, 1, 0, 4, 0, 16, 60, 127, 255]
theorem moraineref02_Add.tab4 : rtab .any (opsOf Tryd.f45 4) = moraineref02_Add.T4 := by kernel_rfl
theorem moraineref02_Add.bits4 : waitsOk moraineref02_Add.T4.2 moraineref02_Add.B4 = true := by kernel_rfl
def moraineref02_Add.T5 : Bool × List (List Nat × List Nat) := (true, [([], []), ([0], [0]), ([], []), ([2], [2]), ([], []), ([4], [4]), ([3, 5], [3, 5]), ([1, 6, 6], [1, 6]), ([7, 7, 0, 1, 2, 3, 4, 5, 6, 7], [7])])
def moraineref02_Add.B5 : List Nat := [0, 1, 0, 4, 0, 16, 60, 127, 255]
theorem moraineref02_Add.tab5 : rtab .any (opsOf Tryd.f45 5) = moraineref02_Add.T5 := by kernel_rfl
theorem moraineref02_Add.bits5 : waitsOk moraineref02_Add.T5.2 moraineref02_Add.B5 = true := by kernel_rfl
set_option maxHeartbeats 8000000 in
set_option maxRecDepth 100000 in
theorem moraineref02_Add.calls (k : Nat) (a0_0 : Bool) (A0_1 : Option Addr) (c0_1 : Nat) (l0_1 : List Int) (a1_0 : Bool) (A1_1 : Option Addr) (c1_1 : Nat) (l1_1 : List Int) (r1 : Bool) (r2 : List Int) (w : World) (hr0_1 : Kd.C (Kd.int .u8) w A0_1 l0_1.length l0_1) (hc0_1 : l0_1.length ≤ c0_1) (hr1_1 : Kd.C (Kd.int .u8) w A1_1 l1_1.length l1_1) (hc1_1 : l1_1.length ≤ c1_1) (h : moraineref02_Add.f k a0_0 l0_1 a1_0 l1_1 = some (r1, r2)) :
  Calls Tryd.prog 45 #[.agg #[.bool a0_0, .slice A0_1 l0_1.length c0_1], .agg #[.bool a1_0, .slice A1_1 l1_1.length c1_1]] w fun e w' => ∃ v1_ : Value, e = .returned (.agg #[.bool r1, v1_]) ∧ Kd.R (Kd.int .u8) 5 w' w.heap.size (fun _ => True) v1_ r2 ∧ Below w.heap.size w w' := by
 have hu34 := Tryd.underlying34
 have HR0_1 := Aside0.mk hr0_1
 have HC0_1 := Aside0.mk hc0_1
 clear hr0_1 hc0_1
 have HR1_1 := Aside0.mk hr1_1
 have HC1_1 := Aside0.mk hc1_1
 clear hr1_1 hc1_1
 have HB := Aside0.mk (Below.refl w.heap.size w)
 have H : (if (a0_0 == a1_0) = true then ((moraineref02_plus.f k l0_1 l1_1).bind fun t300 => ((moraineref02_value.f k a0_0 t300).bind fun bt303 => (some (bt303.1, bt303.2)))) else ((moraineref02_less.f k l0_1 l1_1).bind fun t307 => (if t307 = true then ((moraineref02_minus.f k l1_1 l0_1).bind fun t308 => ((moraineref02_value.f k a1_0 t308).bind fun bt311 => (some (bt311.1, bt311.2)))) else ((moraineref02_minus.f k l0_1 l1_1).bind fun t315 => ((moraineref02_value.f k a0_0 t315).bind fun bt318 => (some (bt318.1, bt318.2))))))) = some (r1, r2) := h
 clear h
 by_cases c3 : (a0_0 == a1_0) = true
 ·rw [if_pos c3] at H
  have c3b0 : (a0_0 == a1_0) = true := c3
  (try (have c3b1 : decide (a0_0 = a1_0) = true := by simpa using c3))
  (try (have c3b2 : (a0_0 == a1_0) = true := by simpa using c3))
  clear c3
  replace H := Option.bind_eq_some_iff.mp H
  obtain ⟨t300, A40, H⟩ := H
  replace H : ((moraineref02_value.f k a0_0 t300).bind fun bt303 => (some (bt303.1, bt303.2))) = some (r1, r2) := H
  have A4 := Aside0.mk A40
  clear A40
  replace H := Option.bind_eq_some_iff.mp H
  obtain ⟨⟨t303, t304⟩, A50, H⟩ := H
  replace H : (some (t303, t304)) = some (r1, r2) := H
  have A5 := Aside0.mk A50
  clear A50
  simp only [Option.some.injEq, Prod.mk.injEq] at H
  obtain ⟨rfl, rfl⟩ := H
  go_enter Tryd.func45, Tryd.ntmps45
  try go_wp2_with (first | ((with_reducible refine gate_dst (N := 2) rfl ?_); refine box_event ?hg (N := 2) ?hd (cs := #[.bool a0_0, .slice A0_1 l0_1.length c0_1]) (t := 34) ?hr ?_; (case hd => rfl); (case hg => rfl); (case hr => go_simp <;> rfl); intro gb297 hg w6 hbox hb; have BK297 := Aside0.mk (hbox); have GW297 := qg hg (by repeat (first | (with_reducible first | exact HB.out | apply qx | apply qv | apply qw) | exact HB.out)); have GE297 := GW297; replace HB := Aside0.mk (below_step (by repeat (first | (with_reducible first | exact HB.out | apply qx | apply qv | apply qw) | exact HB.out)) hb); clear hb hbox hg) | ((with_reducible refine gate_dst (N := 3) rfl ?_); refine box_event ?hg (N := 3) ?hd (cs := #[.bool a1_0, .slice A1_1 l1_1.length c1_1]) (t := 34) ?hr ?_; (case hd => rfl); (case hg => rfl); (case hr => go_simp <;> rfl); intro gb298 hg w7 hbox hb; have BK298 := Aside0.mk (hbox); have GW298 := qg hg (by repeat (first | (with_reducible first | exact HB.out | apply qx | apply qv | apply qw | refine below_set ?_ GE297.out) | exact HB.out)); have GE298 := GW298; replace HB := Aside0.mk (below_step (by repeat (first | (with_reducible first | exact HB.out | apply qx | apply qv | apply qw | refine below_set ?_ GE297.out) | exact HB.out)) hb); have NB297_298 := qn BK297 hg; have NB298_297 := qm BK297 hg; replace BK297 := qb BK297 hb; clear hb hbox hg) | ((with_reducible refine gate_dst (N := 4) rfl ?_); refine box_event ?hg (N := 4) ?hd (cs := #[.bool false, .slice none 0 0]) (t := 34) ?hr ?_; (case hd => rfl); (case hg => rfl); (case hr => go_simp <;> rfl); intro gb299 hg w8 hbox hb; have BK299 := Aside0.mk (hbox); have GW299 := qg hg (by repeat with_reducible first|exact HB.out|apply qx|apply qv|apply qw|refine qs ?_ (by assumption)); have GE299 := GW299; replace HB := Aside0.mk (below_step (by repeat with_reducible first|exact HB.out|apply qx|apply qv|apply qw|refine qs ?_ (by assumption)) hb); have NB297_299 := qn BK297 hg; have NB299_297 := qm BK297 hg; replace BK297 := qb BK297 hb; have NB298_299 := qn BK298 hg; have NB299_298 := qm BK298 hg; replace BK298 := qb BK298 hb; clear hb hbox hg; have hnb9 := NB297_298.out; have hnc9 := NB298_297.out; have hnb10 := NB297_299.out; have hnc10 := NB299_297.out; have hcz11_0 : w8.cell? ⟨gb297, 0, none⟩ = some (.bool a0_0) := qc BK297 0; have hcz11_1 : w8.cell? ⟨gb297, 1, none⟩ = some (.slice A0_1 l0_1.length c0_1) := qc BK297 1; have hfz11_0 := blk_frozen BK297.out 0; have hfz11_1 := blk_frozen BK297.out 1; have hnb12 := NB298_299.out; have hnc12 := NB299_298.out; have hcz13_0 : w8.cell? ⟨gb298, 0, none⟩ = some (.bool a1_0) := qc BK298 0; have hcz13_1 : w8.cell? ⟨gb298, 1, none⟩ = some (.slice A1_1 l1_1.length c1_1) := qc BK298 1; have hfz13_0 := blk_frozen BK298.out 0; have hfz13_1 := blk_frozen BK298.out 1))
  replace BK297 := Aside0.mk (blk_drew BK297.out)
  replace BK298 := Aside0.mk (blk_drew BK298.out)
  replace BK299 := Aside0.mk (blk_drew BK299.out)
  replace HB := Aside0.mk (below_drew1 HB.out)
  refine start_ (n := 9) (S := fun w' => w'.cell? ⟨gb297, 0, none⟩ = some (.bool a0_0) ∧ w'.cell? ⟨gb297, 1, none⟩ = some (.slice A0_1 l0_1.length c0_1) ∧ w'.cell? ⟨gb298, 0, none⟩ = some (.bool a1_0) ∧ w'.cell? ⟨gb298, 1, none⟩ = some (.slice A1_1 l1_1.length c1_1)) (ds := []) #[false, false, false, false, false, false, false, false, false] (by kernel_rfl) rfl rfl ⟨qc BK297 0, qc BK297 1, qc BK298 0, qc BK298 1⟩ (fun hHeld => ?_); refine with_tabW moraineref02_Add.tab2 moraineref02_Add.bits2 (fun HT_ HW_ => ?_)
  generalize w8.drew = w14 at BK297 BK298 BK299 HB hHeld ⊢
  refine pure_ (i := 0) (N := some 10) (v := ?_) (a' := ?_) #[true, false, false, false, false, false, false, false, false] rfl rfl (any_of HT_.out (by kernel_rfl)) (fun _ _ _ h => h) (Or.inl ⟨by rfl, ?_⟩) ?_ ?_
  rotate_left
  ·intro w'
   go_simp
   with_reducible rfl
  rotate_left
  ·simp only [Act.put, zA, zB, zC, i64_w, i32_w]
   rfl
  refine pure_ (i := 2) (N := some 12) (v := ?_) (a' := ?_) #[true, false, true, false, false, false, false, false, false] rfl rfl (any_of HT_.out (by kernel_rfl)) (fun _ _ _ h => h) (Or.inl ⟨by rfl, ?_⟩) ?_ ?_
  rotate_left
  ·intro w'
   go_simp
   with_reducible rfl
  rotate_left
  ·simp only [Act.put, zA, zB, zC, i64_w, i32_w]
   rfl
  refine pure_ (i := 4) (N := some 14) (v := ?_) (a' := ?_) #[true, false, true, false, true, false, false, false, false] rfl rfl (any_of HT_.out (by kernel_rfl)) (fun _ _ _ h => h) (Or.inl ⟨by rfl, ?_⟩) ?_ ?_
  rotate_left
  ·intro w'
   go_simp
   with_reducible rfl
  rotate_left
  ·simp only [Act.put, zA, zB, zC, i64_w, i32_w]
   rfl
  refine take_ (i := 1) (N := some 11) (v := ?_) (a' := ?_) #[true, true, true, false, true, false, false, false, false] rfl rfl (take_ofW HT_.out HW_.out (by kernel_rfl)) (fun _ _ _ h => h) (Or.inl ⟨by rfl, ?_⟩) hHeld ?_ ?_
  rotate_left
  ·rintro w' ⟨s0, s1, s2, s3⟩
   go_simp
   with_reducible rfl
  rotate_left
  ·simp only [Act.put, zA, zB, zC, i64_w, i32_w]
   rfl
  refine take_ (i := 3) (N := some 13) (v := ?_) (a' := ?_) #[true, true, true, true, true, false, false, false, false] rfl rfl (take_ofW HT_.out HW_.out (by kernel_rfl)) (fun _ _ _ h => h) (Or.inl ⟨by rfl, ?_⟩) hHeld ?_ ?_
  rotate_left
  ·rintro w' ⟨s0, s1, s2, s3⟩
   go_simp
   with_reducible rfl
  rotate_left
  ·simp only [Act.put, zA, zB, zC, i64_w, i32_w]
   rfl
  refine take_ (i := 5) (N := some 15) (v := ?_) (a' := ?_) #[true, true, true, true, true, true, false, false, false] rfl rfl (take_ofW HT_.out HW_.out (by kernel_rfl)) (fun _ _ _ h => h) (Or.inl ⟨by rfl, ?_⟩) hHeld ?_ ?_
  rotate_left
  ·rintro w' ⟨s0, s1, s2, s3⟩
   go_simp
   with_reducible rfl
  rotate_left
  ·simp only [Act.put, zA, zB, zC, i64_w, i32_w]
   rfl
  refine one_ (i := 6) (N := some 16) #[true, true, true, true, true, true, true, false, false] rfl rfl (one_of HT_.out (by kernel_rfl)) (by decide) (fun K hK => ?_)
  refine goes_ Tryd.func68 (by kernel_rfl) rfl #[.slice A0_1 l0_1.length c0_1, .slice A1_1 l1_1.length c1_1] (by rfl) rfl rfl (by (try simp only [zM, zO, zP]); first|done|rfl) ?_
  with_reducible refine (moraineref02_plus.calls k _ _ l0_1 _ _ l1_1 t300 _ ?side1 ?side2 ?side3 ?side4 A4.out).mono ?_
  (case side1 => exact qC HR0_1 HB)
  (case side2 => exact HC0_1.out)
  (case side3 => exact qC HR1_1 HB)
  (case side4 => exact HC1_1.out)
  rintro e w15 ⟨v301, rfl, ho0, hb⟩
  refine ⟨_, rfl, ?_⟩
  have HO302 := Aside0.mk (Kd.R_lower ho0 (below_size (by repeat with_reducible first|exact HB.out|apply qx|apply qv|apply qw|refine qs ?_ (by assumption))))
  replace BK297 := qb BK297 hb
  replace BK298 := qb BK298 hb
  replace BK299 := qb BK299 hb
  replace HB := Aside0.mk (below_step (by repeat with_reducible first|exact HB.out|apply qx|apply qv|apply qw|refine qs ?_ (by assumption)) hb)
  (try clear hb)
  (try clear hb2)
  (try clear hk)
  (try clear hi)
  (try clear ho0)
  obtain ⟨Ao16, co16, eo16⟩ := Kd.R_slice HO302.out
  (first | subst eo16 | (injection eo16 with f1_ f2_ f3_; have f4_ := f1_.symm; have f5_ := f3_.symm; clear f1_ f2_ f3_; subst f4_; subst f5_))
  refine hK.out _ _ ⟨qc BK297 0, qc BK297 1, qc BK298 0, qc BK298 1⟩ (fun hHeld => ?_)
  clear hK K
  refine norm_ (a' := ?_) ?_ ?_
  rotate_left
  ·show Act.put _ (some 16) _ = _
   simp only [Act.put, zA, zB, zC, i64_w, i32_w]
   rfl
  refine one_ (i := 7) (N := some 17) #[true, true, true, true, true, true, true, true, false] rfl rfl (one_of HT_.out (by kernel_rfl)) (by decide) (fun K hK => ?_)
  refine goes_ Tryd.func62 (by kernel_rfl) rfl #[.bool a0_0, .slice Ao16 t300.length co16] (by rfl) rfl rfl (by (try simp only [zM, zO, zP]); first|done|rfl) ?_
  with_reducible refine (moraineref02_value.calls k a0_0 (fun k_ => some k_ = (.slice Ao16 t300.length co16 : Value).ownBlock) (.slice Ao16 t300.length co16) t300 t303 t304 w _ ?side1 ?side2 A5.out).mono ?_
  (case side1 => repeat (first | (with_reducible first | exact HB.out | apply qx | apply qv | apply qw | refine qs ?_ (by assumption)) | exact HB.out))
  (case side2 => exact Kd.R_tight rfl HO302.out)
  rintro e w17 ⟨v305, rfl, ho0, hb, hkp⟩
  refine ⟨_, rfl, ?_⟩
  have n0_ := Aside0.mk (blk_kept (by (with_reducible repeat first|refine qN ?_ _|refine qW ?_|refine qA ?_ _); exact BK297.out) hkp (fun hs_ => (fun e_ => (Kd.R_ne HO302.out BK297.out (by decide)) e_) hs_))
  have n1_ := Aside0.mk (blk_kept (by (with_reducible repeat first|refine qN ?_ _|refine qW ?_|refine qA ?_ _); exact BK298.out) hkp (fun hs_ => (fun e_ => (Kd.R_ne HO302.out BK298.out (by decide)) e_) hs_))
  have n2_ := Aside0.mk (blk_kept (by (with_reducible repeat first|refine qN ?_ _|refine qW ?_|refine qA ?_ _); exact BK299.out) hkp (fun hs_ => (fun e_ => (Kd.R_ne HO302.out BK299.out (by decide)) e_) hs_))
  have n3_ := Aside0.mk (Kd.R_mono (ok' := fun k_ => True) ho0 (fun k_ hk_ => trivial))
  have n4_ := Aside0.mk (hb)
  clear BK297
  clear BK298
  clear BK299
  clear HB
  clear HO302
  have BK297 := n0_
  have BK298 := n1_
  have BK299 := n2_
  have HO306 := n3_
  have HB := n4_
  clear n0_ n1_ n2_ n3_ n4_
  (try clear hb)
  (try clear hkp)
  (try clear ho0)
  obtain ⟨Ao19, co19, eo19⟩ := Kd.R_slice HO306.out
  (first | subst eo19 | (injection eo19 with f1_ f2_ f3_; have f4_ := f1_.symm; have f5_ := f3_.symm; clear f1_ f2_ f3_; subst f4_; subst f5_))
  refine hK.out _ _ ⟨qc BK297 0, qc BK297 1, qc BK298 0, qc BK298 1⟩ (fun hHeld => ?_)
  clear hK K
  refine norm_ (a' := ?_) ?_ ?_
  rotate_left
  ·show Act.put _ (some 17) _ = _
   simp only [Act.put, zA, zB, zC, i64_w, i32_w]
   rfl
  refine one_ (i := 8) (N := none) #[true, true, true, true, true, true, true, true, true] rfl rfl (one_of HT_.out (by kernel_rfl)) (by decide) (fun K hK => ?_)
  have hs18 : w17.cell? ⟨gb299, 0, none⟩ = some (.bool false) := qc BK299 0
  have hfs18 := blk_frozen BK299.out 0
  have hns18_0 := NB297_299.out
  have hns18_1 := NB298_299.out
  have hms18_0 := NB299_297.out
  have hms18_1 := NB299_298.out
  have hs20 : w17.cell? ⟨gb299, 1, none⟩ = some (.slice none 0 0) := qc BK299 1
  have hfs20 := blk_frozen BK299.out 1
  have hns20_0 := NB297_299.out
  have hns20_1 := NB298_299.out
  have hms20_0 := NB299_297.out
  have hms20_1 := NB299_298.out
  refine skip_ (w1 := ?_) (by rfl) rfl ?_ ?_
  rotate_left
  ·go_simp
   rfl
  refine hK.out _ _ ⟨((cell_far (p := ⟨gb299, _, none⟩) NB297_299.out _).trans (((cell_far (p := ⟨gb299, _, none⟩) NB297_299.out _).trans (hHeld.1)))), ((cell_far (p := ⟨gb299, _, none⟩) NB297_299.out _).trans (((cell_far (p := ⟨gb299, _, none⟩) NB297_299.out _).trans (hHeld.2.1)))), ((cell_far (p := ⟨gb299, _, none⟩) NB298_299.out _).trans (((cell_far (p := ⟨gb299, _, none⟩) NB298_299.out _).trans (hHeld.2.2.1)))), ((cell_far (p := ⟨gb299, _, none⟩) NB298_299.out _).trans (((cell_far (p := ⟨gb299, _, none⟩) NB298_299.out _).trans (hHeld.2.2.2))))⟩ (fun hHeld => ?_)
  clear hK K
  refine done_ (done_of HT_.out (by kernel_rfl)) ?_
  try go_wp2
  refine bodyPost_ret (results_cell_row rfl _ _ gb299 34 #[.bool t303, .slice Ao19 t304.length co19] (0, 0) _ rfl (by (with_reducible repeat first|refine qN ?_ _|refine qW ?_|refine qA ?_ _); refine blk_put (cs := #[.bool t303, .slice none 0 0]) ?_ 1 _ rfl; (with_reducible repeat first|refine qN ?_ _|refine qW ?_|refine qA ?_ _); refine blk_put (cs := #[.bool false, .slice none 0 0]) ?_ 0 _ rfl; (with_reducible repeat first|refine qN ?_ _|refine qW ?_|refine qA ?_ _); exact BK299.out) Tryd.underlying34 rfl (by kernel_rfl)) rfl ?_
  exact ⟨_, by first | rfl | (simp [errW_none, errW_some] <;> rfl) | (simp [*, errW_none, errW_some] <;> rfl), by (with_reducible repeat first|apply Kd.R_alloc|apply Kd.R_drewN|apply Kd.R_drew); exact Kd.R_mono (qz HO306 BK299 (by decide) (.bool t303) (.slice Ao19 t304.length co19)) (fun _ hk => trivial), by repeat (first | (with_reducible first | exact HB.out | apply qx | apply qv | apply qw | refine qs ?_ (by assumption)) | exact HB.out)⟩
 ·rw [if_neg c3] at H
  have c3b0 : (a0_0 == a1_0) = false := by simpa using c3
  (try (have c3b1 : decide (a0_0 = a1_0) = false := by simpa using c3))
  (try (have c3b2 : (a0_0 == a1_0) = false := by simpa using c3))
  (try (have c3b3 : ¬ (a0_0 = a1_0) := by simpa using c3))
  clear c3
  replace H := Option.bind_eq_some_iff.mp H
  obtain ⟨t307, A210, H⟩ := H
  replace H : (if t307 = true then ((moraineref02_minus.f k l1_1 l0_1).bind fun t308 => ((moraineref02_value.f k a1_0 t308).bind fun bt311 => (some (bt311.1, bt311.2)))) else ((moraineref02_minus.f k l0_1 l1_1).bind fun t315 => ((moraineref02_value.f k a0_0 t315).bind fun bt318 => (some (bt318.1, bt318.2))))) = some (r1, r2) := H
  have A21 := Aside0.mk A210
  clear A210
  by_cases c22 : t307 = true
  ·subst c22
   have H1 : ((moraineref02_minus.f k l1_1 l0_1).bind fun t308 => ((moraineref02_value.f k a1_0 t308).bind fun bt311 => (some (bt311.1, bt311.2)))) = some (r1, r2) := by rw [if_pos rfl] at H; exact H
   clear H
   have H := H1
   clear H1
   replace H := Option.bind_eq_some_iff.mp H
   obtain ⟨t308, A230, H⟩ := H
   replace H : ((moraineref02_value.f k a1_0 t308).bind fun bt311 => (some (bt311.1, bt311.2))) = some (r1, r2) := H
   have A23 := Aside0.mk A230
   clear A230
   replace H := Option.bind_eq_some_iff.mp H
   obtain ⟨⟨t311, t312⟩, A240, H⟩ := H
   replace H : (some (t311, t312)) = some (r1, r2) := H
   have A24 := Aside0.mk A240
   clear A240
   simp only [Option.some.injEq, Prod.mk.injEq] at H
   obtain ⟨rfl, rfl⟩ := H
   go_enter Tryd.func45, Tryd.ntmps45
   try go_wp2_with (first | ((with_reducible refine gate_dst (N := 2) rfl ?_); refine box_event ?hg (N := 2) ?hd (cs := #[.bool a0_0, .slice A0_1 l0_1.length c0_1]) (t := 34) ?hr ?_; (case hd => rfl); (case hg => rfl); (case hr => go_simp <;> rfl); intro gb297 hg w25 hbox hb; have BK297 := Aside0.mk (hbox); have GW297 := qg hg (by repeat (first | (with_reducible first | exact HB.out | apply qx | apply qv | apply qw) | exact HB.out)); have GE297 := GW297; replace HB := Aside0.mk (below_step (by repeat (first | (with_reducible first | exact HB.out | apply qx | apply qv | apply qw) | exact HB.out)) hb); clear hb hbox hg) | ((with_reducible refine gate_dst (N := 3) rfl ?_); refine box_event ?hg (N := 3) ?hd (cs := #[.bool a1_0, .slice A1_1 l1_1.length c1_1]) (t := 34) ?hr ?_; (case hd => rfl); (case hg => rfl); (case hr => go_simp <;> rfl); intro gb298 hg w26 hbox hb; have BK298 := Aside0.mk (hbox); have GW298 := qg hg (by repeat (first | (with_reducible first | exact HB.out | apply qx | apply qv | apply qw | refine below_set ?_ GE297.out) | exact HB.out)); have GE298 := GW298; replace HB := Aside0.mk (below_step (by repeat (first | (with_reducible first | exact HB.out | apply qx | apply qv | apply qw | refine below_set ?_ GE297.out) | exact HB.out)) hb); have NB297_298 := qn BK297 hg; have NB298_297 := qm BK297 hg; replace BK297 := qb BK297 hb; clear hb hbox hg) | ((with_reducible refine gate_dst (N := 4) rfl ?_); refine box_event ?hg (N := 4) ?hd (cs := #[.bool false, .slice none 0 0]) (t := 34) ?hr ?_; (case hd => rfl); (case hg => rfl); (case hr => go_simp <;> rfl); intro gb299 hg w27 hbox hb; have BK299 := Aside0.mk (hbox); have GW299 := qg hg (by repeat with_reducible first|exact HB.out|apply qx|apply qv|apply qw|refine qs ?_ (by assumption)); have GE299 := GW299; replace HB := Aside0.mk (below_step (by repeat with_reducible first|exact HB.out|apply qx|apply qv|apply qw|refine qs ?_ (by assumption)) hb); have NB297_299 := qn BK297 hg; have NB299_297 := qm BK297 hg; replace BK297 := qb BK297 hb; have NB298_299 := qn BK298 hg; have NB299_298 := qm BK298 hg; replace BK298 := qb BK298 hb; clear hb hbox hg; have hnb28 := NB297_298.out; have hnc28 := NB298_297.out; have hnb29 := NB297_299.out; have hnc29 := NB299_297.out; have hcz30_0 : w27.cell? ⟨gb297, 0, none⟩ = some (.bool a0_0) := qc BK297 0; have hcz30_1 : w27.cell? ⟨gb297, 1, none⟩ = some (.slice A0_1 l0_1.length c0_1) := qc BK297 1; have hfz30_0 := blk_frozen BK297.out 0; have hfz30_1 := blk_frozen BK297.out 1; have hnb31 := NB298_299.out; have hnc31 := NB299_298.out; have hcz32_0 : w27.cell? ⟨gb298, 0, none⟩ = some (.bool a1_0) := qc BK298 0; have hcz32_1 : w27.cell? ⟨gb298, 1, none⟩ = some (.slice A1_1 l1_1.length c1_1) := qc BK298 1; have hfz32_0 := blk_frozen BK298.out 0; have hfz32_1 := blk_frozen BK298.out 1) | ((with_reducible refine gate_callee (f := 77) rfl ?_); refine goesL_ (some 22) rfl rfl Tryd.func77 (by kernel_rfl) rfl #[.slice A0_1 l0_1.length c0_1, .slice A1_1 l1_1.length c1_1] rfl (by (try simp only [zM, zO, zP]); first|done|rfl) ?_; (with_reducible refine (moraineref02_less.calls k _ _ l0_1 _ _ l1_1 true _ ?side1 ?side2 ?side3 ?side4 A21.out).mono ?_); (case side1 => exact qC HR0_1 HB); (case side2 => exact HC0_1.out); (case side3 => exact qC HR1_1 HB); (case side4 => exact HC1_1.out); rintro e w' ⟨rfl, ⟨nd, rfl⟩⟩; refine ⟨_, rfl, ?_⟩; (try (rw [drewN_self w27]; generalize hq_ : World.drewN w27 _ = w27; have n0_ : Aside0 (w27.heap[gb297]? = some (.cells #[.bool a0_0, .slice A0_1 l0_1.length c0_1] 34 (0, 0))) := ⟨by rw [← hq_]; exact (by (with_reducible repeat first|refine qN ?_ _|refine qW ?_|refine qA ?_ _); exact BK297.out)⟩; have n1_ : Aside0 (w27.heap[gb298]? = some (.cells #[.bool a1_0, .slice A1_1 l1_1.length c1_1] 34 (0, 0))) := ⟨by rw [← hq_]; exact (by (with_reducible repeat first|refine qN ?_ _|refine qW ?_|refine qA ?_ _); exact BK298.out)⟩; have n2_ : Aside0 (w27.heap[gb299]? = some (.cells #[.bool false, .slice none 0 0] 34 (0, 0))) := ⟨by rw [← hq_]; exact (by (with_reducible repeat first|refine qN ?_ _|refine qW ?_|refine qA ?_ _); exact BK299.out)⟩; have n3_ : Aside0 (Below w.heap.size w w27) := ⟨by rw [← hq_]; exact (by repeat with_reducible first|exact HB.out|apply qx|apply qv|apply qw|refine qs ?_ (by assumption))⟩; clear BK297 BK298 BK299 HB hq_; have BK297 := n0_; have BK298 := n1_; have BK299 := n2_; have HB := n3_; clear n0_ n1_ n2_ n3_))))
   replace BK297 := Aside0.mk (blk_drew BK297.out)
   replace BK298 := Aside0.mk (blk_drew BK298.out)
   replace BK299 := Aside0.mk (blk_drew BK299.out)
   replace HB := Aside0.mk (below_drew1 HB.out)
   refine start_ (n := 9) (S := fun w' => w'.cell? ⟨gb298, 0, none⟩ = some (.bool a1_0) ∧ w'.cell? ⟨gb298, 1, none⟩ = some (.slice A1_1 l1_1.length c1_1) ∧ w'.cell? ⟨gb297, 0, none⟩ = some (.bool a0_0) ∧ w'.cell? ⟨gb297, 1, none⟩ = some (.slice A0_1 l0_1.length c0_1)) (ds := []) #[false, false, false, false, false, false, false, false, false] (by kernel_rfl) rfl rfl ⟨qc BK298 0, qc BK298 1, qc BK297 0, qc BK297 1⟩ (fun hHeld => ?_); refine with_tabW moraineref02_Add.tab4 moraineref02_Add.bits4 (fun HT_ HW_ => ?_)
   generalize w27.drew = w33 at BK297 BK298 BK299 HB hHeld ⊢
   refine pure_ (i := 0) (N := some 23) (v := ?_) (a' := ?_) #[true, false, false, false, false, false, false, false, false] rfl rfl (any_of HT_.out (by kernel_rfl)) (fun _ _ _ h => h) (Or.inl ⟨by rfl, ?_⟩) ?_ ?_
   rotate_left
   ·intro w'
    go_simp
    with_reducible rfl
   rotate_left
   ·simp only [Act.put, zA, zB, zC, i64_w, i32_w]
    rfl
   refine pure_ (i := 2) (N := some 25) (v := ?_) (a' := ?_) #[true, false, true, false, false, false, false, false, false] rfl rfl (any_of HT_.out (by kernel_rfl)) (fun _ _ _ h => h) (Or.inl ⟨by rfl, ?_⟩) ?_ ?_
   rotate_left
   ·intro w'
    go_simp
    with_reducible rfl
   rotate_left
   ·simp only [Act.put, zA, zB, zC, i64_w, i32_w]
    rfl
   refine pure_ (i := 4) (N := some 27) (v := ?_) (a' := ?_) #[true, false, true, false, true, false, false, false, false] rfl rfl (any_of HT_.out (by kernel_rfl)) (fun _ _ _ h => h) (Or.inl ⟨by rfl, ?_⟩) ?_ ?_
   rotate_left
   ·intro w'
    go_simp
    with_reducible rfl
   rotate_left
   ·simp only [Act.put, zA, zB, zC, i64_w, i32_w]
    rfl
   refine take_ (i := 1) (N := some 24) (v := ?_) (a' := ?_) #[true, true, true, false, true, false, false, false, false] rfl rfl (take_ofW HT_.out HW_.out (by kernel_rfl)) (fun _ _ _ h => h) (Or.inl ⟨by rfl, ?_⟩) hHeld ?_ ?_
   rotate_left
   ·rintro w' ⟨s0, s1, s2, s3⟩
    go_simp
    with_reducible rfl
   rotate_left
   ·simp only [Act.put, zA, zB, zC, i64_w, i32_w]
    rfl
   refine take_ (i := 3) (N := some 26) (v := ?_) (a' := ?_) #[true, true, true, true, true, false, false, false, false] rfl rfl (take_ofW HT_.out HW_.out (by kernel_rfl)) (fun _ _ _ h => h) (Or.inl ⟨by rfl, ?_⟩) hHeld ?_ ?_
   rotate_left
   ·rintro w' ⟨s0, s1, s2, s3⟩
    go_simp
    with_reducible rfl
   rotate_left
   ·simp only [Act.put, zA, zB, zC, i64_w, i32_w]
    rfl
   refine take_ (i := 5) (N := some 28) (v := ?_) (a' := ?_) #[true, true, true, true, true, true, false, false, false] rfl rfl (take_ofW HT_.out HW_.out (by kernel_rfl)) (fun _ _ _ h => h) (Or.inl ⟨by rfl, ?_⟩) hHeld ?_ ?_
   rotate_left
   ·rintro w' ⟨s0, s1, s2, s3⟩
    go_simp
    with_reducible rfl
   rotate_left
   ·simp only [Act.put, zA, zB, zC, i64_w, i32_w]
    rfl
   refine one_ (i := 6) (N := some 29) #[true, true, true, true, true, true, true, false, false] rfl rfl (one_of HT_.out (by kernel_rfl)) (by decide) (fun K hK => ?_)
   refine goes_ Tryd.func78 (by kernel_rfl) rfl #[.slice A1_1 l1_1.length c1_1, .slice A0_1 l0_1.length c0_1] (by rfl) rfl rfl (by (try simp only [zM, zO, zP]); first|done|rfl) ?_
   with_reducible refine (moraineref02_minus.calls k _ _ l1_1 _ _ l0_1 t308 _ ?side1 ?side2 ?side3 ?side4 A23.out).mono ?_
   (case side1 => exact qC HR1_1 HB)
   (case side2 => exact HC1_1.out)
   (case side3 => exact qC HR0_1 HB)
   (case side4 => exact HC0_1.out)
   rintro e w34 ⟨v309, rfl, ho0, hb⟩
   refine ⟨_, rfl, ?_⟩
   have HO310 := Aside0.mk (Kd.R_lower ho0 (below_size (by repeat with_reducible first|exact HB.out|apply qx|apply qv|apply qw|refine qs ?_ (by assumption))))
   replace BK297 := qb BK297 hb
   replace BK298 := qb BK298 hb
   replace BK299 := qb BK299 hb
   replace HB := Aside0.mk (below_step (by repeat with_reducible first|exact HB.out|apply qx|apply qv|apply qw|refine qs ?_ (by assumption)) hb)
   (try clear hb)
   (try clear hb2)
   (try clear hk)
   (try clear hi)
   (try clear ho0)
   obtain ⟨Ao35, co35, eo35⟩ := Kd.R_slice HO310.out
   (first | subst eo35 | (injection eo35 with f1_ f2_ f3_; have f4_ := f1_.symm; have f5_ := f3_.symm; clear f1_ f2_ f3_; subst f4_; subst f5_))
   refine hK.out _ _ ⟨qc BK298 0, qc BK298 1, qc BK297 0, qc BK297 1⟩ (fun hHeld => ?_)
   clear hK K
   refine norm_ (a' := ?_) ?_ ?_
   rotate_left
   ·show Act.put _ (some 29) _ = _
    simp only [Act.put, zA, zB, zC, i64_w, i32_w]
    rfl
   refine one_ (i := 7) (N := some 30) #[true, true, true, true, true, true, true, true, false] rfl rfl (one_of HT_.out (by kernel_rfl)) (by decide) (fun K hK => ?_)
   refine goes_ Tryd.func62 (by kernel_rfl) rfl #[.bool a1_0, .slice Ao35 t308.length co35] (by rfl) rfl rfl (by (try simp only [zM, zO, zP]); first|done|rfl) ?_
   with_reducible refine (moraineref02_value.calls k a1_0 (fun k_ => some k_ = (.slice Ao35 t308.length co35 : Value).ownBlock) (.slice Ao35 t308.length co35) t308 t311 t312 w _ ?side1 ?side2 A24.out).mono ?_
   (case side1 => repeat (first | (with_reducible first | exact HB.out | apply qx | apply qv | apply qw | refine qs ?_ (by assumption)) | exact HB.out))
   (case side2 => exact Kd.R_tight rfl HO310.out)
   rintro e w36 ⟨v313, rfl, ho0, hb, hkp⟩
   refine ⟨_, rfl, ?_⟩
   have n0_ := Aside0.mk (blk_kept (by (with_reducible repeat first|refine qN ?_ _|refine qW ?_|refine qA ?_ _); exact BK297.out) hkp (fun hs_ => (fun e_ => (Kd.R_ne HO310.out BK297.out (by decide)) e_) hs_))
   have n1_ := Aside0.mk (blk_kept (by (with_reducible repeat first|refine qN ?_ _|refine qW ?_|refine qA ?_ _); exact BK298.out) hkp (fun hs_ => (fun e_ => (Kd.R_ne HO310.out BK298.out (by decide)) e_) hs_))
   have n2_ := Aside0.mk (blk_kept (by (with_reducible repeat first|refine qN ?_ _|refine qW ?_|refine qA ?_ _); exact BK299.out) hkp (fun hs_ => (fun e_ => (Kd.R_ne HO310.out BK299.out (by decide)) e_) hs_))
   have n3_ := Aside0.mk (Kd.R_mono (ok' := fun k_ => True) ho0 (fun k_ hk_ => trivial))
   have n4_ := Aside0.mk (hb)
   clear BK297
   clear BK298
   clear BK299
   clear HB
   clear HO310
   have BK297 := n0_
   have BK298 := n1_
   have BK299 := n2_
   have HO314 := n3_
   have HB := n4_
   clear n0_ n1_ n2_ n3_ n4_
   (try clear hb)
   (try clear hkp)
   (try clear ho0)
   obtain ⟨Ao38, co38, eo38⟩ := Kd.R_slice HO314.out
   (first | subst eo38 | (injection eo38 with f1_ f2_ f3_; have f4_ := f1_.symm; have f5_ := f3_.symm; clear f1_ f2_ f3_; subst f4_; subst f5_))
   refine hK.out _ _ ⟨qc BK298 0, qc BK298 1, qc BK297 0, qc BK297 1⟩ (fun hHeld => ?_)
   clear hK K
   refine norm_ (a' := ?_) ?_ ?_
   rotate_left
   ·show Act.put _ (some 30) _ = _
    simp only [Act.put, zA, zB, zC, i64_w, i32_w]
    rfl
   refine one_ (i := 8) (N := none) #[true, true, true, true, true, true, true, true, true] rfl rfl (one_of HT_.out (by kernel_rfl)) (by decide) (fun K hK => ?_)
   have hs37 : w36.cell? ⟨gb299, 0, none⟩ = some (.bool false) := qc BK299 0
   have hfs37 := blk_frozen BK299.out 0
   have hns37_0 := NB297_299.out
   have hns37_1 := NB298_299.out
   have hms37_0 := NB299_297.out
   have hms37_1 := NB299_298.out
   have hs39 : w36.cell? ⟨gb299, 1, none⟩ = some (.slice none 0 0) := qc BK299 1
   have hfs39 := blk_frozen BK299.out 1
   have hns39_0 := NB297_299.out
   have hns39_1 := NB298_299.out
   have hms39_0 := NB299_297.out
   have hms39_1 := NB299_298.out
   refine skip_ (w1 := ?_) (by rfl) rfl ?_ ?_
   rotate_left
   ·go_simp
    rfl
   refine hK.out _ _ ⟨((cell_far (p := ⟨gb299, _, none⟩) NB298_299.out _).trans (((cell_far (p := ⟨gb299, _, none⟩) NB298_299.out _).trans (hHeld.1)))), ((cell_far (p := ⟨gb299, _, none⟩) NB298_299.out _).trans (((cell_far (p := ⟨gb299, _, none⟩) NB298_299.out _).trans (hHeld.2.1)))), ((cell_far (p := ⟨gb299, _, none⟩) NB297_299.out _).trans (((cell_far (p := ⟨gb299, _, none⟩) NB297_299.out _).trans (hHeld.2.2.1)))), ((cell_far (p := ⟨gb299, _, none⟩) NB297_299.out _).trans (((cell_far (p := ⟨gb299, _, none⟩) NB297_299.out _).trans (hHeld.2.2.2))))⟩ (fun hHeld => ?_)
   clear hK K
   refine done_ (done_of HT_.out (by kernel_rfl)) ?_
   try go_wp2
   refine bodyPost_ret (results_cell_row rfl _ _ gb299 34 #[.bool t311, .slice Ao38 t312.length co38] (0, 0) _ rfl (by (with_reducible repeat first|refine qN ?_ _|refine qW ?_|refine qA ?_ _); refine blk_put (cs := #[.bool t311, .slice none 0 0]) ?_ 1 _ rfl; (with_reducible repeat first|refine qN ?_ _|refine qW ?_|refine qA ?_ _); refine blk_put (cs := #[.bool false, .slice none 0 0]) ?_ 0 _ rfl; (with_reducible repeat first|refine qN ?_ _|refine qW ?_|refine qA ?_ _); exact BK299.out) Tryd.underlying34 rfl (by kernel_rfl)) rfl ?_
   exact ⟨_, by first | rfl | (simp [errW_none, errW_some] <;> rfl) | (simp [*, errW_none, errW_some] <;> rfl), by (with_reducible repeat first|apply Kd.R_alloc|apply Kd.R_drewN|apply Kd.R_drew); exact Kd.R_mono (qz HO314 BK299 (by decide) (.bool t311) (.slice Ao38 t312.length co38)) (fun _ hk => trivial), by repeat (first | (with_reducible first | exact HB.out | apply qx | apply qv | apply qw | refine qs ?_ (by assumption)) | exact HB.out)⟩
  ·replace c22 := Bool.eq_false_iff.mpr c22
   subst c22
   have H1 : ((moraineref02_minus.f k l0_1 l1_1).bind fun t315 => ((moraineref02_value.f k a0_0 t315).bind fun bt318 => (some (bt318.1, bt318.2)))) = some (r1, r2) := by rw [if_neg (show ¬ (false = true) by decide)] at H; exact H
   clear H
   have H := H1
   clear H1
   replace H := Option.bind_eq_some_iff.mp H
   obtain ⟨t315, A400, H⟩ := H
   replace H : ((moraineref02_value.f k a0_0 t315).bind fun bt318 => (some (bt318.1, bt318.2))) = some (r1, r2) := H
   have A40 := Aside0.mk A400
   clear A400
   replace H := Option.bind_eq_some_iff.mp H
   obtain ⟨⟨t318, t319⟩, A410, H⟩ := H
   replace H : (some (t318, t319)) = some (r1, r2) := H
   have A41 := Aside0.mk A410
   clear A410
   simp only [Option.some.injEq, Prod.mk.injEq] at H
   obtain ⟨rfl, rfl⟩ := H
   go_enter Tryd.func45, Tryd.ntmps45
   try go_wp2_with (first | ((with_reducible refine gate_dst (N := 2) rfl ?_); refine box_event ?hg (N := 2) ?hd (cs := #[.bool a0_0, .slice A0_1 l0_1.length c0_1]) (t := 34) ?hr ?_; (case hd => rfl); (case hg => rfl); (case hr => go_simp <;> rfl); intro gb297 hg w42 hbox hb; have BK297 := Aside0.mk (hbox); have GW297 := qg hg (by repeat (first | (with_reducible first | exact HB.out | apply qx | apply qv | apply qw) | exact HB.out)); have GE297 := GW297; replace HB := Aside0.mk (below_step (by repeat (first | (with_reducible first | exact HB.out | apply qx | apply qv | apply qw) | exact HB.out)) hb); clear hb hbox hg) | ((with_reducible refine gate_dst (N := 3) rfl ?_); refine box_event ?hg (N := 3) ?hd (cs := #[.bool a1_0, .slice A1_1 l1_1.length c1_1]) (t := 34) ?hr ?_; (case hd => rfl); (case hg => rfl); (case hr => go_simp <;> rfl); intro gb298 hg w43 hbox hb; have BK298 := Aside0.mk (hbox); have GW298 := qg hg (by repeat (first | (with_reducible first | exact HB.out | apply qx | apply qv | apply qw | refine below_set ?_ GE297.out) | exact HB.out)); have GE298 := GW298; replace HB := Aside0.mk (below_step (by repeat (first | (with_reducible first | exact HB.out | apply qx | apply qv | apply qw | refine below_set ?_ GE297.out) | exact HB.out)) hb); have NB297_298 := qn BK297 hg; have NB298_297 := qm BK297 hg; replace BK297 := qb BK297 hb; clear hb hbox hg) | ((with_reducible refine gate_dst (N := 4) rfl ?_); refine box_event ?hg (N := 4) ?hd (cs := #[.bool false, .slice none 0 0]) (t := 34) ?hr ?_; (case hd => rfl); (case hg => rfl); (case hr => go_simp <;> rfl); intro gb299 hg w44 hbox hb; have BK299 := Aside0.mk (hbox); have GW299 := qg hg (by repeat with_reducible first|exact HB.out|apply qx|apply qv|apply qw|refine qs ?_ (by assumption)); have GE299 := GW299; replace HB := Aside0.mk (below_step (by repeat with_reducible first|exact HB.out|apply qx|apply qv|apply qw|refine qs ?_ (by assumption)) hb); have NB297_299 := qn BK297 hg; have NB299_297 := qm BK297 hg; replace BK297 := qb BK297 hb; have NB298_299 := qn BK298 hg; have NB299_298 := qm BK298 hg; replace BK298 := qb BK298 hb; clear hb hbox hg; have hnb45 := NB297_298.out; have hnc45 := NB298_297.out; have hnb46 := NB297_299.out; have hnc46 := NB299_297.out; have hcz47_0 : w44.cell? ⟨gb297, 0, none⟩ = some (.bool a0_0) := qc BK297 0; have hcz47_1 : w44.cell? ⟨gb297, 1, none⟩ = some (.slice A0_1 l0_1.length c0_1) := qc BK297 1; have hfz47_0 := blk_frozen BK297.out 0; have hfz47_1 := blk_frozen BK297.out 1; have hnb48 := NB298_299.out; have hnc48 := NB299_298.out; have hcz49_0 : w44.cell? ⟨gb298, 0, none⟩ = some (.bool a1_0) := qc BK298 0; have hcz49_1 : w44.cell? ⟨gb298, 1, none⟩ = some (.slice A1_1 l1_1.length c1_1) := qc BK298 1; have hfz49_0 := blk_frozen BK298.out 0; have hfz49_1 := blk_frozen BK298.out 1) | ((with_reducible refine gate_callee (f := 77) rfl ?_); refine goesL_ (some 22) rfl rfl Tryd.func77 (by kernel_rfl) rfl #[.slice A0_1 l0_1.length c0_1, .slice A1_1 l1_1.length c1_1] rfl (by (try simp only [zM, zO, zP]); first|done|rfl) ?_; (with_reducible refine (moraineref02_less.calls k _ _ l0_1 _ _ l1_1 false _ ?side1 ?side2 ?side3 ?side4 A21.out).mono ?_); (case side1 => exact qC HR0_1 HB); (case side2 => exact HC0_1.out); (case side3 => exact qC HR1_1 HB); (case side4 => exact HC1_1.out); rintro e w' ⟨rfl, ⟨nd, rfl⟩⟩; refine ⟨_, rfl, ?_⟩; (try (rw [drewN_self w44]; generalize hq_ : World.drewN w44 _ = w44; have n0_ : Aside0 (w44.heap[gb297]? = some (.cells #[.bool a0_0, .slice A0_1 l0_1.length c0_1] 34 (0, 0))) := ⟨by rw [← hq_]; exact (by (with_reducible repeat first|refine qN ?_ _|refine qW ?_|refine qA ?_ _); exact BK297.out)⟩; have n1_ : Aside0 (w44.heap[gb298]? = some (.cells #[.bool a1_0, .slice A1_1 l1_1.length c1_1] 34 (0, 0))) := ⟨by rw [← hq_]; exact (by (with_reducible repeat first|refine qN ?_ _|refine qW ?_|refine qA ?_ _); exact BK298.out)⟩; have n2_ : Aside0 (w44.heap[gb299]? = some (.cells #[.bool false, .slice none 0 0] 34 (0, 0))) := ⟨by rw [← hq_]; exact (by (with_reducible repeat first|refine qN ?_ _|refine qW ?_|refine qA ?_ _); exact BK299.out)⟩; have n3_ : Aside0 (Below w.heap.size w w44) := ⟨by rw [← hq_]; exact (by repeat with_reducible first|exact HB.out|apply qx|apply qv|apply qw|refine qs ?_ (by assumption))⟩; clear BK297 BK298 BK299 HB hq_; have BK297 := n0_; have BK298 := n1_; have BK299 := n2_; have HB := n3_; clear n0_ n1_ n2_ n3_))))
   replace BK297 := Aside0.mk (blk_drew BK297.out)
   replace BK298 := Aside0.mk (blk_drew BK298.out)
   replace BK299 := Aside0.mk (blk_drew BK299.out)
   replace HB := Aside0.mk (below_drew1 HB.out)
   refine start_ (n := 9) (S := fun w' => w'.cell? ⟨gb297, 0, none⟩ = some (.bool a0_0) ∧ w'.cell? ⟨gb297, 1, none⟩ = some (.slice A0_1 l0_1.length c0_1) ∧ w'.cell? ⟨gb298, 0, none⟩ = some (.bool a1_0) ∧ w'.cell? ⟨gb298, 1, none⟩ = some (.slice A1_1 l1_1.length c1_1)) (ds := []) #[false, false, false, false, false, false, false, false, false] (by kernel_rfl) rfl rfl ⟨qc BK297 0, qc BK297 1, qc BK298 0, qc BK298 1⟩ (fun hHeld => ?_); refine with_tabW moraineref02_Add.tab5 moraineref02_Add.bits5 (fun HT_ HW_ => ?_)
   generalize w44.drew = w50 at BK297 BK298 BK299 HB hHeld ⊢
   refine pure_ (i := 0) (N := some 31) (v := ?_) (a' := ?_) #[true, false, false, false, false, false, false, false, false] rfl rfl (any_of HT_.out (by kernel_rfl)) (fun _ _ _ h => h) (Or.inl ⟨by rfl, ?_⟩) ?_ ?_
   rotate_left
   ·intro w'
    go_simp
    with_reducible rfl
   rotate_left
   ·simp only [Act.put, zA, zB, zC, i64_w, i32_w]
    rfl
   refine pure_ (i := 2) (N := some 33) (v := ?_) (a' := ?_) #[true, false, true, false, false, false, false, false, false] rfl rfl (any_of HT_.out (by kernel_rfl)) (fun _ _ _ h => h) (Or.inl ⟨by rfl, ?_⟩) ?_ ?_
   rotate_left
   ·intro w'
    go_simp
    with_reducible rfl
   rotate_left
   ·simp only [Act.put, zA, zB, zC, i64_w, i32_w]
    rfl
   refine pure_ (i := 4) (N := some 35) (v := ?_) (a' := ?_) #[true, false, true, false, true, false, false, false, false] rfl rfl (any_of HT_.out (by kernel_rfl)) (fun _ _ _ h => h) (Or.inl ⟨by rfl, ?_⟩) ?_ ?_
   rotate_left
   ·intro w'
    go_simp
    with_reducible rfl
   rotate_left
   ·simp only [Act.put, zA, zB, zC, i64_w, i32_w]
    rfl
   refine take_ (i := 1) (N := some 32) (v := ?_) (a' := ?_) #[true, true, true, false, true, false, false, false, false] rfl rfl (take_ofW HT_.out HW_.out (by kernel_rfl)) (fun _ _ _ h => h) (Or.inl ⟨by rfl, ?_⟩) hHeld ?_ ?_
   rotate_left
   ·rintro w' ⟨s0, s1, s2, s3⟩
    go_simp
    with_reducible rfl
   rotate_left
   ·simp only [Act.put, zA, zB, zC, i64_w, i32_w]
    rfl
   refine take_ (i := 3) (N := some 34) (v := ?_) (a' := ?_) #[true, true, true, true, true, false, false, false, false] rfl rfl (take_ofW HT_.out HW_.out (by kernel_rfl)) (fun _ _ _ h => h) (Or.inl ⟨by rfl, ?_⟩) hHeld ?_ ?_
   rotate_left
   ·rintro w' ⟨s0, s1, s2, s3⟩
    go_simp
    with_reducible rfl
   rotate_left
   ·simp only [Act.put, zA, zB, zC, i64_w, i32_w]
    rfl
   refine take_ (i := 5) (N := some 36) (v := ?_) (a' := ?_) #[true, true, true, true, true, true, false, false, false] rfl rfl (take_ofW HT_.out HW_.out (by kernel_rfl)) (fun _ _ _ h => h) (Or.inl ⟨by rfl, ?_⟩) hHeld ?_ ?_
   rotate_left
   ·rintro w' ⟨s0, s1, s2, s3⟩
    go_simp
    with_reducible rfl
   rotate_left
   ·simp only [Act.put, zA, zB, zC, i64_w, i32_w]
    rfl
   refine one_ (i := 6) (N := some 37) #[true, true, true, true, true, true, true, false, false] rfl rfl (one_of HT_.out (by kernel_rfl)) (by decide) (fun K hK => ?_)
   refine goes_ Tryd.func78 (by kernel_rfl) rfl #[.slice A0_1 l0_1.length c0_1, .slice A1_1 l1_1.length c1_1] (by rfl) rfl rfl (by (try simp only [zM, zO, zP]); first|done|rfl) ?_
   with_reducible refine (moraineref02_minus.calls k _ _ l0_1 _ _ l1_1 t315 _ ?side1 ?side2 ?side3 ?side4 A40.out).mono ?_
   (case side1 => exact qC HR0_1 HB)
   (case side2 => exact HC0_1.out)
   (case side3 => exact qC HR1_1 HB)
   (case side4 => exact HC1_1.out)
   rintro e w51 ⟨v316, rfl, ho0, hb⟩
   refine ⟨_, rfl, ?_⟩
   have HO317 := Aside0.mk (Kd.R_lower ho0 (below_size (by repeat with_reducible first|exact HB.out|apply qx|apply qv|apply qw|refine qs ?_ (by assumption))))
   replace BK297 := qb BK297 hb
   replace BK298 := qb BK298 hb
   replace BK299 := qb BK299 hb
   replace HB := Aside0.mk (below_step (by repeat with_reducible first|exact HB.out|apply qx|apply qv|apply qw|refine qs ?_ (by assumption)) hb)
   (try clear hb)
   (try clear hb2)
   (try clear hk)
   (try clear hi)
   (try clear ho0)
   obtain ⟨Ao52, co52, eo52⟩ := Kd.R_slice HO317.out
   (first | subst eo52 | (injection eo52 with f1_ f2_ f3_; have f4_ := f1_.symm; have f5_ := f3_.symm; clear f1_ f2_ f3_; subst f4_; subst f5_))
   refine hK.out _ _ ⟨qc BK297 0, qc BK297 1, qc BK298 0, qc BK298 1⟩ (fun hHeld => ?_)
   clear hK K
   refine norm_ (a' := ?_) ?_ ?_
   rotate_left
   ·show Act.put _ (some 37) _ = _
    simp only [Act.put, zA, zB, zC, i64_w, i32_w]
    rfl
   refine one_ (i := 7) (N := some 38) #[true, true, true, true, true, true, true, true, false] rfl rfl (one_of HT_.out (by kernel_rfl)) (by decide) (fun K hK => ?_)
   refine goes_ Tryd.func62 (by kernel_rfl) rfl #[.bool a0_0, .slice Ao52 t315.length co52] (by rfl) rfl rfl (by (try simp only [zM, zO, zP]); first|done|rfl) ?_
   with_reducible refine (moraineref02_value.calls k a0_0 (fun k_ => some k_ = (.slice Ao52 t315.length co52 : Value).ownBlock) (.slice Ao52 t315.length co52) t315 t318 t319 w _ ?side1 ?side2 A41.out).mono ?_
   (case side1 => repeat (first | (with_reducible first | exact HB.out | apply qx | apply qv | apply qw | refine qs ?_ (by assumption)) | exact HB.out))
   (case side2 => exact Kd.R_tight rfl HO317.out)
   rintro e w53 ⟨v320, rfl, ho0, hb, hkp⟩
   refine ⟨_, rfl, ?_⟩
   have n0_ := Aside0.mk (blk_kept (by (with_reducible repeat first|refine qN ?_ _|refine qW ?_|refine qA ?_ _); exact BK297.out) hkp (fun hs_ => (fun e_ => (Kd.R_ne HO317.out BK297.out (by decide)) e_) hs_))
   have n1_ := Aside0.mk (blk_kept (by (with_reducible repeat first|refine qN ?_ _|refine qW ?_|refine qA ?_ _); exact BK298.out) hkp (fun hs_ => (fun e_ => (Kd.R_ne HO317.out BK298.out (by decide)) e_) hs_))
   have n2_ := Aside0.mk (blk_kept (by (with_reducible repeat first|refine qN ?_ _|refine qW ?_|refine qA ?_ _); exact BK299.out) hkp (fun hs_ => (fun e_ => (Kd.R_ne HO317.out BK299.out (by decide)) e_) hs_))
   have n3_ := Aside0.mk (Kd.R_mono (ok' := fun k_ => True) ho0 (fun k_ hk_ => trivial))
   have n4_ := Aside0.mk (hb)
   clear BK297
   clear BK298
   clear BK299
   clear HB
   clear HO317
   have BK297 := n0_
   have BK298 := n1_
   have BK299 := n2_
   have HO321 := n3_
   have HB := n4_
   clear n0_ n1_ n2_ n3_ n4_
   (try clear hb)
   (try clear hkp)
   (try clear ho0)
   obtain ⟨Ao55, co55, eo55⟩ := Kd.R_slice HO321.out
   (first | subst eo55 | (injection eo55 with f1_ f2_ f3_; have f4_ := f1_.symm; have f5_ := f3_.symm; clear f1_ f2_ f3_; subst f4_; subst f5_))
   refine hK.out _ _ ⟨qc BK297 0, qc BK297 1, qc BK298 0, qc BK298 1⟩ (fun hHeld => ?_)
   clear hK K
   refine norm_ (a' := ?_) ?_ ?_
   rotate_left
   ·show Act.put _ (some 38) _ = _
    simp only [Act.put, zA, zB, zC, i64_w, i32_w]
    rfl
   refine one_ (i := 8) (N := none) #[true, true, true, true, true, true, true, true, true] rfl rfl (one_of HT_.out (by kernel_rfl)) (by decide) (fun K hK => ?_)
   have hs54 : w53.cell? ⟨gb299, 0, none⟩ = some (.bool false) := qc BK299 0
   have hfs54 := blk_frozen BK299.out 0
   have hns54_0 := NB297_299.out
   have hns54_1 := NB298_299.out
   have hms54_0 := NB299_297.out
   have hms54_1 := NB299_298.out
   have hs56 : w53.cell? ⟨gb299, 1, none⟩ = some (.slice none 0 0) := qc BK299 1
   have hfs56 := blk_frozen BK299.out 1
   have hns56_0 := NB297_299.out
   have hns56_1 := NB298_299.out
   have hms56_0 := NB299_297.out
   have hms56_1 := NB299_298.out
   refine skip_ (w1 := ?_) (by rfl) rfl ?_ ?_
   rotate_left
   ·go_simp
    rfl
   refine hK.out _ _ ⟨((cell_far (p := ⟨gb299, _, none⟩) NB297_299.out _).trans (((cell_far (p := ⟨gb299, _, none⟩) NB297_299.out _).trans (hHeld.1)))), ((cell_far (p := ⟨gb299, _, none⟩) NB297_299.out _).trans (((cell_far (p := ⟨gb299, _, none⟩) NB297_299.out _).trans (hHeld.2.1)))), ((cell_far (p := ⟨gb299, _, none⟩) NB298_299.out _).trans (((cell_far (p := ⟨gb299, _, none⟩) NB298_299.out _).trans (hHeld.2.2.1)))), ((cell_far (p := ⟨gb299, _, none⟩) NB298_299.out _).trans (((cell_far (p := ⟨gb299, _, none⟩) NB298_299.out _).trans (hHeld.2.2.2))))⟩ (fun hHeld => ?_)
   clear hK K
   refine done_ (done_of HT_.out (by kernel_rfl)) ?_
   try go_wp2
   refine bodyPost_ret (results_cell_row rfl _ _ gb299 34 #[.bool t318, .slice Ao55 t319.length co55] (0, 0) _ rfl (by (with_reducible repeat first|refine qN ?_ _|refine qW ?_|refine qA ?_ _); refine blk_put (cs := #[.bool t318, .slice none 0 0]) ?_ 1 _ rfl; (with_reducible repeat first|refine qN ?_ _|refine qW ?_|refine qA ?_ _); refine blk_put (cs := #[.bool false, .slice none 0 0]) ?_ 0 _ rfl; (with_reducible repeat first|refine qN ?_ _|refine qW ?_|refine qA ?_ _); exact BK299.out) Tryd.underlying34 rfl (by kernel_rfl)) rfl ?_
   exact ⟨_, by first | rfl | (simp [errW_none, errW_some] <;> rfl) | (simp [*, errW_none, errW_some] <;> rfl), by (with_reducible repeat first|apply Kd.R_alloc|apply Kd.R_drewN|apply Kd.R_drew); exact Kd.R_mono (qz HO321 BK299 (by decide) (.bool t318) (.slice Ao55 t319.length co55)) (fun _ hk => trivial), by repeat (first | (with_reducible first | exact HB.out | apply qx | apply qv | apply qw | refine qs ?_ (by assumption)) | exact HB.out)⟩
def morainelaw02_is.f (k : Nat) (a0_0 : Bool) (l0_1 : List Int) (a1 : Int) (a2_0 : Bool) (l2_1 : List Int) : Option (Bool) := (moraineref02_Num.f k a2_0 l2_1).bind fun bt360 => (if a1 = bt360.2.2 then ((moraineref02_Same.f k a0_0 l0_1 bt360.1 bt360.2.1).bind fun t366 => (some t366)) else (some false))
set_option maxHeartbeats 8000000 in
set_option maxRecDepth 100000 in
theorem morainelaw02_is.calls (k : Nat) (a0_0 : Bool) (A0_1 : Option Addr) (c0_1 : Nat) (l0_1 : List Int) (a1 : Int) (a2_0 : Bool) (A2_1 : Option Addr) (c2_1 : Nat) (l2_1 : List Int) (r : Bool) (w : World) (hr0_1 : Kd.C (Kd.int .u32) w A0_1 l0_1.length l0_1) (hc0_1 : l0_1.length ≤ c0_1) (hr2_1 : Kd.C (Kd.int .u8) w A2_1 l2_1.length l2_1) (hc2_1 : l2_1.length ≤ c2_1) (h : morainelaw02_is.f k a0_0 l0_1 a1 a2_0 l2_1 = some r) :
  Calls Tryd.prog 27 #[.agg #[.bool a0_0, .slice A0_1 l0_1.length c0_1], .int .i64 a1, .agg #[.bool a2_0, .slice A2_1 l2_1.length c2_1]] w fun e w' => e = .returned (.bool r) ∧ Below w.heap.size w w' := by
 have hu25 := Tryd.underlying25
 have hu34 := Tryd.underlying34
 have HR0_1 := Aside0.mk hr0_1
 have HC0_1 := Aside0.mk hc0_1
 clear hr0_1 hc0_1
 have HR2_1 := Aside0.mk hr2_1
 have HC2_1 := Aside0.mk hc2_1
 clear hr2_1 hc2_1
 have HB := Aside0.mk (Below.refl w.heap.size w)
 have H : ((moraineref02_Num.f k a2_0 l2_1).bind fun bt360 => (if a1 = bt360.2.2 then ((moraineref02_Same.f k a0_0 l0_1 bt360.1 bt360.2.1).bind fun t366 => (some t366)) else (some false))) = some r := h
 clear h
 replace H := Option.bind_eq_some_iff.mp H
 obtain ⟨⟨t360, t361, t364⟩, A40, H⟩ := H
 replace H : (if a1 = t364 then ((moraineref02_Same.f k a0_0 l0_1 t360 t361).bind fun t366 => (some t366)) else (some false)) = some r := H
 have A4 := Aside0.mk A40
 clear A40
 by_cases c5 : a1 = t364
 ·rw [if_pos c5] at H
  have c5b0 : (a1 == t364) = true := beq_iff_eq.mpr c5
  have c5b1 : (a1 != t364) = false := bne_eq_false_iff_eq.mpr c5
  clear c5
  replace H := Option.bind_eq_some_iff.mp H
  obtain ⟨t366, A60, H⟩ := H
  replace H : (some t366) = some r := H
  have A6 := Aside0.mk A60
  clear A60
  obtain rfl := Option.some.inj H
  go_enter Tryd.func27, Tryd.ntmps27
  go_wp2_with (first | ((with_reducible refine gate_dst (N := 3) rfl ?_); refine box_event ?hg (N := 3) ?hd (cs := #[.bool a0_0, .slice A0_1 l0_1.length c0_1]) (t := 25) ?hr ?_; (case hd => rfl); (case hg => rfl); (case hr => go_simp <;> rfl); intro gb358 hg w7 hbox hb; have BK358 := Aside0.mk (hbox); have GW358 := qg hg (by repeat (first | (with_reducible first | exact HB.out | apply qx | apply qv | apply qw) | exact HB.out)); have GE358 := GW358; replace HB := Aside0.mk (below_step (by repeat (first | (with_reducible first | exact HB.out | apply qx | apply qv | apply qw) | exact HB.out)) hb); clear hb hbox hg) | ((with_reducible refine gate_dst (N := 5) rfl ?_); refine box_event ?hg (N := 5) ?hd (cs := #[.bool a2_0, .slice A2_1 l2_1.length c2_1]) (t := 34) ?hr ?_; (case hd => rfl); (case hg => rfl); (case hr => go_simp <;> rfl); intro gb359 hg w8 hbox hb; have BK359 := Aside0.mk (hbox); have GW359 := qg hg (by repeat (first | (with_reducible first | exact HB.out | apply qx | apply qv | apply qw | refine below_set ?_ GE358.out) | exact HB.out)); have GE359 := GW359; replace HB := Aside0.mk (below_step (by repeat (first | (with_reducible first | exact HB.out | apply qx | apply qv | apply qw | refine below_set ?_ GE358.out) | exact HB.out)) hb); have NB358_359 := qn BK358 hg; have NB359_358 := qm BK358 hg; replace BK358 := qb BK358 hb; clear hb hbox hg; have hnb9 := NB359_358.out; have hnc9 := NB358_359.out; have hcz10_0 : w8.cell? ⟨gb359, 0, none⟩ = some (.bool a2_0) := qc BK359 0; have hcz10_1 : w8.cell? ⟨gb359, 1, none⟩ = some (.slice A2_1 l2_1.length c2_1) := qc BK359 1; have hfz10_0 := blk_frozen BK359.out 0; have hfz10_1 := blk_frozen BK359.out 1) | ((with_reducible refine gate_callee (f := 52) rfl ?_); refine goesL_ (some 11) rfl rfl Tryd.func52 (by kernel_rfl) rfl #[.agg #[.bool a2_0, .slice A2_1 l2_1.length c2_1]] rfl (by (try simp only [zM, zO, zP]); first|done|rfl) ?_; (with_reducible refine (moraineref02_Num.calls k a2_0 _ _ l2_1 t360 t361 t364 _ ?side1 ?side2 A4.out).mono ?_); (case side1 => exact qC HR2_1 HB); (case side2 => exact HC2_1.out); rintro e w11 ⟨v362, rfl, ho0, hb⟩; refine ⟨_, rfl, ?_⟩; have HO363 := Aside0.mk (Kd.R_lower ho0 (below_size (by repeat with_reducible first|exact HB.out|apply qx|apply qv|apply qw|refine qs ?_ (by assumption)))); replace BK358 := qb BK358 hb; replace BK359 := qb BK359 hb; replace HB := Aside0.mk (below_step (by repeat with_reducible first|exact HB.out|apply qx|apply qv|apply qw|refine qs ?_ (by assumption)) hb); (try clear hb); (try clear hb2); (try clear hk); (try clear hi); (try clear ho0)) | ((with_reducible refine gate_dst (N := 7) rfl ?_); refine box_event ?hg (N := 7) ?hd (cs := #[.bool false, .slice none 0 0]) (t := 25) ?hr ?_; (case hd => rfl); (case hg => rfl); (case hr => go_simp <;> rfl); intro gb365 hg w12 hbox hb; replace HO363 := qr HO363 hb; have BK365 := Aside0.mk (hbox); have GW365 := qg hg (by repeat with_reducible first|exact HB.out|apply qx|apply qv|apply qw|refine qs ?_ (by assumption)); have GE365 := GW365; replace HB := Aside0.mk (below_step (by repeat with_reducible first|exact HB.out|apply qx|apply qv|apply qw|refine qs ?_ (by assumption)) hb); have NB358_365 := qn BK358 hg; have NB365_358 := qm BK358 hg; replace BK358 := qb BK358 hb; have NB359_365 := qn BK359 hg; have NB365_359 := qm BK359 hg; replace BK359 := qb BK359 hb; clear hb hbox hg; have hnb13 := NB365_358.out; have hnc13 := NB358_365.out; have hnb14 := NB365_359.out; have hnc14 := NB359_365.out; have hcz15_0 : w12.cell? ⟨gb365, 0, none⟩ = some (.bool false) := qc BK365 0; have hcz15_1 : w12.cell? ⟨gb365, 1, none⟩ = some (.slice none 0 0) := qc BK365 1; have hfz15_0 := blk_frozen BK365.out 0; have hfz15_1 := blk_frozen BK365.out 1; obtain ⟨Ao16, co16, eo16⟩ := Kd.R_slice HO363.out; subst eo16; have hcz17_0 : w12.cell? ⟨gb358, 0, none⟩ = some (.bool a0_0) := qc BK358 0; have hcz17_1 : w12.cell? ⟨gb358, 1, none⟩ = some (.slice A0_1 l0_1.length c0_1) := qc BK358 1; have hfz17_0 := blk_frozen BK358.out 0; have hfz17_1 := blk_frozen BK358.out 1) | (go_at_call 17; (with_reducible refine (moraineref02_Same.calls k a0_0 _ _ l0_1 t360 _ _ t361 t366 _ ?side1 ?side2 ?side3 ?side4 A6.out).mono ?_); (case side1 => exact Kd.C_below HR0_1.out (by repeat with_reducible first|exact HB.out|apply qx|apply qv|apply qw|refine qs ?_ (by assumption))); (case side2 => exact HC0_1.out); (case side3 => refine (Kd.R_reads' (e := 63) (base := w.heap.size) (ok := fun k_ => True) (n := t361.length) (c := co16) ?_).2.2; exact (by (with_reducible repeat first|apply Kd.R_alloc|apply Kd.R_drewN|apply Kd.R_drew); exact (Kd.R_mono (qz HO363 BK365 (by decide) (.bool t360) (.slice Ao16 t361.length co16)) (fun _ h_ => h_.1)))); (case side4 => exact (Kd.R_reads' HO363.out).2.1); rintro e w18 ⟨rfl, hb⟩; have n0_ := Aside0.mk (Kd.R_below (by (with_reducible repeat first|apply Kd.R_alloc|apply Kd.R_drewN|apply Kd.R_drew); exact (Kd.R_mono (qz HO363 BK365 (by decide) (.bool t360) (.slice Ao16 t361.length co16)) (fun _ h_ => h_.1))) hb); have n1_ := Aside0.mk (blk_below (g := gb358) (o := .cells #[.bool a0_0, .slice A0_1 l0_1.length c0_1] 25 (0, 0)) (by (with_reducible repeat first|refine qN ?_ _|refine qW ?_|refine qA ?_ _); refine qf ?_ NB358_365; (with_reducible repeat first|refine qN ?_ _|refine qW ?_|refine qA ?_ _); exact BK358.out) hb); have n2_ := Aside0.mk (blk_below (g := gb359) (o := .cells #[.bool a2_0, .slice A2_1 l2_1.length c2_1] 34 (0, 0)) (by (with_reducible repeat first|refine qN ?_ _|refine qW ?_|refine qA ?_ _); refine qf ?_ NB359_365; (with_reducible repeat first|refine qN ?_ _|refine qW ?_|refine qA ?_ _); exact BK359.out) hb); have n3_ := Aside0.mk (blk_below (g := gb365) (o := .cells #[.bool t360, .slice Ao16 t361.length co16] 25 (0, 0)) (by (with_reducible repeat first|refine qN ?_ _|refine qW ?_|refine qA ?_ _); refine blk_put (cs := #[.bool t360, .slice none 0 0]) ?_ 1 _ rfl; (with_reducible repeat first|refine qN ?_ _|refine qW ?_|refine qA ?_ _); refine blk_put (cs := #[.bool false, .slice none 0 0]) ?_ 0 _ rfl; (with_reducible repeat first|refine qN ?_ _|refine qW ?_|refine qA ?_ _); exact BK365.out) hb); have n4_ := Aside0.mk (below_step (by repeat with_reducible first|exact HB.out|apply qx|apply qv|apply qw|refine qs ?_ (by assumption)) hb); clear HO363; clear BK358; clear BK359; clear BK365; clear HB; have HO363 := n0_; have BK358 := n1_; have BK359 := n2_; have BK365 := n3_; have HB := n4_; clear n0_ n1_ n2_ n3_ n4_; (try clear hb); (try clear hb2); (try clear hk); (try clear hi)))
  go_ret
  exact ⟨by first | rfl | (simp [errW_none, errW_some] <;> rfl) | (simp [*, errW_none, errW_some] <;> rfl), by repeat (first | (with_reducible first | exact HB.out | apply qx | apply qv | apply qw | refine qs ?_ (by assumption)) | exact HB.out)⟩
 ·rw [if_neg c5] at H
  have c5b0 : (a1 == t364) = false := beq_eq_false_iff_ne.mpr c5
  have c5b1 : (a1 != t364) = true := bne_iff_ne.mpr c5
  obtain rfl := Option.some.inj H
  go_enter Tryd.func27, Tryd.ntmps27
  go_wp2_with (first | ((with_reducible refine gate_dst (N := 3) rfl ?_); refine box_event ?hg (N := 3) ?hd (cs := #[.bool a0_0, .slice A0_1 l0_1.length c0_1]) (t := 25) ?hr ?_; (case hd => rfl); (case hg => rfl); (case hr => go_simp <;> rfl); intro gb358 hg w19 hbox hb; have BK358 := Aside0.mk (hbox); have GW358 := qg hg (by repeat (first | (with_reducible first | exact HB.out | apply qx | apply qv | apply qw) | exact HB.out)); have GE358 := GW358; replace HB := Aside0.mk (below_step (by repeat (first | (with_reducible first | exact HB.out | apply qx | apply qv | apply qw) | exact HB.out)) hb); clear hb hbox hg) | ((with_reducible refine gate_dst (N := 5) rfl ?_); refine box_event ?hg (N := 5) ?hd (cs := #[.bool a2_0, .slice A2_1 l2_1.length c2_1]) (t := 34) ?hr ?_; (case hd => rfl); (case hg => rfl); (case hr => go_simp <;> rfl); intro gb359 hg w20 hbox hb; have BK359 := Aside0.mk (hbox); have GW359 := qg hg (by repeat (first | (with_reducible first | exact HB.out | apply qx | apply qv | apply qw | refine below_set ?_ GE358.out) | exact HB.out)); have GE359 := GW359; replace HB := Aside0.mk (below_step (by repeat (first | (with_reducible first | exact HB.out | apply qx | apply qv | apply qw | refine below_set ?_ GE358.out) | exact HB.out)) hb); have NB358_359 := qn BK358 hg; have NB359_358 := qm BK358 hg; replace BK358 := qb BK358 hb; clear hb hbox hg; have hnb21 := NB359_358.out; have hnc21 := NB358_359.out; have hcz22_0 : w20.cell? ⟨gb359, 0, none⟩ = some (.bool a2_0) := qc BK359 0; have hcz22_1 : w20.cell? ⟨gb359, 1, none⟩ = some (.slice A2_1 l2_1.length c2_1) := qc BK359 1; have hfz22_0 := blk_frozen BK359.out 0; have hfz22_1 := blk_frozen BK359.out 1) | ((with_reducible refine gate_callee (f := 52) rfl ?_); refine goesL_ (some 11) rfl rfl Tryd.func52 (by kernel_rfl) rfl #[.agg #[.bool a2_0, .slice A2_1 l2_1.length c2_1]] rfl (by (try simp only [zM, zO, zP]); first|done|rfl) ?_; (with_reducible refine (moraineref02_Num.calls k a2_0 _ _ l2_1 t360 t361 t364 _ ?side1 ?side2 A4.out).mono ?_); (case side1 => exact qC HR2_1 HB); (case side2 => exact HC2_1.out); rintro e w23 ⟨v362, rfl, ho0, hb⟩; refine ⟨_, rfl, ?_⟩; have HO363 := Aside0.mk (Kd.R_lower ho0 (below_size (by repeat with_reducible first|exact HB.out|apply qx|apply qv|apply qw|refine qs ?_ (by assumption)))); replace BK358 := qb BK358 hb; replace BK359 := qb BK359 hb; replace HB := Aside0.mk (below_step (by repeat with_reducible first|exact HB.out|apply qx|apply qv|apply qw|refine qs ?_ (by assumption)) hb); (try clear hb); (try clear hb2); (try clear hk); (try clear hi); (try clear ho0)) | ((with_reducible refine gate_dst (N := 7) rfl ?_); refine box_event ?hg (N := 7) ?hd (cs := #[.bool false, .slice none 0 0]) (t := 25) ?hr ?_; (case hd => rfl); (case hg => rfl); (case hr => go_simp <;> rfl); intro gb365 hg w24 hbox hb; replace HO363 := qr HO363 hb; have BK365 := Aside0.mk (hbox); have GW365 := qg hg (by repeat with_reducible first|exact HB.out|apply qx|apply qv|apply qw|refine qs ?_ (by assumption)); have GE365 := GW365; replace HB := Aside0.mk (below_step (by repeat with_reducible first|exact HB.out|apply qx|apply qv|apply qw|refine qs ?_ (by assumption)) hb); have NB358_365 := qn BK358 hg; have NB365_358 := qm BK358 hg; replace BK358 := qb BK358 hb; have NB359_365 := qn BK359 hg; have NB365_359 := qm BK359 hg; replace BK359 := qb BK359 hb; clear hb hbox hg; have hnb25 := NB365_358.out; have hnc25 := NB358_365.out; have hnb26 := NB365_359.out; have hnc26 := NB359_365.out; have hcz27_0 : w24.cell? ⟨gb365, 0, none⟩ = some (.bool false) := qc BK365 0; have hcz27_1 : w24.cell? ⟨gb365, 1, none⟩ = some (.slice none 0 0) := qc BK365 1; have hfz27_0 := blk_frozen BK365.out 0; have hfz27_1 := blk_frozen BK365.out 1; obtain ⟨Ao28, co28, eo28⟩ := Kd.R_slice HO363.out; subst eo28))
  go_ret
  exact ⟨by first | rfl | (simp [errW_none, errW_some] <;> rfl) | (simp [*, errW_none, errW_some] <;> rfl), by repeat (first | (with_reducible first | exact HB.out | apply qx | apply qv | apply qw | refine qs ?_ (by assumption)) | exact HB.out)⟩
def morainelaw02_long.f (a0_0 : Bool) (l0_1 : List Int) : Option (Bool) := some (decide ((l0_1.length : Int) > 60))
set_option maxHeartbeats 8000000 in
set_option maxRecDepth 100000 in
theorem morainelaw02_long.calls (a0_0 : Bool) (A0_1 : Option Addr) (c0_1 : Nat) (l0_1 : List Int) (r : Bool) (w : World) (hr0_1 : Kd.C (Kd.int .u32) w A0_1 l0_1.length l0_1) (hc0_1 : l0_1.length ≤ c0_1) (h : morainelaw02_long.f a0_0 l0_1 = some r) :
  Calls Tryd.prog 21 #[.agg #[.bool a0_0, .slice A0_1 l0_1.length c0_1]] w fun e w' => e = .returned (.bool r) ∧ Below w.heap.size w w' := by
 have hu25 := Tryd.underlying25
 have HR0_1 := Aside0.mk hr0_1
 have HC0_1 := Aside0.mk hc0_1
 clear hr0_1 hc0_1
 have HB := Aside0.mk (Below.refl w.heap.size w)
 have H : (some (decide ((l0_1.length : Int) > 60))) = some r := h
 clear h
 obtain rfl := Option.some.inj H
 go_enter Tryd.func21, Tryd.ntmps21
 go_wp2_with (first | ((with_reducible refine gate_dst (N := 1) rfl ?_); refine box_event ?hg (N := 1) ?hd (cs := #[.bool a0_0, .slice A0_1 l0_1.length c0_1]) (t := 25) ?hr ?_; (case hd => rfl); (case hg => rfl); (case hr => go_simp <;> rfl); intro gb367 hg w2 hbox hb; have BK367 := Aside0.mk (hbox); have GW367 := qg hg (by repeat (first | (with_reducible first | exact HB.out | apply qx | apply qv | apply qw) | exact HB.out)); have GE367 := GW367; replace HB := Aside0.mk (below_step (by repeat (first | (with_reducible first | exact HB.out | apply qx | apply qv | apply qw) | exact HB.out)) hb); clear hb hbox hg; have hcz3_0 : w2.cell? ⟨gb367, 0, none⟩ = some (.bool a0_0) := qc BK367 0; have hcz3_1 : w2.cell? ⟨gb367, 1, none⟩ = some (.slice A0_1 l0_1.length c0_1) := qc BK367 1; have hfz3_0 := blk_frozen BK367.out 0; have hfz3_1 := blk_frozen BK367.out 1))
 go_ret
 exact ⟨by first | rfl | (simp [errW_none, errW_some] <;> rfl) | (simp [*, errW_none, errW_some] <;> rfl), by repeat (first | (with_reducible first | exact HB.out | apply qx | apply qv | apply qw | refine below_set ?_ GE367.out) | exact HB.out)⟩
end Go.Proofs.YthhpnlbeniihhaaDoor.PRef
namespace Go.Proofs.YthhpnlbeniihhaaDoor.RefC
open Go.RowKit Go.Proofs.YthhpnlbeniihhaaDoorW.PrintWords Go.Proofs.YthhpnlbeniihhaaDoorW.PrintLast Go.Proofs.YthhpnlbeniihhaaDoorW.PrintMore Go.Proofs.YthhpnlbeniihhaaDoor.Limb Go.Proofs.YthhpnlbeniihhaaDoor.Bit Go.Proofs.YthhpnlbeniihhaaDoor.NumA Go.Proofs.YthhpnlbeniihhaaDoor.NumE Go.Proofs.YthhpnlbeniihhaaDoor.NumG Go.Proofs.YthhpnlbeniihhaaDoor.NumJ Go.Proofs.YthhpnlbeniihhaaDoor.RefA Go.Proofs.YthhpnlbeniihhaaDoor.RefB Go.Proofs.YthhpnlbeniihhaaDoor.PRef
set_option linter.unusedVariables false
set_option linter.unusedSimpArgs false
/-- A whole number's sign and bits. -/
def vb (z : Int) : Bool := decide (z < 0)
def vl (z : Int) : List Int := Bit.bits z.natAbs
theorem ok_vl (z : Int) : OkB (vl z) := ok_bits _
theorem tr_vl (z : Int) : tr (vl z) = vl z := by unfold vl; rw [tr_bits (ok_bits _), bv_bits]
theorem bv_vl (z : Int) : bv (vl z) = z.natAbs := bv_bits _
theorem v_mk (b : Bool) (n : Nat) (z : Int) (hn : z.natAbs = n) (hb : n ≠ 0 → b = decide (z < 0)) : (b && decide (n ≠ 0), Bit.bits n) = (vb z, vl z) := by
  subst hn
  unfold vb vl
  by_cases h : z.natAbs = 0
  · have : z = 0 := by omega
    subst this; simp
  · rw [hb h]; simp [h]
theorem Value_at (neg : Bool) (l : List Int) (ok : OkL l) (hl : l.length < 1099511627776) : Ev (fun k => moraineref02_Value.f k neg l) (vb (val neg l), vl (val neg l)) := by
  have h := Value_ev neg l ok hl
  rw [v_mk neg (mag l) (val neg l) (by unfold val; cases neg <;> simp) (fun h => by unfold val; cases neg <;> simp; omega)] at h
  exact h
theorem bits_pos (n : Nat) : decide (0 < (Bit.bits n).length) = decide (n ≠ 0) := by
  rw [decide_eq_decide]
  have := bits_len n 0
  rw [Nat.pow_zero] at this
  omega
theorem value_bits (b : Bool) (n : Nat) (h : (Bit.bits n).length < 4611686018427387904) (z : Int) (hn : z.natAbs = n) (hb : n ≠ 0 → b = decide (z < 0)) : Ev (fun k => moraineref02_value.f k b (Bit.bits n)) (vb z, vl z) := by
  have hv := value_ev b (Bit.bits n) h
  rw [tr_bits (ok_bits n), bv_bits, bits_pos, v_mk b n z hn hb] at hv
  exact hv
theorem len_sum {m n L : Nat} (hm : (Bit.bits m).length ≤ L) (hn : (Bit.bits n).length ≤ L) : (Bit.bits (m + n)).length ≤ L + 1 := by
  rw [bits_len] at *
  rw [Nat.pow_succ]; omega
theorem len_less {m n L : Nat} (h : m ≤ n) (hn : (Bit.bits n).length ≤ L) : (Bit.bits m).length ≤ L := by
  rw [bits_len] at *; omega
theorem Add_at (y z : Int) (L : Nat) (hL : L < 70368744177664) (hy : (vl y).length ≤ L) (hz : (vl z).length ≤ L) : Ev (fun k => moraineref02_Add.f k (vb y) (vl y) (vb z) (vl z)) (vb (y + z), vl (y + z)) := by
  unfold moraineref02_Add.f
  by_cases hs : vb y = vb z
  · simp only [show (vb y == vb z) = true by simp [hs], if_true]
    have hp := plus_ev (vl y) (vl z) (ok_vl y) (ok_vl z) (by omega) (by omega)
    rw [bv_vl, bv_vl] at hp
    have hd : (y < 0) ↔ (z < 0) := by unfold vb at hs; rw [decide_eq_decide] at hs; exact hs
    have hl := len_sum (m := y.natAbs) (n := z.natAbs) hy hz
    refine Ev.rbind hp (Ev.rbind (value_bits (vb y) (y.natAbs + z.natAbs) (by omega) (y + z) (by omega) (fun h0 => by unfold vb; rw [decide_eq_decide]; omega)) (Ev.now _))
  · simp only [show (vb y == vb z) = false by simpa using hs, Bool.false_eq_true, if_false]
    have hless := less_ev (vl y) (vl z) (ok_vl y) (ok_vl z) (tr_vl y) (tr_vl z) (by omega) (by omega)
    rw [bv_vl, bv_vl] at hless
    have hd : ¬ ((y < 0) ↔ (z < 0)) := by unfold vb at hs; rw [decide_eq_decide] at hs; exact hs
    refine Ev.rbind hless ?_
    by_cases hlt : y.natAbs < z.natAbs
    · simp only [decide_eq_true hlt, if_true]
      have hm := minus_ev (vl z) (vl y) (ok_vl z) (ok_vl y) (by omega) (by rw [bv_vl, bv_vl]; omega)
      rw [bv_vl, bv_vl] at hm
      have hl := len_less (m := z.natAbs - y.natAbs) (n := z.natAbs) (by omega) hz
      refine Ev.rbind hm (Ev.rbind (value_bits (vb z) (z.natAbs - y.natAbs) (by omega) (y + z) (by omega) (fun h0 => by unfold vb; rw [decide_eq_decide]; omega)) (Ev.now _))
    · simp only [decide_eq_false hlt, Bool.false_eq_true, if_false]
      have hm := minus_ev (vl y) (vl z) (ok_vl y) (ok_vl z) (by omega) (by rw [bv_vl, bv_vl]; omega)
      rw [bv_vl, bv_vl] at hm
      have hl := len_less (m := y.natAbs - z.natAbs) (n := y.natAbs) (by omega) hy
      refine Ev.rbind hm (Ev.rbind (value_bits (vb y) (y.natAbs - z.natAbs) (by omega) (y + z) (by omega) (fun h0 => by unfold vb; rw [decide_eq_decide]; omega)) (Ev.now _))
end Go.Proofs.YthhpnlbeniihhaaDoor.RefC
namespace Go.Proofs.YthhpnlbeniihhaaDoor.Hand
open Go.RowKit Go.Proofs.YthhpnlbeniihhaaDoorW.PrintWords Go.Proofs.YthhpnlbeniihhaaDoorW.PrintLast Go.Proofs.YthhpnlbeniihhaaDoorW.PrintMore Go.Proofs.YthhpnlbeniihhaaDoor Go.Proofs.YthhpnlbeniihhaaDoor.Limb Go.Proofs.YthhpnlbeniihhaaDoor.Bit Go.Proofs.YthhpnlbeniihhaaDoor.NumA Go.Proofs.YthhpnlbeniihhaaDoor.RefC
set_option linter.unusedVariables false
set_option linter.unusedSimpArgs false
theorem info8 : (Tryd.prog.info? 5).map (fun i => (i.zero, i.size, i.bytes)) = some (some (.int .u8 0), 1, 1) := by kernel_rfl
set_option maxHeartbeats 1000000 in
theorem cut_calls (A : Option Addr) (c : Nat) (l : List Int) (w : World) (hl : Kd.C (Kd.int .u8) w A l.length l) (hc : l.length ≤ c) :
    Calls Tryd.prog 85 #[.slice A l.length c] w fun e w' => e = .returned (.slice A (tr l).length c) ∧ Drawn0 w w' := by
  have HL := Aside0.mk hl
  have HC := Aside0.mk hc
  clear hl hc
  go_enter Tryd.func85, Tryd.ntmps85
  go_wp2
  go_loopw [3] (fun v3 w' => ∃ x : Int, v3 = .int .i64 x ∧ Aside0 (0 ≤ x ∧ TrimAt l x.toNat) ∧ Drawn0 w w') (fun v3 _ => (intOf v3).toNat)
  case atStart => exact ⟨l.length, rfl, ⟨by omega, trim_start l⟩, Drawn0.refl _⟩
  case round =>
    obtain ⟨x, rfl, HT, ⟨q, rfl⟩⟩ := hrel
    by_cases h0 : x = 0
    · subst h0
      go_wp2
      go_ret
      rw [trim_end HT.out.2]
      exact ⟨rfl, ⟨q, rfl⟩⟩
    · obtain ⟨j, hj⟩ : ∃ j : Int, x - 1 = j := ⟨_, rfl⟩
      have hx : TrimAt l (j.toNat + 1) := by have := HT.out; rw [show j.toNat + 1 = x.toNat by omega]; exact this.2
      have hlen := hx.1
      have hL := (HL.out).2.1
      have hx0 := HT.out.1
      have hw : IntKind.i64.wrap (x - 1) = j := by rw [IntKind.wrap_i64]; omega
      have hw2 : wrap64 (x - 1) = j := by unfold wrap64; omega
      have c0 : decide (0 < x) = true := decide_eq_true (by have := HT.out.1; omega)
      have p0 : 0 ≤ j := by have := HT.out.1; omega
      have q0 : j < (l.length : Int) := by omega
      obtain ⟨ad, e0, hcell⟩ := Kd.at_int HL.out j p0 q0
      have HX := Aside0.mk hx
      have HP := Aside0.mk p0
      have HQ := Aside0.mk q0
      have HXJ := Aside0.mk hj
      clear hx hlen hL h0 hj hx0
      cases e0
      replace p0 := eq_true p0
      replace q0 := eq_true q0
      by_cases hz : rd l j = 0
      · have z0 : (rd l j == 0) = true := beq_iff_eq.mpr hz
        have HZ := Aside0.mk hz
        clear hz
        go_wp2
        go_roundw
        case rel => exact ⟨j, rfl, ⟨HP.out, trim_step HX.out (by rw [Int.toNat_of_nonneg HP.out]; exact HZ.out)⟩, ⟨q, rfl⟩⟩
        case measure => have := HXJ.out; have := HP.out; simp [intOf]; omega
      · have z0 : (rd l j == 0) = false := beq_eq_false_iff_ne.mpr hz
        have HZ := Aside0.mk hz
        have hxl : x ≤ (l.length : Int) := by have := HXJ.out; have := HQ.out; omega
        obtain ⟨i0, hi0, _, _, _⟩ := info_parts info8
        have hcut := cut_to (P := Tryd.prog) 32 5 .i64 Tryd.underlying32 hi0 (some ad) l.length c x (by have := HXJ.out; have := HP.out; omega) hxl HC.out
        clear hi0 hz
        have HXL := Aside0.mk hxl
        clear hxl
        go_wp2
        go_ret
        have e : (tr l).length = x.toNat := by
          have h1 := HXJ.out
          have h2 := HP.out
          have h3 := HXL.out
          rw [trim_stop HX.out (by rw [Int.toNat_of_nonneg h2]; exact HZ.out), List.length_take]
          omega
        rw [e]
        exact ⟨rfl, ⟨q, rfl⟩⟩
set_option maxRecDepth 100000 in
set_option maxHeartbeats 4000000 in
theorem value_calls (neg : Bool) (A : Option Addr) (c : Nat) (l : List Int) (w : World) (hl : Kd.C (Kd.int .u8) w A l.length l) (hc : l.length ≤ c) :
    Calls Tryd.prog 62 #[.bool neg, .slice A l.length c] w fun e w' => e = .returned (.agg #[.bool (neg && decide (0 < (tr l).length)), .slice A (tr l).length c]) ∧ Below w.heap.size w w' := by
  have C := cut_calls A c l (w.alloc (.cells #[.bool false, .slice none 0 0] 34 (0, 0))) (Kd.C_alloc hl _) hc
  generalize (tr l).length = n at *
  have S0 := St.start w
  obtain ⟨z0, z1, f0, f1, S1⟩ := S0.put (.bool false) (.slice none 0 0) (.bool (neg && decide (0 < n))) (.slice A n c) 34 (by decide)
  have HS := Aside0.mk S1
  have CC := Lib.hid C
  clear C S0 S1 hl hc
  cases neg with
  | false =>
    go_enter Tryd.func62, Tryd.ntmps62
    go_wp2_with fail
    refine CC.out.mono ?_
    rintro e w' ⟨rfl, ⟨nd, rfl⟩⟩
    go_wp2
    refine bodyPost_ret (results_cell_row rfl _ _ w.heap.size 34 #[.bool (false && decide (0 < n)), .slice A n c] (0, 0) _ rfl (blk_drewN (HS.out.box _ List.mem_cons_self) nd) Tryd.underlying34 rfl (by kernel_rfl)) rfl ?_
    exact ⟨rfl, pw_below_drewN HS.out.below nd⟩
  | true =>
    go_enter Tryd.func62, Tryd.ntmps62
    go_wp2_with fail
    refine CC.out.mono ?_
    rintro e w' ⟨rfl, ⟨nd, rfl⟩⟩
    go_wp2
    refine bodyPost_ret (results_cell_row rfl _ _ w.heap.size 34 #[.bool (true && decide (0 < n)), .slice A n c] (0, 0) _ rfl (blk_drewN (HS.out.box _ List.mem_cons_self) nd) Tryd.underlying34 rfl (by kernel_rfl)) rfl ?_
    exact ⟨rfl, pw_below_drewN HS.out.below nd⟩
end Go.Proofs.YthhpnlbeniihhaaDoor.Hand
namespace Go.Proofs.YthhpnlbeniihhaaDoor.RefD
end Go.Proofs.YthhpnlbeniihhaaDoor.RefD
namespace Go.Proofs.YthhpnlbeniihhaaDoor.RefE
open Go.RowKit Go.Proofs.YthhpnlbeniihhaaDoorW.PrintWords Go.Proofs.YthhpnlbeniihhaaDoorW.PrintLast Go.Proofs.YthhpnlbeniihhaaDoorW.PrintMore Go.Proofs.YthhpnlbeniihhaaDoor.Limb Go.Proofs.YthhpnlbeniihhaaDoor.Bit Go.Proofs.YthhpnlbeniihhaaDoor.NumA Go.Proofs.YthhpnlbeniihhaaDoor.NumB Go.Proofs.YthhpnlbeniihhaaDoor.NumE Go.Proofs.YthhpnlbeniihhaaDoor.NumG Go.Proofs.YthhpnlbeniihhaaDoor.NumJ Go.Proofs.YthhpnlbeniihhaaDoor.Quo Go.Proofs.YthhpnlbeniihhaaDoor.Plain Go.Proofs.YthhpnlbeniihhaaDoor.RefA Go.Proofs.YthhpnlbeniihhaaDoor.RefB Go.Proofs.YthhpnlbeniihhaaDoor.RefC Go.Proofs.YthhpnlbeniihhaaDoor.RefD Go.Proofs.YthhpnlbeniihhaaDoor.PRef
set_option linter.unusedVariables false
set_option linter.unusedSimpArgs false
theorem or_word (x t : Nat) (hx : x < 2 ^ t) (ht : t < 32) : Go.bits .or .u32 (x : Int) (shl .u32 1 (t : Int)) = ((x + 2 ^ t : Nat) : Int) := by
  have hp : (2 : Nat) ^ t < 2 ^ 32 := Nat.pow_lt_pow_right (by decide) ht
  have e : shl .u32 1 (t : Int) = ((2 ^ t : Nat) : Int) := by
    unfold shl
    rw [Int.toNat_natCast, Nat.min_eq_left (by show t ≤ 32; omega), Int.one_mul, IntKind.wrap_u32]
    have : ((2 : Int) ^ t) = ((2 ^ t : Nat) : Int) := by rw [Int.natCast_pow]; rfl
    rw [this]
    omega
  have hor : x ||| 2 ^ t = x + 2 ^ t := by
    have := Nat.two_pow_add_eq_or_of_lt hx 1
    rw [Nat.mul_one] at this
    rw [Nat.or_comm, ← this, Nat.add_comm]
  have h1 : x < 4294967296 := by omega
  rw [e, u32_or _ _ (by omega) (by omega) (by omega) (by omega), Int.toNat_natCast, Int.toNat_natCast, hor]
theorem num_last (z : Int) (M : List Int) (ok : OkL M) (hl : M.length = ((vl z).length + 31) / 32) (hm : mag M = z.natAbs) : M = sl z := by
  have ht : tr M = sl z := by unfold sl; rw [tr_limbs ok, hm]
  rw [← ht]
  have hle := tr_len_le M
  have hge : M.length ≤ (tr M).length := by
    by_cases h0 : (vl z).length = 0
    · omega
    · have hb : ¬ ((vl z).length ≤ (vl z).length - 1) := by omega
      have hb2 : ¬ (z.natAbs < 2 ^ ((vl z).length - 1)) := fun h => hb ((bits_len z.natAbs _).mpr h)
      have hq : ¬ ((tr M).length ≤ M.length - 1) := by
        intro h
        rw [ht] at h
        unfold sl at h
        rw [limbs_len] at h
        refine hb2 (Nat.lt_of_lt_of_le h ?_)
        rw [show (4294967296 : Nat) = 2 ^ 32 from rfl, ← Nat.pow_mul]
        exact Nat.pow_le_pow_right (by decide) (by omega)
      omega
  rw [← tr_take M, List.take_of_length_le hge]
theorem w_div (i : Nat) (h : i < 4611686018427387904) : wrap64 (Int.tdiv (i : Int) 32) = ((i / 32 : Nat) : Int) := by
  rw [Int.tdiv_eq_ediv_of_nonneg (by omega), w64s (by omega) (by omega)]; omega
theorem t_mod (i : Nat) : Int.tmod (i : Int) 32 = ((i % 32 : Nat) : Int) := by rw [Int.tmod_eq_emod_of_nonneg (by omega)]; omega
theorem okL_app {M : List Int} (h : OkL M) : OkL (M ++ [0]) := by
  intro x hx
  rcases List.mem_append.mp hx with hx | hx
  · exact h x hx
  · obtain rfl : x = 0 := by simpa using hx
    decide
theorem okL_set {M : List Int} (h : OkL M) (q : Nat) {x : Nat} (hx : x < 4294967296) : OkL (M.set q (x : Int)) := by
  intro y hy
  rcases List.mem_or_eq_of_mem_set hy with hy | rfl
  · exact h y hy
  · omega
theorem mag_app (M : List Int) : mag (M ++ [0]) = mag M := by rw [mag_append]; simp [mag]
/-- One bit set into a row of limbs that stands below it. -/
theorem set_up {M : List Int} (ok : OkL M) (i : Nat) (hq : i / 32 < M.length) (hm : mag M < 2 ^ i) :
    nl M (i / 32) < 2 ^ (i % 32) ∧ mag (M.set (i / 32) ((nl M (i / 32) + 2 ^ (i % 32) : Nat) : Int)) = mag M + 2 ^ i := by
  have hp := pow_split i
  have h1 : nl M (i / 32) < 2 ^ (i % 32) := by
    rw [← mag_limb ok]
    refine Nat.lt_of_le_of_lt (Nat.mod_le _ _) ?_
    rw [Nat.div_lt_iff_lt_mul (Nat.pow_pos (by decide)), Nat.mul_comm, ← hp]
    exact hm
  refine ⟨h1, ?_⟩
  have hs := mag_set M (i / 32) ((nl M (i / 32) + 2 ^ (i % 32) : Nat) : Int) hq
  rw [Int.toNat_natCast, Nat.mul_add, ← hp] at hs
  omega
theorem num_step (z : Int) (hz : (vl z).length ≤ 1536) (i k : Nat) (hi : i < (vl z).length) (M : List Int) (hM : M.length = i / 32 + 1) (ok : OkL M) (hm : mag M = bv ((vl z).take i)) (R : Bool × List Int × Int)
    (h : ∀ N : List Int, N.length = i / 32 + 1 → OkL N → mag N = bv ((vl z).take (i + 1)) → moraineref02_Num.l0 k ((i + 1 : Nat) : Int) (vb z) (vl z) (vb z) N = some R) :
    (if (rd (vl z) (i : Int)) = 1 then (if 0 ≤ (wrap64 (Int.tdiv (i : Int) 32)) then (if (wrap64 (Int.tdiv (i : Int) 32)) < (M.length : Int) then (if 0 ≤ (Int.tmod (i : Int) 32) then (moraineref02_Num.l0 k (wrap64 ((i : Int) + 1)) (vb z) (vl z) (vb z) (M.set ((wrap64 (Int.tdiv (i : Int) 32)) : Int).toNat (Go.bits .or .u32 (rd M (wrap64 (Int.tdiv (i : Int) 32))) (shl .u32 1 (Int.tmod (i : Int) 32))))) else (none)) else (none)) else (none)) else (moraineref02_Num.l0 k (wrap64 ((i : Int) + 1)) (vb z) (vl z) (vb z) M)) = some R := by
  have hb := nl_le (ok_vl z) i
  have hrd : rd (vl z) (i : Int) = ((nl (vl z) i : Nat) : Int) := (nl_cast (OkB.okL (ok_vl z)) i).symm
  have hlt := bv_take_lt (ok_vl z) i (by omega)
  have hn := bv_take_next (vl z) i
  rw [w_div i (by omega), t_mod, w_next i (by omega), hrd]
  by_cases h1 : nl (vl z) i = 1
  · obtain ⟨hs1, hs2⟩ := set_up ok i (by omega) (by rw [hm]; exact hlt)
    have hw : nl M (i / 32) + 2 ^ (i % 32) < 4294967296 := by
      have : (2 : Nat) ^ (i % 32) ≤ 2 ^ 31 := Nat.pow_le_pow_right (by decide) (by omega)
      omega
    rw [if_pos (by omega), if_pos (by omega), if_pos (by omega), if_pos (by omega), ← nl_cast ok, or_word _ _ hs1 (by omega), Int.toNat_natCast]
    exact h _ (by rw [List.length_set]; exact hM) (okL_set ok _ hw) (by rw [hs2, hm, hn, h1]; omega)
  · have h0 : nl (vl z) i = 0 := by omega
    rw [if_neg (by omega)]
    exact h M hM ok (by rw [hm, hn, h0]; omega)
theorem num_loop (z : Int) (hz : (vl z).length ≤ 1536) (d : Nat) : ∀ (i k : Nat) (M : List Int), i + d = (vl z).length → d < k → M.length = (i + 31) / 32 → OkL M → mag M = bv ((vl z).take i) →
    moraineref02_Num.l0 k (i : Int) (vb z) (vl z) (vb z) M = some (vb z, sl z, 0) := by
  induction d with
  | zero =>
    intro i k M hi hk hM ok hm
    obtain ⟨k, rfl⟩ : ∃ j, k = j + 1 := ⟨k - 1, by omega⟩
    obtain rfl : i = (vl z).length := by omega
    rw [List.take_length, bv_vl] at hm
    rw [moraineref02_Num.l0, if_neg (by omega), num_last z M ok hM hm]
  | succ d ih =>
    intro i k M hi hk hM ok hm
    obtain ⟨k, rfl⟩ : ∃ j, k = j + 1 := ⟨k - 1, by omega⟩
    have hlt : i < (vl z).length := by omega
    have next : ∀ N : List Int, N.length = i / 32 + 1 → OkL N → mag N = bv ((vl z).take (i + 1)) → moraineref02_Num.l0 k ((i + 1 : Nat) : Int) (vb z) (vl z) (vb z) N = some (vb z, sl z, 0) :=
      fun N hN oN mN => ih (i + 1) k N (by omega) (by omega) (by omega) oN mN
    rw [moraineref02_Num.l0, if_pos (by omega)]
    by_cases h0 : i % 32 = 0
    · rw [if_pos (by rw [t_mod]; omega), if_pos (by omega), bsome, if_pos (by omega)]
      exact num_step z hz i k hlt (M ++ [0]) (by rw [List.length_append, List.length_singleton]; omega) (okL_app ok) (by rw [mag_app]; exact hm) _ next
    · rw [if_neg (by rw [t_mod]; omega), if_pos (by omega)]
      exact num_step z hz i k hlt M (by omega) ok hm _ next
theorem pow_words (n k m : Nat) (h : m = 32 * k) : n < 2 ^ m ↔ n < 4294967296 ^ k := by
  subst h
  rw [Nat.pow_mul]
/-- Num: a number of limbs, or 'too big'. -/
theorem Num_at (z : Int) : moraineref02_Num.f ((vl z).length + 1) (vb z) (vl z) = some (mkI z) := by
  unfold moraineref02_Num.f
  have hlen : (vl z).length ≤ 1536 ↔ Fits z := (bits_len z.natAbs 1536).trans (pow_words z.natAbs 48 1536 rfl)
  by_cases h : (vl z).length ≤ 1536
  · rw [if_neg (by omega), mkI_fits (hlen.mp h)]
    exact num_loop z h (vl z).length 0 _ [] (by omega) (by omega) rfl (fun x hx => by cases hx) (by simp [bv, mag])
  · rw [if_pos (by omega), mkI_big (fun hf => h (hlen.mpr hf))]
end Go.Proofs.YthhpnlbeniihhaaDoor.RefE
namespace Go.Proofs.YthhpnlbeniihhaaDoor
open Go.RowKit Go.Proofs.YthhpnlbeniihhaaDoorW.PrintWords Go.Proofs.YthhpnlbeniihhaaDoorW.PrintLast Go.Proofs.YthhpnlbeniihhaaDoorW.PrintMore Go.Proofs.YthhpnlbeniihhaaDoor.NumG Go.Proofs.YthhpnlbeniihhaaDoor.NumA
set_option linter.unusedVariables false
theorem same_loop (a b : Bool) (l m : List Int) (hl : l.length = m.length) (hb : l.length < 1073741824) : ∀ (d i k : Nat), i + d = l.length → d < k → (l.take i = m.take i) →
    PRef.moraineref02_Same.l0 k (i : Int) a l b m = some (decide (l = m)) := by
  intro d
  induction d with
  | zero =>
    intro i k hi hk ht
    obtain ⟨k, rfl⟩ : ∃ j, k = j + 1 := ⟨k - 1, by omega⟩
    rw [PRef.moraineref02_Same.l0, if_neg (by omega)]
    have : l = m := by
      have e1 : l.take i = l := List.take_of_length_le (by omega)
      have e2 : m.take i = m := List.take_of_length_le (by omega)
      rw [e1, e2] at ht; exact ht
    rw [decide_eq_true this]
  | succ d ih =>
    intro i k hi hk ht
    obtain ⟨k, rfl⟩ : ∃ j, k = j + 1 := ⟨k - 1, by omega⟩
    have h1 : i < l.length := by omega
    have h2 : i < m.length := by omega
    rw [PRef.moraineref02_Same.l0, if_pos (by omega), if_pos (by omega), if_pos (by omega), rd_nat l i h1, rd_nat m i h2]
    by_cases he : l[i] = m[i]
    · rw [if_pos he, show wrap64 ((i : Int) + 1) = ((i + 1 : Nat) : Int) by unfold wrap64; omega]
      refine ih (i + 1) k (by omega) (by omega) ?_
      rw [List.take_succ_eq_append_getElem h1, List.take_succ_eq_append_getElem h2, ht, he]
    · rw [if_neg he, decide_eq_false]
      intro hlm
      subst hlm
      exact he rfl
def moraineref02_Same.f (a0_0 : Bool) (l0_1 : List Int) (a1_0 : Bool) (l1_1 : List Int) : Option Bool := if l0_1.length < 1073741824 then some (decide (a0_0 = a1_0 ∧ l0_1 = l1_1)) else none
theorem same_eq (a b : Bool) (l m : List Int) (hb : l.length < 1073741824) : PRef.moraineref02_Same.f (l.length + 2) a l b m = some (decide (a = b ∧ l = m)) := by
  unfold PRef.moraineref02_Same.f
  by_cases hab : a = b
  · subst hab
    rw [if_neg (by simp)]
    by_cases hl : l.length = m.length
    · rw [show ((l.length : Int) != (m.length : Int)) = false by rw [hl]; simp, PRef.moraineref02_Same.j0, if_neg (by decide)]
      refine (same_loop a a l m hl hb l.length 0 (l.length + 1) (by omega) (by omega) (by simp)).trans ?_
      simp
    · rw [show ((l.length : Int) != (m.length : Int)) = true by rw [bne_iff_ne]; omega, PRef.moraineref02_Same.j0, if_pos rfl, decide_eq_false]
      rintro ⟨-, rfl⟩
      exact hl rfl
  · rw [if_pos (by simpa using hab), PRef.moraineref02_Same.j0, if_pos rfl, decide_eq_false]
    rintro ⟨h, -⟩
    exact hab h
theorem moraineref02_Same.calls (a0_0 : Bool) (A0_1 : Option Addr) (c0_1 : Nat) (l0_1 : List Int) (a1_0 : Bool) (A1_1 : Option Addr) (c1_1 : Nat) (l1_1 : List Int) (r : Bool) (w : World) (hr0_1 : Kd.C (Kd.int .u32) w A0_1 l0_1.length l0_1) (hc0_1 : l0_1.length ≤ c0_1) (hr1_1 : Kd.C (Kd.int .u32) w A1_1 l1_1.length l1_1) (hc1_1 : l1_1.length ≤ c1_1) (h : moraineref02_Same.f a0_0 l0_1 a1_0 l1_1 = some r) :
    Calls Tryd.prog 17 #[.agg #[.bool a0_0, .slice A0_1 l0_1.length c0_1], .agg #[.bool a1_0, .slice A1_1 l1_1.length c1_1]] w fun e w' => e = .returned (.bool r) ∧ Below w.heap.size w w' := by
  unfold moraineref02_Same.f at h
  by_cases hb : l0_1.length < 1073741824
  · rw [if_pos hb] at h
    exact PRef.moraineref02_Same.calls (l0_1.length + 2) a0_0 A0_1 c0_1 l0_1 a1_0 A1_1 c1_1 l1_1 r w hr0_1 hc0_1 hr1_1 hc1_1 ((same_eq _ _ _ _ hb).trans h)
  · rw [if_neg hb] at h; cases h
end Go.Proofs.YthhpnlbeniihhaaDoor
namespace Go.Proofs.YthhpnlbeniihhaaDoor.Raw
open Go.Proofs.YthhpnlbeniihhaaDoor Go.Proofs.YthhpnlbeniihhaaDoor.Limb Go.Proofs.YthhpnlbeniihhaaDoor.NumA Go.Proofs.YthhpnlbeniihhaaDoor.NumB Go.Proofs.YthhpnlbeniihhaaDoor.NumC Go.Proofs.YthhpnlbeniihhaaDoor.NumJ Go.Proofs.YthhpnlbeniihhaaDoor.NumS Go.Proofs.YthhpnlbeniihhaaDoor.NumU Go.Proofs.YthhpnlbeniihhaaDoor.Vals Go.Proofs.YthhpnlbeniihhaaDoor.Plain
section
variable {n : Bool} {l : List Int} (h : okN l)
include h
end
section
variable {n1 n2 : Bool} {l m : List Int} (h1 : okN l) (h2 : okN m)
include h1 h2
end
/-- A row's number is as small as its row is short. -/
theorem val_lt {n : Bool} {l : List Int} (h : OkL l) {k : Nat} (hk : l.length ≤ k) : (val n l).natAbs < 4294967296 ^ k := by
  rw [natAbs_val]
  exact Nat.lt_of_lt_of_le (mag_lt h) (Nat.pow_le_pow_right (by decide) hk)
theorem okN_nil : okN [] := ⟨fun x hx => (by cases hx), by decide⟩
/-- mkI's row, whatever the number. -/
theorem okN_mkI (z : Int) : okN (mkI z).2.1 := by
  by_cases h : Fits z
  · rw [mkI_fits h]; exact okN_sl h
  · rw [mkI_big h]; exact okN_nil
end Go.Proofs.YthhpnlbeniihhaaDoor.Raw
-- Printed by a program of this session's (wip/tools/printr.py, over the kit's print program).
namespace Go.Proofs.YthhpnlbeniihhaaDoor.PRef
open Go.RowKit Go.Proofs.YthhpnlbeniihhaaDoorW.PrintWords Go.Proofs.YthhpnlbeniihhaaDoorW.PrintLast Go.Proofs.YthhpnlbeniihhaaDoorW.PrintMore
attribute [local go_sem] max2_int min2_int max_two min_two max_three min_three max_four min_four   -- for this text's walks alone
set_option linter.unusedVariables false
set_option linter.unusedSimpArgs false
def morainelaw02_spoil.l0 : Nat → Int → Bool → List Int → Option (List Int)
 | 0, _, _, _ => none
 | k + 1, x2, x369000, x369001 => if x2 < (x369001.length : Int) then (if 0 ≤ x2 then (morainelaw02_spoil.l0 k (wrap64 (x2 + 1)) x369000 (x369001.set (x2 : Int).toNat (((rd x369001 x2) + 1) % 4294967296))) else (none)) else (some x369001)
def morainelaw02_spoil.f (k : Nat) (a0_0 : Bool) (l0_1 : List Int) : Option (List Int) := morainelaw02_spoil.l0 k 0 a0_0 l0_1
set_option maxHeartbeats 8000000 in
set_option maxRecDepth 100000 in
theorem morainelaw02_spoil.calls (k : Nat) (a0_0 : Bool) (P0_1_ : Nat → Prop) (u9000_ : Value) (l0_1 : List Int) (r : List Int) (w0 w : World) (hB : Below w0.heap.size w0 w) (ho0_1 : Kd.R (Kd.int .u32) 63 w w0.heap.size P0_1_ u9000_ l0_1) (h : morainelaw02_spoil.f k a0_0 l0_1 = some r) :
  Calls Tryd.prog 33 #[.agg #[.bool a0_0, u9000_]] w fun e w' => e = .returned (.tuple #[]) ∧ Kd.R (Kd.int .u32) 63 w' w0.heap.size (fun k_ => (P0_1_ k_ ∨ w.heap.size ≤ k_)) u9000_ r ∧ Below w0.heap.size w0 w' ∧ Kept w w' (fun k_ => P0_1_ k_) := by
 have hu25 := Tryd.underlying25
 have HO0_1 := Aside0.mk (show Kd.R (Kd.int .u32) 63 w w0.heap.size (fun k_ => (P0_1_ k_ ∨ w.heap.size ≤ k_)) u9000_ l0_1 from Kd.R_mono ho0_1 (fun k_ hk => (.inl hk)))
 have HK := Aside0.mk (Kept.refl w (fun k_ => P0_1_ k_))
 have HW0 := Aside0.mk hB.size
 have HB := Aside0.mk hB
 clear hB
 have H : (morainelaw02_spoil.l0 k 0 a0_0 l0_1) = some r := h
 clear h
 have H' := Aside0.mk H
 clear H
 obtain ⟨Ao2, co2, eo2⟩ := Kd.R_slice HO0_1.out
 subst eo2
 go_enter Tryd.func33, Tryd.ntmps33
 go_wp2_with (first | ((with_reducible refine gate_dst (N := 1) rfl ?_); refine box_event ?hg (N := 1) ?hd (cs := #[.bool a0_0, .slice Ao2 l0_1.length co2]) (t := 25) ?hr ?_; (case hd => rfl); (case hg => rfl); (case hr => go_simp <;> rfl); intro gb368 hg w3 hbox hb; have n0_ := qr HO0_1 hb; have n1_ := Aside0.mk (Kept.below (S := (fun k_ => P0_1_ k_)) (by repeat (first | (with_reducible first | exact HK.out | apply Kept.alloc | apply Kept.drewN | apply Kept.drew) | exact HK.out)) hb); have n2_ := Aside0.mk (below_step (by repeat (first | (with_reducible first | exact HB.out | apply qx | apply qv | apply qw) | exact HB.out)) hb); have n3_ := Aside0.mk (hbox); have n4_ := Aside0.mk ((by rw [hg]; exact (by first | exact HK.out.1 | exact (show Kept w _ (fun k_ => P0_1_ k_) from by repeat (first | (with_reducible first | exact HK.out | apply Kept.alloc | apply Kept.drewN | apply Kept.drew) | exact HK.out)).1) : w.heap.size ≤ gb368)); have n5_ := Aside0.mk ((by rw [hg]; exact (below_size (by repeat (first | (with_reducible first | exact HB.out | apply qx | apply qv | apply qw) | exact HB.out))) : w0.heap.size ≤ gb368)); clear HO0_1; clear HK; clear HB; have HO0_1 := n0_; have HK := n1_; have HB := n2_; have BK368 := n3_; have GW368 := n4_; have GE368 := n5_; clear n0_ n1_ n2_ n3_ n4_ n5_; clear hb hbox hg))
 go_loopg [2] k (fun kq v2 w' => ∃ (x2_1 : Int) (x369001_1 : List Int), v2 = .int .i64 x2_1 ∧ Aside0 (morainelaw02_spoil.l0 kq x2_1 a0_0 x369001_1 = some r) ∧ Aside0 (kq ≤ k) ∧ Aside0 (Kd.R (Kd.int .u32) 63 w' w0.heap.size (fun k_ => (P0_1_ k_ ∨ w.heap.size ≤ k_)) (.slice Ao2 l0_1.length co2) x369001_1) ∧ Aside0 (w'.heap[gb368]? = some (.cells #[.bool a0_0, (.slice Ao2 l0_1.length co2)] 25 (0, 0))) ∧ Aside0 (Kept w w' (fun k_ => P0_1_ k_)) ∧ Aside0 (Below w0.heap.size w0 w'))
 case atStart => exact ⟨(0), (l0_1), (by first | rfl | (simp; done) | (simp [*]; done)), H', ⟨Nat.le_refl _⟩, ⟨qq HO0_1⟩, ⟨qk BK368⟩, ⟨by repeat (first | (with_reducible first | exact HK.out | apply Kept.alloc | apply Kept.drewN | apply Kept.drew | refine Kept.setCell ?_ (.inr GW368.out) _) | exact HK.out)⟩, ⟨by repeat (first | (with_reducible first | exact HB.out | apply qx | apply qv | apply qw | refine below_set ?_ GE368.out) | exact HB.out)⟩⟩
 case round =>
  clear H'
  try clear p2
  try clear c3
  obtain ⟨x2_1, x369001_1, rfl, HA, HK1, HO_369001, BK368, HK, HB⟩ := hrel
  have hl369001_1 := (Kd.R_reads' HO_369001.out).1
  rw [hl369001_1] at HO_369001
  (try simp only [hl369001_1])
  (try simp only [hl369001_1] at BK368)
  cases gk with
  | zero => exact absurd HA.out (by simp [morainelaw02_spoil.l0])
  | succ k1 =>
   have H := HA.out
   clear HA
   simp only [morainelaw02_spoil.l0] at H
   by_cases c4 : x2_1 < (x369001_1.length : Int)
   ·rw [if_pos c4] at H
    have c4b0 : decide (x2_1 < (x369001_1.length : Int)) = true := decide_eq_true c4
    clear c4
    by_cases c5 : 0 ≤ x2_1
    ·rw [if_pos c5] at H
     have c5b0 : decide (0 ≤ x2_1) = true := decide_eq_true c5
     clear c5
     obtain ⟨y370, hy370⟩ : ∃ y_ : List Int, y_ = (x369001_1.set (x2_1 : Int).toNat (((rd x369001_1 x2_1) + 1) % 4294967296)) := ⟨_, rfl⟩
     replace H : (morainelaw02_spoil.l0 k1 (wrap64 (x2_1 + 1)) a0_0 y370) = some r := by first | (rw [hy370]; with_reducible exact H) | (have H2_ := (Option.bind_some _ _).symm.trans H; rw [hy370]; with_reducible exact H2_) | (have H2_ := (Option.bind_some _ _).symm.trans H; with_reducible exact H2_) | with_reducible exact H | (rw [hy370]; exact H) | exact H
     have Ny370 := Aside0.mk hy370
     clear hy370
     have H' := Aside0.mk H
     clear H
     have hcz7_0 : wr.cell? ⟨gb368, 0, none⟩ = some (.bool a0_0) := qc BK368 0
     have hcz7_1 : wr.cell? ⟨gb368, 1, none⟩ = some (.slice Ao2 x369001_1.length co2) := qc BK368 1
     have hfz7_0 := blk_frozen BK368.out 0
     have hfz7_1 := blk_frozen BK368.out 1
     have p369 : 0 ≤ (x2_1 : Int) := of_decide_eq_true (by first | (with_reducible assumption) | assumption)
     have q369 : x2_1 < (x369001_1.length : Int) := of_decide_eq_true (by first | (with_reducible assumption) | assumption)
     obtain ⟨ad369, e369, hx369_0⟩ := Kd.at_int (Kd.R_reads' HO_369001.out).2.2 x2_1 p369 q369
     cases e369
     replace p369 := eq_true p369
     replace q369 := eq_true q369
     have p6 : 0 ≤ (x2_1 : Int) := of_decide_eq_true (by first | (with_reducible assumption) | assumption)
     have q6 : (x2_1 : Int) < ((x369001_1.length : Int) : Int) := of_decide_eq_true (by first | (with_reducible assumption) | assumption)
     obtain ⟨go6, co6, eo6, gb6, gl6, cl6, HG6⟩ := Kd.R_form HO_369001.out (by omega)
     (first | cases eo6 | (injection eo6 with ea_ en_ ec_; (first | subst ea_ | (injection ea_ with ea_; subst ea_)); subst ec_; clear en_))
     have GB6 := Aside0.mk gb6
     have GG6 := Aside0.mk HG6
     clear gb6 gl6 HG6
     have HMgo6 := Aside0.mk (show (P0_1_ go6 ∨ w.heap.size ≤ go6) from (HO_369001.out.1 _ rfl))
     (first | simp only [add_plain] at hx369_0 | skip)
     obtain ⟨hx6_0, hf6_0⟩ := Kd.R_celln 0 HO_369001.out (x2_1 : Int) p6 q6
     replace p6 := eq_true p6
     replace q6 := eq_true q6
     have HP8 := Kd.R_putg HO_369001.out (x2_1 : Int) (((rd x369001_1 x2_1) + 1) % 4294967296)
     go_wp2_with (first | ((with_reducible refine gate_store (t := 63) (p := 16) rfl ?_); refine store_event (t := 63) (p := 16) (v := ?vo_w9) (w1 := (wr.setCell ⟨go6, (x2_1 : Int).toNat, none⟩ (.int .u32 (((rd x369001_1 x2_1) + 1) % 4294967296)))) ?hg ?ho ?hn ?hr ?_; (case ho => rfl); (case hg => rfl); (case hn => rfl); (case hr => first | (go_simp; done) | (go_simp; rfl)); intro w9 hw; have hg : wr.grownBy w9 (some go6) := (by rw [hw]; exact HP8.2); have hp_ : Kd.R (Kd.int .u32) 63 w9 w0.heap.size (fun k_ => (P0_1_ k_ ∨ w.heap.size ≤ k_)) (.slice (some ⟨go6, 0, none⟩) x369001_1.length co2) y370 := (by rw [hw, Ny370.out]; exact HP8.1); clear HP8; have n0_ := Aside0.mk (hp_); have n1_ := Aside0.mk (blk_grown (g := gb368) (o := .cells #[.bool a0_0, .slice (some ⟨go6, 0, none⟩) x369001_1.length co2] 25 (0, 0)) (by (with_reducible repeat first|refine qN ?_ _|refine qW ?_|refine qA ?_ _); exact BK368.out) hg (Kd.R_ne HO_369001.out BK368.out (by decide))); have n2_ := Aside0.mk ((by rw [hw]; exact below_set (HB.out) GB6.out : Below w0.heap.size w0 w9)); have n3_ := Aside0.mk (Kept.of_grown (S := (fun k_ => P0_1_ k_)) hg (by repeat (first | (with_reducible first | exact HK.out | apply Kept.alloc | apply Kept.drewN | apply Kept.drew | refine Kept.setCell ?_ (.inr GW368.out) _) | exact HK.out)) (fun k_ e_ => (HO_369001.out.1 k_ e_))); clear HO_369001; clear BK368; clear HB; clear HK; have HO_369001 := n0_; have BK368 := n1_; have HB := n2_; have HK := n3_; clear n0_ n1_ n2_ n3_; clear hg hw hp_))
     (try simp only [← hl369001_1])
     go_roundg k1
     case measure => have := HK1.out; omega
     case rel => exact ⟨(wrap64 (x2_1 + 1)), (y370), (by first | rfl | (simp; done) | (simp [*]; done)), H', ⟨by have := HK1.out; omega⟩, ⟨by (try simp only [hl369001_1]); (with_reducible repeat first|apply Kd.R_alloc|apply Kd.R_drewN|apply Kd.R_drew); exact HO_369001.out⟩, ⟨by (try simp only [hl369001_1]); (with_reducible repeat first|refine qN ?_ _|refine qW ?_|refine qA ?_ _); exact BK368.out⟩, ⟨by repeat (first | (with_reducible first | exact HK.out | apply Kept.alloc | apply Kept.drewN | apply Kept.drew | refine Kept.setCell ?_ (.inr GW368.out) _) | exact HK.out)⟩, ⟨by repeat (first | (with_reducible first | exact HB.out | apply qx | apply qv | apply qw | refine below_set ?_ GE368.out) | exact HB.out)⟩⟩
    ·rw [if_neg c5] at H
     exact absurd H (by simp)
   ·rw [if_neg c4] at H
    have c4b0 : decide (x2_1 < (x369001_1.length : Int)) = false := decide_eq_false c4
    clear c4
    obtain rfl := Option.some.inj H
    have hcz10_0 : wr.cell? ⟨gb368, 0, none⟩ = some (.bool a0_0) := qc BK368 0
    have hcz10_1 : wr.cell? ⟨gb368, 1, none⟩ = some (.slice Ao2 x369001_1.length co2) := qc BK368 1
    have hfz10_0 := blk_frozen BK368.out 0
    have hfz10_1 := blk_frozen BK368.out 1
    go_wp2
    first | go_end0 | ((try simp only [Exit.inBlock, Exit.then]); refine bodyPost_ret (results_none rfl _ _ _) rfl ?_)
    exact ⟨by first | rfl | (simp [errW_none, errW_some] <;> rfl) | (simp [*, errW_none, errW_some] <;> rfl), (by first | exact (by (with_reducible repeat first|apply Kd.R_alloc|apply Kd.R_drewN|apply Kd.R_drew); exact HO_369001.out) | (simp only [hl369001_1]; exact (by (with_reducible repeat first|apply Kd.R_alloc|apply Kd.R_drewN|apply Kd.R_drew); exact HO_369001.out))), by repeat (first | (with_reducible first | exact HB.out | apply qx | apply qv | apply qw | refine below_set ?_ GE368.out) | exact HB.out), by repeat (first | (with_reducible first | exact HK.out | apply Kept.alloc | apply Kept.drewN | apply Kept.drew | refine Kept.setCell ?_ (.inr GW368.out) _) | exact HK.out)⟩
end Go.Proofs.YthhpnlbeniihhaaDoor.PRef
namespace Go.Proofs.YthhpnlbeniihhaaDoor
open Go.RowKit Go.Proofs.YthhpnlbeniihhaaDoorW.PrintWords Go.Proofs.YthhpnlbeniihhaaDoorW.PrintLast Go.Proofs.YthhpnlbeniihhaaDoorW.PrintMore Go.Proofs.YthhpnlbeniihhaaDoor.Limb Go.Proofs.YthhpnlbeniihhaaDoor.Bit Go.Proofs.YthhpnlbeniihhaaDoor.NumA Go.Proofs.YthhpnlbeniihhaaDoor.NumB Go.Proofs.YthhpnlbeniihhaaDoor.NumE Go.Proofs.YthhpnlbeniihhaaDoor.NumG Go.Proofs.YthhpnlbeniihhaaDoor.NumJ Go.Proofs.YthhpnlbeniihhaaDoor.Plain Go.Proofs.YthhpnlbeniihhaaDoor.RefA Go.Proofs.YthhpnlbeniihhaaDoor.RefB Go.Proofs.YthhpnlbeniihhaaDoor.RefC Go.Proofs.YthhpnlbeniihhaaDoor.RefD Go.Proofs.YthhpnlbeniihhaaDoor.RefE
set_option linter.unusedVariables false
set_option linter.unusedSimpArgs false
/-- A sign and bits as a whole number. -/
def bval (b : Bool) (l : List Int) : Int := if b then -(bv l : Int) else (bv l : Int)
/-- Bits without noughts at the end, no sign of nought, few of them. -/
def canV (b : Bool) (l : List Int) : Prop := l.length < 1073741824 ∧ l = Bit.bits (bv l) ∧ (b = true → bv l ≠ 0)
instance instCanV (b : Bool) (l : List Int) : Decidable (canV b l) := by unfold canV; infer_instance
theorem bval_v (z : Int) : bval (vb z) (vl z) = z := by
  unfold bval
  rw [bv_vl]
  unfold vb
  by_cases h : z < 0 <;> simp [h] <;> omega
theorem canV.as_ {b : Bool} {l : List Int} (h : canV b l) : ∃ z, b = vb z ∧ l = vl z ∧ (vl z).length < 1073741824 := by
  refine ⟨bval b l, ?_, ?_, ?_⟩
  · unfold vb bval
    cases b with
    | true => have := h.2.2 rfl; simp; omega
    | false => simp
  · unfold vl bval
    rw [show (if b = true then -(bv l : Int) else (bv l : Int)).natAbs = bv l by cases b <;> simp]
    exact h.2.1
  · unfold vl bval
    rw [show (if b = true then -(bv l : Int) else (bv l : Int)).natAbs = bv l by cases b <;> simp, ← h.2.1]
    exact h.1
theorem canV_v {z : Int} (h : (vl z).length < 1073741824) : canV (vb z) (vl z) := by
  refine ⟨h, by rw [bv_vl]; rfl, fun hb => ?_⟩
  rw [bv_vl]
  unfold vb at hb
  have := of_decide_eq_true hb
  omega
def moraineref02_Value.f (a0_0 : Bool) (l0_1 : List Int) : Option (Bool × List Int) := if okN l0_1 then some (vb (val a0_0 l0_1), vl (val a0_0 l0_1)) else none
theorem moraineref02_Value.calls (a0_0 : Bool) (A0_1 : Option Addr) (c0_1 : Nat) (l0_1 : List Int) (r1 : Bool) (r2 : List Int) (w : World) (hr0_1 : Kd.C (Kd.int .u32) w A0_1 l0_1.length l0_1) (hc0_1 : l0_1.length ≤ c0_1) (h : moraineref02_Value.f a0_0 l0_1 = some (r1, r2)) :
    Calls Tryd.prog 24 #[.agg #[.bool a0_0, .slice A0_1 l0_1.length c0_1]] w fun e w' => ∃ v1_ : Value, e = .returned (.agg #[.bool r1, v1_]) ∧ Kd.R (Kd.int .u8) 5 w' w.heap.size (fun _ => True) v1_ r2 ∧ Below w.heap.size w w' := by
  unfold moraineref02_Value.f at h
  by_cases hg : okN l0_1
  · rw [if_pos hg] at h
    obtain ⟨k, hk⟩ := (Value_at a0_0 l0_1 hg.1 (by have := hg.2; omega)).rounds
    exact PRef.moraineref02_Value.calls k a0_0 A0_1 c0_1 l0_1 r1 r2 w hr0_1 hc0_1 (hk.trans h)
  · rw [if_neg hg] at h; cases h
def moraineref02_Copy.f (a0_0 : Bool) (l0_1 : List Int) : Option (Bool × List Int) := if l0_1.length < 1073741824 then some (a0_0, l0_1) else none
theorem moraineref02_Copy.calls (a0_0 : Bool) (A0_1 : Option Addr) (c0_1 : Nat) (l0_1 : List Int) (r1 : Bool) (r2 : List Int) (w : World) (hr0_1 : Kd.C (Kd.int .u32) w A0_1 l0_1.length l0_1) (hc0_1 : l0_1.length ≤ c0_1) (h : moraineref02_Copy.f a0_0 l0_1 = some (r1, r2)) :
    Calls Tryd.prog 28 #[.agg #[.bool a0_0, .slice A0_1 l0_1.length c0_1]] w fun e w' => ∃ v1_ : Value, e = .returned (.agg #[.bool r1, v1_]) ∧ Kd.R (Kd.int .u32) 63 w' w.heap.size (fun _ => True) v1_ r2 ∧ Below w.heap.size w w' := by
  unfold moraineref02_Copy.f at h
  by_cases hg : l0_1.length < 1073741824
  · rw [if_pos hg] at h
    refine PRef.moraineref02_Copy.calls a0_0 A0_1 c0_1 l0_1 r1 r2 w hr0_1 hc0_1 (Eq.trans ?_ h)
    unfold PRef.moraineref02_Copy.f
    rw [bsome, if_pos (by rw [List.length_nil]; omega)]
    rfl
  · rw [if_neg hg] at h; cases h
def moraineref02_Add.f (a0_0 : Bool) (l0_1 : List Int) (a1_0 : Bool) (l1_1 : List Int) : Option (Bool × List Int) := if canV a0_0 l0_1 ∧ canV a1_0 l1_1 then some (vb (bval a0_0 l0_1 + bval a1_0 l1_1), vl (bval a0_0 l0_1 + bval a1_0 l1_1)) else none
theorem moraineref02_Add.calls (a0_0 : Bool) (A0_1 : Option Addr) (c0_1 : Nat) (l0_1 : List Int) (a1_0 : Bool) (A1_1 : Option Addr) (c1_1 : Nat) (l1_1 : List Int) (r1 : Bool) (r2 : List Int) (w : World) (hr0_1 : Kd.C (Kd.int .u8) w A0_1 l0_1.length l0_1) (hc0_1 : l0_1.length ≤ c0_1) (hr1_1 : Kd.C (Kd.int .u8) w A1_1 l1_1.length l1_1) (hc1_1 : l1_1.length ≤ c1_1) (h : moraineref02_Add.f a0_0 l0_1 a1_0 l1_1 = some (r1, r2)) :
    Calls Tryd.prog 45 #[.agg #[.bool a0_0, .slice A0_1 l0_1.length c0_1], .agg #[.bool a1_0, .slice A1_1 l1_1.length c1_1]] w fun e w' => ∃ v1_ : Value, e = .returned (.agg #[.bool r1, v1_]) ∧ Kd.R (Kd.int .u8) 5 w' w.heap.size (fun _ => True) v1_ r2 ∧ Below w.heap.size w w' := by
  unfold moraineref02_Add.f at h
  by_cases hg : canV a0_0 l0_1 ∧ canV a1_0 l1_1
  · rw [if_pos hg] at h
    obtain ⟨y, rfl, rfl, ly⟩ := hg.1.as_
    obtain ⟨z, rfl, rfl, lz⟩ := hg.2.as_
    rw [bval_v, bval_v] at h
    obtain ⟨k, hk⟩ := (Add_at y z 1073741824 (by decide) (by omega) (by omega)).rounds
    exact PRef.moraineref02_Add.calls k _ A0_1 c0_1 _ _ A1_1 c1_1 _ r1 r2 w hr0_1 hc0_1 hr1_1 hc1_1 (hk.trans h)
  · rw [if_neg hg] at h; cases h
def moraineref02_Num.f (a0_0 : Bool) (l0_1 : List Int) : Option (Bool × List Int × Int) := if canV a0_0 l0_1 then some (mkI (bval a0_0 l0_1)) else none
theorem moraineref02_Num.calls (a0_0 : Bool) (A0_1 : Option Addr) (c0_1 : Nat) (l0_1 : List Int) (r1 : Bool) (r2 : List Int) (r3 : Int) (w : World) (hr0_1 : Kd.C (Kd.int .u8) w A0_1 l0_1.length l0_1) (hc0_1 : l0_1.length ≤ c0_1) (h : moraineref02_Num.f a0_0 l0_1 = some (r1, r2, r3)) :
    Calls Tryd.prog 52 #[.agg #[.bool a0_0, .slice A0_1 l0_1.length c0_1]] w fun e w' => ∃ v1_ : Value, e = .returned (.tuple #[.agg #[.bool r1, v1_], .int .i64 r3]) ∧ Kd.R (Kd.int .u32) 63 w' w.heap.size (fun _ => True) v1_ r2 ∧ Below w.heap.size w w' := by
  unfold moraineref02_Num.f at h
  by_cases hg : canV a0_0 l0_1
  · rw [if_pos hg] at h
    obtain ⟨z, rfl, rfl, lz⟩ := hg.as_
    rw [bval_v] at h
    exact PRef.moraineref02_Num.calls _ _ A0_1 c0_1 _ r1 r2 r3 w hr0_1 hc0_1 ((Num_at z).trans h)
  · rw [if_neg hg] at h; cases h
end Go.Proofs.YthhpnlbeniihhaaDoor
namespace Go.Proofs.YthhpnlbeniihhaaDoor.Ref
open Go.RowKit Go.Proofs.YthhpnlbeniihhaaDoorW.PrintWords Go.Proofs.YthhpnlbeniihhaaDoorW.PrintLast Go.Proofs.YthhpnlbeniihhaaDoorW.PrintMore Go.Proofs.YthhpnlbeniihhaaDoor Go.Proofs.YthhpnlbeniihhaaDoor.Limb Go.Proofs.YthhpnlbeniihhaaDoor.Bit Go.Proofs.YthhpnlbeniihhaaDoor.NumA Go.Proofs.YthhpnlbeniihhaaDoor.NumB Go.Proofs.YthhpnlbeniihhaaDoor.NumG Go.Proofs.YthhpnlbeniihhaaDoor.NumJ Go.Proofs.YthhpnlbeniihhaaDoor.Vals Go.Proofs.YthhpnlbeniihhaaDoor.Plain Go.Proofs.YthhpnlbeniihhaaDoor.Raw Go.Proofs.YthhpnlbeniihhaaDoor.RefC
theorem same_self (a : Bool) (l : List Int) (h : l.length < 1073741824) : moraineref02_Same.f a l a l = some true := by
  unfold moraineref02_Same.f; rw [if_pos h]; simp
theorem value_raw {n : Bool} {l : List Int} (h : okN l) : moraineref02_Value.f n l = some (vb (val n l), vl (val n l)) := by unfold moraineref02_Value.f; rw [if_pos h]
theorem copy_raw {n : Bool} {l : List Int} (h : okN l) : moraineref02_Copy.f n l = some (n, l) := by unfold moraineref02_Copy.f; rw [if_pos h.2]
theorem num_at {z : Int} (h : (vl z).length < 1073741824) : moraineref02_Num.f (vb z) (vl z) = some (mkI z) := by unfold moraineref02_Num.f; rw [if_pos (canV_v h), bval_v]
theorem vlen {z : Int} {k : Nat} (h : z.natAbs < 4294967296 ^ k) : (vl z).length ≤ 32 * k := by
  unfold vl
  rw [bits_len, Nat.pow_mul]
  exact h
section
variable {y z : Int} (hy : (vl y).length < 1073741824) (hz : (vl z).length < 1073741824)
include hy hz
theorem radd_at : moraineref02_Add.f (vb y) (vl y) (vb z) (vl z) = some (vb (y + z), vl (y + z)) := by unfold moraineref02_Add.f; rw [if_pos ⟨canV_v hy, canV_v hz⟩, bval_v, bval_v]
end
end Go.Proofs.YthhpnlbeniihhaaDoor.Ref
namespace Go.Proofs.YthhpnlbeniihhaaDoor.Digits
open Go.Proofs.YthhpnlbeniihhaaDoor Go.Proofs.YthhpnlbeniihhaaDoor.Limb Go.Proofs.YthhpnlbeniihhaaDoor.NumB Go.Proofs.YthhpnlbeniihhaaDoor.NumJ Go.Proofs.YthhpnlbeniihhaaDoor.NumU Go.Proofs.YthhpnlbeniihhaaDoor.NumW Go.Proofs.YthhpnlbeniihhaaDoor.Text Go.Proofs.YthhpnlbeniihhaaDoor.Vals Go.Lib
theorem decv_snoc (l : List UInt8) (b : UInt8) : decv (l ++ [b]) = 10 * decv l + (b.toNat - 48) := by unfold decv; rw [List.foldl_append]; rfl
end Go.Proofs.YthhpnlbeniihhaaDoor.Digits
namespace Go.Proofs.YthhpnlbeniihhaaDoor.PRef
end Go.Proofs.YthhpnlbeniihhaaDoor.PRef
-- Printed by a program of this session's (wip/tools/printr.py, over the kit's print program).
namespace Go.Proofs.YthhpnlbeniihhaaDoor.PRText
open Go.RowKit Go.Proofs.YthhpnlbeniihhaaDoorW.PrintWords Go.Proofs.YthhpnlbeniihhaaDoorW.PrintLast Go.Proofs.YthhpnlbeniihhaaDoorW.PrintMore
attribute [local go_sem] max2_int min2_int max_two min_two max_three min_three max_four min_four   -- for this text's walks alone
set_option linter.unusedVariables false
set_option linter.unusedSimpArgs false
def errW : Option Int → Value
  | none => .nilIface
  | some c => .iface 0 (.int .i64 c)
theorem errW_none : errW none = .nilIface := rfl
theorem errW_some (c : Int) : errW (some c) = .iface 0 (.int .i64 c) := rfl
theorem info5 : (Tryd.prog.info? 5).map (fun i => (i.zero, i.size, i.bytes)) = some (some (.int .u8 0), 1, 1) := by kernel_rfl
-- the values' own types
end Go.Proofs.YthhpnlbeniihhaaDoor.PRText
namespace Go.Proofs.YthhpnlbeniihhaaDoor.PRText
end Go.Proofs.YthhpnlbeniihhaaDoor.PRText
namespace Go.Proofs.YthhpnlbeniihhaaDoor.RefT
open Go.Proofs.YthhpnlbeniihhaaDoor Go.Proofs.YthhpnlbeniihhaaDoor.Vals Go.RowKit Go.Proofs.YthhpnlbeniihhaaDoorW.PrintWords Go.Proofs.YthhpnlbeniihhaaDoorW.PrintLast Go.Proofs.YthhpnlbeniihhaaDoorW.PrintMore Go.Proofs.YthhpnlbeniihhaaDoor.Limb Go.Proofs.YthhpnlbeniihhaaDoor.Bit Go.Proofs.YthhpnlbeniihhaaDoor.NumA Go.Proofs.YthhpnlbeniihhaaDoor.NumE Go.Proofs.YthhpnlbeniihhaaDoor.NumG Go.Proofs.YthhpnlbeniihhaaDoor.NumJ Go.Proofs.YthhpnlbeniihhaaDoor.NumW Go.Proofs.YthhpnlbeniihhaaDoor.Text Go.Proofs.YthhpnlbeniihhaaDoor.Digits Go.Proofs.YthhpnlbeniihhaaDoor.RefA Go.Proofs.YthhpnlbeniihhaaDoor.RefB Go.Proofs.YthhpnlbeniihhaaDoor.RefC Go.Proofs.YthhpnlbeniihhaaDoor.PRef Go.Lib
set_option linter.unusedVariables false
set_option linter.unusedSimpArgs false
/-- A sign ahead of digits. -/
def sgn (neg : Bool) (l : List UInt8) : List UInt8 := if neg then 45 :: l else l
end Go.Proofs.YthhpnlbeniihhaaDoor.RefT
namespace Go.Proofs.YthhpnlbeniihhaaDoor.RefP
end Go.Proofs.YthhpnlbeniihhaaDoor.RefP
namespace Go.Proofs.YthhpnlbeniihhaaDoor
end Go.Proofs.YthhpnlbeniihhaaDoor
-- Printed by a program of this session's (wip/tools/printr.py, over the kit's print program).
namespace Go.Proofs.YthhpnlbeniihhaaDoor.PNumParses
open Go.RowKit Go.Proofs.YthhpnlbeniihhaaDoorW.PrintWords Go.Proofs.YthhpnlbeniihhaaDoorW.PrintLast Go.Proofs.YthhpnlbeniihhaaDoorW.PrintMore
attribute [local go_sem] max2_int min2_int max_two min_two max_three min_three max_four min_four   -- for this text's walks alone
set_option linter.unusedVariables false
set_option linter.unusedSimpArgs false
def errW : Option Int → Value
  | none => .nilIface
  | some c => .iface 0 (.int .i64 c)
theorem errW_none : errW none = .nilIface := rfl
theorem errW_some (c : Int) : errW (some c) = .iface 0 (.int .i64 c) := rfl

-- the values' own types
end Go.Proofs.YthhpnlbeniihhaaDoor.PNumParses
-- Printed by a program of this session's (wip/tools/printr.py, over the kit's print program).
namespace Go.Proofs.YthhpnlbeniihhaaDoor.PNumParses
open Go.RowKit Go.Proofs.YthhpnlbeniihhaaDoorW.PrintWords Go.Proofs.YthhpnlbeniihhaaDoorW.PrintLast Go.Proofs.YthhpnlbeniihhaaDoorW.PrintMore
attribute [local go_sem] max2_int min2_int max_two min_two max_three min_three max_four min_four   -- for this text's walks alone
set_option linter.unusedVariables false
set_option linter.unusedSimpArgs false
-- given
-- given
-- given
-- given
-- given
def morainelaw02_is.f (a0_0 : Bool) (l0_1 : List Int) (a1 : Int) (a2_0 : Bool) (l2_1 : List Int) : Option (Bool) := (moraineref02_Num.f a2_0 l2_1).bind fun bt103 => (if a1 = bt103.2.2 then ((moraineref02_Same.f a0_0 l0_1 bt103.1 bt103.2.1).bind fun t109 => (some t109)) else (some false))
set_option maxHeartbeats 8000000 in
set_option maxRecDepth 100000 in
theorem morainelaw02_is.calls (a0_0 : Bool) (A0_1 : Option Addr) (c0_1 : Nat) (l0_1 : List Int) (a1 : Int) (a2_0 : Bool) (A2_1 : Option Addr) (c2_1 : Nat) (l2_1 : List Int) (r : Bool) (w : World) (hr0_1 : Kd.C (Kd.int .u32) w A0_1 l0_1.length l0_1) (hc0_1 : l0_1.length ≤ c0_1) (hr2_1 : Kd.C (Kd.int .u8) w A2_1 l2_1.length l2_1) (hc2_1 : l2_1.length ≤ c2_1) (h : morainelaw02_is.f a0_0 l0_1 a1 a2_0 l2_1 = some r) :
    Calls Tryd.prog 27 #[.agg #[.bool a0_0, .slice A0_1 l0_1.length c0_1], .int .i64 a1, .agg #[.bool a2_0, .slice A2_1 l2_1.length c2_1]] w fun e w' => e = .returned (.bool r) ∧ Below w.heap.size w w' := by
  have hu25 := Tryd.underlying25
  have hu34 := Tryd.underlying34
  have HR0_1 := Aside0.mk hr0_1
  have HC0_1 := Aside0.mk hc0_1
  clear hr0_1 hc0_1
  have HR2_1 := Aside0.mk hr2_1
  have HC2_1 := Aside0.mk hc2_1
  clear hr2_1 hc2_1
  have HB := Aside0.mk (Below.refl w.heap.size w)
  have H : ((moraineref02_Num.f a2_0 l2_1).bind fun bt103 => (if a1 = bt103.2.2 then ((moraineref02_Same.f a0_0 l0_1 bt103.1 bt103.2.1).bind fun t109 => (some t109)) else (some false))) = some r := h
  clear h
  replace H := Option.bind_eq_some_iff.mp H
  obtain ⟨⟨t103, t104, t107⟩, A40, H⟩ := H
  replace H : (if a1 = t107 then ((moraineref02_Same.f a0_0 l0_1 t103 t104).bind fun t109 => (some t109)) else (some false)) = some r := H
  have A4 := Aside0.mk A40
  clear A40
  by_cases c5 : a1 = t107
  · rw [if_pos c5] at H
    have c5b0 : (a1 == t107) = true := beq_iff_eq.mpr c5
    have c5b1 : (a1 != t107) = false := bne_eq_false_iff_eq.mpr c5
    clear c5
    replace H := Option.bind_eq_some_iff.mp H
    obtain ⟨t109, A60, H⟩ := H
    replace H : (some t109) = some r := H
    have A6 := Aside0.mk A60
    clear A60
    obtain rfl := Option.some.inj H
    go_enter Tryd.func27, Tryd.ntmps27
    go_wp2_with (first | ((with_reducible refine gate_dst (N := 3) rfl ?_); refine box_event ?hg (N := 3) ?hd (cs := #[.bool a0_0, .slice A0_1 l0_1.length c0_1]) (t := 25) ?hr ?_; (case hd => rfl); (case hg => rfl); (case hr => go_simp <;> rfl); intro gb101 hg w7 hbox hb; have BK101 := Aside0.mk (hbox); have GW101 := qg hg (by repeat (first | (with_reducible first | exact HB.out | apply qx | apply qv | apply qw) | exact HB.out)); have GE101 := GW101; replace HB := Aside0.mk (below_step (by repeat (first | (with_reducible first | exact HB.out | apply qx | apply qv | apply qw) | exact HB.out)) hb); clear hb hbox hg) | ((with_reducible refine gate_dst (N := 5) rfl ?_); refine box_event ?hg (N := 5) ?hd (cs := #[.bool a2_0, .slice A2_1 l2_1.length c2_1]) (t := 34) ?hr ?_; (case hd => rfl); (case hg => rfl); (case hr => go_simp <;> rfl); intro gb102 hg w8 hbox hb; have BK102 := Aside0.mk (hbox); have GW102 := qg hg (by repeat (first | (with_reducible first | exact HB.out | apply qx | apply qv | apply qw | refine below_set ?_ GE101.out) | exact HB.out)); have GE102 := GW102; replace HB := Aside0.mk (below_step (by repeat (first | (with_reducible first | exact HB.out | apply qx | apply qv | apply qw | refine below_set ?_ GE101.out) | exact HB.out)) hb); have NB101_102 := qn BK101 hg; have NB102_101 := qm BK101 hg; replace BK101 := qb BK101 hb; clear hb hbox hg; have hnb9 := NB102_101.out; have hnc9 := NB101_102.out; have hcz10_0 : w8.cell? ⟨gb102, 0, none⟩ = some (.bool a2_0) := qc BK102 0; have hcz10_1 : w8.cell? ⟨gb102, 1, none⟩ = some (.slice A2_1 l2_1.length c2_1) := qc BK102 1; have hfz10_0 := blk_frozen BK102.out 0; have hfz10_1 := blk_frozen BK102.out 1) | ((with_reducible refine gate_callee (f := 52) rfl ?_); refine goesL_ (some 11) rfl rfl Tryd.func52 (by kernel_rfl) rfl #[.agg #[.bool a2_0, .slice A2_1 l2_1.length c2_1]] rfl (by (try simp only [zM, zO, zP]); first|done|rfl) ?_; (with_reducible refine (moraineref02_Num.calls a2_0 _ _ l2_1 t103 t104 t107 _ ?side1 ?side2 A4.out).mono ?_); (case side1 => exact qC HR2_1 HB); (case side2 => exact HC2_1.out); rintro e w11 ⟨v105, rfl, ho0, hb⟩; refine ⟨_, rfl, ?_⟩; have HO106 := Aside0.mk (Kd.R_lower ho0 (below_size (by repeat with_reducible first|exact HB.out|apply qx|apply qv|apply qw|refine qs ?_ (by assumption)))); replace BK101 := qb BK101 hb; replace BK102 := qb BK102 hb; replace HB := Aside0.mk (below_step (by repeat with_reducible first|exact HB.out|apply qx|apply qv|apply qw|refine qs ?_ (by assumption)) hb); (try clear hb); (try clear hb2); (try clear hk); (try clear hi); (try clear ho0)) | ((with_reducible refine gate_dst (N := 7) rfl ?_); refine box_event ?hg (N := 7) ?hd (cs := #[.bool false, .slice none 0 0]) (t := 25) ?hr ?_; (case hd => rfl); (case hg => rfl); (case hr => go_simp <;> rfl); intro gb108 hg w12 hbox hb; replace HO106 := qr HO106 hb; have BK108 := Aside0.mk (hbox); have GW108 := qg hg (by repeat with_reducible first|exact HB.out|apply qx|apply qv|apply qw|refine qs ?_ (by assumption)); have GE108 := GW108; replace HB := Aside0.mk (below_step (by repeat with_reducible first|exact HB.out|apply qx|apply qv|apply qw|refine qs ?_ (by assumption)) hb); have NB101_108 := qn BK101 hg; have NB108_101 := qm BK101 hg; replace BK101 := qb BK101 hb; have NB102_108 := qn BK102 hg; have NB108_102 := qm BK102 hg; replace BK102 := qb BK102 hb; clear hb hbox hg; have hnb13 := NB108_101.out; have hnc13 := NB101_108.out; have hnb14 := NB108_102.out; have hnc14 := NB102_108.out; have hcz15_0 : w12.cell? ⟨gb108, 0, none⟩ = some (.bool false) := qc BK108 0; have hcz15_1 : w12.cell? ⟨gb108, 1, none⟩ = some (.slice none 0 0) := qc BK108 1; have hfz15_0 := blk_frozen BK108.out 0; have hfz15_1 := blk_frozen BK108.out 1; obtain ⟨Ao16, co16, eo16⟩ := Kd.R_slice HO106.out; subst eo16; have hcz17_0 : w12.cell? ⟨gb101, 0, none⟩ = some (.bool a0_0) := qc BK101 0; have hcz17_1 : w12.cell? ⟨gb101, 1, none⟩ = some (.slice A0_1 l0_1.length c0_1) := qc BK101 1; have hfz17_0 := blk_frozen BK101.out 0; have hfz17_1 := blk_frozen BK101.out 1) | (go_at_call 17; (with_reducible refine (moraineref02_Same.calls a0_0 _ _ l0_1 t103 _ _ t104 t109 _ ?side1 ?side2 ?side3 ?side4 A6.out).mono ?_); (case side1 => exact Kd.C_below HR0_1.out (by repeat with_reducible first|exact HB.out|apply qx|apply qv|apply qw|refine qs ?_ (by assumption))); (case side2 => exact HC0_1.out); (case side3 => refine (Kd.R_reads' (e := 63) (base := w.heap.size) (ok := fun k_ => True) (n := t104.length) (c := co16) ?_).2.2; exact (by (with_reducible repeat first|apply Kd.R_alloc|apply Kd.R_drewN|apply Kd.R_drew); exact (Kd.R_mono (qz HO106 BK108 (by decide) (.bool t103) (.slice Ao16 t104.length co16)) (fun _ h_ => h_.1)))); (case side4 => exact (Kd.R_reads' HO106.out).2.1); rintro e w18 ⟨rfl, hb⟩; have n0_ := Aside0.mk (Kd.R_below (by (with_reducible repeat first|apply Kd.R_alloc|apply Kd.R_drewN|apply Kd.R_drew); exact (Kd.R_mono (qz HO106 BK108 (by decide) (.bool t103) (.slice Ao16 t104.length co16)) (fun _ h_ => h_.1))) hb); have n1_ := Aside0.mk (blk_below (g := gb101) (o := .cells #[.bool a0_0, .slice A0_1 l0_1.length c0_1] 25 (0, 0)) (by (with_reducible repeat first|refine qN ?_ _|refine qW ?_|refine qA ?_ _); refine qf ?_ NB101_108; (with_reducible repeat first|refine qN ?_ _|refine qW ?_|refine qA ?_ _); exact BK101.out) hb); have n2_ := Aside0.mk (blk_below (g := gb102) (o := .cells #[.bool a2_0, .slice A2_1 l2_1.length c2_1] 34 (0, 0)) (by (with_reducible repeat first|refine qN ?_ _|refine qW ?_|refine qA ?_ _); refine qf ?_ NB102_108; (with_reducible repeat first|refine qN ?_ _|refine qW ?_|refine qA ?_ _); exact BK102.out) hb); have n3_ := Aside0.mk (blk_below (g := gb108) (o := .cells #[.bool t103, .slice Ao16 t104.length co16] 25 (0, 0)) (by (with_reducible repeat first|refine qN ?_ _|refine qW ?_|refine qA ?_ _); refine blk_put (cs := #[.bool t103, .slice none 0 0]) ?_ 1 _ rfl; (with_reducible repeat first|refine qN ?_ _|refine qW ?_|refine qA ?_ _); refine blk_put (cs := #[.bool false, .slice none 0 0]) ?_ 0 _ rfl; (with_reducible repeat first|refine qN ?_ _|refine qW ?_|refine qA ?_ _); exact BK108.out) hb); have n4_ := Aside0.mk (below_step (by repeat with_reducible first|exact HB.out|apply qx|apply qv|apply qw|refine qs ?_ (by assumption)) hb); clear HO106; clear BK101; clear BK102; clear BK108; clear HB; have HO106 := n0_; have BK101 := n1_; have BK102 := n2_; have BK108 := n3_; have HB := n4_; clear n0_ n1_ n2_ n3_ n4_; (try clear hb); (try clear hb2); (try clear hk); (try clear hi)))
    go_ret
    exact ⟨by first | rfl | (simp [errW_none, errW_some] <;> rfl) | (simp [*, errW_none, errW_some] <;> rfl), by repeat (first | (with_reducible first | exact HB.out | apply qx | apply qv | apply qw | refine qs ?_ (by assumption)) | exact HB.out)⟩
  · rw [if_neg c5] at H
    have c5b0 : (a1 == t107) = false := beq_eq_false_iff_ne.mpr c5
    have c5b1 : (a1 != t107) = true := bne_iff_ne.mpr c5
    obtain rfl := Option.some.inj H
    go_enter Tryd.func27, Tryd.ntmps27
    go_wp2_with (first | ((with_reducible refine gate_dst (N := 3) rfl ?_); refine box_event ?hg (N := 3) ?hd (cs := #[.bool a0_0, .slice A0_1 l0_1.length c0_1]) (t := 25) ?hr ?_; (case hd => rfl); (case hg => rfl); (case hr => go_simp <;> rfl); intro gb101 hg w19 hbox hb; have BK101 := Aside0.mk (hbox); have GW101 := qg hg (by repeat (first | (with_reducible first | exact HB.out | apply qx | apply qv | apply qw) | exact HB.out)); have GE101 := GW101; replace HB := Aside0.mk (below_step (by repeat (first | (with_reducible first | exact HB.out | apply qx | apply qv | apply qw) | exact HB.out)) hb); clear hb hbox hg) | ((with_reducible refine gate_dst (N := 5) rfl ?_); refine box_event ?hg (N := 5) ?hd (cs := #[.bool a2_0, .slice A2_1 l2_1.length c2_1]) (t := 34) ?hr ?_; (case hd => rfl); (case hg => rfl); (case hr => go_simp <;> rfl); intro gb102 hg w20 hbox hb; have BK102 := Aside0.mk (hbox); have GW102 := qg hg (by repeat (first | (with_reducible first | exact HB.out | apply qx | apply qv | apply qw | refine below_set ?_ GE101.out) | exact HB.out)); have GE102 := GW102; replace HB := Aside0.mk (below_step (by repeat (first | (with_reducible first | exact HB.out | apply qx | apply qv | apply qw | refine below_set ?_ GE101.out) | exact HB.out)) hb); have NB101_102 := qn BK101 hg; have NB102_101 := qm BK101 hg; replace BK101 := qb BK101 hb; clear hb hbox hg; have hnb21 := NB102_101.out; have hnc21 := NB101_102.out; have hcz22_0 : w20.cell? ⟨gb102, 0, none⟩ = some (.bool a2_0) := qc BK102 0; have hcz22_1 : w20.cell? ⟨gb102, 1, none⟩ = some (.slice A2_1 l2_1.length c2_1) := qc BK102 1; have hfz22_0 := blk_frozen BK102.out 0; have hfz22_1 := blk_frozen BK102.out 1) | ((with_reducible refine gate_callee (f := 52) rfl ?_); refine goesL_ (some 11) rfl rfl Tryd.func52 (by kernel_rfl) rfl #[.agg #[.bool a2_0, .slice A2_1 l2_1.length c2_1]] rfl (by (try simp only [zM, zO, zP]); first|done|rfl) ?_; (with_reducible refine (moraineref02_Num.calls a2_0 _ _ l2_1 t103 t104 t107 _ ?side1 ?side2 A4.out).mono ?_); (case side1 => exact qC HR2_1 HB); (case side2 => exact HC2_1.out); rintro e w23 ⟨v105, rfl, ho0, hb⟩; refine ⟨_, rfl, ?_⟩; have HO106 := Aside0.mk (Kd.R_lower ho0 (below_size (by repeat with_reducible first|exact HB.out|apply qx|apply qv|apply qw|refine qs ?_ (by assumption)))); replace BK101 := qb BK101 hb; replace BK102 := qb BK102 hb; replace HB := Aside0.mk (below_step (by repeat with_reducible first|exact HB.out|apply qx|apply qv|apply qw|refine qs ?_ (by assumption)) hb); (try clear hb); (try clear hb2); (try clear hk); (try clear hi); (try clear ho0)) | ((with_reducible refine gate_dst (N := 7) rfl ?_); refine box_event ?hg (N := 7) ?hd (cs := #[.bool false, .slice none 0 0]) (t := 25) ?hr ?_; (case hd => rfl); (case hg => rfl); (case hr => go_simp <;> rfl); intro gb108 hg w24 hbox hb; replace HO106 := qr HO106 hb; have BK108 := Aside0.mk (hbox); have GW108 := qg hg (by repeat with_reducible first|exact HB.out|apply qx|apply qv|apply qw|refine qs ?_ (by assumption)); have GE108 := GW108; replace HB := Aside0.mk (below_step (by repeat with_reducible first|exact HB.out|apply qx|apply qv|apply qw|refine qs ?_ (by assumption)) hb); have NB101_108 := qn BK101 hg; have NB108_101 := qm BK101 hg; replace BK101 := qb BK101 hb; have NB102_108 := qn BK102 hg; have NB108_102 := qm BK102 hg; replace BK102 := qb BK102 hb; clear hb hbox hg; have hnb25 := NB108_101.out; have hnc25 := NB101_108.out; have hnb26 := NB108_102.out; have hnc26 := NB102_108.out; have hcz27_0 : w24.cell? ⟨gb108, 0, none⟩ = some (.bool false) := qc BK108 0; have hcz27_1 : w24.cell? ⟨gb108, 1, none⟩ = some (.slice none 0 0) := qc BK108 1; have hfz27_0 := blk_frozen BK108.out 0; have hfz27_1 := blk_frozen BK108.out 1; obtain ⟨Ao28, co28, eo28⟩ := Kd.R_slice HO106.out; subst eo28))
    go_ret
    exact ⟨by first | rfl | (simp [errW_none, errW_some] <;> rfl) | (simp [*, errW_none, errW_some] <;> rfl), by repeat (first | (with_reducible first | exact HB.out | apply qx | apply qv | apply qw | refine qs ?_ (by assumption)) | exact HB.out)⟩
end Go.Proofs.YthhpnlbeniihhaaDoor.PNumParses
namespace Go.Proofs.YthhpnlbeniihhaaDoor.LawKit
open Go.RowKit Go.Proofs.YthhpnlbeniihhaaDoorW.PrintWords Go.Proofs.YthhpnlbeniihhaaDoorW.PrintLast Go.Proofs.YthhpnlbeniihhaaDoorW.PrintMore Go.Proofs.YthhpnlbeniihhaaDoor Go.Proofs.YthhpnlbeniihhaaDoor.Limb Go.Proofs.YthhpnlbeniihhaaDoor.Bit Go.Proofs.YthhpnlbeniihhaaDoor.NumA Go.Proofs.YthhpnlbeniihhaaDoor.NumB Go.Proofs.YthhpnlbeniihhaaDoor.NumG Go.Proofs.YthhpnlbeniihhaaDoor.NumJ Go.Proofs.YthhpnlbeniihhaaDoor.Vals Go.Proofs.YthhpnlbeniihhaaDoor.Plain Go.Proofs.YthhpnlbeniihhaaDoor.Raw Go.Proofs.YthhpnlbeniihhaaDoor.Ref Go.Proofs.YthhpnlbeniihhaaDoor.RefC
set_option linter.unusedVariables false
set_option linter.unusedSimpArgs false
theorem spoil_from (a : Bool) (d : Nat) : ∀ (i k : Nat) (l : List Int), i + d = l.length → d < k → l.length < 1073741824 → ∃ r, PRef.morainelaw02_spoil.l0 k (i : Int) a l = some r := by
  induction d with
  | zero =>
    intro i k l hi hk hl
    obtain ⟨k, rfl⟩ : ∃ j, k = j + 1 := ⟨k - 1, by omega⟩
    rw [PRef.morainelaw02_spoil.l0, if_neg (by omega)]
    exact ⟨_, rfl⟩
  | succ d ih =>
    intro i k l hi hk hl
    obtain ⟨k, rfl⟩ : ∃ j, k = j + 1 := ⟨k - 1, by omega⟩
    rw [PRef.morainelaw02_spoil.l0, if_pos (by omega), if_pos (by omega), show wrap64 ((i : Int) + 1) = ((i + 1 : Nat) : Int) by unfold wrap64; omega]
    exact ih (i + 1) k _ (by rw [List.length_set]; omega) (by omega) (by rw [List.length_set]; exact hl)
/-- One row of limbs is written over. -/
theorem spoil_calls {w0 W : World} {B : List (Nat × Array Value × Nat)} {R8 R32 : List (Value × List Int)} (S : St w0 W B R8 R32) (i : Nat) {A : Option Addr} {n c : Nat} {l : List Int} (h : R32[i]? = some (.slice A n c, l)) (a : Bool) (hl : l.length < 1073741824) :
    Calls Tryd.prog 33 #[.agg #[.bool a, .slice A n c]] W fun e w' => e = .returned (.tuple #[]) ∧ St w0 w' B R8 (R32.eraseIdx i) := by
  obtain ⟨r, hr⟩ := spoil_from a l.length 0 (l.length + 1) l (by omega) (by omega) hl
  have hv := S.r32 _ (List.mem_of_getElem? h)
  have hown : Kd.R (Kd.int .u32) 63 W w0.heap.size (fun k => (Value.slice A n c).ownBlock = some k) (.slice A n c) l := ⟨fun k hk => hk, hv.2.imp_ (fun _ _ hp => hp)⟩
  refine (PRef.morainelaw02_spoil.calls (l.length + 1) a _ _ l r w0 W S.below hown hr).mono ?_
  rintro e w' ⟨rfl, _, hB, hk⟩
  exact ⟨rfl, S.spoilt i h hB hk⟩
/-- An answer is that of a value. -/
theorem is_calls (z : Int) (hz : (vl z).length < 1073741824) (A : Option Addr) (c : Nat) (A2 : Option Addr) (c2 : Nat) (w : World) (h1 : Kd.C (Kd.int .u32) w A (mkI z).2.1.length (mkI z).2.1) (hc : (mkI z).2.1.length ≤ c) (h2 : Kd.C (Kd.int .u8) w A2 (vl z).length (vl z)) (hc2 : (vl z).length ≤ c2) :
    Calls Tryd.prog 27 #[.agg #[.bool (mkI z).1, .slice A (mkI z).2.1.length c], .int .i64 (mkI z).2.2, .agg #[.bool (vb z), .slice A2 (vl z).length c2]] w fun e w' => e = .returned (.bool true) ∧ Below w.heap.size w w' := by
  refine PNumParses.morainelaw02_is.calls _ A c _ _ _ A2 c2 _ true w h1 hc h2 hc2 ?_
  unfold PNumParses.morainelaw02_is.f
  rw [num_at hz, bsome, if_pos rfl, same_self _ _ (okN_mkI z).2, bsome]
theorem same_calls (n : Bool) (l : List Int) (hl : l.length < 1073741824) (A : Option Addr) (c : Nat) (B : Option Addr) (d : Nat) (w : World) (h1 : Kd.C (Kd.int .u32) w A l.length l) (hc : l.length ≤ c) (h2 : Kd.C (Kd.int .u32) w B l.length l) (hd : l.length ≤ d) :
    Calls Tryd.prog 17 #[.agg #[.bool n, .slice A l.length c], .agg #[.bool n, .slice B l.length d]] w fun e w' => e = .returned (.bool true) ∧ Below w.heap.size w w' :=
  moraineref02_Same.calls n A c l n B d l true w h1 hc h2 hd (same_self n l hl)
theorem long_calls (n : Bool) (l : List Int) (A : Option Addr) (c : Nat) (b : Bool) (hb : decide ((l.length : Int) > 60) = b) (w : World) (h1 : Kd.C (Kd.int .u32) w A l.length l) (hc : l.length ≤ c) :
    Calls Tryd.prog 21 #[.agg #[.bool n, .slice A l.length c]] w fun e w' => e = .returned (.bool b) ∧ Below w.heap.size w w' :=
  (PRef.morainelaw02_long.calls n A c l b w h1 hc (congrArg some hb)).mono fun e w' h => ⟨h.1, by first | exact h.2 | (obtain ⟨_, hd⟩ := h; first | exact hd.below | (obtain ⟨q, rfl⟩ := hd; exact pw_below_drewN (Below.refl _ _) q))⟩
theorem awake_calls (w : World) (ht : NumV.Tab w) : Calls Tryd.prog 20 #[] w fun e w' => e = .returned (.bool true) ∧ Below w.heap.size w w' :=
  morainelaw02_awake.calls true w rfl ht
end Go.Proofs.YthhpnlbeniihhaaDoor.LawKit
namespace Go.Proofs.YthhpnlbeniihhaaDoor.RefV
open Go.RowKit Go.Proofs.YthhpnlbeniihhaaDoorW.PrintWords Go.Proofs.YthhpnlbeniihhaaDoorW.PrintLast Go.Proofs.YthhpnlbeniihhaaDoorW.PrintMore Go.Proofs.YthhpnlbeniihhaaDoor Go.Proofs.YthhpnlbeniihhaaDoor.Limb Go.Proofs.YthhpnlbeniihhaaDoor.Bit Go.Proofs.YthhpnlbeniihhaaDoor.NumA Go.Proofs.YthhpnlbeniihhaaDoor.RefA Go.Proofs.YthhpnlbeniihhaaDoor.RefC Go.Proofs.YthhpnlbeniihhaaDoor.Hand
set_option linter.unusedVariables false
set_option linter.unusedSimpArgs false
theorem value_at (b : Bool) (z : Int) (hb : z.natAbs ≠ 0 → b = decide (z < 0)) (A : Option Addr) (c : Nat) (w : World) (hl : Kd.C (Kd.int .u8) w A (vl z).length (vl z)) (hc : (vl z).length ≤ c) :
    Calls Tryd.prog 62 #[.bool b, .slice A (vl z).length c] w fun e w' => e = .returned (.agg #[.bool (vb z), .slice A (vl z).length c]) ∧ Below w.heap.size w w' := by
  have h := value_calls b A c (vl z) w hl hc
  have e := congrArg Prod.fst (v_mk b z.natAbs z rfl hb)
  rw [tr_vl, show decide (0 < (vl z).length) = decide (z.natAbs ≠ 0) from RefC.bits_pos z.natAbs, show (b && decide (z.natAbs ≠ 0)) = vb z from e] at h
  exact h
theorem div_facts (x y : Int) : (Int.tdiv x y).natAbs = x.natAbs / y.natAbs ∧ (x.natAbs / y.natAbs ≠ 0 → (vb x != vb y) = decide (Int.tdiv x y < 0)) := by
  have e : (Int.tdiv x y).natAbs = x.natAbs / y.natAbs := by rw [Int.natAbs_tdiv]; rfl
  refine ⟨e, fun h => ?_⟩
  unfold vb
  by_cases hx : x < 0 <;> by_cases hy : y < 0
  · have : 0 ≤ x.tdiv y := by rw [← Int.neg_tdiv_neg]; exact Int.tdiv_nonneg (by omega) (by omega)
    simp [hx, hy]; omega
  · have : x.tdiv y ≤ 0 := by
      have : 0 ≤ (-x).tdiv y := Int.tdiv_nonneg (by omega) (by omega)
      rw [Int.neg_tdiv] at this; omega
    simp [hx, hy]; omega
  · have : x.tdiv y ≤ 0 := by
      have : 0 ≤ x.tdiv (-y) := Int.tdiv_nonneg (by omega) (by omega)
      rw [Int.tdiv_neg] at this; omega
    simp [hx, hy]; omega
  · have : 0 ≤ x.tdiv y := Int.tdiv_nonneg (by omega) (by omega)
    simp [hx, hy]; omega
theorem rem_facts (x y : Int) : (Int.tmod x y).natAbs = x.natAbs % y.natAbs ∧ (x.natAbs % y.natAbs ≠ 0 → vb x = decide (Int.tmod x y < 0)) := by
  have e : (Int.tmod x y).natAbs = x.natAbs % y.natAbs := Int.natAbs_tmod ..
  refine ⟨e, fun h => ?_⟩
  unfold vb
  by_cases hx : x < 0
  · have : 0 ≤ (-x).tmod y := Int.tmod_nonneg _ (by omega)
    rw [Int.neg_tmod] at this
    simp [hx]; omega
  · have : 0 ≤ x.tmod y := Int.tmod_nonneg _ (by omega)
    simp [hx]; omega
theorem mod_facts (x y : Int) (h0 : y ≠ 0) : Int.fmod x y = if 0 < (vl (Int.tmod x y)).length ∧ vb x ≠ vb y then Int.tmod x y + y else Int.tmod x y := by
  have hp : 0 < (vl (Int.tmod x y)).length ↔ x.natAbs % y.natAbs ≠ 0 := by
    have := RefC.bits_pos (Int.tmod x y).natAbs
    rw [decide_eq_decide, Int.natAbs_tmod] at this
    unfold vl
    rw [Int.natAbs_tmod]
    exact this
  simp only [hp]
  have hr : (Int.tmod x y).natAbs = x.natAbs % y.natAbs := Int.natAbs_tmod ..
  have hs : (0 ≤ x → 0 ≤ x.tmod y) ∧ (x ≤ 0 → x.tmod y ≤ 0) := by
    constructor
    · intro h; exact Int.tmod_nonneg _ h
    · intro h
      have : 0 ≤ (-x).tmod y := Int.tmod_nonneg _ (by omega)
      rw [Int.neg_tmod] at this; omega
  unfold vb
  rw [Int.fmod_eq_tmod]
  by_cases hd : y ∣ x
  · have : x.tmod y = 0 := Int.tmod_eq_zero_of_dvd hd
    have e0 : x.natAbs % y.natAbs = 0 := by rw [← hr, this]; rfl
    simp [hd, e0, this]
  · have hne : x.tmod y ≠ 0 := fun h => hd (Int.dvd_of_tmod_eq_zero h)
    have e0 : x.natAbs % y.natAbs ≠ 0 := by rw [← hr]; omega
    by_cases hx : x < 0 <;> by_cases hy : y < 0 <;> simp [hx, hy, hd, e0] <;> omega
set_option maxRecDepth 100000 in
set_option maxHeartbeats 8000000 in
/-- Divide: quotient, rest, remainder of whole numbers. -/
theorem divide_calls (y z : Int) (h0 : z ≠ 0) (A0 : Option Addr) (c0 : Nat) (A1 : Option Addr) (c1 : Nat) (w : World) (hy : (vl y).length < 1073741824) (hz : (vl z).length < 1073741824)
    (hr0 : Kd.C (Kd.int .u8) w A0 (vl y).length (vl y)) (hc0 : (vl y).length ≤ c0) (hr1 : Kd.C (Kd.int .u8) w A1 (vl z).length (vl z)) (hc1 : (vl z).length ≤ c1) :
    Calls Tryd.prog 32 #[.agg #[.bool (vb y), .slice A0 (vl y).length c0], .agg #[.bool (vb z), .slice A1 (vl z).length c1]] w fun e w' => ∃ Aq cq Ar cr Am cm,
      e = .returned (.tuple #[.agg #[.bool (vb (Int.tdiv y z)), .slice Aq (vl (Int.tdiv y z)).length cq], .agg #[.bool (vb (Int.tmod y z)), .slice Ar (vl (Int.tmod y z)).length cr], .agg #[.bool (vb (Int.fmod y z)), .slice Am (vl (Int.fmod y z)).length cm]]) ∧
      ((vl (Int.tdiv y z)).length ≤ cq ∧ Kd.C (Kd.int .u8) w' Aq (vl (Int.tdiv y z)).length (vl (Int.tdiv y z))) ∧ ((vl (Int.tmod y z)).length ≤ cr ∧ Kd.C (Kd.int .u8) w' Ar (vl (Int.tmod y z)).length (vl (Int.tmod y z))) ∧
      ((vl (Int.fmod y z)).length ≤ cm ∧ Kd.C (Kd.int .u8) w' Am (vl (Int.fmod y z)).length (vl (Int.fmod y z))) ∧ Below w.heap.size w w' := by
  have hp := parts_ev (vl y) (vl z) (ok_vl y) (ok_vl z) (tr_vl z) (by omega) (by omega) (by rw [bv_vl]; omega)
  obtain ⟨eq1, eq2⟩ := div_facts y z
  obtain ⟨er1, er2⟩ := rem_facts y z
  rw [bv_vl, bv_vl, ← eq1, ← er1] at hp
  rw [← eq1] at eq2
  rw [← er1] at er2
  obtain ⟨k, hk⟩ := hp.rounds
  have em := mod_facts y z h0
  have hrl : (vl (Int.tmod y z)).length < 1073741824 := by
    have h1 : (vl (Int.tmod y z)).length ≤ (vl z).length := by
      unfold vl
      rw [bits_len, er1]
      exact Nat.lt_of_le_of_lt (Nat.le_of_lt (Nat.mod_lt _ (by omega))) ((bits_len _ _).mp (Nat.le_refl _))
    omega
  generalize Int.tdiv y z = tq at *
  generalize Int.tmod y z = tr at *
  generalize Int.fmod y z = tm at *
  have S1 := (((((St.start w).boxed #[.bool (vb y), .slice A0 (vl y).length c0] 34 (by decide)).boxed #[.bool (vb z), .slice A1 (vl z).length c1] 34 (by decide)).boxed #[.bool false, .slice none 0 0] 34 (by decide)).boxed #[.bool false, .slice none 0 0] 34 (by decide)).boxed #[.bool false, .slice none 0 0] 34 (by decide)
  have P := PRef.moraineref02_parts.calls k A0 c0 (vl y) A1 c1 (vl z) (vl tq) (vl tr) _ (S1.came hr0) hc0 (S1.came hr1) hc1 hk
  simp only [World.size_alloc] at S1
  obtain ⟨a0, a1⟩ := S1.cells 4 rfl
  obtain ⟨b0, b1⟩ := S1.cells 3 rfl
  have HS := Aside0.mk S1
  have PP := Lib.hid P
  have HEM := Aside0.mk em
  have HQ2 := Aside0.mk eq2
  have HR2 := Aside0.mk er2
  have HRL := Aside0.mk hrl
  have HZ := Aside0.mk hz
  have HCC := Aside0.mk hc1
  have HRR := Aside0.mk hr1
  clear S1 P em eq2 er2 eq1 er1 hrl hy hz hc0 hc1 hr0 hr1 hp hk
  go_enter Tryd.func32, Tryd.ntmps32
  go_wp2_with fail
  refine PP.out.mono ?_
  rintro e w3 ⟨v0, v1, rfl, ho0, ho1, hb⟩
  clear a0 a1 b0 b1 PP
  obtain ⟨Aq, cq, rfl⟩ := Kd.R_slice ho0
  obtain ⟨Ar, cr, rfl⟩ := Kd.R_slice ho1
  have S3 := ((HS.out.call hb).add8 ho0 (below_size HS.out.below)).add8 ho1 (below_size HS.out.below)
  have V3 := value_at (vb y) tr HR2.out Ar cr w3 (S3.bits 0 rfl).2.2 (S3.bits 0 rfl).2.1
  have HS3 := Aside0.mk S3
  obtain ⟨a0, a1⟩ := S3.cells 4 rfl
  have VV := Lib.hid V3
  clear hb ho0 ho1 HS S3 V3
  go_wp2_with fail
  refine VV.out.mono ?_
  rintro e w4 ⟨rfl, hb⟩
  clear a0 a1 VV
  have S4 := ((HS3.out.call hb).boxed #[.bool (vb tr), .slice Ar (vl tr).length cr] 34 (by decide)).boxed #[.bool (vb tr), .slice Ar (vl tr).length cr] 34 (by decide)
  simp only [World.size_alloc] at S4
  obtain ⟨r0, r1⟩ := ((HS3.out.call hb).boxed #[.bool (vb tr), .slice Ar (vl tr).length cr] 34 (by decide)).cells 0 rfl
  obtain ⟨a0, a1⟩ := S4.cells 6 rfl
  obtain ⟨b0, b1⟩ := S4.cells 5 rfl
  obtain ⟨s0, s1⟩ := S4.cells 1 rfl
  have HS4 := Aside0.mk S4
  clear S4 hb HS3
  by_cases hs : vb y = vb z
  · have d1 : (vb y == vb z) = true := by simpa using hs
    have HQB := Aside0.mk (show tq.natAbs ≠ 0 → false = decide (tq < 0) from fun h => by have := HQ2.out h; rw [bne, d1] at this; exact this)
    by_cases h1 : 0 < (vl tr).length
    · have t1 : decide (0 < (vl tr).length) = true := decide_eq_true h1
      have t2 : decide ((0 : Int) < ((vl tr).length : Int)) = true := decide_eq_true (by omega)
      have e : tr = tm := by rw [HEM.out, if_neg (fun h => h.2 hs)]
      subst e
      have HSX := HS4
      clear h1 hs HS4
      go_wp2
      clear a0 a1 b0 b1 r0 r1 s0 s1 t1 t2
      have HS := HSX
      clear HSX
      have HN := Aside0.mk (HS.out.drew)
      clear HS
      have HS := HN
      clear HN
      refine start_ (n := 12) (S := fun w' => w'.cell? ⟨w.heap.size, 0, none⟩ = some (.bool (vb y)) ∧ w'.cell? ⟨w.heap.size + 1, 0, none⟩ = some (.bool (vb z)) ∧ w'.cell? ⟨w4.heap.size, 0, none⟩ = some (.bool (vb tr)) ∧ w'.cell? ⟨w4.heap.size, 1, none⟩ = some (.slice Ar (vl tr).length cr) ∧ w'.cell? ⟨w4.heap.size + 1, 0, none⟩ = some (.bool (vb tr)) ∧ w'.cell? ⟨w4.heap.size + 1, 1, none⟩ = some (.slice Ar (vl tr).length cr)) (ds := []) #[false, false, false, false, false, false, false, false, false, false, false, false] (by kernel_rfl) rfl rfl ⟨(HS.out.cells 6 rfl).1, (HS.out.cells 5 rfl).1, (HS.out.cells 1 rfl).1, (HS.out.cells 1 rfl).2, (HS.out.cells 0 rfl).1, (HS.out.cells 0 rfl).2⟩ (fun hHeld => ?_)
      refine pure_ (i := 0) (N := some 37) (v := ?_) (a' := ?_) #[true, false, false, false, false, false, false, false, false, false, false, false] rfl rfl (by kernel_rfl) (fun _ _ _ h => h) (Or.inl ⟨by rfl, ?_⟩) ?_ ?_
      rotate_left
      · intro w'
        go_simp
        with_reducible rfl
      rotate_left
      · simp only [Act.put, List.setIfInBounds_toArray, List.set_cons_zero, List.set_cons_succ, i64_w, i32_w]
        rfl
      refine pure_ (i := 2) (N := some 39) (v := ?_) (a' := ?_) #[true, false, true, false, false, false, false, false, false, false, false, false] rfl rfl (by kernel_rfl) (fun _ _ _ h => h) (Or.inl ⟨by rfl, ?_⟩) ?_ ?_
      rotate_left
      · intro w'
        go_simp
        with_reducible rfl
      rotate_left
      · simp only [Act.put, List.setIfInBounds_toArray, List.set_cons_zero, List.set_cons_succ, i64_w, i32_w]
        rfl
      refine pure_ (i := 5) (N := some 42) (v := ?_) (a' := ?_) #[true, false, true, false, false, true, false, false, false, false, false, false] rfl rfl (by kernel_rfl) (fun _ _ _ h => h) (Or.inl ⟨by rfl, ?_⟩) ?_ ?_
      rotate_left
      · intro w'
        go_simp
        with_reducible rfl
      rotate_left
      · simp only [Act.put, List.setIfInBounds_toArray, List.set_cons_zero, List.set_cons_succ, i64_w, i32_w]
        rfl
      refine take_ (i := 1) (N := some 38) (v := ?_) (a' := ?_) #[true, true, true, false, false, true, false, false, false, false, false, false] rfl rfl (by kernel_rfl) (fun _ _ _ h => h) (Or.inl ⟨by rfl, ?_⟩) hHeld ?_ ?_
      rotate_left
      · rintro w' ⟨s0, s1, s2, s3, s4, s5⟩
        go_simp
        with_reducible rfl
      rotate_left
      · simp only [Act.put, List.setIfInBounds_toArray, List.set_cons_zero, List.set_cons_succ, i64_w, i32_w]
        rfl
      refine take_ (i := 3) (N := some 40) (v := ?_) (a' := ?_) #[true, true, true, true, false, true, false, false, false, false, false, false] rfl rfl (by kernel_rfl) (fun _ _ _ h => h) (Or.inl ⟨by rfl, ?_⟩) hHeld ?_ ?_
      rotate_left
      · rintro w' ⟨s0, s1, s2, s3, s4, s5⟩
        go_simp
        with_reducible rfl
      rotate_left
      · simp only [Act.put, List.setIfInBounds_toArray, List.set_cons_zero, List.set_cons_succ, i64_w, i32_w]
        rfl
      refine pure_ (i := 4) (N := some 41) (v := ?_) (a' := ?_) #[true, true, true, true, true, true, false, false, false, false, false, false] rfl rfl (by kernel_rfl) (fun _ _ _ h => h) (Or.inl ⟨by rfl, ?_⟩) ?_ ?_
      rotate_left
      · intro w'
        go_simp
        with_reducible rfl
      rotate_left
      · simp only [Act.put, List.setIfInBounds_toArray, List.set_cons_zero, List.set_cons_succ, i64_w, i32_w]
        rfl
      refine take_ (i := 7) (N := some 44) (v := ?_) (a' := ?_) #[true, true, true, true, true, true, false, true, false, false, false, false] rfl rfl (by kernel_rfl) (fun _ _ _ h => h) (Or.inl ⟨by rfl, ?_⟩) hHeld ?_ ?_
      rotate_left
      · rintro w' ⟨s0, s1, s2, s3, s4, s5⟩
        go_simp
        with_reducible rfl
      rotate_left
      · simp only [Act.put, List.setIfInBounds_toArray, List.set_cons_zero, List.set_cons_succ, i64_w, i32_w]
        rfl
      refine take_ (i := 8) (N := some 45) (v := ?_) (a' := ?_) #[true, true, true, true, true, true, false, true, true, false, false, false] rfl rfl (by kernel_rfl) (fun _ _ _ h => h) (Or.inl ⟨by rfl, ?_⟩) hHeld ?_ ?_
      rotate_left
      · rintro w' ⟨s0, s1, s2, s3, s4, s5⟩
        go_simp
        with_reducible rfl
      rotate_left
      · simp only [Act.put, List.setIfInBounds_toArray, List.set_cons_zero, List.set_cons_succ, i64_w, i32_w]
        rfl
      refine one_ (i := 6) (N := some 43) #[true, true, true, true, true, true, true, true, true, false, false, false] rfl rfl (by kernel_rfl) (by decide) (fun K hK => ?_)
      refine goes_ Tryd.func62 (by kernel_rfl) rfl #[.bool false, .slice Aq (vl tq).length cq] (by rfl) rfl rfl (by simp only [List.map_toArray, List.map_cons, List.map_nil]; rfl) ?_
      with_reducible refine (value_at false tq HQB.out Aq cq _ (HS.out.bits 1 rfl).2.2 (HS.out.bits 1 rfl).2.1).mono ?_
      rintro e w3 ⟨rfl, hb⟩
      refine ⟨_, rfl, ?_⟩
      have HN := Aside0.mk (HS.out.call hb)
      clear HS
      have HS := HN
      clear HN
      refine hK.out _ _ ⟨(HS.out.cells 6 rfl).1, (HS.out.cells 5 rfl).1, (HS.out.cells 1 rfl).1, (HS.out.cells 1 rfl).2, (HS.out.cells 0 rfl).1, (HS.out.cells 0 rfl).2⟩ (fun hHeld => ?_)
      clear hK K
      refine norm_ (a' := ?_) ?_ ?_
      rotate_left
      · show Act.put _ (some 43) _ = _
        simp only [Act.put, List.setIfInBounds_toArray, List.set_cons_zero, List.set_cons_succ, i64_w, i32_w]
        rfl
      refine one_ (i := 9) (N := none) #[true, true, true, true, true, true, true, true, true, true, false, false] rfl rfl (by kernel_rfl) (by decide) (fun K hK => ?_)
      obtain ⟨x0, x1⟩ := HS.out.cells 4 rfl
      have g0 := HS.out.froz 4 rfl 0
      have g1 := HS.out.froz 4 rfl 1
      refine skip_ (w1 := ?_) (by rfl) rfl ?_ ?_
      rotate_left
      · go_simp
        rfl
      clear x0 x1 g0 g1
      have HN := Aside0.mk (HS.out.set2 4 rfl (.bool (vb tq)) (.slice Aq (vl tq).length cq))
      clear HS
      have HS := HN
      clear HN
      refine hK.out _ _ ⟨(HS.out.cells 6 rfl).1, (HS.out.cells 5 rfl).1, (HS.out.cells 1 rfl).1, (HS.out.cells 1 rfl).2, (HS.out.cells 0 rfl).1, (HS.out.cells 0 rfl).2⟩ (fun hHeld => ?_)
      clear hK K
      refine one_ (i := 10) (N := none) #[true, true, true, true, true, true, true, true, true, true, true, false] rfl rfl (by kernel_rfl) (by decide) (fun K hK => ?_)
      obtain ⟨x0, x1⟩ := HS.out.cells 3 rfl
      have g0 := HS.out.froz 3 rfl 0
      have g1 := HS.out.froz 3 rfl 1
      refine skip_ (w1 := ?_) (by rfl) rfl ?_ ?_
      rotate_left
      · go_simp
        rfl
      clear x0 x1 g0 g1
      have HN := Aside0.mk (HS.out.set2 3 rfl (.bool (vb tr)) (.slice Ar (vl tr).length cr))
      clear HS
      have HS := HN
      clear HN
      refine hK.out _ _ ⟨(HS.out.cells 6 rfl).1, (HS.out.cells 5 rfl).1, (HS.out.cells 1 rfl).1, (HS.out.cells 1 rfl).2, (HS.out.cells 0 rfl).1, (HS.out.cells 0 rfl).2⟩ (fun hHeld => ?_)
      clear hK K
      refine one_ (i := 11) (N := none) #[true, true, true, true, true, true, true, true, true, true, true, true] rfl rfl (by kernel_rfl) (by decide) (fun K hK => ?_)
      obtain ⟨x0, x1⟩ := HS.out.cells 2 rfl
      have g0 := HS.out.froz 2 rfl 0
      have g1 := HS.out.froz 2 rfl 1
      refine skip_ (w1 := ?_) (by rfl) rfl ?_ ?_
      rotate_left
      · go_simp
        rfl
      clear x0 x1 g0 g1
      have HN := Aside0.mk (HS.out.set2 2 rfl (.bool (vb tr)) (.slice Ar (vl tr).length cr))
      clear HS
      have HS := HN
      clear HN
      refine hK.out _ _ ⟨(HS.out.cells 6 rfl).1, (HS.out.cells 5 rfl).1, (HS.out.cells 1 rfl).1, (HS.out.cells 1 rfl).2, (HS.out.cells 0 rfl).1, (HS.out.cells 0 rfl).2⟩ (fun hHeld => ?_)
      clear hK K
      refine done_ (by kernel_rfl) ?_
      go_wp2
      refine bodyPost_ret (results_list (rs := [.cell 4 34, .cell 5 34, .cell 6 34]) rfl (by simp) (.cell (w.heap.size + 1 + 1) 34 #[.bool (vb tq), .slice Aq (vl tq).length cq] (0, 0) _ rfl (HS.out.blk 4 rfl) Tryd.underlying34 rfl (by kernel_rfl) (.cell (w.heap.size + 1 + 1 + 1) 34 #[.bool (vb tr), .slice Ar (vl tr).length cr] (0, 0) _ rfl (HS.out.blk 3 rfl) Tryd.underlying34 rfl (by kernel_rfl) (.cell (w.heap.size + 1 + 1 + 1 + 1) 34 #[.bool (vb tr), .slice Ar (vl tr).length cr] (0, 0) _ rfl (HS.out.blk 2 rfl) Tryd.underlying34 rfl (by kernel_rfl) .nil)))) rfl ?_
      exact ⟨Aq, cq, Ar, cr, Ar, cr, rfl, ⟨(HS.out.bits 1 rfl).2.1, (HS.out.bits 1 rfl).2.2⟩, ⟨(HS.out.bits 0 rfl).2.1, (HS.out.bits 0 rfl).2.2⟩, ⟨(HS.out.bits 0 rfl).2.1, (HS.out.bits 0 rfl).2.2⟩, HS.out.below⟩
    · have t1 : decide (0 < (vl tr).length) = false := decide_eq_false h1
      have t2 : decide ((0 : Int) < ((vl tr).length : Int)) = false := decide_eq_false (by omega)
      have e : tr = tm := by rw [HEM.out, if_neg (fun h => h1 h.1)]
      subst e
      have HSX := HS4
      clear h1 hs HS4
      go_wp2
      clear a0 a1 b0 b1 r0 r1 s0 s1 t1 t2
      have HS := HSX
      clear HSX
      have HN := Aside0.mk (HS.out.drew)
      clear HS
      have HS := HN
      clear HN
      refine start_ (n := 12) (S := fun w' => w'.cell? ⟨w.heap.size, 0, none⟩ = some (.bool (vb y)) ∧ w'.cell? ⟨w.heap.size + 1, 0, none⟩ = some (.bool (vb z)) ∧ w'.cell? ⟨w4.heap.size, 0, none⟩ = some (.bool (vb tr)) ∧ w'.cell? ⟨w4.heap.size, 1, none⟩ = some (.slice Ar (vl tr).length cr) ∧ w'.cell? ⟨w4.heap.size + 1, 0, none⟩ = some (.bool (vb tr)) ∧ w'.cell? ⟨w4.heap.size + 1, 1, none⟩ = some (.slice Ar (vl tr).length cr)) (ds := []) #[false, false, false, false, false, false, false, false, false, false, false, false] (by kernel_rfl) rfl rfl ⟨(HS.out.cells 6 rfl).1, (HS.out.cells 5 rfl).1, (HS.out.cells 1 rfl).1, (HS.out.cells 1 rfl).2, (HS.out.cells 0 rfl).1, (HS.out.cells 0 rfl).2⟩ (fun hHeld => ?_)
      refine pure_ (i := 0) (N := some 37) (v := ?_) (a' := ?_) #[true, false, false, false, false, false, false, false, false, false, false, false] rfl rfl (by kernel_rfl) (fun _ _ _ h => h) (Or.inl ⟨by rfl, ?_⟩) ?_ ?_
      rotate_left
      · intro w'
        go_simp
        with_reducible rfl
      rotate_left
      · simp only [Act.put, List.setIfInBounds_toArray, List.set_cons_zero, List.set_cons_succ, i64_w, i32_w]
        rfl
      refine pure_ (i := 2) (N := some 39) (v := ?_) (a' := ?_) #[true, false, true, false, false, false, false, false, false, false, false, false] rfl rfl (by kernel_rfl) (fun _ _ _ h => h) (Or.inl ⟨by rfl, ?_⟩) ?_ ?_
      rotate_left
      · intro w'
        go_simp
        with_reducible rfl
      rotate_left
      · simp only [Act.put, List.setIfInBounds_toArray, List.set_cons_zero, List.set_cons_succ, i64_w, i32_w]
        rfl
      refine pure_ (i := 5) (N := some 42) (v := ?_) (a' := ?_) #[true, false, true, false, false, true, false, false, false, false, false, false] rfl rfl (by kernel_rfl) (fun _ _ _ h => h) (Or.inl ⟨by rfl, ?_⟩) ?_ ?_
      rotate_left
      · intro w'
        go_simp
        with_reducible rfl
      rotate_left
      · simp only [Act.put, List.setIfInBounds_toArray, List.set_cons_zero, List.set_cons_succ, i64_w, i32_w]
        rfl
      refine take_ (i := 1) (N := some 38) (v := ?_) (a' := ?_) #[true, true, true, false, false, true, false, false, false, false, false, false] rfl rfl (by kernel_rfl) (fun _ _ _ h => h) (Or.inl ⟨by rfl, ?_⟩) hHeld ?_ ?_
      rotate_left
      · rintro w' ⟨s0, s1, s2, s3, s4, s5⟩
        go_simp
        with_reducible rfl
      rotate_left
      · simp only [Act.put, List.setIfInBounds_toArray, List.set_cons_zero, List.set_cons_succ, i64_w, i32_w]
        rfl
      refine take_ (i := 3) (N := some 40) (v := ?_) (a' := ?_) #[true, true, true, true, false, true, false, false, false, false, false, false] rfl rfl (by kernel_rfl) (fun _ _ _ h => h) (Or.inl ⟨by rfl, ?_⟩) hHeld ?_ ?_
      rotate_left
      · rintro w' ⟨s0, s1, s2, s3, s4, s5⟩
        go_simp
        with_reducible rfl
      rotate_left
      · simp only [Act.put, List.setIfInBounds_toArray, List.set_cons_zero, List.set_cons_succ, i64_w, i32_w]
        rfl
      refine pure_ (i := 4) (N := some 41) (v := ?_) (a' := ?_) #[true, true, true, true, true, true, false, false, false, false, false, false] rfl rfl (by kernel_rfl) (fun _ _ _ h => h) (Or.inl ⟨by rfl, ?_⟩) ?_ ?_
      rotate_left
      · intro w'
        go_simp
        with_reducible rfl
      rotate_left
      · simp only [Act.put, List.setIfInBounds_toArray, List.set_cons_zero, List.set_cons_succ, i64_w, i32_w]
        rfl
      refine take_ (i := 7) (N := some 44) (v := ?_) (a' := ?_) #[true, true, true, true, true, true, false, true, false, false, false, false] rfl rfl (by kernel_rfl) (fun _ _ _ h => h) (Or.inl ⟨by rfl, ?_⟩) hHeld ?_ ?_
      rotate_left
      · rintro w' ⟨s0, s1, s2, s3, s4, s5⟩
        go_simp
        with_reducible rfl
      rotate_left
      · simp only [Act.put, List.setIfInBounds_toArray, List.set_cons_zero, List.set_cons_succ, i64_w, i32_w]
        rfl
      refine take_ (i := 8) (N := some 45) (v := ?_) (a' := ?_) #[true, true, true, true, true, true, false, true, true, false, false, false] rfl rfl (by kernel_rfl) (fun _ _ _ h => h) (Or.inl ⟨by rfl, ?_⟩) hHeld ?_ ?_
      rotate_left
      · rintro w' ⟨s0, s1, s2, s3, s4, s5⟩
        go_simp
        with_reducible rfl
      rotate_left
      · simp only [Act.put, List.setIfInBounds_toArray, List.set_cons_zero, List.set_cons_succ, i64_w, i32_w]
        rfl
      refine one_ (i := 6) (N := some 43) #[true, true, true, true, true, true, true, true, true, false, false, false] rfl rfl (by kernel_rfl) (by decide) (fun K hK => ?_)
      refine goes_ Tryd.func62 (by kernel_rfl) rfl #[.bool false, .slice Aq (vl tq).length cq] (by rfl) rfl rfl (by simp only [List.map_toArray, List.map_cons, List.map_nil]; rfl) ?_
      with_reducible refine (value_at false tq HQB.out Aq cq _ (HS.out.bits 1 rfl).2.2 (HS.out.bits 1 rfl).2.1).mono ?_
      rintro e w3 ⟨rfl, hb⟩
      refine ⟨_, rfl, ?_⟩
      have HN := Aside0.mk (HS.out.call hb)
      clear HS
      have HS := HN
      clear HN
      refine hK.out _ _ ⟨(HS.out.cells 6 rfl).1, (HS.out.cells 5 rfl).1, (HS.out.cells 1 rfl).1, (HS.out.cells 1 rfl).2, (HS.out.cells 0 rfl).1, (HS.out.cells 0 rfl).2⟩ (fun hHeld => ?_)
      clear hK K
      refine norm_ (a' := ?_) ?_ ?_
      rotate_left
      · show Act.put _ (some 43) _ = _
        simp only [Act.put, List.setIfInBounds_toArray, List.set_cons_zero, List.set_cons_succ, i64_w, i32_w]
        rfl
      refine one_ (i := 9) (N := none) #[true, true, true, true, true, true, true, true, true, true, false, false] rfl rfl (by kernel_rfl) (by decide) (fun K hK => ?_)
      obtain ⟨x0, x1⟩ := HS.out.cells 4 rfl
      have g0 := HS.out.froz 4 rfl 0
      have g1 := HS.out.froz 4 rfl 1
      refine skip_ (w1 := ?_) (by rfl) rfl ?_ ?_
      rotate_left
      · go_simp
        rfl
      clear x0 x1 g0 g1
      have HN := Aside0.mk (HS.out.set2 4 rfl (.bool (vb tq)) (.slice Aq (vl tq).length cq))
      clear HS
      have HS := HN
      clear HN
      refine hK.out _ _ ⟨(HS.out.cells 6 rfl).1, (HS.out.cells 5 rfl).1, (HS.out.cells 1 rfl).1, (HS.out.cells 1 rfl).2, (HS.out.cells 0 rfl).1, (HS.out.cells 0 rfl).2⟩ (fun hHeld => ?_)
      clear hK K
      refine one_ (i := 10) (N := none) #[true, true, true, true, true, true, true, true, true, true, true, false] rfl rfl (by kernel_rfl) (by decide) (fun K hK => ?_)
      obtain ⟨x0, x1⟩ := HS.out.cells 3 rfl
      have g0 := HS.out.froz 3 rfl 0
      have g1 := HS.out.froz 3 rfl 1
      refine skip_ (w1 := ?_) (by rfl) rfl ?_ ?_
      rotate_left
      · go_simp
        rfl
      clear x0 x1 g0 g1
      have HN := Aside0.mk (HS.out.set2 3 rfl (.bool (vb tr)) (.slice Ar (vl tr).length cr))
      clear HS
      have HS := HN
      clear HN
      refine hK.out _ _ ⟨(HS.out.cells 6 rfl).1, (HS.out.cells 5 rfl).1, (HS.out.cells 1 rfl).1, (HS.out.cells 1 rfl).2, (HS.out.cells 0 rfl).1, (HS.out.cells 0 rfl).2⟩ (fun hHeld => ?_)
      clear hK K
      refine one_ (i := 11) (N := none) #[true, true, true, true, true, true, true, true, true, true, true, true] rfl rfl (by kernel_rfl) (by decide) (fun K hK => ?_)
      obtain ⟨x0, x1⟩ := HS.out.cells 2 rfl
      have g0 := HS.out.froz 2 rfl 0
      have g1 := HS.out.froz 2 rfl 1
      refine skip_ (w1 := ?_) (by rfl) rfl ?_ ?_
      rotate_left
      · go_simp
        rfl
      clear x0 x1 g0 g1
      have HN := Aside0.mk (HS.out.set2 2 rfl (.bool (vb tr)) (.slice Ar (vl tr).length cr))
      clear HS
      have HS := HN
      clear HN
      refine hK.out _ _ ⟨(HS.out.cells 6 rfl).1, (HS.out.cells 5 rfl).1, (HS.out.cells 1 rfl).1, (HS.out.cells 1 rfl).2, (HS.out.cells 0 rfl).1, (HS.out.cells 0 rfl).2⟩ (fun hHeld => ?_)
      clear hK K
      refine done_ (by kernel_rfl) ?_
      go_wp2
      refine bodyPost_ret (results_list (rs := [.cell 4 34, .cell 5 34, .cell 6 34]) rfl (by simp) (.cell (w.heap.size + 1 + 1) 34 #[.bool (vb tq), .slice Aq (vl tq).length cq] (0, 0) _ rfl (HS.out.blk 4 rfl) Tryd.underlying34 rfl (by kernel_rfl) (.cell (w.heap.size + 1 + 1 + 1) 34 #[.bool (vb tr), .slice Ar (vl tr).length cr] (0, 0) _ rfl (HS.out.blk 3 rfl) Tryd.underlying34 rfl (by kernel_rfl) (.cell (w.heap.size + 1 + 1 + 1 + 1) 34 #[.bool (vb tr), .slice Ar (vl tr).length cr] (0, 0) _ rfl (HS.out.blk 2 rfl) Tryd.underlying34 rfl (by kernel_rfl) .nil)))) rfl ?_
      exact ⟨Aq, cq, Ar, cr, Ar, cr, rfl, ⟨(HS.out.bits 1 rfl).2.1, (HS.out.bits 1 rfl).2.2⟩, ⟨(HS.out.bits 0 rfl).2.1, (HS.out.bits 0 rfl).2.2⟩, ⟨(HS.out.bits 0 rfl).2.1, (HS.out.bits 0 rfl).2.2⟩, HS.out.below⟩
  · have d1 : (vb y == vb z) = false := by simpa using hs
    have HQB := Aside0.mk (show tq.natAbs ≠ 0 → true = decide (tq < 0) from fun h => by have := HQ2.out h; rw [bne, d1] at this; exact this)
    by_cases h1 : 0 < (vl tr).length
    · have t1 : decide (0 < (vl tr).length) = true := decide_eq_true h1
      have t2 : decide ((0 : Int) < ((vl tr).length : Int)) = true := decide_eq_true (by omega)
      have e : tm = tr + z := by rw [HEM.out, if_pos ⟨h1, hs⟩]
      have C5 := moraineref02_Add.calls (vb tr) Ar cr (vl tr) (vb z) A1 c1 (vl z) (vb (tr + z)) (vl (tr + z)) _ (HS4.out.bits 0 rfl).2.2 (HS4.out.bits 0 rfl).2.1 (HS4.out.came HRR.out) HCC.out (Ref.radd_at HRL.out HZ.out)
      rw [← e] at C5
      have CC := Lib.hid C5
      clear C5 e h1 hs
      go_wp2_with fail
      refine CC.out.mono ?_
      rintro e w5 ⟨v5, rfl, ho, hb⟩
      clear a0 a1 b0 b1 s0 s1 r0 r1 CC
      obtain ⟨Am, cm, rfl⟩ := Kd.R_slice ho
      have S5 := HS4.out.call8 hb ho
      obtain ⟨m0, m1⟩ := S5.cells 0 rfl
      have f0 := S5.froz 0 rfl 0
      have f1 := S5.froz 0 rfl 1
      have HSX := Aside0.mk (S5.set2 0 rfl (.bool (vb tm)) (.slice Am (vl tm).length cm))
      clear S5 hb ho HS4
      go_wp2
      clear m0 m1 f0 f1 t1 t2
      have HS := HSX
      clear HSX
      have HN := Aside0.mk (HS.out.drew)
      clear HS
      have HS := HN
      clear HN
      refine start_ (n := 12) (S := fun w' => w'.cell? ⟨w.heap.size, 0, none⟩ = some (.bool (vb y)) ∧ w'.cell? ⟨w.heap.size + 1, 0, none⟩ = some (.bool (vb z)) ∧ w'.cell? ⟨w4.heap.size, 0, none⟩ = some (.bool (vb tr)) ∧ w'.cell? ⟨w4.heap.size, 1, none⟩ = some (.slice Ar (vl tr).length cr) ∧ w'.cell? ⟨w4.heap.size + 1, 0, none⟩ = some (.bool (vb tm)) ∧ w'.cell? ⟨w4.heap.size + 1, 1, none⟩ = some (.slice Am (vl tm).length cm)) (ds := []) #[false, false, false, false, false, false, false, false, false, false, false, false] (by kernel_rfl) rfl rfl ⟨(HS.out.cells 6 rfl).1, (HS.out.cells 5 rfl).1, (HS.out.cells 1 rfl).1, (HS.out.cells 1 rfl).2, (HS.out.cells 0 rfl).1, (HS.out.cells 0 rfl).2⟩ (fun hHeld => ?_)
      refine pure_ (i := 0) (N := some 37) (v := ?_) (a' := ?_) #[true, false, false, false, false, false, false, false, false, false, false, false] rfl rfl (by kernel_rfl) (fun _ _ _ h => h) (Or.inl ⟨by rfl, ?_⟩) ?_ ?_
      rotate_left
      · intro w'
        go_simp
        with_reducible rfl
      rotate_left
      · simp only [Act.put, List.setIfInBounds_toArray, List.set_cons_zero, List.set_cons_succ, i64_w, i32_w]
        rfl
      refine pure_ (i := 2) (N := some 39) (v := ?_) (a' := ?_) #[true, false, true, false, false, false, false, false, false, false, false, false] rfl rfl (by kernel_rfl) (fun _ _ _ h => h) (Or.inl ⟨by rfl, ?_⟩) ?_ ?_
      rotate_left
      · intro w'
        go_simp
        with_reducible rfl
      rotate_left
      · simp only [Act.put, List.setIfInBounds_toArray, List.set_cons_zero, List.set_cons_succ, i64_w, i32_w]
        rfl
      refine pure_ (i := 5) (N := some 42) (v := ?_) (a' := ?_) #[true, false, true, false, false, true, false, false, false, false, false, false] rfl rfl (by kernel_rfl) (fun _ _ _ h => h) (Or.inl ⟨by rfl, ?_⟩) ?_ ?_
      rotate_left
      · intro w'
        go_simp
        with_reducible rfl
      rotate_left
      · simp only [Act.put, List.setIfInBounds_toArray, List.set_cons_zero, List.set_cons_succ, i64_w, i32_w]
        rfl
      refine take_ (i := 1) (N := some 38) (v := ?_) (a' := ?_) #[true, true, true, false, false, true, false, false, false, false, false, false] rfl rfl (by kernel_rfl) (fun _ _ _ h => h) (Or.inl ⟨by rfl, ?_⟩) hHeld ?_ ?_
      rotate_left
      · rintro w' ⟨s0, s1, s2, s3, s4, s5⟩
        go_simp
        with_reducible rfl
      rotate_left
      · simp only [Act.put, List.setIfInBounds_toArray, List.set_cons_zero, List.set_cons_succ, i64_w, i32_w]
        rfl
      refine take_ (i := 3) (N := some 40) (v := ?_) (a' := ?_) #[true, true, true, true, false, true, false, false, false, false, false, false] rfl rfl (by kernel_rfl) (fun _ _ _ h => h) (Or.inl ⟨by rfl, ?_⟩) hHeld ?_ ?_
      rotate_left
      · rintro w' ⟨s0, s1, s2, s3, s4, s5⟩
        go_simp
        with_reducible rfl
      rotate_left
      · simp only [Act.put, List.setIfInBounds_toArray, List.set_cons_zero, List.set_cons_succ, i64_w, i32_w]
        rfl
      refine pure_ (i := 4) (N := some 41) (v := ?_) (a' := ?_) #[true, true, true, true, true, true, false, false, false, false, false, false] rfl rfl (by kernel_rfl) (fun _ _ _ h => h) (Or.inl ⟨by rfl, ?_⟩) ?_ ?_
      rotate_left
      · intro w'
        go_simp
        with_reducible rfl
      rotate_left
      · simp only [Act.put, List.setIfInBounds_toArray, List.set_cons_zero, List.set_cons_succ, i64_w, i32_w]
        rfl
      refine take_ (i := 7) (N := some 44) (v := ?_) (a' := ?_) #[true, true, true, true, true, true, false, true, false, false, false, false] rfl rfl (by kernel_rfl) (fun _ _ _ h => h) (Or.inl ⟨by rfl, ?_⟩) hHeld ?_ ?_
      rotate_left
      · rintro w' ⟨s0, s1, s2, s3, s4, s5⟩
        go_simp
        with_reducible rfl
      rotate_left
      · simp only [Act.put, List.setIfInBounds_toArray, List.set_cons_zero, List.set_cons_succ, i64_w, i32_w]
        rfl
      refine take_ (i := 8) (N := some 45) (v := ?_) (a' := ?_) #[true, true, true, true, true, true, false, true, true, false, false, false] rfl rfl (by kernel_rfl) (fun _ _ _ h => h) (Or.inl ⟨by rfl, ?_⟩) hHeld ?_ ?_
      rotate_left
      · rintro w' ⟨s0, s1, s2, s3, s4, s5⟩
        go_simp
        with_reducible rfl
      rotate_left
      · simp only [Act.put, List.setIfInBounds_toArray, List.set_cons_zero, List.set_cons_succ, i64_w, i32_w]
        rfl
      refine one_ (i := 6) (N := some 43) #[true, true, true, true, true, true, true, true, true, false, false, false] rfl rfl (by kernel_rfl) (by decide) (fun K hK => ?_)
      refine goes_ Tryd.func62 (by kernel_rfl) rfl #[.bool true, .slice Aq (vl tq).length cq] (by rfl) rfl rfl (by simp only [List.map_toArray, List.map_cons, List.map_nil]; rfl) ?_
      with_reducible refine (value_at true tq HQB.out Aq cq _ (HS.out.bits 2 rfl).2.2 (HS.out.bits 2 rfl).2.1).mono ?_
      rintro e w3 ⟨rfl, hb⟩
      refine ⟨_, rfl, ?_⟩
      have HN := Aside0.mk (HS.out.call hb)
      clear HS
      have HS := HN
      clear HN
      refine hK.out _ _ ⟨(HS.out.cells 6 rfl).1, (HS.out.cells 5 rfl).1, (HS.out.cells 1 rfl).1, (HS.out.cells 1 rfl).2, (HS.out.cells 0 rfl).1, (HS.out.cells 0 rfl).2⟩ (fun hHeld => ?_)
      clear hK K
      refine norm_ (a' := ?_) ?_ ?_
      rotate_left
      · show Act.put _ (some 43) _ = _
        simp only [Act.put, List.setIfInBounds_toArray, List.set_cons_zero, List.set_cons_succ, i64_w, i32_w]
        rfl
      refine one_ (i := 9) (N := none) #[true, true, true, true, true, true, true, true, true, true, false, false] rfl rfl (by kernel_rfl) (by decide) (fun K hK => ?_)
      obtain ⟨x0, x1⟩ := HS.out.cells 4 rfl
      have g0 := HS.out.froz 4 rfl 0
      have g1 := HS.out.froz 4 rfl 1
      refine skip_ (w1 := ?_) (by rfl) rfl ?_ ?_
      rotate_left
      · go_simp
        rfl
      clear x0 x1 g0 g1
      have HN := Aside0.mk (HS.out.set2 4 rfl (.bool (vb tq)) (.slice Aq (vl tq).length cq))
      clear HS
      have HS := HN
      clear HN
      refine hK.out _ _ ⟨(HS.out.cells 6 rfl).1, (HS.out.cells 5 rfl).1, (HS.out.cells 1 rfl).1, (HS.out.cells 1 rfl).2, (HS.out.cells 0 rfl).1, (HS.out.cells 0 rfl).2⟩ (fun hHeld => ?_)
      clear hK K
      refine one_ (i := 10) (N := none) #[true, true, true, true, true, true, true, true, true, true, true, false] rfl rfl (by kernel_rfl) (by decide) (fun K hK => ?_)
      obtain ⟨x0, x1⟩ := HS.out.cells 3 rfl
      have g0 := HS.out.froz 3 rfl 0
      have g1 := HS.out.froz 3 rfl 1
      refine skip_ (w1 := ?_) (by rfl) rfl ?_ ?_
      rotate_left
      · go_simp
        rfl
      clear x0 x1 g0 g1
      have HN := Aside0.mk (HS.out.set2 3 rfl (.bool (vb tr)) (.slice Ar (vl tr).length cr))
      clear HS
      have HS := HN
      clear HN
      refine hK.out _ _ ⟨(HS.out.cells 6 rfl).1, (HS.out.cells 5 rfl).1, (HS.out.cells 1 rfl).1, (HS.out.cells 1 rfl).2, (HS.out.cells 0 rfl).1, (HS.out.cells 0 rfl).2⟩ (fun hHeld => ?_)
      clear hK K
      refine one_ (i := 11) (N := none) #[true, true, true, true, true, true, true, true, true, true, true, true] rfl rfl (by kernel_rfl) (by decide) (fun K hK => ?_)
      obtain ⟨x0, x1⟩ := HS.out.cells 2 rfl
      have g0 := HS.out.froz 2 rfl 0
      have g1 := HS.out.froz 2 rfl 1
      refine skip_ (w1 := ?_) (by rfl) rfl ?_ ?_
      rotate_left
      · go_simp
        rfl
      clear x0 x1 g0 g1
      have HN := Aside0.mk (HS.out.set2 2 rfl (.bool (vb tm)) (.slice Am (vl tm).length cm))
      clear HS
      have HS := HN
      clear HN
      refine hK.out _ _ ⟨(HS.out.cells 6 rfl).1, (HS.out.cells 5 rfl).1, (HS.out.cells 1 rfl).1, (HS.out.cells 1 rfl).2, (HS.out.cells 0 rfl).1, (HS.out.cells 0 rfl).2⟩ (fun hHeld => ?_)
      clear hK K
      refine done_ (by kernel_rfl) ?_
      go_wp2
      refine bodyPost_ret (results_list (rs := [.cell 4 34, .cell 5 34, .cell 6 34]) rfl (by simp) (.cell (w.heap.size + 1 + 1) 34 #[.bool (vb tq), .slice Aq (vl tq).length cq] (0, 0) _ rfl (HS.out.blk 4 rfl) Tryd.underlying34 rfl (by kernel_rfl) (.cell (w.heap.size + 1 + 1 + 1) 34 #[.bool (vb tr), .slice Ar (vl tr).length cr] (0, 0) _ rfl (HS.out.blk 3 rfl) Tryd.underlying34 rfl (by kernel_rfl) (.cell (w.heap.size + 1 + 1 + 1 + 1) 34 #[.bool (vb tm), .slice Am (vl tm).length cm] (0, 0) _ rfl (HS.out.blk 2 rfl) Tryd.underlying34 rfl (by kernel_rfl) .nil)))) rfl ?_
      exact ⟨Aq, cq, Ar, cr, Am, cm, rfl, ⟨(HS.out.bits 2 rfl).2.1, (HS.out.bits 2 rfl).2.2⟩, ⟨(HS.out.bits 1 rfl).2.1, (HS.out.bits 1 rfl).2.2⟩, ⟨(HS.out.bits 0 rfl).2.1, (HS.out.bits 0 rfl).2.2⟩, HS.out.below⟩
    · have t1 : decide (0 < (vl tr).length) = false := decide_eq_false h1
      have t2 : decide ((0 : Int) < ((vl tr).length : Int)) = false := decide_eq_false (by omega)
      have e : tr = tm := by rw [HEM.out, if_neg (fun h => h1 h.1)]
      subst e
      have HSX := HS4
      clear h1 hs HS4
      go_wp2
      clear a0 a1 b0 b1 r0 r1 s0 s1 t1 t2
      have HS := HSX
      clear HSX
      have HN := Aside0.mk (HS.out.drew)
      clear HS
      have HS := HN
      clear HN
      refine start_ (n := 12) (S := fun w' => w'.cell? ⟨w.heap.size, 0, none⟩ = some (.bool (vb y)) ∧ w'.cell? ⟨w.heap.size + 1, 0, none⟩ = some (.bool (vb z)) ∧ w'.cell? ⟨w4.heap.size, 0, none⟩ = some (.bool (vb tr)) ∧ w'.cell? ⟨w4.heap.size, 1, none⟩ = some (.slice Ar (vl tr).length cr) ∧ w'.cell? ⟨w4.heap.size + 1, 0, none⟩ = some (.bool (vb tr)) ∧ w'.cell? ⟨w4.heap.size + 1, 1, none⟩ = some (.slice Ar (vl tr).length cr)) (ds := []) #[false, false, false, false, false, false, false, false, false, false, false, false] (by kernel_rfl) rfl rfl ⟨(HS.out.cells 6 rfl).1, (HS.out.cells 5 rfl).1, (HS.out.cells 1 rfl).1, (HS.out.cells 1 rfl).2, (HS.out.cells 0 rfl).1, (HS.out.cells 0 rfl).2⟩ (fun hHeld => ?_)
      refine pure_ (i := 0) (N := some 37) (v := ?_) (a' := ?_) #[true, false, false, false, false, false, false, false, false, false, false, false] rfl rfl (by kernel_rfl) (fun _ _ _ h => h) (Or.inl ⟨by rfl, ?_⟩) ?_ ?_
      rotate_left
      · intro w'
        go_simp
        with_reducible rfl
      rotate_left
      · simp only [Act.put, List.setIfInBounds_toArray, List.set_cons_zero, List.set_cons_succ, i64_w, i32_w]
        rfl
      refine pure_ (i := 2) (N := some 39) (v := ?_) (a' := ?_) #[true, false, true, false, false, false, false, false, false, false, false, false] rfl rfl (by kernel_rfl) (fun _ _ _ h => h) (Or.inl ⟨by rfl, ?_⟩) ?_ ?_
      rotate_left
      · intro w'
        go_simp
        with_reducible rfl
      rotate_left
      · simp only [Act.put, List.setIfInBounds_toArray, List.set_cons_zero, List.set_cons_succ, i64_w, i32_w]
        rfl
      refine pure_ (i := 5) (N := some 42) (v := ?_) (a' := ?_) #[true, false, true, false, false, true, false, false, false, false, false, false] rfl rfl (by kernel_rfl) (fun _ _ _ h => h) (Or.inl ⟨by rfl, ?_⟩) ?_ ?_
      rotate_left
      · intro w'
        go_simp
        with_reducible rfl
      rotate_left
      · simp only [Act.put, List.setIfInBounds_toArray, List.set_cons_zero, List.set_cons_succ, i64_w, i32_w]
        rfl
      refine take_ (i := 1) (N := some 38) (v := ?_) (a' := ?_) #[true, true, true, false, false, true, false, false, false, false, false, false] rfl rfl (by kernel_rfl) (fun _ _ _ h => h) (Or.inl ⟨by rfl, ?_⟩) hHeld ?_ ?_
      rotate_left
      · rintro w' ⟨s0, s1, s2, s3, s4, s5⟩
        go_simp
        with_reducible rfl
      rotate_left
      · simp only [Act.put, List.setIfInBounds_toArray, List.set_cons_zero, List.set_cons_succ, i64_w, i32_w]
        rfl
      refine take_ (i := 3) (N := some 40) (v := ?_) (a' := ?_) #[true, true, true, true, false, true, false, false, false, false, false, false] rfl rfl (by kernel_rfl) (fun _ _ _ h => h) (Or.inl ⟨by rfl, ?_⟩) hHeld ?_ ?_
      rotate_left
      · rintro w' ⟨s0, s1, s2, s3, s4, s5⟩
        go_simp
        with_reducible rfl
      rotate_left
      · simp only [Act.put, List.setIfInBounds_toArray, List.set_cons_zero, List.set_cons_succ, i64_w, i32_w]
        rfl
      refine pure_ (i := 4) (N := some 41) (v := ?_) (a' := ?_) #[true, true, true, true, true, true, false, false, false, false, false, false] rfl rfl (by kernel_rfl) (fun _ _ _ h => h) (Or.inl ⟨by rfl, ?_⟩) ?_ ?_
      rotate_left
      · intro w'
        go_simp
        with_reducible rfl
      rotate_left
      · simp only [Act.put, List.setIfInBounds_toArray, List.set_cons_zero, List.set_cons_succ, i64_w, i32_w]
        rfl
      refine take_ (i := 7) (N := some 44) (v := ?_) (a' := ?_) #[true, true, true, true, true, true, false, true, false, false, false, false] rfl rfl (by kernel_rfl) (fun _ _ _ h => h) (Or.inl ⟨by rfl, ?_⟩) hHeld ?_ ?_
      rotate_left
      · rintro w' ⟨s0, s1, s2, s3, s4, s5⟩
        go_simp
        with_reducible rfl
      rotate_left
      · simp only [Act.put, List.setIfInBounds_toArray, List.set_cons_zero, List.set_cons_succ, i64_w, i32_w]
        rfl
      refine take_ (i := 8) (N := some 45) (v := ?_) (a' := ?_) #[true, true, true, true, true, true, false, true, true, false, false, false] rfl rfl (by kernel_rfl) (fun _ _ _ h => h) (Or.inl ⟨by rfl, ?_⟩) hHeld ?_ ?_
      rotate_left
      · rintro w' ⟨s0, s1, s2, s3, s4, s5⟩
        go_simp
        with_reducible rfl
      rotate_left
      · simp only [Act.put, List.setIfInBounds_toArray, List.set_cons_zero, List.set_cons_succ, i64_w, i32_w]
        rfl
      refine one_ (i := 6) (N := some 43) #[true, true, true, true, true, true, true, true, true, false, false, false] rfl rfl (by kernel_rfl) (by decide) (fun K hK => ?_)
      refine goes_ Tryd.func62 (by kernel_rfl) rfl #[.bool true, .slice Aq (vl tq).length cq] (by rfl) rfl rfl (by simp only [List.map_toArray, List.map_cons, List.map_nil]; rfl) ?_
      with_reducible refine (value_at true tq HQB.out Aq cq _ (HS.out.bits 1 rfl).2.2 (HS.out.bits 1 rfl).2.1).mono ?_
      rintro e w3 ⟨rfl, hb⟩
      refine ⟨_, rfl, ?_⟩
      have HN := Aside0.mk (HS.out.call hb)
      clear HS
      have HS := HN
      clear HN
      refine hK.out _ _ ⟨(HS.out.cells 6 rfl).1, (HS.out.cells 5 rfl).1, (HS.out.cells 1 rfl).1, (HS.out.cells 1 rfl).2, (HS.out.cells 0 rfl).1, (HS.out.cells 0 rfl).2⟩ (fun hHeld => ?_)
      clear hK K
      refine norm_ (a' := ?_) ?_ ?_
      rotate_left
      · show Act.put _ (some 43) _ = _
        simp only [Act.put, List.setIfInBounds_toArray, List.set_cons_zero, List.set_cons_succ, i64_w, i32_w]
        rfl
      refine one_ (i := 9) (N := none) #[true, true, true, true, true, true, true, true, true, true, false, false] rfl rfl (by kernel_rfl) (by decide) (fun K hK => ?_)
      obtain ⟨x0, x1⟩ := HS.out.cells 4 rfl
      have g0 := HS.out.froz 4 rfl 0
      have g1 := HS.out.froz 4 rfl 1
      refine skip_ (w1 := ?_) (by rfl) rfl ?_ ?_
      rotate_left
      · go_simp
        rfl
      clear x0 x1 g0 g1
      have HN := Aside0.mk (HS.out.set2 4 rfl (.bool (vb tq)) (.slice Aq (vl tq).length cq))
      clear HS
      have HS := HN
      clear HN
      refine hK.out _ _ ⟨(HS.out.cells 6 rfl).1, (HS.out.cells 5 rfl).1, (HS.out.cells 1 rfl).1, (HS.out.cells 1 rfl).2, (HS.out.cells 0 rfl).1, (HS.out.cells 0 rfl).2⟩ (fun hHeld => ?_)
      clear hK K
      refine one_ (i := 10) (N := none) #[true, true, true, true, true, true, true, true, true, true, true, false] rfl rfl (by kernel_rfl) (by decide) (fun K hK => ?_)
      obtain ⟨x0, x1⟩ := HS.out.cells 3 rfl
      have g0 := HS.out.froz 3 rfl 0
      have g1 := HS.out.froz 3 rfl 1
      refine skip_ (w1 := ?_) (by rfl) rfl ?_ ?_
      rotate_left
      · go_simp
        rfl
      clear x0 x1 g0 g1
      have HN := Aside0.mk (HS.out.set2 3 rfl (.bool (vb tr)) (.slice Ar (vl tr).length cr))
      clear HS
      have HS := HN
      clear HN
      refine hK.out _ _ ⟨(HS.out.cells 6 rfl).1, (HS.out.cells 5 rfl).1, (HS.out.cells 1 rfl).1, (HS.out.cells 1 rfl).2, (HS.out.cells 0 rfl).1, (HS.out.cells 0 rfl).2⟩ (fun hHeld => ?_)
      clear hK K
      refine one_ (i := 11) (N := none) #[true, true, true, true, true, true, true, true, true, true, true, true] rfl rfl (by kernel_rfl) (by decide) (fun K hK => ?_)
      obtain ⟨x0, x1⟩ := HS.out.cells 2 rfl
      have g0 := HS.out.froz 2 rfl 0
      have g1 := HS.out.froz 2 rfl 1
      refine skip_ (w1 := ?_) (by rfl) rfl ?_ ?_
      rotate_left
      · go_simp
        rfl
      clear x0 x1 g0 g1
      have HN := Aside0.mk (HS.out.set2 2 rfl (.bool (vb tr)) (.slice Ar (vl tr).length cr))
      clear HS
      have HS := HN
      clear HN
      refine hK.out _ _ ⟨(HS.out.cells 6 rfl).1, (HS.out.cells 5 rfl).1, (HS.out.cells 1 rfl).1, (HS.out.cells 1 rfl).2, (HS.out.cells 0 rfl).1, (HS.out.cells 0 rfl).2⟩ (fun hHeld => ?_)
      clear hK K
      refine done_ (by kernel_rfl) ?_
      go_wp2
      refine bodyPost_ret (results_list (rs := [.cell 4 34, .cell 5 34, .cell 6 34]) rfl (by simp) (.cell (w.heap.size + 1 + 1) 34 #[.bool (vb tq), .slice Aq (vl tq).length cq] (0, 0) _ rfl (HS.out.blk 4 rfl) Tryd.underlying34 rfl (by kernel_rfl) (.cell (w.heap.size + 1 + 1 + 1) 34 #[.bool (vb tr), .slice Ar (vl tr).length cr] (0, 0) _ rfl (HS.out.blk 3 rfl) Tryd.underlying34 rfl (by kernel_rfl) (.cell (w.heap.size + 1 + 1 + 1 + 1) 34 #[.bool (vb tr), .slice Ar (vl tr).length cr] (0, 0) _ rfl (HS.out.blk 2 rfl) Tryd.underlying34 rfl (by kernel_rfl) .nil)))) rfl ?_
      exact ⟨Aq, cq, Ar, cr, Ar, cr, rfl, ⟨(HS.out.bits 1 rfl).2.1, (HS.out.bits 1 rfl).2.2⟩, ⟨(HS.out.bits 0 rfl).2.1, (HS.out.bits 0 rfl).2.2⟩, ⟨(HS.out.bits 0 rfl).2.1, (HS.out.bits 0 rfl).2.2⟩, HS.out.below⟩
end Go.Proofs.YthhpnlbeniihhaaDoor.RefV
namespace Go.Proofs.YthhpnlbeniihhaaDoor.WalkDivides
open Go.RowKit Go.Proofs.YthhpnlbeniihhaaDoorW.PrintWords Go.Proofs.YthhpnlbeniihhaaDoorW.PrintLast Go.Proofs.YthhpnlbeniihhaaDoorW.PrintMore Go.Proofs.YthhpnlbeniihhaaDoor Go.Proofs.YthhpnlbeniihhaaDoor.Limb Go.Proofs.YthhpnlbeniihhaaDoor.Bit Go.Proofs.YthhpnlbeniihhaaDoor.NumA Go.Proofs.YthhpnlbeniihhaaDoor.NumB Go.Proofs.YthhpnlbeniihhaaDoor.NumG Go.Proofs.YthhpnlbeniihhaaDoor.NumJ Go.Proofs.YthhpnlbeniihhaaDoor.Vals Go.Proofs.YthhpnlbeniihhaaDoor.Plain Go.Proofs.YthhpnlbeniihhaaDoor.Raw Go.Proofs.YthhpnlbeniihhaaDoor.Ref Go.Proofs.YthhpnlbeniihhaaDoor.RefC Go.Proofs.YthhpnlbeniihhaaDoor.LawKit
set_option linter.unusedVariables false
set_option linter.unusedSimpArgs false
theorem fmod_lt (x y : Int) (h : y ≠ 0) : (x.fmod y).natAbs < y.natAbs ∧ (x.tmod y).natAbs < y.natAbs := by
  have hr : (Int.tmod x y).natAbs = x.natAbs % y.natAbs := Int.natAbs_tmod ..
  have hlt : x.natAbs % y.natAbs < y.natAbs := Nat.mod_lt _ (by omega)
  have hs : (0 ≤ x → 0 ≤ x.tmod y) ∧ (x ≤ 0 → x.tmod y ≤ 0) := by
    constructor
    · intro h; exact Int.tmod_nonneg _ h
    · intro h
      have : 0 ≤ (-x).tmod y := Int.tmod_nonneg _ (by omega)
      rw [Int.neg_tmod] at this; omega
  have hf : x.fmod y = if (x < 0 ∧ 0 < y ∨ 0 ≤ x ∧ y < 0) ∧ x.tmod y ≠ 0 then x.tmod y + y else x.tmod y := by
    rw [Int.fmod_eq_tmod]
    by_cases hd : y ∣ x
    · have : x.tmod y = 0 := Int.tmod_eq_zero_of_dvd hd
      simp [hd, this]
    · have hne : x.tmod y ≠ 0 := fun h => hd (Int.dvd_of_tmod_eq_zero h)
      by_cases hx : x < 0 <;> by_cases hy : y < 0 <;> simp [hx, hy, hd, hne] <;> omega
  generalize x.tmod y = r at *
  generalize x.fmod y = m at *
  by_cases hc : (x < 0 ∧ 0 < y ∨ 0 ≤ x ∧ y < 0) ∧ r ≠ 0
  · rw [if_pos hc] at hf; omega
  · rw [if_neg hc] at hf; omega
theorem vl_le {a b : Int} (h : a.natAbs ≤ b.natAbs) : (vl a).length ≤ (vl b).length := by
  unfold vl
  rw [bits_len]
  exact Nat.lt_of_le_of_lt h ((bits_len _ _).mp (Nat.le_refl _))
set_option maxRecDepth 100000 in
set_option maxHeartbeats 16000000 in
theorem walk (n0 : Bool) (A0 : Option Addr) (c0 : Nat) (l0 : List Int) (n1 : Bool) (A1 : Option Addr) (c1 : Nat) (l1 : List Int) (w : World) (hr0 : Kd.C (Kd.int .u32) w A0 l0.length l0) (hc0 : l0.length ≤ c0) (hr1 : Kd.C (Kd.int .u32) w A1 l1.length l1) (hc1 : l1.length ≤ c1) (ok0 : OkL l0) (ok1 : OkL l1) (ht : NumV.Tab w) :
    Calls Tryd.prog 6 #[.agg #[.bool n0, .slice A0 l0.length c0], .agg #[.bool n1, .slice A1 l1.length c1]] w fun e w' => e = .returned (.bool true) ∧ Below w.heap.size w w' := by
  have HT := Aside0.mk ht
  have HR0 := Aside0.mk hr0
  have HC0 := Aside0.mk hc0
  have HR1 := Aside0.mk hr1
  have HC1 := Aside0.mk hc1
  have S1 := ((St.start w).boxed #[.bool n0, .slice A0 l0.length c0] 25 (by decide)).boxed #[.bool n1, .slice A1 l1.length c1] 25 (by decide)
  simp only [World.size_alloc] at S1
  have HS := Aside0.mk S1
  clear S1 hr0 hc0 hr1 hc1 ht
  by_cases h1 : (l0.length : Int) > 60
  · skip
    have ha := decide_eq_true h1
    clear h1
    go_enter Tryd.func6, Tryd.ntmps6
    obtain ⟨ua0, ua1⟩ := HS.out.cells 1 rfl
    go_wp2_with fail
    refine (long_calls n0 l0 A0 c0 true ha _ (HS.out.came HR0.out) HC0.out).mono ?_
    rintro e w1_ ⟨rfl, hb⟩
    clear ua0 ua1
    have HN := Aside0.mk (HS.out.call hb)
    clear HS
    have HS := HN
    clear HN
    clear hb
    go_wp2_with fail
    refine (awake_calls _ (NumV.Tab.below HT.out HS.out.below)).mono ?_
    rintro e w2_ ⟨rfl, hb⟩
    have HN := Aside0.mk (HS.out.call hb)
    clear HS
    have HS := HN
    clear HN
    clear hb
    go_wp2
    go_ret
    exact ⟨rfl, HS.out.below⟩
  · skip
    have ha := decide_eq_false h1
    by_cases h2 : (l1.length : Int) > 60
    · skip
      have hb1 := decide_eq_true h2
      clear h1 h2
      go_enter Tryd.func6, Tryd.ntmps6
      obtain ⟨ua0, ua1⟩ := HS.out.cells 1 rfl
      go_wp2_with fail
      refine (long_calls n0 l0 A0 c0 false ha _ (HS.out.came HR0.out) HC0.out).mono ?_
      rintro e w1_ ⟨rfl, hb⟩
      clear ua0 ua1
      have HN := Aside0.mk (HS.out.call hb)
      clear HS
      have HS := HN
      clear HN
      clear hb
      obtain ⟨ub0, ub1⟩ := HS.out.cells 0 rfl
      go_wp2_with fail
      refine (long_calls n1 l1 A1 c1 true hb1 _ (HS.out.came HR1.out) HC1.out).mono ?_
      rintro e w2_ ⟨rfl, hb⟩
      clear ub0 ub1
      have HN := Aside0.mk (HS.out.call hb)
      clear HS
      have HS := HN
      clear HN
      clear hb
      go_wp2_with fail
      refine (awake_calls _ (NumV.Tab.below HT.out HS.out.below)).mono ?_
      rintro e w3_ ⟨rfl, hb⟩
      have HN := Aside0.mk (HS.out.call hb)
      clear HS
      have HS := HN
      clear HN
      clear hb
      go_wp2
      go_ret
      exact ⟨rfl, HS.out.below⟩
    · skip
      have hb1 := decide_eq_false h2
      have kl : okN l0 := ⟨ok0, by omega⟩
      have km : okN l1 := ⟨ok1, by omega⟩
      have hv0 : (vl (val n0 l0)).length ≤ 32 * 60 := vlen (val_lt ok0 (by omega))
      have hv1 : (vl (val n1 l1)).length ≤ 32 * 60 := vlen (val_lt ok1 (by omega))
      have H0 := Aside0.mk (copy_raw (n := n0) kl)
      have H1 := Aside0.mk (copy_raw (n := n1) km)
      have H2 := Aside0.mk (value_raw (n := n0) kl)
      have H3 := Aside0.mk (value_raw (n := n1) km)
      have HK0 := Aside0.mk (show l0.length < 1073741824 from kl.2)
      have HK1 := Aside0.mk (show l1.length < 1073741824 from km.2)
      have HQ := Aside0.mk (show num_Quo.f n0 l0 n1 l1 = some (if val n1 l1 = 0 then (false, [], 13) else mkI (Int.tdiv (val n0 l0) (val n1 l1))) by unfold num_Quo.f; rw [if_pos ⟨kl, km⟩])
      have HR := Aside0.mk (show num_Rem.f n0 l0 n1 l1 = some (if val n1 l1 = 0 then (false, [], 13) else mkI (Int.tmod (val n0 l0) (val n1 l1))) by unfold num_Rem.f; rw [if_pos ⟨kl, km⟩])
      have HM := Aside0.mk (show num_Mod.f n0 l0 n1 l1 = some (if val n1 l1 = 0 then (false, [], 13) else mkI (Int.fmod (val n0 l0) (val n1 l1))) by unfold num_Mod.f; rw [if_pos ⟨kl, km⟩])
      generalize val n0 l0 = y at *
      generalize val n1 l1 = z at *
      have HV0 := Aside0.mk hv0
      have HV1 := Aside0.mk hv1
      clear h1 h2 ok0 ok1 kl km hv0 hv1
      go_enter Tryd.func6, Tryd.ntmps6
      obtain ⟨ua0, ua1⟩ := HS.out.cells 1 rfl
      go_wp2_with fail
      refine (long_calls n0 l0 A0 c0 false ha _ (HS.out.came HR0.out) HC0.out).mono ?_
      rintro e w1_ ⟨rfl, hb⟩
      clear ua0 ua1
      have HN := Aside0.mk (HS.out.call hb)
      clear HS
      have HS := HN
      clear HN
      clear hb
      obtain ⟨ub0, ub1⟩ := HS.out.cells 0 rfl
      go_wp2_with fail
      refine (long_calls n1 l1 A1 c1 false hb1 _ (HS.out.came HR1.out) HC1.out).mono ?_
      rintro e w2_ ⟨rfl, hb⟩
      clear ub0 ub1
      have HN := Aside0.mk (HS.out.call hb)
      clear HS
      have HS := HN
      clear HN
      clear hb
      go_wp2
      have HN := Aside0.mk (HS.out.drew)
      clear HS
      have HS := HN
      clear HN
      refine start_ (n := 8) (S := fun w' => w'.cell? ⟨w.heap.size, 0, none⟩ = some (.bool n0) ∧ w'.cell? ⟨w.heap.size, 1, none⟩ = some (.slice A0 l0.length c0) ∧ w'.cell? ⟨w.heap.size + 1, 0, none⟩ = some (.bool n1) ∧ w'.cell? ⟨w.heap.size + 1, 1, none⟩ = some (.slice A1 l1.length c1)) (ds := []) #[false, false, false, false, false, false, false, false] (by kernel_rfl) rfl rfl ⟨(HS.out.cells 1 rfl).1, (HS.out.cells 1 rfl).2, (HS.out.cells 0 rfl).1, (HS.out.cells 0 rfl).2⟩ (fun hHeld => ?_)
      refine take_ (i := 0) (N := some 25) (v := ?_) (a' := ?_) #[true, false, false, false, false, false, false, false] rfl rfl (by kernel_rfl) (fun _ _ _ h => h) (Or.inl ⟨by rfl, ?_⟩) hHeld ?_ ?_
      rotate_left
      · rintro w' ⟨s0, s1, s2, s3⟩
        go_simp
        with_reducible rfl
      rotate_left
      · simp only [Act.put, List.setIfInBounds_toArray, List.set_cons_zero, List.set_cons_succ, i64_w, i32_w]
        rfl
      refine take_ (i := 2) (N := some 27) (v := ?_) (a' := ?_) #[true, false, true, false, false, false, false, false] rfl rfl (by kernel_rfl) (fun _ _ _ h => h) (Or.inl ⟨by rfl, ?_⟩) hHeld ?_ ?_
      rotate_left
      · rintro w' ⟨s0, s1, s2, s3⟩
        go_simp
        with_reducible rfl
      rotate_left
      · simp only [Act.put, List.setIfInBounds_toArray, List.set_cons_zero, List.set_cons_succ, i64_w, i32_w]
        rfl
      refine join_ (σ := (Option Addr × Nat) × (Option Addr × Nat) × Nat × Nat) 2 #[true, true, true, true, true, true, false, false] (fun s_ => [(26, .agg #[.bool n0, .slice s_.1.1 l0.length s_.1.2]), (28, .agg #[.bool n1, .slice s_.2.1.1 l1.length s_.2.1.2]), (5, .pointer (some ⟨s_.2.2.1, 0, none⟩)), (6, .pointer (some ⟨s_.2.2.2, 0, none⟩))]) (fun s_ w' => (w'.cell? ⟨w.heap.size, 0, none⟩ = some (.bool n0) ∧ w'.cell? ⟨w.heap.size, 1, none⟩ = some (.slice A0 l0.length c0) ∧ w'.cell? ⟨w.heap.size + 1, 0, none⟩ = some (.bool n1) ∧ w'.cell? ⟨w.heap.size + 1, 1, none⟩ = some (.slice A1 l1.length c1)) ∧ Aside0 (St w w' [(s_.2.2.2, #[.bool false, .slice none 0 0], 25), (s_.2.2.1, #[.bool false, .slice none 0 0], 25), (w.heap.size + 1, #[.bool n1, .slice A1 l1.length c1], 25), (w.heap.size, #[.bool n0, .slice A0 l0.length c0], 25)] [] [(.slice s_.2.1.1 l1.length s_.2.1.2, l1), (.slice s_.1.1 l0.length s_.1.2, l0)])) ?_ ?_
      rotate_left
      · intro hJ1_3_4_5
        refine join_ (σ := (Option Addr × Nat) × (Option Addr × Nat) × Nat × Nat) 3 #[true, true, true, true, true, false, false, false] (fun s_ => [(26, .agg #[.bool n0, .slice s_.1.1 l0.length s_.1.2]), (28, .agg #[.bool n1, .slice s_.2.1.1 l1.length s_.2.1.2]), (5, .pointer (some ⟨s_.2.2.1, 0, none⟩))]) (fun s_ w' => (w'.cell? ⟨w.heap.size, 0, none⟩ = some (.bool n0) ∧ w'.cell? ⟨w.heap.size, 1, none⟩ = some (.slice A0 l0.length c0) ∧ w'.cell? ⟨w.heap.size + 1, 0, none⟩ = some (.bool n1) ∧ w'.cell? ⟨w.heap.size + 1, 1, none⟩ = some (.slice A1 l1.length c1)) ∧ Aside0 (St w w' [(s_.2.2.1, #[.bool false, .slice none 0 0], 25), (w.heap.size + 1, #[.bool n1, .slice A1 l1.length c1], 25), (w.heap.size, #[.bool n0, .slice A0 l0.length c0], 25)] [] [(.slice s_.2.1.1 l1.length s_.2.1.2, l1), (.slice s_.1.1 l0.length s_.1.2, l0)])) ?_ ?_
        rotate_left
        · intro hJ1_3_4
          refine join_ (σ := (Option Addr × Nat) × (Option Addr × Nat) × Nat × Nat) 3 #[true, true, true, true, false, true, false, false] (fun s_ => [(26, .agg #[.bool n0, .slice s_.1.1 l0.length s_.1.2]), (28, .agg #[.bool n1, .slice s_.2.1.1 l1.length s_.2.1.2]), (6, .pointer (some ⟨s_.2.2.2, 0, none⟩))]) (fun s_ w' => (w'.cell? ⟨w.heap.size, 0, none⟩ = some (.bool n0) ∧ w'.cell? ⟨w.heap.size, 1, none⟩ = some (.slice A0 l0.length c0) ∧ w'.cell? ⟨w.heap.size + 1, 0, none⟩ = some (.bool n1) ∧ w'.cell? ⟨w.heap.size + 1, 1, none⟩ = some (.slice A1 l1.length c1)) ∧ Aside0 (St w w' [(s_.2.2.2, #[.bool false, .slice none 0 0], 25), (w.heap.size + 1, #[.bool n1, .slice A1 l1.length c1], 25), (w.heap.size, #[.bool n0, .slice A0 l0.length c0], 25)] [] [(.slice s_.2.1.1 l1.length s_.2.1.2, l1), (.slice s_.1.1 l0.length s_.1.2, l0)])) ?_ ?_
          rotate_left
          · intro hJ1_3_5
            refine join_ (σ := (Option Addr × Nat) × (Option Addr × Nat) × Nat × Nat) 3 #[true, true, true, false, true, true, false, false] (fun s_ => [(26, .agg #[.bool n0, .slice s_.1.1 l0.length s_.1.2]), (5, .pointer (some ⟨s_.2.2.1, 0, none⟩)), (6, .pointer (some ⟨s_.2.2.2, 0, none⟩))]) (fun s_ w' => (w'.cell? ⟨w.heap.size, 0, none⟩ = some (.bool n0) ∧ w'.cell? ⟨w.heap.size, 1, none⟩ = some (.slice A0 l0.length c0) ∧ w'.cell? ⟨w.heap.size + 1, 0, none⟩ = some (.bool n1) ∧ w'.cell? ⟨w.heap.size + 1, 1, none⟩ = some (.slice A1 l1.length c1)) ∧ Aside0 (St w w' [(s_.2.2.2, #[.bool false, .slice none 0 0], 25), (s_.2.2.1, #[.bool false, .slice none 0 0], 25), (w.heap.size + 1, #[.bool n1, .slice A1 l1.length c1], 25), (w.heap.size, #[.bool n0, .slice A0 l0.length c0], 25)] [] [(.slice s_.1.1 l0.length s_.1.2, l0)])) ?_ ?_
            rotate_left
            · intro hJ1_4_5
              refine join_ (σ := (Option Addr × Nat) × (Option Addr × Nat) × Nat × Nat) 4 #[true, true, true, true, false, false, false, false] (fun s_ => [(26, .agg #[.bool n0, .slice s_.1.1 l0.length s_.1.2]), (28, .agg #[.bool n1, .slice s_.2.1.1 l1.length s_.2.1.2])]) (fun s_ w' => (w'.cell? ⟨w.heap.size, 0, none⟩ = some (.bool n0) ∧ w'.cell? ⟨w.heap.size, 1, none⟩ = some (.slice A0 l0.length c0) ∧ w'.cell? ⟨w.heap.size + 1, 0, none⟩ = some (.bool n1) ∧ w'.cell? ⟨w.heap.size + 1, 1, none⟩ = some (.slice A1 l1.length c1)) ∧ Aside0 (St w w' [(w.heap.size + 1, #[.bool n1, .slice A1 l1.length c1], 25), (w.heap.size, #[.bool n0, .slice A0 l0.length c0], 25)] [] [(.slice s_.2.1.1 l1.length s_.2.1.2, l1), (.slice s_.1.1 l0.length s_.1.2, l0)])) ?_ ?_
              rotate_left
              · intro hJ1_3
                refine join_ (σ := (Option Addr × Nat) × (Option Addr × Nat) × Nat × Nat) 4 #[true, true, true, false, true, false, false, false] (fun s_ => [(26, .agg #[.bool n0, .slice s_.1.1 l0.length s_.1.2]), (5, .pointer (some ⟨s_.2.2.1, 0, none⟩))]) (fun s_ w' => (w'.cell? ⟨w.heap.size, 0, none⟩ = some (.bool n0) ∧ w'.cell? ⟨w.heap.size, 1, none⟩ = some (.slice A0 l0.length c0) ∧ w'.cell? ⟨w.heap.size + 1, 0, none⟩ = some (.bool n1) ∧ w'.cell? ⟨w.heap.size + 1, 1, none⟩ = some (.slice A1 l1.length c1)) ∧ Aside0 (St w w' [(s_.2.2.1, #[.bool false, .slice none 0 0], 25), (w.heap.size + 1, #[.bool n1, .slice A1 l1.length c1], 25), (w.heap.size, #[.bool n0, .slice A0 l0.length c0], 25)] [] [(.slice s_.1.1 l0.length s_.1.2, l0)])) ?_ ?_
                rotate_left
                · intro hJ1_4
                  refine join_ (σ := (Option Addr × Nat) × (Option Addr × Nat) × Nat × Nat) 4 #[true, true, true, false, false, true, false, false] (fun s_ => [(26, .agg #[.bool n0, .slice s_.1.1 l0.length s_.1.2]), (6, .pointer (some ⟨s_.2.2.2, 0, none⟩))]) (fun s_ w' => (w'.cell? ⟨w.heap.size, 0, none⟩ = some (.bool n0) ∧ w'.cell? ⟨w.heap.size, 1, none⟩ = some (.slice A0 l0.length c0) ∧ w'.cell? ⟨w.heap.size + 1, 0, none⟩ = some (.bool n1) ∧ w'.cell? ⟨w.heap.size + 1, 1, none⟩ = some (.slice A1 l1.length c1)) ∧ Aside0 (St w w' [(s_.2.2.2, #[.bool false, .slice none 0 0], 25), (w.heap.size + 1, #[.bool n1, .slice A1 l1.length c1], 25), (w.heap.size, #[.bool n0, .slice A0 l0.length c0], 25)] [] [(.slice s_.1.1 l0.length s_.1.2, l0)])) ?_ ?_
                  rotate_left
                  · intro hJ1_5
                    refine join_ (σ := (Option Addr × Nat) × (Option Addr × Nat) × Nat × Nat) 4 #[true, false, true, false, true, true, false, false] (fun s_ => [(5, .pointer (some ⟨s_.2.2.1, 0, none⟩)), (6, .pointer (some ⟨s_.2.2.2, 0, none⟩))]) (fun s_ w' => (w'.cell? ⟨w.heap.size, 0, none⟩ = some (.bool n0) ∧ w'.cell? ⟨w.heap.size, 1, none⟩ = some (.slice A0 l0.length c0) ∧ w'.cell? ⟨w.heap.size + 1, 0, none⟩ = some (.bool n1) ∧ w'.cell? ⟨w.heap.size + 1, 1, none⟩ = some (.slice A1 l1.length c1)) ∧ Aside0 (St w w' [(s_.2.2.2, #[.bool false, .slice none 0 0], 25), (s_.2.2.1, #[.bool false, .slice none 0 0], 25), (w.heap.size + 1, #[.bool n1, .slice A1 l1.length c1], 25), (w.heap.size, #[.bool n0, .slice A0 l0.length c0], 25)] [] [])) ?_ ?_
                    rotate_left
                    · intro hJ4_5
                      refine join_ (σ := (Option Addr × Nat) × (Option Addr × Nat) × Nat × Nat) 5 #[true, true, true, false, false, false, false, false] (fun s_ => [(26, .agg #[.bool n0, .slice s_.1.1 l0.length s_.1.2])]) (fun s_ w' => (w'.cell? ⟨w.heap.size, 0, none⟩ = some (.bool n0) ∧ w'.cell? ⟨w.heap.size, 1, none⟩ = some (.slice A0 l0.length c0) ∧ w'.cell? ⟨w.heap.size + 1, 0, none⟩ = some (.bool n1) ∧ w'.cell? ⟨w.heap.size + 1, 1, none⟩ = some (.slice A1 l1.length c1)) ∧ Aside0 (St w w' [(w.heap.size + 1, #[.bool n1, .slice A1 l1.length c1], 25), (w.heap.size, #[.bool n0, .slice A0 l0.length c0], 25)] [] [(.slice s_.1.1 l0.length s_.1.2, l0)])) ?_ ?_
                      rotate_left
                      · intro hJ1
                        refine join_ (σ := (Option Addr × Nat) × (Option Addr × Nat) × Nat × Nat) 5 #[true, false, true, false, true, false, false, false] (fun s_ => [(5, .pointer (some ⟨s_.2.2.1, 0, none⟩))]) (fun s_ w' => (w'.cell? ⟨w.heap.size, 0, none⟩ = some (.bool n0) ∧ w'.cell? ⟨w.heap.size, 1, none⟩ = some (.slice A0 l0.length c0) ∧ w'.cell? ⟨w.heap.size + 1, 0, none⟩ = some (.bool n1) ∧ w'.cell? ⟨w.heap.size + 1, 1, none⟩ = some (.slice A1 l1.length c1)) ∧ Aside0 (St w w' [(s_.2.2.1, #[.bool false, .slice none 0 0], 25), (w.heap.size + 1, #[.bool n1, .slice A1 l1.length c1], 25), (w.heap.size, #[.bool n0, .slice A0 l0.length c0], 25)] [] [])) ?_ ?_
                        rotate_left
                        · intro hJ4
                          refine join_ (σ := (Option Addr × Nat) × (Option Addr × Nat) × Nat × Nat) 5 #[true, false, true, false, false, true, false, false] (fun s_ => [(6, .pointer (some ⟨s_.2.2.2, 0, none⟩))]) (fun s_ w' => (w'.cell? ⟨w.heap.size, 0, none⟩ = some (.bool n0) ∧ w'.cell? ⟨w.heap.size, 1, none⟩ = some (.slice A0 l0.length c0) ∧ w'.cell? ⟨w.heap.size + 1, 0, none⟩ = some (.bool n1) ∧ w'.cell? ⟨w.heap.size + 1, 1, none⟩ = some (.slice A1 l1.length c1)) ∧ Aside0 (St w w' [(s_.2.2.2, #[.bool false, .slice none 0 0], 25), (w.heap.size + 1, #[.bool n1, .slice A1 l1.length c1], 25), (w.heap.size, #[.bool n0, .slice A0 l0.length c0], 25)] [] [])) ?_ ?_
                          rotate_left
                          · intro hJ5
                            refine three_ (i := 1) (j := 4) (k := 5) (Ni := some 26) (Nj := some 5) (Nk := some 6) #[true, true, true, false, false, false, false, false] #[true, false, true, false, true, false, false, false] #[true, false, true, false, false, true, false, false] rfl rfl rfl rfl rfl rfl (by kernel_rfl) (by decide) (by decide) (by decide) (fun K hK => ?_) (fun K hK => ?_) (fun K hK => ?_)
                            · skip
                              refine goes_ Tryd.func28 (by kernel_rfl) rfl #[.agg #[.bool n0, .slice A0 l0.length c0]] (by rfl) rfl rfl (by simp only [List.map_toArray, List.map_cons, List.map_nil]; rfl) ?_
                              with_reducible refine (moraineref02_Copy.calls n0 A0 c0 l0 n0 l0 _ (HS.out.came HR0.out) HC0.out H0.out).mono ?_
                              rintro e w3 ⟨v, rfl, hR, hb⟩
                              refine ⟨_, rfl, ?_⟩
                              obtain ⟨Ap, cp, rfl⟩ := Kd.R_slice hR
                              have HN := Aside0.mk (HS.out.call32 hb hR)
                              clear hb hR
                              clear HS
                              have HS := HN
                              clear HN
                              refine hK.out _ _ ⟨(HS.out.cells 1 rfl).1, (HS.out.cells 1 rfl).2, (HS.out.cells 0 rfl).1, (HS.out.cells 0 rfl).2⟩ (fun hHeld => ?_)
                              clear hK K
                              refine norm_ (a' := ?_) ?_ ?_
                              rotate_left
                              · show Act.put _ (some 26) _ = _
                                simp only [Act.put, List.setIfInBounds_toArray, List.set_cons_zero, List.set_cons_succ, i64_w, i32_w]
                                rfl
                              exact norm_ (by first | (simp only [putAll, Act.put, List.setIfInBounds_toArray, List.set_cons_zero, List.set_cons_succ]; done) | (simp only [putAll, Act.put, List.setIfInBounds_toArray, List.set_cons_zero, List.set_cons_succ]; rfl)) (hJ1 ((Ap, cp), (none, 0), 0, 0) _ ⟨hHeld, HS⟩)
                            · skip
                              refine box_step ?hg (N := 5) ?hd (cs := #[.bool false, .slice none 0 0]) (t := 25) ?hr ?_; (case hd => rfl); (case hg => rfl); (case hr => first | (go_simp; done) | (go_simp; rfl))
                              intro gp hg w6 hbox hb
                              have HN := Aside0.mk ((HS.out.boxNew (by decide) hg hbox hb))
                              clear hg hbox hb
                              clear HS
                              have HS := HN
                              clear HN
                              refine hK.out _ _ ⟨(HS.out.cells 2 rfl).1, (HS.out.cells 2 rfl).2, (HS.out.cells 1 rfl).1, (HS.out.cells 1 rfl).2⟩ (fun hHeld => ?_)
                              clear hK K
                              refine norm_ (a' := ?_) ?_ ?_
                              rotate_left
                              · show Act.put _ (some 5) _ = _
                                simp only [Act.put, List.setIfInBounds_toArray, List.set_cons_zero, List.set_cons_succ, i64_w, i32_w]
                                rfl
                              exact norm_ (by first | (simp only [putAll, Act.put, List.setIfInBounds_toArray, List.set_cons_zero, List.set_cons_succ]; done) | (simp only [putAll, Act.put, List.setIfInBounds_toArray, List.set_cons_zero, List.set_cons_succ]; rfl)) (hJ4 ((none, 0), (none, 0), gp, 0) _ ⟨hHeld, HS⟩)
                            · skip
                              refine box_step ?hg (N := 6) ?hd (cs := #[.bool false, .slice none 0 0]) (t := 25) ?hr ?_; (case hd => rfl); (case hg => rfl); (case hr => first | (go_simp; done) | (go_simp; rfl))
                              intro gq hg w6 hbox hb
                              have HN := Aside0.mk ((HS.out.boxNew (by decide) hg hbox hb))
                              clear hg hbox hb
                              clear HS
                              have HS := HN
                              clear HN
                              refine hK.out _ _ ⟨(HS.out.cells 2 rfl).1, (HS.out.cells 2 rfl).2, (HS.out.cells 1 rfl).1, (HS.out.cells 1 rfl).2⟩ (fun hHeld => ?_)
                              clear hK K
                              refine norm_ (a' := ?_) ?_ ?_
                              rotate_left
                              · show Act.put _ (some 6) _ = _
                                simp only [Act.put, List.setIfInBounds_toArray, List.set_cons_zero, List.set_cons_succ, i64_w, i32_w]
                                rfl
                              exact norm_ (by first | (simp only [putAll, Act.put, List.setIfInBounds_toArray, List.set_cons_zero, List.set_cons_succ]; done) | (simp only [putAll, Act.put, List.setIfInBounds_toArray, List.set_cons_zero, List.set_cons_succ]; rfl)) (hJ5 ((none, 0), (none, 0), 0, gq) _ ⟨hHeld, HS⟩)
                          · skip
                            rintro ⟨⟨Ap, cp⟩, ⟨Aq, cq⟩, gp, gq⟩ w9 ⟨hHeld, HS⟩
                            refine norm_ (a' := ?_) ?_ ?_
                            rotate_left
                            · simp only [putAll, Act.put, List.setIfInBounds_toArray, List.set_cons_zero, List.set_cons_succ]
                              rfl
                            refine two_ (i := 1) (j := 4) (Ni := some 26) (Nj := some 5) #[true, true, true, false, false, true, false, false] #[true, false, true, false, true, true, false, false] rfl rfl rfl rfl (by kernel_rfl) (by decide) (by decide) (fun K hK => ?_) (fun K hK => ?_)
                            · skip
                              refine goes_ Tryd.func28 (by kernel_rfl) rfl #[.agg #[.bool n0, .slice A0 l0.length c0]] (by rfl) rfl rfl (by simp only [List.map_toArray, List.map_cons, List.map_nil]; rfl) ?_
                              with_reducible refine (moraineref02_Copy.calls n0 A0 c0 l0 n0 l0 _ (HS.out.came HR0.out) HC0.out H0.out).mono ?_
                              rintro e w3 ⟨v, rfl, hR, hb⟩
                              refine ⟨_, rfl, ?_⟩
                              obtain ⟨Ap, cp, rfl⟩ := Kd.R_slice hR
                              have HN := Aside0.mk (HS.out.call32 hb hR)
                              clear hb hR
                              clear HS
                              have HS := HN
                              clear HN
                              refine hK.out _ _ ⟨(HS.out.cells 2 rfl).1, (HS.out.cells 2 rfl).2, (HS.out.cells 1 rfl).1, (HS.out.cells 1 rfl).2⟩ (fun hHeld => ?_)
                              clear hK K
                              refine norm_ (a' := ?_) ?_ ?_
                              rotate_left
                              · show Act.put _ (some 26) _ = _
                                simp only [Act.put, List.setIfInBounds_toArray, List.set_cons_zero, List.set_cons_succ, i64_w, i32_w]
                                rfl
                              exact norm_ (by first | (simp only [putAll, Act.put, List.setIfInBounds_toArray, List.set_cons_zero, List.set_cons_succ]; done) | (simp only [putAll, Act.put, List.setIfInBounds_toArray, List.set_cons_zero, List.set_cons_succ]; rfl)) (hJ1_5 ((Ap, cp), (none, 0), 0, gq) _ ⟨hHeld, HS⟩)
                            · skip
                              refine box_step ?hg (N := 5) ?hd (cs := #[.bool false, .slice none 0 0]) (t := 25) ?hr ?_; (case hd => rfl); (case hg => rfl); (case hr => first | (go_simp; done) | (go_simp; rfl))
                              intro gp hg w6 hbox hb
                              have HN := Aside0.mk ((HS.out.boxNew (by decide) hg hbox hb).swapB)
                              clear hg hbox hb
                              clear HS
                              have HS := HN
                              clear HN
                              refine hK.out _ _ ⟨(HS.out.cells 3 rfl).1, (HS.out.cells 3 rfl).2, (HS.out.cells 2 rfl).1, (HS.out.cells 2 rfl).2⟩ (fun hHeld => ?_)
                              clear hK K
                              refine norm_ (a' := ?_) ?_ ?_
                              rotate_left
                              · show Act.put _ (some 5) _ = _
                                simp only [Act.put, List.setIfInBounds_toArray, List.set_cons_zero, List.set_cons_succ, i64_w, i32_w]
                                rfl
                              exact norm_ (by first | (simp only [putAll, Act.put, List.setIfInBounds_toArray, List.set_cons_zero, List.set_cons_succ]; done) | (simp only [putAll, Act.put, List.setIfInBounds_toArray, List.set_cons_zero, List.set_cons_succ]; rfl)) (hJ4_5 ((none, 0), (none, 0), gp, gq) _ ⟨hHeld, HS⟩)
                        · skip
                          rintro ⟨⟨Ap, cp⟩, ⟨Aq, cq⟩, gp, gq⟩ w9 ⟨hHeld, HS⟩
                          refine norm_ (a' := ?_) ?_ ?_
                          rotate_left
                          · simp only [putAll, Act.put, List.setIfInBounds_toArray, List.set_cons_zero, List.set_cons_succ]
                            rfl
                          refine two_ (i := 1) (j := 5) (Ni := some 26) (Nj := some 6) #[true, true, true, false, true, false, false, false] #[true, false, true, false, true, true, false, false] rfl rfl rfl rfl (by kernel_rfl) (by decide) (by decide) (fun K hK => ?_) (fun K hK => ?_)
                          · skip
                            refine goes_ Tryd.func28 (by kernel_rfl) rfl #[.agg #[.bool n0, .slice A0 l0.length c0]] (by rfl) rfl rfl (by simp only [List.map_toArray, List.map_cons, List.map_nil]; rfl) ?_
                            with_reducible refine (moraineref02_Copy.calls n0 A0 c0 l0 n0 l0 _ (HS.out.came HR0.out) HC0.out H0.out).mono ?_
                            rintro e w3 ⟨v, rfl, hR, hb⟩
                            refine ⟨_, rfl, ?_⟩
                            obtain ⟨Ap, cp, rfl⟩ := Kd.R_slice hR
                            have HN := Aside0.mk (HS.out.call32 hb hR)
                            clear hb hR
                            clear HS
                            have HS := HN
                            clear HN
                            refine hK.out _ _ ⟨(HS.out.cells 2 rfl).1, (HS.out.cells 2 rfl).2, (HS.out.cells 1 rfl).1, (HS.out.cells 1 rfl).2⟩ (fun hHeld => ?_)
                            clear hK K
                            refine norm_ (a' := ?_) ?_ ?_
                            rotate_left
                            · show Act.put _ (some 26) _ = _
                              simp only [Act.put, List.setIfInBounds_toArray, List.set_cons_zero, List.set_cons_succ, i64_w, i32_w]
                              rfl
                            exact norm_ (by first | (simp only [putAll, Act.put, List.setIfInBounds_toArray, List.set_cons_zero, List.set_cons_succ]; done) | (simp only [putAll, Act.put, List.setIfInBounds_toArray, List.set_cons_zero, List.set_cons_succ]; rfl)) (hJ1_4 ((Ap, cp), (none, 0), gp, 0) _ ⟨hHeld, HS⟩)
                          · skip
                            refine box_step ?hg (N := 6) ?hd (cs := #[.bool false, .slice none 0 0]) (t := 25) ?hr ?_; (case hd => rfl); (case hg => rfl); (case hr => first | (go_simp; done) | (go_simp; rfl))
                            intro gq hg w6 hbox hb
                            have HN := Aside0.mk ((HS.out.boxNew (by decide) hg hbox hb))
                            clear hg hbox hb
                            clear HS
                            have HS := HN
                            clear HN
                            refine hK.out _ _ ⟨(HS.out.cells 3 rfl).1, (HS.out.cells 3 rfl).2, (HS.out.cells 2 rfl).1, (HS.out.cells 2 rfl).2⟩ (fun hHeld => ?_)
                            clear hK K
                            refine norm_ (a' := ?_) ?_ ?_
                            rotate_left
                            · show Act.put _ (some 6) _ = _
                              simp only [Act.put, List.setIfInBounds_toArray, List.set_cons_zero, List.set_cons_succ, i64_w, i32_w]
                              rfl
                            exact norm_ (by first | (simp only [putAll, Act.put, List.setIfInBounds_toArray, List.set_cons_zero, List.set_cons_succ]; done) | (simp only [putAll, Act.put, List.setIfInBounds_toArray, List.set_cons_zero, List.set_cons_succ]; rfl)) (hJ4_5 ((none, 0), (none, 0), gp, gq) _ ⟨hHeld, HS⟩)
                      · skip
                        rintro ⟨⟨Ap, cp⟩, ⟨Aq, cq⟩, gp, gq⟩ w9 ⟨hHeld, HS⟩
                        refine norm_ (a' := ?_) ?_ ?_
                        rotate_left
                        · simp only [putAll, Act.put, List.setIfInBounds_toArray, List.set_cons_zero, List.set_cons_succ]
                          rfl
                        refine three_ (i := 3) (j := 4) (k := 5) (Ni := some 28) (Nj := some 5) (Nk := some 6) #[true, true, true, true, false, false, false, false] #[true, true, true, false, true, false, false, false] #[true, true, true, false, false, true, false, false] rfl rfl rfl rfl rfl rfl (by kernel_rfl) (by decide) (by decide) (by decide) (fun K hK => ?_) (fun K hK => ?_) (fun K hK => ?_)
                        · skip
                          refine goes_ Tryd.func28 (by kernel_rfl) rfl #[.agg #[.bool n1, .slice A1 l1.length c1]] (by rfl) rfl rfl (by simp only [List.map_toArray, List.map_cons, List.map_nil]; rfl) ?_
                          with_reducible refine (moraineref02_Copy.calls n1 A1 c1 l1 n1 l1 _ (HS.out.came HR1.out) HC1.out H1.out).mono ?_
                          rintro e w3 ⟨v, rfl, hR, hb⟩
                          refine ⟨_, rfl, ?_⟩
                          obtain ⟨Aq, cq, rfl⟩ := Kd.R_slice hR
                          have HN := Aside0.mk (HS.out.call32 hb hR)
                          clear hb hR
                          clear HS
                          have HS := HN
                          clear HN
                          refine hK.out _ _ ⟨(HS.out.cells 1 rfl).1, (HS.out.cells 1 rfl).2, (HS.out.cells 0 rfl).1, (HS.out.cells 0 rfl).2⟩ (fun hHeld => ?_)
                          clear hK K
                          refine norm_ (a' := ?_) ?_ ?_
                          rotate_left
                          · show Act.put _ (some 28) _ = _
                            simp only [Act.put, List.setIfInBounds_toArray, List.set_cons_zero, List.set_cons_succ, i64_w, i32_w]
                            rfl
                          exact norm_ (by first | (simp only [putAll, Act.put, List.setIfInBounds_toArray, List.set_cons_zero, List.set_cons_succ]; done) | (simp only [putAll, Act.put, List.setIfInBounds_toArray, List.set_cons_zero, List.set_cons_succ]; rfl)) (hJ1_3 ((Ap, cp), (Aq, cq), 0, 0) _ ⟨hHeld, HS⟩)
                        · skip
                          refine box_step ?hg (N := 5) ?hd (cs := #[.bool false, .slice none 0 0]) (t := 25) ?hr ?_; (case hd => rfl); (case hg => rfl); (case hr => first | (go_simp; done) | (go_simp; rfl))
                          intro gp hg w6 hbox hb
                          have HN := Aside0.mk ((HS.out.boxNew (by decide) hg hbox hb))
                          clear hg hbox hb
                          clear HS
                          have HS := HN
                          clear HN
                          refine hK.out _ _ ⟨(HS.out.cells 2 rfl).1, (HS.out.cells 2 rfl).2, (HS.out.cells 1 rfl).1, (HS.out.cells 1 rfl).2⟩ (fun hHeld => ?_)
                          clear hK K
                          refine norm_ (a' := ?_) ?_ ?_
                          rotate_left
                          · show Act.put _ (some 5) _ = _
                            simp only [Act.put, List.setIfInBounds_toArray, List.set_cons_zero, List.set_cons_succ, i64_w, i32_w]
                            rfl
                          exact norm_ (by first | (simp only [putAll, Act.put, List.setIfInBounds_toArray, List.set_cons_zero, List.set_cons_succ]; done) | (simp only [putAll, Act.put, List.setIfInBounds_toArray, List.set_cons_zero, List.set_cons_succ]; rfl)) (hJ1_4 ((Ap, cp), (none, 0), gp, 0) _ ⟨hHeld, HS⟩)
                        · skip
                          refine box_step ?hg (N := 6) ?hd (cs := #[.bool false, .slice none 0 0]) (t := 25) ?hr ?_; (case hd => rfl); (case hg => rfl); (case hr => first | (go_simp; done) | (go_simp; rfl))
                          intro gq hg w6 hbox hb
                          have HN := Aside0.mk ((HS.out.boxNew (by decide) hg hbox hb))
                          clear hg hbox hb
                          clear HS
                          have HS := HN
                          clear HN
                          refine hK.out _ _ ⟨(HS.out.cells 2 rfl).1, (HS.out.cells 2 rfl).2, (HS.out.cells 1 rfl).1, (HS.out.cells 1 rfl).2⟩ (fun hHeld => ?_)
                          clear hK K
                          refine norm_ (a' := ?_) ?_ ?_
                          rotate_left
                          · show Act.put _ (some 6) _ = _
                            simp only [Act.put, List.setIfInBounds_toArray, List.set_cons_zero, List.set_cons_succ, i64_w, i32_w]
                            rfl
                          exact norm_ (by first | (simp only [putAll, Act.put, List.setIfInBounds_toArray, List.set_cons_zero, List.set_cons_succ]; done) | (simp only [putAll, Act.put, List.setIfInBounds_toArray, List.set_cons_zero, List.set_cons_succ]; rfl)) (hJ1_5 ((Ap, cp), (none, 0), 0, gq) _ ⟨hHeld, HS⟩)
                    · skip
                      rintro ⟨⟨Ap, cp⟩, ⟨Aq, cq⟩, gp, gq⟩ w9 ⟨hHeld, HS⟩
                      refine norm_ (a' := ?_) ?_ ?_
                      rotate_left
                      · simp only [putAll, Act.put, List.setIfInBounds_toArray, List.set_cons_zero, List.set_cons_succ]
                        rfl
                      refine one_ (i := 1) (N := some 26) #[true, true, true, false, true, true, false, false] rfl rfl (by kernel_rfl) (by decide) (fun K hK => ?_)
                      refine goes_ Tryd.func28 (by kernel_rfl) rfl #[.agg #[.bool n0, .slice A0 l0.length c0]] (by rfl) rfl rfl (by simp only [List.map_toArray, List.map_cons, List.map_nil]; rfl) ?_
                      with_reducible refine (moraineref02_Copy.calls n0 A0 c0 l0 n0 l0 _ (HS.out.came HR0.out) HC0.out H0.out).mono ?_
                      rintro e w3 ⟨v, rfl, hR, hb⟩
                      refine ⟨_, rfl, ?_⟩
                      obtain ⟨Ap, cp, rfl⟩ := Kd.R_slice hR
                      have HN := Aside0.mk (HS.out.call32 hb hR)
                      clear hb hR
                      clear HS
                      have HS := HN
                      clear HN
                      refine hK.out _ _ ⟨(HS.out.cells 3 rfl).1, (HS.out.cells 3 rfl).2, (HS.out.cells 2 rfl).1, (HS.out.cells 2 rfl).2⟩ (fun hHeld => ?_)
                      clear hK K
                      refine norm_ (a' := ?_) ?_ ?_
                      rotate_left
                      · show Act.put _ (some 26) _ = _
                        simp only [Act.put, List.setIfInBounds_toArray, List.set_cons_zero, List.set_cons_succ, i64_w, i32_w]
                        rfl
                      exact norm_ (by first | (simp only [putAll, Act.put, List.setIfInBounds_toArray, List.set_cons_zero, List.set_cons_succ]; done) | (simp only [putAll, Act.put, List.setIfInBounds_toArray, List.set_cons_zero, List.set_cons_succ]; rfl)) (hJ1_4_5 ((Ap, cp), (none, 0), gp, gq) _ ⟨hHeld, HS⟩)
                  · skip
                    rintro ⟨⟨Ap, cp⟩, ⟨Aq, cq⟩, gp, gq⟩ w9 ⟨hHeld, HS⟩
                    refine norm_ (a' := ?_) ?_ ?_
                    rotate_left
                    · simp only [putAll, Act.put, List.setIfInBounds_toArray, List.set_cons_zero, List.set_cons_succ]
                      rfl
                    refine two_ (i := 3) (j := 4) (Ni := some 28) (Nj := some 5) #[true, true, true, true, false, true, false, false] #[true, true, true, false, true, true, false, false] rfl rfl rfl rfl (by kernel_rfl) (by decide) (by decide) (fun K hK => ?_) (fun K hK => ?_)
                    · skip
                      refine goes_ Tryd.func28 (by kernel_rfl) rfl #[.agg #[.bool n1, .slice A1 l1.length c1]] (by rfl) rfl rfl (by simp only [List.map_toArray, List.map_cons, List.map_nil]; rfl) ?_
                      with_reducible refine (moraineref02_Copy.calls n1 A1 c1 l1 n1 l1 _ (HS.out.came HR1.out) HC1.out H1.out).mono ?_
                      rintro e w3 ⟨v, rfl, hR, hb⟩
                      refine ⟨_, rfl, ?_⟩
                      obtain ⟨Aq, cq, rfl⟩ := Kd.R_slice hR
                      have HN := Aside0.mk (HS.out.call32 hb hR)
                      clear hb hR
                      clear HS
                      have HS := HN
                      clear HN
                      refine hK.out _ _ ⟨(HS.out.cells 2 rfl).1, (HS.out.cells 2 rfl).2, (HS.out.cells 1 rfl).1, (HS.out.cells 1 rfl).2⟩ (fun hHeld => ?_)
                      clear hK K
                      refine norm_ (a' := ?_) ?_ ?_
                      rotate_left
                      · show Act.put _ (some 28) _ = _
                        simp only [Act.put, List.setIfInBounds_toArray, List.set_cons_zero, List.set_cons_succ, i64_w, i32_w]
                        rfl
                      exact norm_ (by first | (simp only [putAll, Act.put, List.setIfInBounds_toArray, List.set_cons_zero, List.set_cons_succ]; done) | (simp only [putAll, Act.put, List.setIfInBounds_toArray, List.set_cons_zero, List.set_cons_succ]; rfl)) (hJ1_3_5 ((Ap, cp), (Aq, cq), 0, gq) _ ⟨hHeld, HS⟩)
                    · skip
                      refine box_step ?hg (N := 5) ?hd (cs := #[.bool false, .slice none 0 0]) (t := 25) ?hr ?_; (case hd => rfl); (case hg => rfl); (case hr => first | (go_simp; done) | (go_simp; rfl))
                      intro gp hg w6 hbox hb
                      have HN := Aside0.mk ((HS.out.boxNew (by decide) hg hbox hb).swapB)
                      clear hg hbox hb
                      clear HS
                      have HS := HN
                      clear HN
                      refine hK.out _ _ ⟨(HS.out.cells 3 rfl).1, (HS.out.cells 3 rfl).2, (HS.out.cells 2 rfl).1, (HS.out.cells 2 rfl).2⟩ (fun hHeld => ?_)
                      clear hK K
                      refine norm_ (a' := ?_) ?_ ?_
                      rotate_left
                      · show Act.put _ (some 5) _ = _
                        simp only [Act.put, List.setIfInBounds_toArray, List.set_cons_zero, List.set_cons_succ, i64_w, i32_w]
                        rfl
                      exact norm_ (by first | (simp only [putAll, Act.put, List.setIfInBounds_toArray, List.set_cons_zero, List.set_cons_succ]; done) | (simp only [putAll, Act.put, List.setIfInBounds_toArray, List.set_cons_zero, List.set_cons_succ]; rfl)) (hJ1_4_5 ((Ap, cp), (none, 0), gp, gq) _ ⟨hHeld, HS⟩)
                · skip
                  rintro ⟨⟨Ap, cp⟩, ⟨Aq, cq⟩, gp, gq⟩ w9 ⟨hHeld, HS⟩
                  refine norm_ (a' := ?_) ?_ ?_
                  rotate_left
                  · simp only [putAll, Act.put, List.setIfInBounds_toArray, List.set_cons_zero, List.set_cons_succ]
                    rfl
                  refine two_ (i := 3) (j := 5) (Ni := some 28) (Nj := some 6) #[true, true, true, true, true, false, false, false] #[true, true, true, false, true, true, false, false] rfl rfl rfl rfl (by kernel_rfl) (by decide) (by decide) (fun K hK => ?_) (fun K hK => ?_)
                  · skip
                    refine goes_ Tryd.func28 (by kernel_rfl) rfl #[.agg #[.bool n1, .slice A1 l1.length c1]] (by rfl) rfl rfl (by simp only [List.map_toArray, List.map_cons, List.map_nil]; rfl) ?_
                    with_reducible refine (moraineref02_Copy.calls n1 A1 c1 l1 n1 l1 _ (HS.out.came HR1.out) HC1.out H1.out).mono ?_
                    rintro e w3 ⟨v, rfl, hR, hb⟩
                    refine ⟨_, rfl, ?_⟩
                    obtain ⟨Aq, cq, rfl⟩ := Kd.R_slice hR
                    have HN := Aside0.mk (HS.out.call32 hb hR)
                    clear hb hR
                    clear HS
                    have HS := HN
                    clear HN
                    refine hK.out _ _ ⟨(HS.out.cells 2 rfl).1, (HS.out.cells 2 rfl).2, (HS.out.cells 1 rfl).1, (HS.out.cells 1 rfl).2⟩ (fun hHeld => ?_)
                    clear hK K
                    refine norm_ (a' := ?_) ?_ ?_
                    rotate_left
                    · show Act.put _ (some 28) _ = _
                      simp only [Act.put, List.setIfInBounds_toArray, List.set_cons_zero, List.set_cons_succ, i64_w, i32_w]
                      rfl
                    exact norm_ (by first | (simp only [putAll, Act.put, List.setIfInBounds_toArray, List.set_cons_zero, List.set_cons_succ]; done) | (simp only [putAll, Act.put, List.setIfInBounds_toArray, List.set_cons_zero, List.set_cons_succ]; rfl)) (hJ1_3_4 ((Ap, cp), (Aq, cq), gp, 0) _ ⟨hHeld, HS⟩)
                  · skip
                    refine box_step ?hg (N := 6) ?hd (cs := #[.bool false, .slice none 0 0]) (t := 25) ?hr ?_; (case hd => rfl); (case hg => rfl); (case hr => first | (go_simp; done) | (go_simp; rfl))
                    intro gq hg w6 hbox hb
                    have HN := Aside0.mk ((HS.out.boxNew (by decide) hg hbox hb))
                    clear hg hbox hb
                    clear HS
                    have HS := HN
                    clear HN
                    refine hK.out _ _ ⟨(HS.out.cells 3 rfl).1, (HS.out.cells 3 rfl).2, (HS.out.cells 2 rfl).1, (HS.out.cells 2 rfl).2⟩ (fun hHeld => ?_)
                    clear hK K
                    refine norm_ (a' := ?_) ?_ ?_
                    rotate_left
                    · show Act.put _ (some 6) _ = _
                      simp only [Act.put, List.setIfInBounds_toArray, List.set_cons_zero, List.set_cons_succ, i64_w, i32_w]
                      rfl
                    exact norm_ (by first | (simp only [putAll, Act.put, List.setIfInBounds_toArray, List.set_cons_zero, List.set_cons_succ]; done) | (simp only [putAll, Act.put, List.setIfInBounds_toArray, List.set_cons_zero, List.set_cons_succ]; rfl)) (hJ1_4_5 ((Ap, cp), (none, 0), gp, gq) _ ⟨hHeld, HS⟩)
              · skip
                rintro ⟨⟨Ap, cp⟩, ⟨Aq, cq⟩, gp, gq⟩ w9 ⟨hHeld, HS⟩
                refine norm_ (a' := ?_) ?_ ?_
                rotate_left
                · simp only [putAll, Act.put, List.setIfInBounds_toArray, List.set_cons_zero, List.set_cons_succ]
                  rfl
                refine two_ (i := 4) (j := 5) (Ni := some 5) (Nj := some 6) #[true, true, true, true, true, false, false, false] #[true, true, true, true, false, true, false, false] rfl rfl rfl rfl (by kernel_rfl) (by decide) (by decide) (fun K hK => ?_) (fun K hK => ?_)
                · skip
                  refine box_step ?hg (N := 5) ?hd (cs := #[.bool false, .slice none 0 0]) (t := 25) ?hr ?_; (case hd => rfl); (case hg => rfl); (case hr => first | (go_simp; done) | (go_simp; rfl))
                  intro gp hg w6 hbox hb
                  have HN := Aside0.mk ((HS.out.boxNew (by decide) hg hbox hb))
                  clear hg hbox hb
                  clear HS
                  have HS := HN
                  clear HN
                  refine hK.out _ _ ⟨(HS.out.cells 2 rfl).1, (HS.out.cells 2 rfl).2, (HS.out.cells 1 rfl).1, (HS.out.cells 1 rfl).2⟩ (fun hHeld => ?_)
                  clear hK K
                  refine norm_ (a' := ?_) ?_ ?_
                  rotate_left
                  · show Act.put _ (some 5) _ = _
                    simp only [Act.put, List.setIfInBounds_toArray, List.set_cons_zero, List.set_cons_succ, i64_w, i32_w]
                    rfl
                  exact norm_ (by first | (simp only [putAll, Act.put, List.setIfInBounds_toArray, List.set_cons_zero, List.set_cons_succ]; done) | (simp only [putAll, Act.put, List.setIfInBounds_toArray, List.set_cons_zero, List.set_cons_succ]; rfl)) (hJ1_3_4 ((Ap, cp), (Aq, cq), gp, 0) _ ⟨hHeld, HS⟩)
                · skip
                  refine box_step ?hg (N := 6) ?hd (cs := #[.bool false, .slice none 0 0]) (t := 25) ?hr ?_; (case hd => rfl); (case hg => rfl); (case hr => first | (go_simp; done) | (go_simp; rfl))
                  intro gq hg w6 hbox hb
                  have HN := Aside0.mk ((HS.out.boxNew (by decide) hg hbox hb))
                  clear hg hbox hb
                  clear HS
                  have HS := HN
                  clear HN
                  refine hK.out _ _ ⟨(HS.out.cells 2 rfl).1, (HS.out.cells 2 rfl).2, (HS.out.cells 1 rfl).1, (HS.out.cells 1 rfl).2⟩ (fun hHeld => ?_)
                  clear hK K
                  refine norm_ (a' := ?_) ?_ ?_
                  rotate_left
                  · show Act.put _ (some 6) _ = _
                    simp only [Act.put, List.setIfInBounds_toArray, List.set_cons_zero, List.set_cons_succ, i64_w, i32_w]
                    rfl
                  exact norm_ (by first | (simp only [putAll, Act.put, List.setIfInBounds_toArray, List.set_cons_zero, List.set_cons_succ]; done) | (simp only [putAll, Act.put, List.setIfInBounds_toArray, List.set_cons_zero, List.set_cons_succ]; rfl)) (hJ1_3_5 ((Ap, cp), (Aq, cq), 0, gq) _ ⟨hHeld, HS⟩)
            · skip
              rintro ⟨⟨Ap, cp⟩, ⟨Aq, cq⟩, gp, gq⟩ w9 ⟨hHeld, HS⟩
              refine norm_ (a' := ?_) ?_ ?_
              rotate_left
              · simp only [putAll, Act.put, List.setIfInBounds_toArray, List.set_cons_zero, List.set_cons_succ]
                rfl
              refine one_ (i := 3) (N := some 28) #[true, true, true, true, true, true, false, false] rfl rfl (by kernel_rfl) (by decide) (fun K hK => ?_)
              refine goes_ Tryd.func28 (by kernel_rfl) rfl #[.agg #[.bool n1, .slice A1 l1.length c1]] (by rfl) rfl rfl (by simp only [List.map_toArray, List.map_cons, List.map_nil]; rfl) ?_
              with_reducible refine (moraineref02_Copy.calls n1 A1 c1 l1 n1 l1 _ (HS.out.came HR1.out) HC1.out H1.out).mono ?_
              rintro e w3 ⟨v, rfl, hR, hb⟩
              refine ⟨_, rfl, ?_⟩
              obtain ⟨Aq, cq, rfl⟩ := Kd.R_slice hR
              have HN := Aside0.mk (HS.out.call32 hb hR)
              clear hb hR
              clear HS
              have HS := HN
              clear HN
              refine hK.out _ _ ⟨(HS.out.cells 3 rfl).1, (HS.out.cells 3 rfl).2, (HS.out.cells 2 rfl).1, (HS.out.cells 2 rfl).2⟩ (fun hHeld => ?_)
              clear hK K
              refine norm_ (a' := ?_) ?_ ?_
              rotate_left
              · show Act.put _ (some 28) _ = _
                simp only [Act.put, List.setIfInBounds_toArray, List.set_cons_zero, List.set_cons_succ, i64_w, i32_w]
                rfl
              exact norm_ (by first | (simp only [putAll, Act.put, List.setIfInBounds_toArray, List.set_cons_zero, List.set_cons_succ]; done) | (simp only [putAll, Act.put, List.setIfInBounds_toArray, List.set_cons_zero, List.set_cons_succ]; rfl)) (hJ1_3_4_5 ((Ap, cp), (Aq, cq), gp, gq) _ ⟨hHeld, HS⟩)
          · skip
            rintro ⟨⟨Ap, cp⟩, ⟨Aq, cq⟩, gp, gq⟩ w9 ⟨hHeld, HS⟩
            refine norm_ (a' := ?_) ?_ ?_
            rotate_left
            · simp only [putAll, Act.put, List.setIfInBounds_toArray, List.set_cons_zero, List.set_cons_succ]
              rfl
            refine one_ (i := 4) (N := some 5) #[true, true, true, true, true, true, false, false] rfl rfl (by kernel_rfl) (by decide) (fun K hK => ?_)
            refine box_step ?hg (N := 5) ?hd (cs := #[.bool false, .slice none 0 0]) (t := 25) ?hr ?_; (case hd => rfl); (case hg => rfl); (case hr => first | (go_simp; done) | (go_simp; rfl))
            intro gp hg w6 hbox hb
            have HN := Aside0.mk ((HS.out.boxNew (by decide) hg hbox hb).swapB)
            clear hg hbox hb
            clear HS
            have HS := HN
            clear HN
            refine hK.out _ _ ⟨(HS.out.cells 3 rfl).1, (HS.out.cells 3 rfl).2, (HS.out.cells 2 rfl).1, (HS.out.cells 2 rfl).2⟩ (fun hHeld => ?_)
            clear hK K
            refine norm_ (a' := ?_) ?_ ?_
            rotate_left
            · show Act.put _ (some 5) _ = _
              simp only [Act.put, List.setIfInBounds_toArray, List.set_cons_zero, List.set_cons_succ, i64_w, i32_w]
              rfl
            exact norm_ (by first | (simp only [putAll, Act.put, List.setIfInBounds_toArray, List.set_cons_zero, List.set_cons_succ]; done) | (simp only [putAll, Act.put, List.setIfInBounds_toArray, List.set_cons_zero, List.set_cons_succ]; rfl)) (hJ1_3_4_5 ((Ap, cp), (Aq, cq), gp, gq) _ ⟨hHeld, HS⟩)
        · skip
          rintro ⟨⟨Ap, cp⟩, ⟨Aq, cq⟩, gp, gq⟩ w9 ⟨hHeld, HS⟩
          refine norm_ (a' := ?_) ?_ ?_
          rotate_left
          · simp only [putAll, Act.put, List.setIfInBounds_toArray, List.set_cons_zero, List.set_cons_succ]
            rfl
          refine one_ (i := 5) (N := some 6) #[true, true, true, true, true, true, false, false] rfl rfl (by kernel_rfl) (by decide) (fun K hK => ?_)
          refine box_step ?hg (N := 6) ?hd (cs := #[.bool false, .slice none 0 0]) (t := 25) ?hr ?_; (case hd => rfl); (case hg => rfl); (case hr => first | (go_simp; done) | (go_simp; rfl))
          intro gq hg w6 hbox hb
          have HN := Aside0.mk ((HS.out.boxNew (by decide) hg hbox hb))
          clear hg hbox hb
          clear HS
          have HS := HN
          clear HN
          refine hK.out _ _ ⟨(HS.out.cells 3 rfl).1, (HS.out.cells 3 rfl).2, (HS.out.cells 2 rfl).1, (HS.out.cells 2 rfl).2⟩ (fun hHeld => ?_)
          clear hK K
          refine norm_ (a' := ?_) ?_ ?_
          rotate_left
          · show Act.put _ (some 6) _ = _
            simp only [Act.put, List.setIfInBounds_toArray, List.set_cons_zero, List.set_cons_succ, i64_w, i32_w]
            rfl
          exact norm_ (by first | (simp only [putAll, Act.put, List.setIfInBounds_toArray, List.set_cons_zero, List.set_cons_succ]; done) | (simp only [putAll, Act.put, List.setIfInBounds_toArray, List.set_cons_zero, List.set_cons_succ]; rfl)) (hJ1_3_4_5 ((Ap, cp), (Aq, cq), gp, gq) _ ⟨hHeld, HS⟩)
      rintro ⟨⟨Ap, cp⟩, ⟨Aq, cq⟩, gp, gq⟩ w9 ⟨hHeld, HS⟩
      refine norm_ (a' := ?_) ?_ ?_
      rotate_left
      · simp only [putAll, Act.put, List.setIfInBounds_toArray, List.set_cons_zero, List.set_cons_succ]
        rfl
      refine one_ (i := 6) (N := none) #[true, true, true, true, true, true, true, false] rfl rfl (by kernel_rfl) (by decide) (fun K hK => ?_)
      obtain ⟨x0, x1⟩ := HS.out.cells 1 rfl
      have g0 := HS.out.froz 1 rfl 0
      have g1 := HS.out.froz 1 rfl 1
      refine skip_ (w1 := ?_) (by rfl) rfl ?_ ?_
      rotate_left
      · go_simp
        rfl
      clear x0 x1 g0 g1
      have HN := Aside0.mk (HS.out.set2 1 rfl (.bool n0) (.slice Ap l0.length cp))
      clear HS
      have HS := HN
      clear HN
      refine hK.out _ _ ⟨(HS.out.cells 3 rfl).1, (HS.out.cells 3 rfl).2, (HS.out.cells 2 rfl).1, (HS.out.cells 2 rfl).2⟩ (fun hHeld => ?_)
      clear hK K
      refine one_ (i := 7) (N := none) #[true, true, true, true, true, true, true, true] rfl rfl (by kernel_rfl) (by decide) (fun K hK => ?_)
      obtain ⟨x0, x1⟩ := HS.out.cells 0 rfl
      have g0 := HS.out.froz 0 rfl 0
      have g1 := HS.out.froz 0 rfl 1
      refine skip_ (w1 := ?_) (by rfl) rfl ?_ ?_
      rotate_left
      · go_simp
        rfl
      clear x0 x1 g0 g1
      have HN := Aside0.mk (HS.out.set2 0 rfl (.bool n1) (.slice Aq l1.length cq))
      clear HS
      have HS := HN
      clear HN
      refine hK.out _ _ ⟨(HS.out.cells 3 rfl).1, (HS.out.cells 3 rfl).2, (HS.out.cells 2 rfl).1, (HS.out.cells 2 rfl).2⟩ (fun hHeld => ?_)
      clear hK K
      refine done_ (by kernel_rfl) ?_
      go_wp2
      have HN := Aside0.mk (HS.out.drew)
      clear HS
      have HS := HN
      clear HN
      refine start_ (n := 8) (S := fun w' => w'.cell? ⟨gp, 0, none⟩ = some (.bool n0) ∧ w'.cell? ⟨gp, 1, none⟩ = some (.slice Ap l0.length cp) ∧ w'.cell? ⟨gq, 0, none⟩ = some (.bool n1) ∧ w'.cell? ⟨gq, 1, none⟩ = some (.slice Aq l1.length cq)) (ds := []) #[false, false, false, false, false, false, false, false] (by kernel_rfl) rfl rfl ⟨(HS.out.cells 1 rfl).1, (HS.out.cells 1 rfl).2, (HS.out.cells 0 rfl).1, (HS.out.cells 0 rfl).2⟩ (fun hHeld => ?_)
      refine take_ (i := 0) (N := some 29) (v := ?_) (a' := ?_) #[true, false, false, false, false, false, false, false] rfl rfl (by kernel_rfl) (fun _ _ _ h => h) (Or.inl ⟨by rfl, ?_⟩) hHeld ?_ ?_
      rotate_left
      · rintro w' ⟨s0, s1, s2, s3⟩
        go_simp
        with_reducible rfl
      rotate_left
      · simp only [Act.put, List.setIfInBounds_toArray, List.set_cons_zero, List.set_cons_succ, i64_w, i32_w]
        rfl
      refine take_ (i := 2) (N := some 31) (v := ?_) (a' := ?_) #[true, false, true, false, false, false, false, false] rfl rfl (by kernel_rfl) (fun _ _ _ h => h) (Or.inl ⟨by rfl, ?_⟩) hHeld ?_ ?_
      rotate_left
      · rintro w' ⟨s0, s1, s2, s3⟩
        go_simp
        with_reducible rfl
      rotate_left
      · simp only [Act.put, List.setIfInBounds_toArray, List.set_cons_zero, List.set_cons_succ, i64_w, i32_w]
        rfl
      refine join_ (σ := (Option Addr × Nat) × (Option Addr × Nat) × Nat × Nat) 2 #[true, true, true, true, true, true, false, false] (fun s_ => [(30, .agg #[.bool (vb y), .slice s_.1.1 (vl y).length s_.1.2]), (32, .agg #[.bool (vb z), .slice s_.2.1.1 (vl z).length s_.2.1.2]), (7, .pointer (some ⟨s_.2.2.1, 0, none⟩)), (8, .pointer (some ⟨s_.2.2.2, 0, none⟩))]) (fun s_ w' => (w'.cell? ⟨gp, 0, none⟩ = some (.bool n0) ∧ w'.cell? ⟨gp, 1, none⟩ = some (.slice Ap l0.length cp) ∧ w'.cell? ⟨gq, 0, none⟩ = some (.bool n1) ∧ w'.cell? ⟨gq, 1, none⟩ = some (.slice Aq l1.length cq)) ∧ Aside0 (St w w' [(s_.2.2.2, #[.bool false, .slice none 0 0], 34), (s_.2.2.1, #[.bool false, .slice none 0 0], 34), (gq, #[.bool n1, .slice Aq l1.length cq], 25), (gp, #[.bool n0, .slice Ap l0.length cp], 25), (w.heap.size + 1, #[.bool n1, .slice A1 l1.length c1], 25), (w.heap.size, #[.bool n0, .slice A0 l0.length c0], 25)] [(.slice s_.2.1.1 (vl z).length s_.2.1.2, (vl z)), (.slice s_.1.1 (vl y).length s_.1.2, (vl y))] [(.slice Aq l1.length cq, l1), (.slice Ap l0.length cp, l0)])) ?_ ?_
      rotate_left
      · intro hJ1_3_4_5
        refine join_ (σ := (Option Addr × Nat) × (Option Addr × Nat) × Nat × Nat) 3 #[true, true, true, true, true, false, false, false] (fun s_ => [(30, .agg #[.bool (vb y), .slice s_.1.1 (vl y).length s_.1.2]), (32, .agg #[.bool (vb z), .slice s_.2.1.1 (vl z).length s_.2.1.2]), (7, .pointer (some ⟨s_.2.2.1, 0, none⟩))]) (fun s_ w' => (w'.cell? ⟨gp, 0, none⟩ = some (.bool n0) ∧ w'.cell? ⟨gp, 1, none⟩ = some (.slice Ap l0.length cp) ∧ w'.cell? ⟨gq, 0, none⟩ = some (.bool n1) ∧ w'.cell? ⟨gq, 1, none⟩ = some (.slice Aq l1.length cq)) ∧ Aside0 (St w w' [(s_.2.2.1, #[.bool false, .slice none 0 0], 34), (gq, #[.bool n1, .slice Aq l1.length cq], 25), (gp, #[.bool n0, .slice Ap l0.length cp], 25), (w.heap.size + 1, #[.bool n1, .slice A1 l1.length c1], 25), (w.heap.size, #[.bool n0, .slice A0 l0.length c0], 25)] [(.slice s_.2.1.1 (vl z).length s_.2.1.2, (vl z)), (.slice s_.1.1 (vl y).length s_.1.2, (vl y))] [(.slice Aq l1.length cq, l1), (.slice Ap l0.length cp, l0)])) ?_ ?_
        rotate_left
        · intro hJ1_3_4
          refine join_ (σ := (Option Addr × Nat) × (Option Addr × Nat) × Nat × Nat) 3 #[true, true, true, true, false, true, false, false] (fun s_ => [(30, .agg #[.bool (vb y), .slice s_.1.1 (vl y).length s_.1.2]), (32, .agg #[.bool (vb z), .slice s_.2.1.1 (vl z).length s_.2.1.2]), (8, .pointer (some ⟨s_.2.2.2, 0, none⟩))]) (fun s_ w' => (w'.cell? ⟨gp, 0, none⟩ = some (.bool n0) ∧ w'.cell? ⟨gp, 1, none⟩ = some (.slice Ap l0.length cp) ∧ w'.cell? ⟨gq, 0, none⟩ = some (.bool n1) ∧ w'.cell? ⟨gq, 1, none⟩ = some (.slice Aq l1.length cq)) ∧ Aside0 (St w w' [(s_.2.2.2, #[.bool false, .slice none 0 0], 34), (gq, #[.bool n1, .slice Aq l1.length cq], 25), (gp, #[.bool n0, .slice Ap l0.length cp], 25), (w.heap.size + 1, #[.bool n1, .slice A1 l1.length c1], 25), (w.heap.size, #[.bool n0, .slice A0 l0.length c0], 25)] [(.slice s_.2.1.1 (vl z).length s_.2.1.2, (vl z)), (.slice s_.1.1 (vl y).length s_.1.2, (vl y))] [(.slice Aq l1.length cq, l1), (.slice Ap l0.length cp, l0)])) ?_ ?_
          rotate_left
          · intro hJ1_3_5
            refine join_ (σ := (Option Addr × Nat) × (Option Addr × Nat) × Nat × Nat) 3 #[true, true, true, false, true, true, false, false] (fun s_ => [(30, .agg #[.bool (vb y), .slice s_.1.1 (vl y).length s_.1.2]), (7, .pointer (some ⟨s_.2.2.1, 0, none⟩)), (8, .pointer (some ⟨s_.2.2.2, 0, none⟩))]) (fun s_ w' => (w'.cell? ⟨gp, 0, none⟩ = some (.bool n0) ∧ w'.cell? ⟨gp, 1, none⟩ = some (.slice Ap l0.length cp) ∧ w'.cell? ⟨gq, 0, none⟩ = some (.bool n1) ∧ w'.cell? ⟨gq, 1, none⟩ = some (.slice Aq l1.length cq)) ∧ Aside0 (St w w' [(s_.2.2.2, #[.bool false, .slice none 0 0], 34), (s_.2.2.1, #[.bool false, .slice none 0 0], 34), (gq, #[.bool n1, .slice Aq l1.length cq], 25), (gp, #[.bool n0, .slice Ap l0.length cp], 25), (w.heap.size + 1, #[.bool n1, .slice A1 l1.length c1], 25), (w.heap.size, #[.bool n0, .slice A0 l0.length c0], 25)] [(.slice s_.1.1 (vl y).length s_.1.2, (vl y))] [(.slice Aq l1.length cq, l1), (.slice Ap l0.length cp, l0)])) ?_ ?_
            rotate_left
            · intro hJ1_4_5
              refine join_ (σ := (Option Addr × Nat) × (Option Addr × Nat) × Nat × Nat) 4 #[true, true, true, true, false, false, false, false] (fun s_ => [(30, .agg #[.bool (vb y), .slice s_.1.1 (vl y).length s_.1.2]), (32, .agg #[.bool (vb z), .slice s_.2.1.1 (vl z).length s_.2.1.2])]) (fun s_ w' => (w'.cell? ⟨gp, 0, none⟩ = some (.bool n0) ∧ w'.cell? ⟨gp, 1, none⟩ = some (.slice Ap l0.length cp) ∧ w'.cell? ⟨gq, 0, none⟩ = some (.bool n1) ∧ w'.cell? ⟨gq, 1, none⟩ = some (.slice Aq l1.length cq)) ∧ Aside0 (St w w' [(gq, #[.bool n1, .slice Aq l1.length cq], 25), (gp, #[.bool n0, .slice Ap l0.length cp], 25), (w.heap.size + 1, #[.bool n1, .slice A1 l1.length c1], 25), (w.heap.size, #[.bool n0, .slice A0 l0.length c0], 25)] [(.slice s_.2.1.1 (vl z).length s_.2.1.2, (vl z)), (.slice s_.1.1 (vl y).length s_.1.2, (vl y))] [(.slice Aq l1.length cq, l1), (.slice Ap l0.length cp, l0)])) ?_ ?_
              rotate_left
              · intro hJ1_3
                refine join_ (σ := (Option Addr × Nat) × (Option Addr × Nat) × Nat × Nat) 4 #[true, true, true, false, true, false, false, false] (fun s_ => [(30, .agg #[.bool (vb y), .slice s_.1.1 (vl y).length s_.1.2]), (7, .pointer (some ⟨s_.2.2.1, 0, none⟩))]) (fun s_ w' => (w'.cell? ⟨gp, 0, none⟩ = some (.bool n0) ∧ w'.cell? ⟨gp, 1, none⟩ = some (.slice Ap l0.length cp) ∧ w'.cell? ⟨gq, 0, none⟩ = some (.bool n1) ∧ w'.cell? ⟨gq, 1, none⟩ = some (.slice Aq l1.length cq)) ∧ Aside0 (St w w' [(s_.2.2.1, #[.bool false, .slice none 0 0], 34), (gq, #[.bool n1, .slice Aq l1.length cq], 25), (gp, #[.bool n0, .slice Ap l0.length cp], 25), (w.heap.size + 1, #[.bool n1, .slice A1 l1.length c1], 25), (w.heap.size, #[.bool n0, .slice A0 l0.length c0], 25)] [(.slice s_.1.1 (vl y).length s_.1.2, (vl y))] [(.slice Aq l1.length cq, l1), (.slice Ap l0.length cp, l0)])) ?_ ?_
                rotate_left
                · intro hJ1_4
                  refine join_ (σ := (Option Addr × Nat) × (Option Addr × Nat) × Nat × Nat) 4 #[true, true, true, false, false, true, false, false] (fun s_ => [(30, .agg #[.bool (vb y), .slice s_.1.1 (vl y).length s_.1.2]), (8, .pointer (some ⟨s_.2.2.2, 0, none⟩))]) (fun s_ w' => (w'.cell? ⟨gp, 0, none⟩ = some (.bool n0) ∧ w'.cell? ⟨gp, 1, none⟩ = some (.slice Ap l0.length cp) ∧ w'.cell? ⟨gq, 0, none⟩ = some (.bool n1) ∧ w'.cell? ⟨gq, 1, none⟩ = some (.slice Aq l1.length cq)) ∧ Aside0 (St w w' [(s_.2.2.2, #[.bool false, .slice none 0 0], 34), (gq, #[.bool n1, .slice Aq l1.length cq], 25), (gp, #[.bool n0, .slice Ap l0.length cp], 25), (w.heap.size + 1, #[.bool n1, .slice A1 l1.length c1], 25), (w.heap.size, #[.bool n0, .slice A0 l0.length c0], 25)] [(.slice s_.1.1 (vl y).length s_.1.2, (vl y))] [(.slice Aq l1.length cq, l1), (.slice Ap l0.length cp, l0)])) ?_ ?_
                  rotate_left
                  · intro hJ1_5
                    refine join_ (σ := (Option Addr × Nat) × (Option Addr × Nat) × Nat × Nat) 4 #[true, false, true, false, true, true, false, false] (fun s_ => [(7, .pointer (some ⟨s_.2.2.1, 0, none⟩)), (8, .pointer (some ⟨s_.2.2.2, 0, none⟩))]) (fun s_ w' => (w'.cell? ⟨gp, 0, none⟩ = some (.bool n0) ∧ w'.cell? ⟨gp, 1, none⟩ = some (.slice Ap l0.length cp) ∧ w'.cell? ⟨gq, 0, none⟩ = some (.bool n1) ∧ w'.cell? ⟨gq, 1, none⟩ = some (.slice Aq l1.length cq)) ∧ Aside0 (St w w' [(s_.2.2.2, #[.bool false, .slice none 0 0], 34), (s_.2.2.1, #[.bool false, .slice none 0 0], 34), (gq, #[.bool n1, .slice Aq l1.length cq], 25), (gp, #[.bool n0, .slice Ap l0.length cp], 25), (w.heap.size + 1, #[.bool n1, .slice A1 l1.length c1], 25), (w.heap.size, #[.bool n0, .slice A0 l0.length c0], 25)] [] [(.slice Aq l1.length cq, l1), (.slice Ap l0.length cp, l0)])) ?_ ?_
                    rotate_left
                    · intro hJ4_5
                      refine join_ (σ := (Option Addr × Nat) × (Option Addr × Nat) × Nat × Nat) 5 #[true, true, true, false, false, false, false, false] (fun s_ => [(30, .agg #[.bool (vb y), .slice s_.1.1 (vl y).length s_.1.2])]) (fun s_ w' => (w'.cell? ⟨gp, 0, none⟩ = some (.bool n0) ∧ w'.cell? ⟨gp, 1, none⟩ = some (.slice Ap l0.length cp) ∧ w'.cell? ⟨gq, 0, none⟩ = some (.bool n1) ∧ w'.cell? ⟨gq, 1, none⟩ = some (.slice Aq l1.length cq)) ∧ Aside0 (St w w' [(gq, #[.bool n1, .slice Aq l1.length cq], 25), (gp, #[.bool n0, .slice Ap l0.length cp], 25), (w.heap.size + 1, #[.bool n1, .slice A1 l1.length c1], 25), (w.heap.size, #[.bool n0, .slice A0 l0.length c0], 25)] [(.slice s_.1.1 (vl y).length s_.1.2, (vl y))] [(.slice Aq l1.length cq, l1), (.slice Ap l0.length cp, l0)])) ?_ ?_
                      rotate_left
                      · intro hJ1
                        refine join_ (σ := (Option Addr × Nat) × (Option Addr × Nat) × Nat × Nat) 5 #[true, false, true, false, true, false, false, false] (fun s_ => [(7, .pointer (some ⟨s_.2.2.1, 0, none⟩))]) (fun s_ w' => (w'.cell? ⟨gp, 0, none⟩ = some (.bool n0) ∧ w'.cell? ⟨gp, 1, none⟩ = some (.slice Ap l0.length cp) ∧ w'.cell? ⟨gq, 0, none⟩ = some (.bool n1) ∧ w'.cell? ⟨gq, 1, none⟩ = some (.slice Aq l1.length cq)) ∧ Aside0 (St w w' [(s_.2.2.1, #[.bool false, .slice none 0 0], 34), (gq, #[.bool n1, .slice Aq l1.length cq], 25), (gp, #[.bool n0, .slice Ap l0.length cp], 25), (w.heap.size + 1, #[.bool n1, .slice A1 l1.length c1], 25), (w.heap.size, #[.bool n0, .slice A0 l0.length c0], 25)] [] [(.slice Aq l1.length cq, l1), (.slice Ap l0.length cp, l0)])) ?_ ?_
                        rotate_left
                        · intro hJ4
                          refine join_ (σ := (Option Addr × Nat) × (Option Addr × Nat) × Nat × Nat) 5 #[true, false, true, false, false, true, false, false] (fun s_ => [(8, .pointer (some ⟨s_.2.2.2, 0, none⟩))]) (fun s_ w' => (w'.cell? ⟨gp, 0, none⟩ = some (.bool n0) ∧ w'.cell? ⟨gp, 1, none⟩ = some (.slice Ap l0.length cp) ∧ w'.cell? ⟨gq, 0, none⟩ = some (.bool n1) ∧ w'.cell? ⟨gq, 1, none⟩ = some (.slice Aq l1.length cq)) ∧ Aside0 (St w w' [(s_.2.2.2, #[.bool false, .slice none 0 0], 34), (gq, #[.bool n1, .slice Aq l1.length cq], 25), (gp, #[.bool n0, .slice Ap l0.length cp], 25), (w.heap.size + 1, #[.bool n1, .slice A1 l1.length c1], 25), (w.heap.size, #[.bool n0, .slice A0 l0.length c0], 25)] [] [(.slice Aq l1.length cq, l1), (.slice Ap l0.length cp, l0)])) ?_ ?_
                          rotate_left
                          · intro hJ5
                            refine three_ (i := 1) (j := 4) (k := 5) (Ni := some 30) (Nj := some 7) (Nk := some 8) #[true, true, true, false, false, false, false, false] #[true, false, true, false, true, false, false, false] #[true, false, true, false, false, true, false, false] rfl rfl rfl rfl rfl rfl (by kernel_rfl) (by decide) (by decide) (by decide) (fun K hK => ?_) (fun K hK => ?_) (fun K hK => ?_)
                            · skip
                              refine goes_ Tryd.func24 (by kernel_rfl) rfl #[.agg #[.bool n0, .slice Ap l0.length cp]] (by rfl) rfl rfl (by simp only [List.map_toArray, List.map_cons, List.map_nil]; rfl) ?_
                              with_reducible refine (moraineref02_Value.calls n0 Ap cp l0 (vb y) (vl y) _ (HS.out.limbs 1 rfl).2.2 (HS.out.limbs 1 rfl).2.1 H2.out).mono ?_
                              rintro e w3 ⟨v, rfl, hR, hb⟩
                              refine ⟨_, rfl, ?_⟩
                              obtain ⟨Av, cv, rfl⟩ := Kd.R_slice hR
                              have HN := Aside0.mk (HS.out.call8 hb hR)
                              clear hb hR
                              clear HS
                              have HS := HN
                              clear HN
                              refine hK.out _ _ ⟨(HS.out.cells 1 rfl).1, (HS.out.cells 1 rfl).2, (HS.out.cells 0 rfl).1, (HS.out.cells 0 rfl).2⟩ (fun hHeld => ?_)
                              clear hK K
                              refine norm_ (a' := ?_) ?_ ?_
                              rotate_left
                              · show Act.put _ (some 30) _ = _
                                simp only [Act.put, List.setIfInBounds_toArray, List.set_cons_zero, List.set_cons_succ, i64_w, i32_w]
                                rfl
                              exact norm_ (by first | (simp only [putAll, Act.put, List.setIfInBounds_toArray, List.set_cons_zero, List.set_cons_succ]; done) | (simp only [putAll, Act.put, List.setIfInBounds_toArray, List.set_cons_zero, List.set_cons_succ]; rfl)) (hJ1 ((Av, cv), (none, 0), 0, 0) _ ⟨hHeld, HS⟩)
                            · skip
                              refine box_step ?hg (N := 7) ?hd (cs := #[.bool false, .slice none 0 0]) (t := 34) ?hr ?_; (case hd => rfl); (case hg => rfl); (case hr => first | (go_simp; done) | (go_simp; rfl))
                              intro gv hg w6 hbox hb
                              have HN := Aside0.mk ((HS.out.boxNew (by decide) hg hbox hb))
                              clear hg hbox hb
                              clear HS
                              have HS := HN
                              clear HN
                              refine hK.out _ _ ⟨(HS.out.cells 2 rfl).1, (HS.out.cells 2 rfl).2, (HS.out.cells 1 rfl).1, (HS.out.cells 1 rfl).2⟩ (fun hHeld => ?_)
                              clear hK K
                              refine norm_ (a' := ?_) ?_ ?_
                              rotate_left
                              · show Act.put _ (some 7) _ = _
                                simp only [Act.put, List.setIfInBounds_toArray, List.set_cons_zero, List.set_cons_succ, i64_w, i32_w]
                                rfl
                              exact norm_ (by first | (simp only [putAll, Act.put, List.setIfInBounds_toArray, List.set_cons_zero, List.set_cons_succ]; done) | (simp only [putAll, Act.put, List.setIfInBounds_toArray, List.set_cons_zero, List.set_cons_succ]; rfl)) (hJ4 ((none, 0), (none, 0), gv, 0) _ ⟨hHeld, HS⟩)
                            · skip
                              refine box_step ?hg (N := 8) ?hd (cs := #[.bool false, .slice none 0 0]) (t := 34) ?hr ?_; (case hd => rfl); (case hg => rfl); (case hr => first | (go_simp; done) | (go_simp; rfl))
                              intro gu hg w6 hbox hb
                              have HN := Aside0.mk ((HS.out.boxNew (by decide) hg hbox hb))
                              clear hg hbox hb
                              clear HS
                              have HS := HN
                              clear HN
                              refine hK.out _ _ ⟨(HS.out.cells 2 rfl).1, (HS.out.cells 2 rfl).2, (HS.out.cells 1 rfl).1, (HS.out.cells 1 rfl).2⟩ (fun hHeld => ?_)
                              clear hK K
                              refine norm_ (a' := ?_) ?_ ?_
                              rotate_left
                              · show Act.put _ (some 8) _ = _
                                simp only [Act.put, List.setIfInBounds_toArray, List.set_cons_zero, List.set_cons_succ, i64_w, i32_w]
                                rfl
                              exact norm_ (by first | (simp only [putAll, Act.put, List.setIfInBounds_toArray, List.set_cons_zero, List.set_cons_succ]; done) | (simp only [putAll, Act.put, List.setIfInBounds_toArray, List.set_cons_zero, List.set_cons_succ]; rfl)) (hJ5 ((none, 0), (none, 0), 0, gu) _ ⟨hHeld, HS⟩)
                          · skip
                            rintro ⟨⟨Av, cv⟩, ⟨Au, cu⟩, gv, gu⟩ w9 ⟨hHeld, HS⟩
                            refine norm_ (a' := ?_) ?_ ?_
                            rotate_left
                            · simp only [putAll, Act.put, List.setIfInBounds_toArray, List.set_cons_zero, List.set_cons_succ]
                              rfl
                            refine two_ (i := 1) (j := 4) (Ni := some 30) (Nj := some 7) #[true, true, true, false, false, true, false, false] #[true, false, true, false, true, true, false, false] rfl rfl rfl rfl (by kernel_rfl) (by decide) (by decide) (fun K hK => ?_) (fun K hK => ?_)
                            · skip
                              refine goes_ Tryd.func24 (by kernel_rfl) rfl #[.agg #[.bool n0, .slice Ap l0.length cp]] (by rfl) rfl rfl (by simp only [List.map_toArray, List.map_cons, List.map_nil]; rfl) ?_
                              with_reducible refine (moraineref02_Value.calls n0 Ap cp l0 (vb y) (vl y) _ (HS.out.limbs 1 rfl).2.2 (HS.out.limbs 1 rfl).2.1 H2.out).mono ?_
                              rintro e w3 ⟨v, rfl, hR, hb⟩
                              refine ⟨_, rfl, ?_⟩
                              obtain ⟨Av, cv, rfl⟩ := Kd.R_slice hR
                              have HN := Aside0.mk (HS.out.call8 hb hR)
                              clear hb hR
                              clear HS
                              have HS := HN
                              clear HN
                              refine hK.out _ _ ⟨(HS.out.cells 2 rfl).1, (HS.out.cells 2 rfl).2, (HS.out.cells 1 rfl).1, (HS.out.cells 1 rfl).2⟩ (fun hHeld => ?_)
                              clear hK K
                              refine norm_ (a' := ?_) ?_ ?_
                              rotate_left
                              · show Act.put _ (some 30) _ = _
                                simp only [Act.put, List.setIfInBounds_toArray, List.set_cons_zero, List.set_cons_succ, i64_w, i32_w]
                                rfl
                              exact norm_ (by first | (simp only [putAll, Act.put, List.setIfInBounds_toArray, List.set_cons_zero, List.set_cons_succ]; done) | (simp only [putAll, Act.put, List.setIfInBounds_toArray, List.set_cons_zero, List.set_cons_succ]; rfl)) (hJ1_5 ((Av, cv), (none, 0), 0, gu) _ ⟨hHeld, HS⟩)
                            · skip
                              refine box_step ?hg (N := 7) ?hd (cs := #[.bool false, .slice none 0 0]) (t := 34) ?hr ?_; (case hd => rfl); (case hg => rfl); (case hr => first | (go_simp; done) | (go_simp; rfl))
                              intro gv hg w6 hbox hb
                              have HN := Aside0.mk ((HS.out.boxNew (by decide) hg hbox hb).swapB)
                              clear hg hbox hb
                              clear HS
                              have HS := HN
                              clear HN
                              refine hK.out _ _ ⟨(HS.out.cells 3 rfl).1, (HS.out.cells 3 rfl).2, (HS.out.cells 2 rfl).1, (HS.out.cells 2 rfl).2⟩ (fun hHeld => ?_)
                              clear hK K
                              refine norm_ (a' := ?_) ?_ ?_
                              rotate_left
                              · show Act.put _ (some 7) _ = _
                                simp only [Act.put, List.setIfInBounds_toArray, List.set_cons_zero, List.set_cons_succ, i64_w, i32_w]
                                rfl
                              exact norm_ (by first | (simp only [putAll, Act.put, List.setIfInBounds_toArray, List.set_cons_zero, List.set_cons_succ]; done) | (simp only [putAll, Act.put, List.setIfInBounds_toArray, List.set_cons_zero, List.set_cons_succ]; rfl)) (hJ4_5 ((none, 0), (none, 0), gv, gu) _ ⟨hHeld, HS⟩)
                        · skip
                          rintro ⟨⟨Av, cv⟩, ⟨Au, cu⟩, gv, gu⟩ w9 ⟨hHeld, HS⟩
                          refine norm_ (a' := ?_) ?_ ?_
                          rotate_left
                          · simp only [putAll, Act.put, List.setIfInBounds_toArray, List.set_cons_zero, List.set_cons_succ]
                            rfl
                          refine two_ (i := 1) (j := 5) (Ni := some 30) (Nj := some 8) #[true, true, true, false, true, false, false, false] #[true, false, true, false, true, true, false, false] rfl rfl rfl rfl (by kernel_rfl) (by decide) (by decide) (fun K hK => ?_) (fun K hK => ?_)
                          · skip
                            refine goes_ Tryd.func24 (by kernel_rfl) rfl #[.agg #[.bool n0, .slice Ap l0.length cp]] (by rfl) rfl rfl (by simp only [List.map_toArray, List.map_cons, List.map_nil]; rfl) ?_
                            with_reducible refine (moraineref02_Value.calls n0 Ap cp l0 (vb y) (vl y) _ (HS.out.limbs 1 rfl).2.2 (HS.out.limbs 1 rfl).2.1 H2.out).mono ?_
                            rintro e w3 ⟨v, rfl, hR, hb⟩
                            refine ⟨_, rfl, ?_⟩
                            obtain ⟨Av, cv, rfl⟩ := Kd.R_slice hR
                            have HN := Aside0.mk (HS.out.call8 hb hR)
                            clear hb hR
                            clear HS
                            have HS := HN
                            clear HN
                            refine hK.out _ _ ⟨(HS.out.cells 2 rfl).1, (HS.out.cells 2 rfl).2, (HS.out.cells 1 rfl).1, (HS.out.cells 1 rfl).2⟩ (fun hHeld => ?_)
                            clear hK K
                            refine norm_ (a' := ?_) ?_ ?_
                            rotate_left
                            · show Act.put _ (some 30) _ = _
                              simp only [Act.put, List.setIfInBounds_toArray, List.set_cons_zero, List.set_cons_succ, i64_w, i32_w]
                              rfl
                            exact norm_ (by first | (simp only [putAll, Act.put, List.setIfInBounds_toArray, List.set_cons_zero, List.set_cons_succ]; done) | (simp only [putAll, Act.put, List.setIfInBounds_toArray, List.set_cons_zero, List.set_cons_succ]; rfl)) (hJ1_4 ((Av, cv), (none, 0), gv, 0) _ ⟨hHeld, HS⟩)
                          · skip
                            refine box_step ?hg (N := 8) ?hd (cs := #[.bool false, .slice none 0 0]) (t := 34) ?hr ?_; (case hd => rfl); (case hg => rfl); (case hr => first | (go_simp; done) | (go_simp; rfl))
                            intro gu hg w6 hbox hb
                            have HN := Aside0.mk ((HS.out.boxNew (by decide) hg hbox hb))
                            clear hg hbox hb
                            clear HS
                            have HS := HN
                            clear HN
                            refine hK.out _ _ ⟨(HS.out.cells 3 rfl).1, (HS.out.cells 3 rfl).2, (HS.out.cells 2 rfl).1, (HS.out.cells 2 rfl).2⟩ (fun hHeld => ?_)
                            clear hK K
                            refine norm_ (a' := ?_) ?_ ?_
                            rotate_left
                            · show Act.put _ (some 8) _ = _
                              simp only [Act.put, List.setIfInBounds_toArray, List.set_cons_zero, List.set_cons_succ, i64_w, i32_w]
                              rfl
                            exact norm_ (by first | (simp only [putAll, Act.put, List.setIfInBounds_toArray, List.set_cons_zero, List.set_cons_succ]; done) | (simp only [putAll, Act.put, List.setIfInBounds_toArray, List.set_cons_zero, List.set_cons_succ]; rfl)) (hJ4_5 ((none, 0), (none, 0), gv, gu) _ ⟨hHeld, HS⟩)
                      · skip
                        rintro ⟨⟨Av, cv⟩, ⟨Au, cu⟩, gv, gu⟩ w9 ⟨hHeld, HS⟩
                        refine norm_ (a' := ?_) ?_ ?_
                        rotate_left
                        · simp only [putAll, Act.put, List.setIfInBounds_toArray, List.set_cons_zero, List.set_cons_succ]
                          rfl
                        refine three_ (i := 3) (j := 4) (k := 5) (Ni := some 32) (Nj := some 7) (Nk := some 8) #[true, true, true, true, false, false, false, false] #[true, true, true, false, true, false, false, false] #[true, true, true, false, false, true, false, false] rfl rfl rfl rfl rfl rfl (by kernel_rfl) (by decide) (by decide) (by decide) (fun K hK => ?_) (fun K hK => ?_) (fun K hK => ?_)
                        · skip
                          refine goes_ Tryd.func24 (by kernel_rfl) rfl #[.agg #[.bool n1, .slice Aq l1.length cq]] (by rfl) rfl rfl (by simp only [List.map_toArray, List.map_cons, List.map_nil]; rfl) ?_
                          with_reducible refine (moraineref02_Value.calls n1 Aq cq l1 (vb z) (vl z) _ (HS.out.limbs 0 rfl).2.2 (HS.out.limbs 0 rfl).2.1 H3.out).mono ?_
                          rintro e w3 ⟨v, rfl, hR, hb⟩
                          refine ⟨_, rfl, ?_⟩
                          obtain ⟨Au, cu, rfl⟩ := Kd.R_slice hR
                          have HN := Aside0.mk (HS.out.call8 hb hR)
                          clear hb hR
                          clear HS
                          have HS := HN
                          clear HN
                          refine hK.out _ _ ⟨(HS.out.cells 1 rfl).1, (HS.out.cells 1 rfl).2, (HS.out.cells 0 rfl).1, (HS.out.cells 0 rfl).2⟩ (fun hHeld => ?_)
                          clear hK K
                          refine norm_ (a' := ?_) ?_ ?_
                          rotate_left
                          · show Act.put _ (some 32) _ = _
                            simp only [Act.put, List.setIfInBounds_toArray, List.set_cons_zero, List.set_cons_succ, i64_w, i32_w]
                            rfl
                          exact norm_ (by first | (simp only [putAll, Act.put, List.setIfInBounds_toArray, List.set_cons_zero, List.set_cons_succ]; done) | (simp only [putAll, Act.put, List.setIfInBounds_toArray, List.set_cons_zero, List.set_cons_succ]; rfl)) (hJ1_3 ((Av, cv), (Au, cu), 0, 0) _ ⟨hHeld, HS⟩)
                        · skip
                          refine box_step ?hg (N := 7) ?hd (cs := #[.bool false, .slice none 0 0]) (t := 34) ?hr ?_; (case hd => rfl); (case hg => rfl); (case hr => first | (go_simp; done) | (go_simp; rfl))
                          intro gv hg w6 hbox hb
                          have HN := Aside0.mk ((HS.out.boxNew (by decide) hg hbox hb))
                          clear hg hbox hb
                          clear HS
                          have HS := HN
                          clear HN
                          refine hK.out _ _ ⟨(HS.out.cells 2 rfl).1, (HS.out.cells 2 rfl).2, (HS.out.cells 1 rfl).1, (HS.out.cells 1 rfl).2⟩ (fun hHeld => ?_)
                          clear hK K
                          refine norm_ (a' := ?_) ?_ ?_
                          rotate_left
                          · show Act.put _ (some 7) _ = _
                            simp only [Act.put, List.setIfInBounds_toArray, List.set_cons_zero, List.set_cons_succ, i64_w, i32_w]
                            rfl
                          exact norm_ (by first | (simp only [putAll, Act.put, List.setIfInBounds_toArray, List.set_cons_zero, List.set_cons_succ]; done) | (simp only [putAll, Act.put, List.setIfInBounds_toArray, List.set_cons_zero, List.set_cons_succ]; rfl)) (hJ1_4 ((Av, cv), (none, 0), gv, 0) _ ⟨hHeld, HS⟩)
                        · skip
                          refine box_step ?hg (N := 8) ?hd (cs := #[.bool false, .slice none 0 0]) (t := 34) ?hr ?_; (case hd => rfl); (case hg => rfl); (case hr => first | (go_simp; done) | (go_simp; rfl))
                          intro gu hg w6 hbox hb
                          have HN := Aside0.mk ((HS.out.boxNew (by decide) hg hbox hb))
                          clear hg hbox hb
                          clear HS
                          have HS := HN
                          clear HN
                          refine hK.out _ _ ⟨(HS.out.cells 2 rfl).1, (HS.out.cells 2 rfl).2, (HS.out.cells 1 rfl).1, (HS.out.cells 1 rfl).2⟩ (fun hHeld => ?_)
                          clear hK K
                          refine norm_ (a' := ?_) ?_ ?_
                          rotate_left
                          · show Act.put _ (some 8) _ = _
                            simp only [Act.put, List.setIfInBounds_toArray, List.set_cons_zero, List.set_cons_succ, i64_w, i32_w]
                            rfl
                          exact norm_ (by first | (simp only [putAll, Act.put, List.setIfInBounds_toArray, List.set_cons_zero, List.set_cons_succ]; done) | (simp only [putAll, Act.put, List.setIfInBounds_toArray, List.set_cons_zero, List.set_cons_succ]; rfl)) (hJ1_5 ((Av, cv), (none, 0), 0, gu) _ ⟨hHeld, HS⟩)
                    · skip
                      rintro ⟨⟨Av, cv⟩, ⟨Au, cu⟩, gv, gu⟩ w9 ⟨hHeld, HS⟩
                      refine norm_ (a' := ?_) ?_ ?_
                      rotate_left
                      · simp only [putAll, Act.put, List.setIfInBounds_toArray, List.set_cons_zero, List.set_cons_succ]
                        rfl
                      refine one_ (i := 1) (N := some 30) #[true, true, true, false, true, true, false, false] rfl rfl (by kernel_rfl) (by decide) (fun K hK => ?_)
                      refine goes_ Tryd.func24 (by kernel_rfl) rfl #[.agg #[.bool n0, .slice Ap l0.length cp]] (by rfl) rfl rfl (by simp only [List.map_toArray, List.map_cons, List.map_nil]; rfl) ?_
                      with_reducible refine (moraineref02_Value.calls n0 Ap cp l0 (vb y) (vl y) _ (HS.out.limbs 1 rfl).2.2 (HS.out.limbs 1 rfl).2.1 H2.out).mono ?_
                      rintro e w3 ⟨v, rfl, hR, hb⟩
                      refine ⟨_, rfl, ?_⟩
                      obtain ⟨Av, cv, rfl⟩ := Kd.R_slice hR
                      have HN := Aside0.mk (HS.out.call8 hb hR)
                      clear hb hR
                      clear HS
                      have HS := HN
                      clear HN
                      refine hK.out _ _ ⟨(HS.out.cells 3 rfl).1, (HS.out.cells 3 rfl).2, (HS.out.cells 2 rfl).1, (HS.out.cells 2 rfl).2⟩ (fun hHeld => ?_)
                      clear hK K
                      refine norm_ (a' := ?_) ?_ ?_
                      rotate_left
                      · show Act.put _ (some 30) _ = _
                        simp only [Act.put, List.setIfInBounds_toArray, List.set_cons_zero, List.set_cons_succ, i64_w, i32_w]
                        rfl
                      exact norm_ (by first | (simp only [putAll, Act.put, List.setIfInBounds_toArray, List.set_cons_zero, List.set_cons_succ]; done) | (simp only [putAll, Act.put, List.setIfInBounds_toArray, List.set_cons_zero, List.set_cons_succ]; rfl)) (hJ1_4_5 ((Av, cv), (none, 0), gv, gu) _ ⟨hHeld, HS⟩)
                  · skip
                    rintro ⟨⟨Av, cv⟩, ⟨Au, cu⟩, gv, gu⟩ w9 ⟨hHeld, HS⟩
                    refine norm_ (a' := ?_) ?_ ?_
                    rotate_left
                    · simp only [putAll, Act.put, List.setIfInBounds_toArray, List.set_cons_zero, List.set_cons_succ]
                      rfl
                    refine two_ (i := 3) (j := 4) (Ni := some 32) (Nj := some 7) #[true, true, true, true, false, true, false, false] #[true, true, true, false, true, true, false, false] rfl rfl rfl rfl (by kernel_rfl) (by decide) (by decide) (fun K hK => ?_) (fun K hK => ?_)
                    · skip
                      refine goes_ Tryd.func24 (by kernel_rfl) rfl #[.agg #[.bool n1, .slice Aq l1.length cq]] (by rfl) rfl rfl (by simp only [List.map_toArray, List.map_cons, List.map_nil]; rfl) ?_
                      with_reducible refine (moraineref02_Value.calls n1 Aq cq l1 (vb z) (vl z) _ (HS.out.limbs 0 rfl).2.2 (HS.out.limbs 0 rfl).2.1 H3.out).mono ?_
                      rintro e w3 ⟨v, rfl, hR, hb⟩
                      refine ⟨_, rfl, ?_⟩
                      obtain ⟨Au, cu, rfl⟩ := Kd.R_slice hR
                      have HN := Aside0.mk (HS.out.call8 hb hR)
                      clear hb hR
                      clear HS
                      have HS := HN
                      clear HN
                      refine hK.out _ _ ⟨(HS.out.cells 2 rfl).1, (HS.out.cells 2 rfl).2, (HS.out.cells 1 rfl).1, (HS.out.cells 1 rfl).2⟩ (fun hHeld => ?_)
                      clear hK K
                      refine norm_ (a' := ?_) ?_ ?_
                      rotate_left
                      · show Act.put _ (some 32) _ = _
                        simp only [Act.put, List.setIfInBounds_toArray, List.set_cons_zero, List.set_cons_succ, i64_w, i32_w]
                        rfl
                      exact norm_ (by first | (simp only [putAll, Act.put, List.setIfInBounds_toArray, List.set_cons_zero, List.set_cons_succ]; done) | (simp only [putAll, Act.put, List.setIfInBounds_toArray, List.set_cons_zero, List.set_cons_succ]; rfl)) (hJ1_3_5 ((Av, cv), (Au, cu), 0, gu) _ ⟨hHeld, HS⟩)
                    · skip
                      refine box_step ?hg (N := 7) ?hd (cs := #[.bool false, .slice none 0 0]) (t := 34) ?hr ?_; (case hd => rfl); (case hg => rfl); (case hr => first | (go_simp; done) | (go_simp; rfl))
                      intro gv hg w6 hbox hb
                      have HN := Aside0.mk ((HS.out.boxNew (by decide) hg hbox hb).swapB)
                      clear hg hbox hb
                      clear HS
                      have HS := HN
                      clear HN
                      refine hK.out _ _ ⟨(HS.out.cells 3 rfl).1, (HS.out.cells 3 rfl).2, (HS.out.cells 2 rfl).1, (HS.out.cells 2 rfl).2⟩ (fun hHeld => ?_)
                      clear hK K
                      refine norm_ (a' := ?_) ?_ ?_
                      rotate_left
                      · show Act.put _ (some 7) _ = _
                        simp only [Act.put, List.setIfInBounds_toArray, List.set_cons_zero, List.set_cons_succ, i64_w, i32_w]
                        rfl
                      exact norm_ (by first | (simp only [putAll, Act.put, List.setIfInBounds_toArray, List.set_cons_zero, List.set_cons_succ]; done) | (simp only [putAll, Act.put, List.setIfInBounds_toArray, List.set_cons_zero, List.set_cons_succ]; rfl)) (hJ1_4_5 ((Av, cv), (none, 0), gv, gu) _ ⟨hHeld, HS⟩)
                · skip
                  rintro ⟨⟨Av, cv⟩, ⟨Au, cu⟩, gv, gu⟩ w9 ⟨hHeld, HS⟩
                  refine norm_ (a' := ?_) ?_ ?_
                  rotate_left
                  · simp only [putAll, Act.put, List.setIfInBounds_toArray, List.set_cons_zero, List.set_cons_succ]
                    rfl
                  refine two_ (i := 3) (j := 5) (Ni := some 32) (Nj := some 8) #[true, true, true, true, true, false, false, false] #[true, true, true, false, true, true, false, false] rfl rfl rfl rfl (by kernel_rfl) (by decide) (by decide) (fun K hK => ?_) (fun K hK => ?_)
                  · skip
                    refine goes_ Tryd.func24 (by kernel_rfl) rfl #[.agg #[.bool n1, .slice Aq l1.length cq]] (by rfl) rfl rfl (by simp only [List.map_toArray, List.map_cons, List.map_nil]; rfl) ?_
                    with_reducible refine (moraineref02_Value.calls n1 Aq cq l1 (vb z) (vl z) _ (HS.out.limbs 0 rfl).2.2 (HS.out.limbs 0 rfl).2.1 H3.out).mono ?_
                    rintro e w3 ⟨v, rfl, hR, hb⟩
                    refine ⟨_, rfl, ?_⟩
                    obtain ⟨Au, cu, rfl⟩ := Kd.R_slice hR
                    have HN := Aside0.mk (HS.out.call8 hb hR)
                    clear hb hR
                    clear HS
                    have HS := HN
                    clear HN
                    refine hK.out _ _ ⟨(HS.out.cells 2 rfl).1, (HS.out.cells 2 rfl).2, (HS.out.cells 1 rfl).1, (HS.out.cells 1 rfl).2⟩ (fun hHeld => ?_)
                    clear hK K
                    refine norm_ (a' := ?_) ?_ ?_
                    rotate_left
                    · show Act.put _ (some 32) _ = _
                      simp only [Act.put, List.setIfInBounds_toArray, List.set_cons_zero, List.set_cons_succ, i64_w, i32_w]
                      rfl
                    exact norm_ (by first | (simp only [putAll, Act.put, List.setIfInBounds_toArray, List.set_cons_zero, List.set_cons_succ]; done) | (simp only [putAll, Act.put, List.setIfInBounds_toArray, List.set_cons_zero, List.set_cons_succ]; rfl)) (hJ1_3_4 ((Av, cv), (Au, cu), gv, 0) _ ⟨hHeld, HS⟩)
                  · skip
                    refine box_step ?hg (N := 8) ?hd (cs := #[.bool false, .slice none 0 0]) (t := 34) ?hr ?_; (case hd => rfl); (case hg => rfl); (case hr => first | (go_simp; done) | (go_simp; rfl))
                    intro gu hg w6 hbox hb
                    have HN := Aside0.mk ((HS.out.boxNew (by decide) hg hbox hb))
                    clear hg hbox hb
                    clear HS
                    have HS := HN
                    clear HN
                    refine hK.out _ _ ⟨(HS.out.cells 3 rfl).1, (HS.out.cells 3 rfl).2, (HS.out.cells 2 rfl).1, (HS.out.cells 2 rfl).2⟩ (fun hHeld => ?_)
                    clear hK K
                    refine norm_ (a' := ?_) ?_ ?_
                    rotate_left
                    · show Act.put _ (some 8) _ = _
                      simp only [Act.put, List.setIfInBounds_toArray, List.set_cons_zero, List.set_cons_succ, i64_w, i32_w]
                      rfl
                    exact norm_ (by first | (simp only [putAll, Act.put, List.setIfInBounds_toArray, List.set_cons_zero, List.set_cons_succ]; done) | (simp only [putAll, Act.put, List.setIfInBounds_toArray, List.set_cons_zero, List.set_cons_succ]; rfl)) (hJ1_4_5 ((Av, cv), (none, 0), gv, gu) _ ⟨hHeld, HS⟩)
              · skip
                rintro ⟨⟨Av, cv⟩, ⟨Au, cu⟩, gv, gu⟩ w9 ⟨hHeld, HS⟩
                refine norm_ (a' := ?_) ?_ ?_
                rotate_left
                · simp only [putAll, Act.put, List.setIfInBounds_toArray, List.set_cons_zero, List.set_cons_succ]
                  rfl
                refine two_ (i := 4) (j := 5) (Ni := some 7) (Nj := some 8) #[true, true, true, true, true, false, false, false] #[true, true, true, true, false, true, false, false] rfl rfl rfl rfl (by kernel_rfl) (by decide) (by decide) (fun K hK => ?_) (fun K hK => ?_)
                · skip
                  refine box_step ?hg (N := 7) ?hd (cs := #[.bool false, .slice none 0 0]) (t := 34) ?hr ?_; (case hd => rfl); (case hg => rfl); (case hr => first | (go_simp; done) | (go_simp; rfl))
                  intro gv hg w6 hbox hb
                  have HN := Aside0.mk ((HS.out.boxNew (by decide) hg hbox hb))
                  clear hg hbox hb
                  clear HS
                  have HS := HN
                  clear HN
                  refine hK.out _ _ ⟨(HS.out.cells 2 rfl).1, (HS.out.cells 2 rfl).2, (HS.out.cells 1 rfl).1, (HS.out.cells 1 rfl).2⟩ (fun hHeld => ?_)
                  clear hK K
                  refine norm_ (a' := ?_) ?_ ?_
                  rotate_left
                  · show Act.put _ (some 7) _ = _
                    simp only [Act.put, List.setIfInBounds_toArray, List.set_cons_zero, List.set_cons_succ, i64_w, i32_w]
                    rfl
                  exact norm_ (by first | (simp only [putAll, Act.put, List.setIfInBounds_toArray, List.set_cons_zero, List.set_cons_succ]; done) | (simp only [putAll, Act.put, List.setIfInBounds_toArray, List.set_cons_zero, List.set_cons_succ]; rfl)) (hJ1_3_4 ((Av, cv), (Au, cu), gv, 0) _ ⟨hHeld, HS⟩)
                · skip
                  refine box_step ?hg (N := 8) ?hd (cs := #[.bool false, .slice none 0 0]) (t := 34) ?hr ?_; (case hd => rfl); (case hg => rfl); (case hr => first | (go_simp; done) | (go_simp; rfl))
                  intro gu hg w6 hbox hb
                  have HN := Aside0.mk ((HS.out.boxNew (by decide) hg hbox hb))
                  clear hg hbox hb
                  clear HS
                  have HS := HN
                  clear HN
                  refine hK.out _ _ ⟨(HS.out.cells 2 rfl).1, (HS.out.cells 2 rfl).2, (HS.out.cells 1 rfl).1, (HS.out.cells 1 rfl).2⟩ (fun hHeld => ?_)
                  clear hK K
                  refine norm_ (a' := ?_) ?_ ?_
                  rotate_left
                  · show Act.put _ (some 8) _ = _
                    simp only [Act.put, List.setIfInBounds_toArray, List.set_cons_zero, List.set_cons_succ, i64_w, i32_w]
                    rfl
                  exact norm_ (by first | (simp only [putAll, Act.put, List.setIfInBounds_toArray, List.set_cons_zero, List.set_cons_succ]; done) | (simp only [putAll, Act.put, List.setIfInBounds_toArray, List.set_cons_zero, List.set_cons_succ]; rfl)) (hJ1_3_5 ((Av, cv), (Au, cu), 0, gu) _ ⟨hHeld, HS⟩)
            · skip
              rintro ⟨⟨Av, cv⟩, ⟨Au, cu⟩, gv, gu⟩ w9 ⟨hHeld, HS⟩
              refine norm_ (a' := ?_) ?_ ?_
              rotate_left
              · simp only [putAll, Act.put, List.setIfInBounds_toArray, List.set_cons_zero, List.set_cons_succ]
                rfl
              refine one_ (i := 3) (N := some 32) #[true, true, true, true, true, true, false, false] rfl rfl (by kernel_rfl) (by decide) (fun K hK => ?_)
              refine goes_ Tryd.func24 (by kernel_rfl) rfl #[.agg #[.bool n1, .slice Aq l1.length cq]] (by rfl) rfl rfl (by simp only [List.map_toArray, List.map_cons, List.map_nil]; rfl) ?_
              with_reducible refine (moraineref02_Value.calls n1 Aq cq l1 (vb z) (vl z) _ (HS.out.limbs 0 rfl).2.2 (HS.out.limbs 0 rfl).2.1 H3.out).mono ?_
              rintro e w3 ⟨v, rfl, hR, hb⟩
              refine ⟨_, rfl, ?_⟩
              obtain ⟨Au, cu, rfl⟩ := Kd.R_slice hR
              have HN := Aside0.mk (HS.out.call8 hb hR)
              clear hb hR
              clear HS
              have HS := HN
              clear HN
              refine hK.out _ _ ⟨(HS.out.cells 3 rfl).1, (HS.out.cells 3 rfl).2, (HS.out.cells 2 rfl).1, (HS.out.cells 2 rfl).2⟩ (fun hHeld => ?_)
              clear hK K
              refine norm_ (a' := ?_) ?_ ?_
              rotate_left
              · show Act.put _ (some 32) _ = _
                simp only [Act.put, List.setIfInBounds_toArray, List.set_cons_zero, List.set_cons_succ, i64_w, i32_w]
                rfl
              exact norm_ (by first | (simp only [putAll, Act.put, List.setIfInBounds_toArray, List.set_cons_zero, List.set_cons_succ]; done) | (simp only [putAll, Act.put, List.setIfInBounds_toArray, List.set_cons_zero, List.set_cons_succ]; rfl)) (hJ1_3_4_5 ((Av, cv), (Au, cu), gv, gu) _ ⟨hHeld, HS⟩)
          · skip
            rintro ⟨⟨Av, cv⟩, ⟨Au, cu⟩, gv, gu⟩ w9 ⟨hHeld, HS⟩
            refine norm_ (a' := ?_) ?_ ?_
            rotate_left
            · simp only [putAll, Act.put, List.setIfInBounds_toArray, List.set_cons_zero, List.set_cons_succ]
              rfl
            refine one_ (i := 4) (N := some 7) #[true, true, true, true, true, true, false, false] rfl rfl (by kernel_rfl) (by decide) (fun K hK => ?_)
            refine box_step ?hg (N := 7) ?hd (cs := #[.bool false, .slice none 0 0]) (t := 34) ?hr ?_; (case hd => rfl); (case hg => rfl); (case hr => first | (go_simp; done) | (go_simp; rfl))
            intro gv hg w6 hbox hb
            have HN := Aside0.mk ((HS.out.boxNew (by decide) hg hbox hb).swapB)
            clear hg hbox hb
            clear HS
            have HS := HN
            clear HN
            refine hK.out _ _ ⟨(HS.out.cells 3 rfl).1, (HS.out.cells 3 rfl).2, (HS.out.cells 2 rfl).1, (HS.out.cells 2 rfl).2⟩ (fun hHeld => ?_)
            clear hK K
            refine norm_ (a' := ?_) ?_ ?_
            rotate_left
            · show Act.put _ (some 7) _ = _
              simp only [Act.put, List.setIfInBounds_toArray, List.set_cons_zero, List.set_cons_succ, i64_w, i32_w]
              rfl
            exact norm_ (by first | (simp only [putAll, Act.put, List.setIfInBounds_toArray, List.set_cons_zero, List.set_cons_succ]; done) | (simp only [putAll, Act.put, List.setIfInBounds_toArray, List.set_cons_zero, List.set_cons_succ]; rfl)) (hJ1_3_4_5 ((Av, cv), (Au, cu), gv, gu) _ ⟨hHeld, HS⟩)
        · skip
          rintro ⟨⟨Av, cv⟩, ⟨Au, cu⟩, gv, gu⟩ w9 ⟨hHeld, HS⟩
          refine norm_ (a' := ?_) ?_ ?_
          rotate_left
          · simp only [putAll, Act.put, List.setIfInBounds_toArray, List.set_cons_zero, List.set_cons_succ]
            rfl
          refine one_ (i := 5) (N := some 8) #[true, true, true, true, true, true, false, false] rfl rfl (by kernel_rfl) (by decide) (fun K hK => ?_)
          refine box_step ?hg (N := 8) ?hd (cs := #[.bool false, .slice none 0 0]) (t := 34) ?hr ?_; (case hd => rfl); (case hg => rfl); (case hr => first | (go_simp; done) | (go_simp; rfl))
          intro gu hg w6 hbox hb
          have HN := Aside0.mk ((HS.out.boxNew (by decide) hg hbox hb))
          clear hg hbox hb
          clear HS
          have HS := HN
          clear HN
          refine hK.out _ _ ⟨(HS.out.cells 3 rfl).1, (HS.out.cells 3 rfl).2, (HS.out.cells 2 rfl).1, (HS.out.cells 2 rfl).2⟩ (fun hHeld => ?_)
          clear hK K
          refine norm_ (a' := ?_) ?_ ?_
          rotate_left
          · show Act.put _ (some 8) _ = _
            simp only [Act.put, List.setIfInBounds_toArray, List.set_cons_zero, List.set_cons_succ, i64_w, i32_w]
            rfl
          exact norm_ (by first | (simp only [putAll, Act.put, List.setIfInBounds_toArray, List.set_cons_zero, List.set_cons_succ]; done) | (simp only [putAll, Act.put, List.setIfInBounds_toArray, List.set_cons_zero, List.set_cons_succ]; rfl)) (hJ1_3_4_5 ((Av, cv), (Au, cu), gv, gu) _ ⟨hHeld, HS⟩)
      rintro ⟨⟨Av, cv⟩, ⟨Au, cu⟩, gv, gu⟩ w9 ⟨hHeld, HS⟩
      refine norm_ (a' := ?_) ?_ ?_
      rotate_left
      · simp only [putAll, Act.put, List.setIfInBounds_toArray, List.set_cons_zero, List.set_cons_succ]
        rfl
      refine one_ (i := 6) (N := none) #[true, true, true, true, true, true, true, false] rfl rfl (by kernel_rfl) (by decide) (fun K hK => ?_)
      obtain ⟨x0, x1⟩ := HS.out.cells 1 rfl
      have g0 := HS.out.froz 1 rfl 0
      have g1 := HS.out.froz 1 rfl 1
      refine skip_ (w1 := ?_) (by rfl) rfl ?_ ?_
      rotate_left
      · go_simp
        rfl
      clear x0 x1 g0 g1
      have HN := Aside0.mk (HS.out.set2 1 rfl (.bool (vb y)) (.slice Av (vl y).length cv))
      clear HS
      have HS := HN
      clear HN
      refine hK.out _ _ ⟨(HS.out.cells 3 rfl).1, (HS.out.cells 3 rfl).2, (HS.out.cells 2 rfl).1, (HS.out.cells 2 rfl).2⟩ (fun hHeld => ?_)
      clear hK K
      refine one_ (i := 7) (N := none) #[true, true, true, true, true, true, true, true] rfl rfl (by kernel_rfl) (by decide) (fun K hK => ?_)
      obtain ⟨x0, x1⟩ := HS.out.cells 0 rfl
      have g0 := HS.out.froz 0 rfl 0
      have g1 := HS.out.froz 0 rfl 1
      refine skip_ (w1 := ?_) (by rfl) rfl ?_ ?_
      rotate_left
      · go_simp
        rfl
      clear x0 x1 g0 g1
      have HN := Aside0.mk (HS.out.set2 0 rfl (.bool (vb z)) (.slice Au (vl z).length cu))
      clear HS
      have HS := HN
      clear HN
      refine hK.out _ _ ⟨(HS.out.cells 3 rfl).1, (HS.out.cells 3 rfl).2, (HS.out.cells 2 rfl).1, (HS.out.cells 2 rfl).2⟩ (fun hHeld => ?_)
      clear hK K
      refine done_ (by kernel_rfl) ?_
      by_cases hz : z = 0
      · skip
        have hn : vl z = [] := by rw [hz]; exact Bit.bits_zero
        have hq := HQ.out
        have hr := HR.out
        have hm := HM.out
        rw [if_pos hz] at hq hr hm
        clear HQ HR HM
        obtain ⟨e1, e2, he, hq, hr, hm⟩ : ∃ (b : Bool) (l : List Int), l = [] ∧ num_Quo.f n0 l0 n1 l1 = some (b, l, 13) ∧ num_Rem.f n0 l0 n1 l1 = some (b, l, 13) ∧ num_Mod.f n0 l0 n1 l1 = some (b, l, 13) := ⟨_, _, rfl, hq, hr, hm⟩
        have HQ := Aside0.mk hq
        have HR := Aside0.mk hr
        have HM := Aside0.mk hm
        have HE := Aside0.mk he
        have HN0 := Aside0.mk hn
        clear hq hr hm hn hz he
        obtain ⟨ua0, ua1⟩ := HS.out.cells 5 rfl
        obtain ⟨ub0, ub1⟩ := HS.out.cells 4 rfl
        go_wp2_with fail
        refine (num_Quo.calls n0 A0 c0 l0 n1 A1 c1 l1 e1 e2 13 _ (HS.out.came HR0.out) HC0.out (HS.out.came HR1.out) HC1.out HQ.out).mono ?_
        rintro e w3_ ⟨v, rfl, hR, hb⟩
        clear ua0 ua1 ub0 ub1
        obtain ⟨Ax, cx, rfl⟩ := Kd.R_slice hR
        have HN := Aside0.mk (HS.out.call32 hb hR)
        clear HS
        have HS := HN
        clear HN
        clear hb hR
        have HN := Aside0.mk (HS.out.boxed #[.bool e1, .slice Ax e2.length cx] 25 (by decide))
        clear HS
        have HS := HN
        clear HN
        obtain ⟨ua0, ua1⟩ := HS.out.cells 6 rfl
        obtain ⟨ub0, ub1⟩ := HS.out.cells 5 rfl
        go_wp2_with fail
        refine (num_Rem.calls n0 A0 c0 l0 n1 A1 c1 l1 e1 e2 13 _ (HS.out.came HR0.out) HC0.out (HS.out.came HR1.out) HC1.out HR.out).mono ?_
        rintro e w4_ ⟨v, rfl, hR, hb⟩
        clear ua0 ua1 ub0 ub1
        obtain ⟨Ay, cy, rfl⟩ := Kd.R_slice hR
        have HN := Aside0.mk (HS.out.call32 hb hR)
        clear HS
        have HS := HN
        clear HN
        clear hb hR
        have HN := Aside0.mk (HS.out.boxed #[.bool e1, .slice Ay e2.length cy] 25 (by decide))
        clear HS
        have HS := HN
        clear HN
        obtain ⟨ua0, ua1⟩ := HS.out.cells 7 rfl
        obtain ⟨ub0, ub1⟩ := HS.out.cells 6 rfl
        go_wp2_with fail
        refine (num_Mod.calls n0 A0 c0 l0 n1 A1 c1 l1 e1 e2 13 _ (HS.out.came HR0.out) HC0.out (HS.out.came HR1.out) HC1.out HM.out).mono ?_
        rintro e w5_ ⟨v, rfl, hR, hb⟩
        clear ua0 ua1 ub0 ub1
        obtain ⟨Az, cz, rfl⟩ := Kd.R_slice hR
        have HN := Aside0.mk (HS.out.call32 hb hR)
        clear HS
        have HS := HN
        clear HN
        clear hb hR
        have HN := Aside0.mk (HS.out.boxed #[.bool e1, .slice Az e2.length cz] 25 (by decide))
        clear HS
        have HS := HN
        clear HN
        have q1 : (((vl z).length : Int) == 0) = true := by rw [HN0.out]; rfl
        have q2 : ((vl z).length == 0) = true := by rw [HN0.out]; rfl
        have j1 : IntKind.i64.wrap ((e2.length : Int) + (e2.length : Int)) = 0 := by rw [HE.out]; decide
        have j2 : wrap64 ((e2.length : Int) + (e2.length : Int)) = 0 := by rw [HE.out]; unfold wrap64; decide
        have j3 : IntKind.i64.wrap (0 + (e2.length : Int)) = 0 := by rw [HE.out]; decide
        have j4 : wrap64 (0 + (e2.length : Int)) = 0 := by rw [HE.out]; unfold wrap64; decide
        have j5 : IntKind.i64.wrap (e2.length : Int) = 0 := by rw [HE.out]; decide
        have j6 : wrap64 (e2.length : Int) = 0 := by rw [HE.out]; unfold wrap64; decide
        obtain ⟨uu0, uu1⟩ := HS.out.cells 3 rfl
        obtain ⟨ux0, ux1⟩ := HS.out.cells 2 rfl
        obtain ⟨uy0, uy1⟩ := HS.out.cells 1 rfl
        obtain ⟨uz0, uz1⟩ := HS.out.cells 0 rfl
        go_wp2_with fail
        refine (awake_calls _ (NumV.Tab.below HT.out HS.out.below)).mono ?_
        rintro e w6_ ⟨rfl, hb⟩
        clear q1 q2 j1 j2 j3 j4 j5 j6 uu0 uu1 ux0 ux1 uy0 uy1 uz0 uz1
        have HN := Aside0.mk (HS.out.call hb)
        clear HS
        have HS := HN
        clear HN
        clear hb
        go_wp2
        go_ret
        exact ⟨rfl, HS.out.below⟩
      · skip
        have hn : (vl z).length ≠ 0 := by
          intro h
          have h1 := List.length_eq_zero_iff.mp h
          have h2 := Bit.bits_nil.mp h1
          omega
        have t1 : (((vl z).length : Int) == 0) = false := by rw [beq_eq_false_iff_ne]; omega
        have t2 : ((vl z).length == 0) = false := by rw [beq_eq_false_iff_ne]; exact hn
        have t3 : vl z ≠ [] := fun h => hn (by rw [h]; rfl)
        have hq := HQ.out
        have hr := HR.out
        have hm := HM.out
        rw [if_neg hz] at hq hr hm
        clear HQ HR HM
        have HQ := Aside0.mk hq
        have HR := Aside0.mk hr
        have HM := Aside0.mk hm
        obtain ⟨f1, f2⟩ := fmod_lt y z hz
        have e1 : (Int.tdiv y z).natAbs = y.natAbs / z.natAbs := by rw [Int.natAbs_tdiv]; rfl
        have HL1 := Aside0.mk (show (vl (Int.tdiv y z)).length < 1073741824 by have := vl_le (a := Int.tdiv y z) (b := y) (by rw [e1]; exact Nat.div_le_self _ _); have := HV0.out; omega)
        have HL2 := Aside0.mk (show (vl (Int.tmod y z)).length < 1073741824 by have := vl_le (a := Int.tmod y z) (b := z) (by omega); have := HV1.out; omega)
        have HL3 := Aside0.mk (show (vl (Int.fmod y z)).length < 1073741824 by have := vl_le (a := Int.fmod y z) (b := z) (by omega); have := HV1.out; omega)
        have HDV := Lib.hid (fun (A0 : Option Addr) (c0 : Nat) (A1 : Option Addr) (c1 : Nat) (W : World) => RefV.divide_calls y z hz A0 c0 A1 c1 W (by have := HV0.out; omega) (by have := HV1.out; omega))
        generalize Int.tdiv y z = tq at *
        generalize Int.tmod y z = tr at *
        generalize Int.fmod y z = tm at *
        clear hn hq hr hm f1 f2 e1 hz
        obtain ⟨ua0, ua1⟩ := HS.out.cells 5 rfl
        obtain ⟨ub0, ub1⟩ := HS.out.cells 4 rfl
        go_wp2_with fail
        refine (num_Quo.calls n0 A0 c0 l0 n1 A1 c1 l1 (mkI tq).1 (mkI tq).2.1 (mkI tq).2.2 _ (HS.out.came HR0.out) HC0.out (HS.out.came HR1.out) HC1.out HQ.out).mono ?_
        rintro e w3_ ⟨v, rfl, hR, hb⟩
        clear ua0 ua1 ub0 ub1
        obtain ⟨Ax, cx, rfl⟩ := Kd.R_slice hR
        have HN := Aside0.mk (HS.out.call32 hb hR)
        clear HS
        have HS := HN
        clear HN
        clear hb hR
        have HN := Aside0.mk (HS.out.boxed #[.bool (mkI tq).1, .slice Ax (mkI tq).2.1.length cx] 25 (by decide))
        clear HS
        have HS := HN
        clear HN
        obtain ⟨ua0, ua1⟩ := HS.out.cells 6 rfl
        obtain ⟨ub0, ub1⟩ := HS.out.cells 5 rfl
        go_wp2_with fail
        refine (num_Rem.calls n0 A0 c0 l0 n1 A1 c1 l1 (mkI tr).1 (mkI tr).2.1 (mkI tr).2.2 _ (HS.out.came HR0.out) HC0.out (HS.out.came HR1.out) HC1.out HR.out).mono ?_
        rintro e w4_ ⟨v, rfl, hR, hb⟩
        clear ua0 ua1 ub0 ub1
        obtain ⟨Ay, cy, rfl⟩ := Kd.R_slice hR
        have HN := Aside0.mk (HS.out.call32 hb hR)
        clear HS
        have HS := HN
        clear HN
        clear hb hR
        have HN := Aside0.mk (HS.out.boxed #[.bool (mkI tr).1, .slice Ay (mkI tr).2.1.length cy] 25 (by decide))
        clear HS
        have HS := HN
        clear HN
        obtain ⟨ua0, ua1⟩ := HS.out.cells 7 rfl
        obtain ⟨ub0, ub1⟩ := HS.out.cells 6 rfl
        go_wp2_with fail
        refine (num_Mod.calls n0 A0 c0 l0 n1 A1 c1 l1 (mkI tm).1 (mkI tm).2.1 (mkI tm).2.2 _ (HS.out.came HR0.out) HC0.out (HS.out.came HR1.out) HC1.out HM.out).mono ?_
        rintro e w5_ ⟨v, rfl, hR, hb⟩
        clear ua0 ua1 ub0 ub1
        obtain ⟨Az, cz, rfl⟩ := Kd.R_slice hR
        have HN := Aside0.mk (HS.out.call32 hb hR)
        clear HS
        have HS := HN
        clear HN
        clear hb hR
        have HN := Aside0.mk (HS.out.boxed #[.bool (mkI tm).1, .slice Az (mkI tm).2.1.length cz] 25 (by decide))
        clear HS
        have HS := HN
        clear HN
        obtain ⟨uu0, uu1⟩ := HS.out.cells 3 rfl
        obtain ⟨uv0, uv1⟩ := HS.out.cells 4 rfl
        go_wp2_with fail
        clear uu0 uu1 uv0 uv1
        refine (HDV.out Av cv Au cu _ (HS.out.bits 1 rfl).2.2 (HS.out.bits 1 rfl).2.1 (HS.out.bits 0 rfl).2.2 (HS.out.bits 0 rfl).2.1).mono ?_
        rintro e wd ⟨Dq, dq, Dr, dr, Dm, dm, rfl, ⟨kq, hq⟩, ⟨kr, hr⟩, ⟨km, hm⟩, hb⟩
        have HN := Aside0.mk (HS.out.call hb)
        clear HS
        have HS := HN
        clear HN
        clear hb
        have T6 := ((HS.out.boxed #[.bool (vb tq), .slice Dq (vl tq).length dq] 34 (by decide)).boxed #[.bool (vb tr), .slice Dr (vl tr).length dr] 34 (by decide)).boxed #[.bool (vb tm), .slice Dm (vl tm).length dm] 34 (by decide)
        have U6 := (((St.start wd).boxed #[.bool (vb tq), .slice Dq (vl tq).length dq] 34 (by decide)).boxed #[.bool (vb tr), .slice Dr (vl tr).length dr] 34 (by decide)).boxed #[.bool (vb tm), .slice Dm (vl tm).length dm] 34 (by decide)
        simp only [World.size_alloc] at T6 U6
        clear HS
        have HS := Aside0.mk T6
        have HU := Aside0.mk U6
        clear T6 U6
        have KQ := Aside0.mk kq
        have HQQ := Aside0.mk hq
        have KR := Aside0.mk kr
        have HRR := Aside0.mk hr
        have KM := Aside0.mk km
        have HMM := Aside0.mk hm
        clear kq hq kr hr km hm
        obtain ⟨ux0, ux1⟩ := HS.out.cells 5 rfl
        obtain ⟨uX0, uX1⟩ := HS.out.cells 2 rfl
        go_wp2_with fail
        refine (is_calls tq HL1.out Ax cx Dq dq _ (HS.out.limbs 2 rfl).2.2 (HS.out.limbs 2 rfl).2.1 (HU.out.came HQQ.out) KQ.out).mono ?_
        rintro e w6_ ⟨rfl, hb⟩
        clear ux0 ux1 uX0 uX1
        have HV := Aside0.mk (HU.out.call hb)
        clear HU
        have HU := HV
        clear HV
        have HN := Aside0.mk (HS.out.call hb)
        clear HS
        have HS := HN
        clear HN
        clear hb
        obtain ⟨uy0, uy1⟩ := HS.out.cells 4 rfl
        obtain ⟨uY0, uY1⟩ := HS.out.cells 1 rfl
        go_wp2_with fail
        refine (is_calls tr HL2.out Ay cy Dr dr _ (HS.out.limbs 1 rfl).2.2 (HS.out.limbs 1 rfl).2.1 (HU.out.came HRR.out) KR.out).mono ?_
        rintro e w7_ ⟨rfl, hb⟩
        clear uy0 uy1 uY0 uY1
        have HV := Aside0.mk (HU.out.call hb)
        clear HU
        have HU := HV
        clear HV
        have HN := Aside0.mk (HS.out.call hb)
        clear HS
        have HS := HN
        clear HN
        clear hb
        obtain ⟨uz0, uz1⟩ := HS.out.cells 3 rfl
        obtain ⟨uZ0, uZ1⟩ := HS.out.cells 0 rfl
        go_wp2_with fail
        refine (is_calls tm HL3.out Az cz Dm dm _ (HS.out.limbs 0 rfl).2.2 (HS.out.limbs 0 rfl).2.1 (HU.out.came HMM.out) KM.out).mono ?_
        rintro e w8_ ⟨rfl, hb⟩
        clear uz0 uz1 uZ0 uZ1
        have HV := Aside0.mk (HU.out.call hb)
        clear HU
        have HU := HV
        clear HV
        have HN := Aside0.mk (HS.out.call hb)
        clear HS
        have HS := HN
        clear HN
        clear hb
        obtain ⟨ux0, ux1⟩ := HS.out.cells 5 rfl
        go_wp2_with fail
        refine (spoil_calls HS.out 2 rfl (mkI (tq)).1 (okN_mkI _).2).mono ?_
        rintro e w9_ ⟨rfl, hN⟩
        clear ux0 ux1
        clear HS
        have HS := Aside0.mk hN
        clear hN
        obtain ⟨uy0, uy1⟩ := HS.out.cells 4 rfl
        go_wp2_with fail
        refine (spoil_calls HS.out 1 rfl (mkI (tr)).1 (okN_mkI _).2).mono ?_
        rintro e w10_ ⟨rfl, hN⟩
        clear uy0 uy1
        clear HS
        have HS := Aside0.mk hN
        clear hN
        obtain ⟨uz0, uz1⟩ := HS.out.cells 3 rfl
        go_wp2_with fail
        refine (spoil_calls HS.out 0 rfl (mkI (tm)).1 (okN_mkI _).2).mono ?_
        rintro e w11_ ⟨rfl, hN⟩
        clear uz0 uz1
        clear HS
        have HS := Aside0.mk hN
        clear hN
        obtain ⟨ua0, ua1⟩ := HS.out.cells 11 rfl
        obtain ⟨up0, up1⟩ := HS.out.cells 9 rfl
        go_wp2_with fail
        refine (same_calls n0 l0 HK0.out A0 c0 Ap cp _ (HS.out.came HR0.out) HC0.out (HS.out.limbs 1 rfl).2.2 (HS.out.limbs 1 rfl).2.1).mono ?_
        rintro e w12_ ⟨rfl, hb⟩
        clear ua0 ua1 up0 up1
        have HN := Aside0.mk (HS.out.call hb)
        clear HS
        have HS := HN
        clear HN
        clear hb
        obtain ⟨ub0, ub1⟩ := HS.out.cells 10 rfl
        obtain ⟨uq0, uq1⟩ := HS.out.cells 8 rfl
        go_wp2_with fail
        refine (same_calls n1 l1 HK1.out A1 c1 Aq cq _ (HS.out.came HR1.out) HC1.out (HS.out.limbs 0 rfl).2.2 (HS.out.limbs 0 rfl).2.1).mono ?_
        rintro e w13_ ⟨rfl, hb⟩
        clear ub0 ub1 uq0 uq1
        have HN := Aside0.mk (HS.out.call hb)
        clear HS
        have HS := HN
        clear HN
        clear hb
        go_wp2_with fail
        refine (awake_calls _ (NumV.Tab.below HT.out HS.out.below)).mono ?_
        rintro e w14_ ⟨rfl, hb⟩
        have HN := Aside0.mk (HS.out.call hb)
        clear HS
        have HS := HN
        clear HN
        clear hb
        go_wp2
        go_ret
        exact ⟨rfl, HS.out.below⟩
end Go.Proofs.YthhpnlbeniihhaaDoor.WalkDivides
