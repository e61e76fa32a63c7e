/- Contracts and plain laws that the row's proof uses (part 5). Conditions: those that each states. -/
import Derived.Test.YthhpnlbeniihhaaDoorCNumAdds4
-- Printed by a program of this session's (wip/tools/printr.py, over the kit's print program).
namespace Go.Proofs.YthhpnlbeniihhaaDoor.PNumAdds
open Go.RowKit Go.Proofs.YthhpnlbeniihhaaDoorW.PrintWords Go.Proofs.YthhpnlbeniihhaaDoorW.PrintLast Go.Proofs.YthhpnlbeniihhaaDoorW.PrintMore
attribute [local go_sem] max2_int min2_int max_two min_two max_three min_three max_four min_four   -- for this text's walks alone
set_option linter.unusedVariables false
set_option linter.unusedSimpArgs false
mutual
def morainelaw02_NumAdds.j0 : Nat → Bool → Bool → List Int → Bool → List Int → Option (Bool)
 | 0, _, _, _, _, _ => none
 | k + 1, x18, x115000, x115001, x116000, x116001 => if x18 = true then ((morainelaw02_awake.f).bind fun t118 => (some t118)) else ((moraineref02_Copy.f x115000 x115001).bind fun bt119 => ((moraineref02_Copy.f x116000 x116001).bind fun bt123 => ((moraineref02_Value.f bt119.1 bt119.2).bind fun bt129 => ((moraineref02_Value.f bt123.1 bt123.2).bind fun bt133 => ((num_Add.f x115000 x115001 x116000 x116001).bind fun bt139 => ((num_Sub.f x115000 x115001 x116000 x116001).bind fun bt145 => ((num_Cmp.f x115000 x115001 x116000 x116001).bind fun t151 => ((moraineref02_Cmp.f bt129.1 bt129.2 bt133.1 bt133.2).bind fun t152 => (if t151 = t152 then ((moraineref02_Add.f bt129.1 bt129.2 bt133.1 bt133.2).bind fun bt153 => ((morainelaw02_is.f bt139.1 bt139.2.1 bt139.2.2 bt153.1 bt153.2).bind fun t157 => (if t157 = true then ((moraineref02_Turn.f bt133.1 bt133.2).bind fun bt158 => ((moraineref02_Add.f bt129.1 bt129.2 bt158.1 bt158.2).bind fun bt162 => ((morainelaw02_is.f bt145.1 bt145.2.1 bt145.2.2 bt162.1 bt162.2).bind fun t166 => (morainelaw02_NumAdds.j1 k (!t166) x115000 x115001 x116000 x116001 bt119.1 bt119.2 bt123.1 bt123.2 bt139.1 bt139.2.1 bt145.1 bt145.2.1)))) else (morainelaw02_NumAdds.j1 k true x115000 x115001 x116000 x116001 bt119.1 bt119.2 bt123.1 bt123.2 bt139.1 bt139.2.1 bt145.1 bt145.2.1)))) else (morainelaw02_NumAdds.j1 k true x115000 x115001 x116000 x116001 bt119.1 bt119.2 bt123.1 bt123.2 bt139.1 bt139.2.1 bt145.1 bt145.2.1))))))))))
def morainelaw02_NumAdds.j1 : Nat → Bool → Bool → List Int → Bool → List Int → Bool → List Int → Bool → List Int → Bool → List Int → Bool → List Int → Option (Bool)
 | 0, _, _, _, _, _, _, _, _, _, _, _, _, _ => none
 | k + 1, x65, x115000, x115001, x116000, x116001, x128000, x128001, x129000, x129001, x145000, x145001, x151000, x151001 => if x65 = true then (some false) else ((morainelaw02_spoil.f k x145000 x145001).bind fun t167 => ((morainelaw02_spoil.f k x151000 x151001).bind fun t168 => ((moraineref02_Same.f x115000 x115001 x128000 x128001).bind fun t169 => (if t169 = true then ((moraineref02_Same.f x116000 x116001 x129000 x129001).bind fun t170 => (if t170 = true then ((morainelaw02_awake.f).bind fun t171 => (some t171)) else (some false))) else (some false)))))
end
def morainelaw02_NumAdds.f (k : Nat) (a0_0 : Bool) (l0_1 : List Int) (a1_0 : Bool) (l1_1 : List Int) : Option (Bool) := (morainelaw02_long.f a0_0 l0_1).bind fun t116 => (if t116 = true then (morainelaw02_NumAdds.j0 k true a0_0 l0_1 a1_0 l1_1) else ((morainelaw02_long.f a1_0 l1_1).bind fun t117 => (morainelaw02_NumAdds.j0 k t117 a0_0 l0_1 a1_0 l1_1)))
def morainelaw02_NumAdds.T3 : Bool × List (List Nat × List Nat) := (true, [([], []), ([0], [0]), ([], []), ([2, 1], [2]), ([], []), ([], []), ([4, 1, 3, 0, 1, 4, 5], [1, 4]), ([5, 3, 6, 0, 1, 2, 3, 4, 5, 6], [3, 5])])
def morainelaw02_NumAdds.B3 : List Nat := [0, 1, 0, 7, 0, 0, 63, 127]
theorem morainelaw02_NumAdds.tab3 : rtab .any (opsOf Tryd.f10 3) = morainelaw02_NumAdds.T3 := by kernel_rfl
theorem morainelaw02_NumAdds.bits3 : waitsOk morainelaw02_NumAdds.T3.2 morainelaw02_NumAdds.B3 = true := by kernel_rfl
def morainelaw02_NumAdds.T4 : Bool × List (List Nat × List Nat) := (true, [([], []), ([0], [0]), ([], []), ([2, 1], [2]), ([], []), ([], []), ([4, 1, 3, 0, 1, 4, 5], [1, 4]), ([5, 3, 6, 0, 1, 2, 3, 4, 5, 6], [3, 5])])
def morainelaw02_NumAdds.B4 : List Nat := [0, 1, 0, 7, 0, 0, 63, 127]
theorem morainelaw02_NumAdds.tab4 : rtab .any (opsOf Tryd.f10 4) = morainelaw02_NumAdds.T4 := by kernel_rfl
theorem morainelaw02_NumAdds.bits4 : waitsOk morainelaw02_NumAdds.T4.2 morainelaw02_NumAdds.B4 = true := by kernel_rfl
def morainelaw02_NumAdds.T7 : Bool × List (List Nat × List Nat) := (true, [([], []), ([], []), ([0, 1], [0, 1]), ([], []), ([], []), ([3, 4, 2], [3, 4]), ([2, 5], [2, 5]), ([6, 5], [6]), ([7], [7]), ([7], [7]), ([7], [7]), ([7], [7]), ([10, 11, 7, 7], [7, 10, 11]), ([8, 9, 12, 12, 7], [7, 8, 9, 12]), ([13, 7], [7, 13]), ([7, 14], [7, 14]), ([15, 13], [15]), ([16], [16]), ([16], [16]), ([16], [16]), ([16], [16]), ([20, 16, 16], [16, 20]), ([19, 21, 21, 16], [16, 19, 21]), ([17, 18, 22, 22, 16], [16, 17, 18, 22]), ([23, 16], [16, 23]), ([16, 24], [16, 24])])
def morainelaw02_NumAdds.B7 : List Nat := [0, 0, 3, 0, 0, 31, 63, 127, 255, 255, 255, 255, 3327, 8191, 16383, 32767, 65535, 131071, 131071, 131071, 131071, 1179647, 3801087, 8388607, 16777215, 33554431]
theorem morainelaw02_NumAdds.tab7 : rtab .any (opsOf Tryd.f10 7) = morainelaw02_NumAdds.T7 := by kernel_rfl
theorem morainelaw02_NumAdds.bits7 : waitsOk morainelaw02_NumAdds.T7.2 morainelaw02_NumAdds.B7 = true := by kernel_rfl
set_option maxHeartbeats 8000000 in
set_option maxRecDepth 100000 in
theorem morainelaw02_NumAdds.calls (k : Nat) (a0_0 : Bool) (A0_1 : Option Addr) (c0_1 : Nat) (l0_1 : List Int) (a1_0 : Bool) (A1_1 : Option Addr) (c1_1 : Nat) (l1_1 : List Int) (r : Bool) (w : World) (hr : r = true) (hr0_1 : Kd.C (Kd.int .u32) w A0_1 l0_1.length l0_1) (hc0_1 : l0_1.length ≤ c0_1) (hr1_1 : Kd.C (Kd.int .u32) w A1_1 l1_1.length l1_1) (hc1_1 : l1_1.length ≤ c1_1) (h : morainelaw02_NumAdds.f k a0_0 l0_1 a1_0 l1_1 = some r) (ht : NumV.Tab w) :
  Calls Tryd.prog 10 #[.agg #[.bool a0_0, .slice A0_1 l0_1.length c0_1], .agg #[.bool a1_0, .slice A1_1 l1_1.length c1_1]] w fun e w' => e = .returned (.bool r) ∧ Below w.heap.size w w' := by
 have HT := Aside0.mk ht
 clear ht
 have hu25 := Tryd.underlying25
 have hu34 := Tryd.underlying34
 have HR0_1 := Aside0.mk hr0_1
 have HC0_1 := Aside0.mk hc0_1
 clear hr0_1 hc0_1
 have HR1_1 := Aside0.mk hr1_1
 have HC1_1 := Aside0.mk hc1_1
 clear hr1_1 hc1_1
 have HB := Aside0.mk (Below.refl w.heap.size w)
 have H : ((morainelaw02_long.f a0_0 l0_1).bind fun t116 => (if t116 = true then (morainelaw02_NumAdds.j0 k true a0_0 l0_1 a1_0 l1_1) else ((morainelaw02_long.f a1_0 l1_1).bind fun t117 => (morainelaw02_NumAdds.j0 k t117 a0_0 l0_1 a1_0 l1_1)))) = some r := h
 clear h
 have HC3 := Aside0.mk H
 clear H
 go_enter Tryd.func10, Tryd.ntmps10
 go_upto_region 1 with (first | ((with_reducible refine gate_dst (N := 2) rfl ?_); refine box_event ?hg (N := 2) ?hd (cs := #[.bool a0_0, .slice A0_1 l0_1.length c0_1]) (t := 25) ?hr ?_; (case hd => rfl); (case hg => rfl); (case hr => go_simp <;> rfl); intro gb114 hg w4 hbox hb; have BK114 := Aside0.mk (hbox); have GW114 := qg hg (by repeat (first | (with_reducible first | exact HB.out | apply qx | apply qv | apply qw) | exact HB.out)); have GE114 := GW114; replace HB := Aside0.mk (below_step (by repeat (first | (with_reducible first | exact HB.out | apply qx | apply qv | apply qw) | exact HB.out)) hb); clear hb hbox hg) | ((with_reducible refine gate_dst (N := 3) rfl ?_); refine box_event ?hg (N := 3) ?hd (cs := #[.bool a1_0, .slice A1_1 l1_1.length c1_1]) (t := 25) ?hr ?_; (case hd => rfl); (case hg => rfl); (case hr => go_simp <;> rfl); intro gb115 hg w5 hbox hb; have BK115 := Aside0.mk (hbox); have GW115 := qg hg (by repeat (first | (with_reducible first | exact HB.out | apply qx | apply qv | apply qw | refine below_set ?_ GE114.out) | exact HB.out)); have GE115 := GW115; replace HB := Aside0.mk (below_step (by repeat (first | (with_reducible first | exact HB.out | apply qx | apply qv | apply qw | refine below_set ?_ GE114.out) | exact HB.out)) hb); have NB114_115 := qn BK114 hg; have NB115_114 := qm BK114 hg; replace BK114 := qb BK114 hb; clear hb hbox hg))
 (try simp only [Act.put, zA, zB, zC])
 go_cut [18] (fun v18 wc => ∃ (kq : Nat) (x18_2 : Bool), v18 = .bool x18_2 ∧ Aside0 (morainelaw02_NumAdds.j0 kq x18_2 a0_0 l0_1 a1_0 l1_1 = some r) ∧ Aside0 (kq ≤ k) ∧ Aside0 (wc.heap[gb114]? = some (.cells #[.bool a0_0, (.slice A0_1 l0_1.length c0_1)] 25 (0, 0))) ∧ Aside0 (wc.heap[gb115]? = some (.cells #[.bool a1_0, (.slice A1_1 l1_1.length c1_1)] 25 (0, 0))) ∧ Aside0 (Below w.heap.size w wc))
 case first =>
  have H := HC3.out
  clear HC3
  replace H := Option.bind_eq_some_iff.mp H
  obtain ⟨t116, A60, H⟩ := H
  replace H : (if t116 = true then (morainelaw02_NumAdds.j0 k true a0_0 l0_1 a1_0 l1_1) else ((morainelaw02_long.f a1_0 l1_1).bind fun t117 => (morainelaw02_NumAdds.j0 k t117 a0_0 l0_1 a1_0 l1_1))) = some r := H
  have A6 := Aside0.mk A60
  clear A60
  by_cases c7 : t116 = true
  ·subst c7
   have H1 : (morainelaw02_NumAdds.j0 k true a0_0 l0_1 a1_0 l1_1) = some r := by rw [if_pos rfl] at H; exact H
   clear H
   have H := H1
   clear H1
   have H' := Aside0.mk H
   clear H
   have hnb8 := NB114_115.out
   have hnc8 := NB115_114.out
   have hcz9_0 : w5.cell? ⟨gb114, 0, none⟩ = some (.bool a0_0) := qc BK114 0
   have hcz9_1 : w5.cell? ⟨gb114, 1, none⟩ = some (.slice A0_1 l0_1.length c0_1) := qc BK114 1
   have hfz9_0 := blk_frozen BK114.out 0
   have hfz9_1 := blk_frozen BK114.out 1
   go_wp2_with (first | ((with_reducible refine gate_callee (f := 21) rfl ?_); refine goesL_ (some 14) rfl rfl Tryd.func21 (by kernel_rfl) rfl #[.agg #[.bool a0_0, .slice A0_1 l0_1.length c0_1]] rfl (by (try simp only [zM, zO, zP]); first|done|rfl) ?_; (with_reducible refine (morainelaw02_long.calls a0_0 _ _ l0_1 true _ ?side1 ?side2 A6.out).mono ?_); (case side1 => exact qC HR0_1 HB); (case side2 => exact HC0_1.out); rintro e w10 ⟨rfl, hb⟩; refine ⟨_, rfl, ?_⟩; replace BK114 := qb BK114 hb; replace BK115 := qb BK115 hb; replace HB := Aside0.mk (below_step (by repeat with_reducible first|exact HB.out|apply qx|apply qv|apply qw|refine qs ?_ (by assumption)) hb); (try clear hb); (try clear hb2); (try clear hk); (try clear hi)))
   go_meet
   case rel => exact ⟨_, (true), (by first | rfl | (simp; done) | (simp [*]; done)), H', ⟨by first | omega | exact Nat.le_refl _⟩, ⟨qk BK114⟩, ⟨qk BK115⟩, ⟨by repeat (first | (with_reducible first | exact HB.out | apply qx | apply qv | apply qw | refine qs ?_ (by assumption)) | exact HB.out)⟩⟩
  ·replace c7 := Bool.eq_false_iff.mpr c7
   subst c7
   have H1 : ((morainelaw02_long.f a1_0 l1_1).bind fun t117 => (morainelaw02_NumAdds.j0 k t117 a0_0 l0_1 a1_0 l1_1)) = some r := by rw [if_neg (show ¬ (false = true) by decide)] at H; exact H
   clear H
   have H := H1
   clear H1
   replace H := Option.bind_eq_some_iff.mp H
   obtain ⟨t117, A110, H⟩ := H
   replace H : (morainelaw02_NumAdds.j0 k t117 a0_0 l0_1 a1_0 l1_1) = some r := H
   have A11 := Aside0.mk A110
   clear A110
   have H' := Aside0.mk H
   clear H
   have hnb12 := NB114_115.out
   have hnc12 := NB115_114.out
   have hcz13_0 : w5.cell? ⟨gb114, 0, none⟩ = some (.bool a0_0) := qc BK114 0
   have hcz13_1 : w5.cell? ⟨gb114, 1, none⟩ = some (.slice A0_1 l0_1.length c0_1) := qc BK114 1
   have hfz13_0 := blk_frozen BK114.out 0
   have hfz13_1 := blk_frozen BK114.out 1
   go_wp2_with (first | ((with_reducible refine gate_callee (f := 21) rfl ?_); refine goesL_ (some 14) rfl rfl Tryd.func21 (by kernel_rfl) rfl #[.agg #[.bool a0_0, .slice A0_1 l0_1.length c0_1]] rfl (by (try simp only [zM, zO, zP]); first|done|rfl) ?_; (with_reducible refine (morainelaw02_long.calls a0_0 _ _ l0_1 false _ ?side1 ?side2 A6.out).mono ?_); (case side1 => exact qC HR0_1 HB); (case side2 => exact HC0_1.out); rintro e w14 ⟨rfl, hb⟩; refine ⟨_, rfl, ?_⟩; replace BK114 := qb BK114 hb; replace BK115 := qb BK115 hb; replace HB := Aside0.mk (below_step (by repeat with_reducible first|exact HB.out|apply qx|apply qv|apply qw|refine qs ?_ (by assumption)) hb); (try clear hb); (try clear hb2); (try clear hk); (try clear hi); have hcz15_0 : w14.cell? ⟨gb115, 0, none⟩ = some (.bool a1_0) := qc BK115 0; have hcz15_1 : w14.cell? ⟨gb115, 1, none⟩ = some (.slice A1_1 l1_1.length c1_1) := qc BK115 1; have hfz15_0 := blk_frozen BK115.out 0; have hfz15_1 := blk_frozen BK115.out 1) | (go_at_call 21; (with_reducible refine (morainelaw02_long.calls a1_0 _ _ l1_1 t117 _ ?side1 ?side2 A11.out).mono ?_); (case side1 => exact qC HR1_1 HB); (case side2 => exact HC1_1.out); rintro e w16 ⟨rfl, hb⟩; replace BK114 := qb BK114 hb; replace BK115 := qb BK115 hb; replace HB := Aside0.mk (below_step (by repeat with_reducible first|exact HB.out|apply qx|apply qv|apply qw|refine qs ?_ (by assumption)) hb); (try clear hb); (try clear hb2); (try clear hk); (try clear hi)))
   go_meet
   case rel => exact ⟨_, (t117), (by first | rfl | (simp; done) | (simp [*]; done)), H', ⟨by first | omega | exact Nat.le_refl _⟩, ⟨qk BK114⟩, ⟨qk BK115⟩, ⟨by repeat (first | (with_reducible first | exact HB.out | apply qx | apply qv | apply qw | refine qs ?_ (by assumption)) | exact HB.out)⟩⟩
 case rest =>
  clear HC3
  try clear c1
  try clear c2
  try clear p2
  try clear c7
  try clear c8
  try clear c10
  try clear c12
  try clear hcz13_0
  try clear hcz13_1
  try clear hcz15_0
  try clear hcz15_1
  try clear hcz9_0
  try clear hcz9_1
  try clear hfz13_0
  try clear hfz13_1
  try clear hfz15_0
  try clear hfz15_1
  try clear hfz9_0
  try clear hfz9_1
  obtain ⟨kq, x18_2, rfl, HA, HJ2, BK114, BK115, HB⟩ := hcut
  cases kq with
  | zero => exact absurd HA.out (by simp [morainelaw02_NumAdds.j0])
  | succ kj2 =>
   have H := HA.out
   clear HA
   simp only [morainelaw02_NumAdds.j0] at H
   by_cases c17 : x18_2 = true
   ·subst c17
    have H1 : ((morainelaw02_awake.f).bind fun t118 => (some t118)) = some r := by rw [if_pos rfl] at H; exact H
    clear H
    have H := H1
    clear H1
    replace H := Option.bind_eq_some_iff.mp H
    obtain ⟨t118, A180, H⟩ := H
    replace H : (some t118) = some r := H
    have A18 := Aside0.mk A180
    clear A180
    obtain rfl := Option.some.inj H
    go_wp2_with (first | ((with_reducible refine gate_callee (f := 20) rfl ?_); refine goesL_ (some 19) rfl rfl Tryd.func20 (by kernel_rfl) rfl #[] rfl (by (try simp only [zM, zO, zP]); first|done|rfl) ?_; (with_reducible refine (morainelaw02_awake.calls  t118 _ A18.out (NumV.Tab.below HT.out (by repeat (first | exact HB.out | apply qx | apply qv | apply qw | refine below_set ?_ (Aside0.out (by assumption)))))).mono ?_); rintro e w19 ⟨rfl, hb⟩; refine ⟨_, rfl, ?_⟩; replace BK114 := qb BK114 hb; replace BK115 := qb BK115 hb; replace HB := Aside0.mk (below_step (by repeat with_reducible first|exact HB.out|apply qx|apply qv|apply qw|refine qs ?_ (by assumption)) hb); (try clear hb); (try clear hb2); (try clear hk); (try clear hi)))
    go_ret
    exact ⟨by first | rfl | (simp [errW_none, errW_some] <;> rfl) | (simp [*, errW_none, errW_some] <;> rfl), by repeat (first | (with_reducible first | exact HB.out | apply qx | apply qv | apply qw | refine qs ?_ (by assumption)) | exact HB.out)⟩
   ·replace c17 := Bool.eq_false_iff.mpr c17
    subst c17
    have H1 : ((moraineref02_Copy.f a0_0 l0_1).bind fun bt119 => ((moraineref02_Copy.f a1_0 l1_1).bind fun bt123 => ((moraineref02_Value.f bt119.1 bt119.2).bind fun bt129 => ((moraineref02_Value.f bt123.1 bt123.2).bind fun bt133 => ((num_Add.f a0_0 l0_1 a1_0 l1_1).bind fun bt139 => ((num_Sub.f a0_0 l0_1 a1_0 l1_1).bind fun bt145 => ((num_Cmp.f a0_0 l0_1 a1_0 l1_1).bind fun t151 => ((moraineref02_Cmp.f bt129.1 bt129.2 bt133.1 bt133.2).bind fun t152 => (if t151 = t152 then ((moraineref02_Add.f bt129.1 bt129.2 bt133.1 bt133.2).bind fun bt153 => ((morainelaw02_is.f bt139.1 bt139.2.1 bt139.2.2 bt153.1 bt153.2).bind fun t157 => (if t157 = true then ((moraineref02_Turn.f bt133.1 bt133.2).bind fun bt158 => ((moraineref02_Add.f bt129.1 bt129.2 bt158.1 bt158.2).bind fun bt162 => ((morainelaw02_is.f bt145.1 bt145.2.1 bt145.2.2 bt162.1 bt162.2).bind fun t166 => (morainelaw02_NumAdds.j1 kj2 (!t166) a0_0 l0_1 a1_0 l1_1 bt119.1 bt119.2 bt123.1 bt123.2 bt139.1 bt139.2.1 bt145.1 bt145.2.1)))) else (morainelaw02_NumAdds.j1 kj2 true a0_0 l0_1 a1_0 l1_1 bt119.1 bt119.2 bt123.1 bt123.2 bt139.1 bt139.2.1 bt145.1 bt145.2.1)))) else (morainelaw02_NumAdds.j1 kj2 true a0_0 l0_1 a1_0 l1_1 bt119.1 bt119.2 bt123.1 bt123.2 bt139.1 bt139.2.1 bt145.1 bt145.2.1)))))))))) = some r := by rw [if_neg (show ¬ (false = true) by decide)] at H; exact H
    clear H
    have H := H1
    clear H1
    replace H := Option.bind_eq_some_iff.mp H
    obtain ⟨⟨t119, t120⟩, A200, H⟩ := H
    replace H : ((moraineref02_Copy.f a1_0 l1_1).bind fun bt123 => ((moraineref02_Value.f t119 t120).bind fun bt129 => ((moraineref02_Value.f bt123.1 bt123.2).bind fun bt133 => ((num_Add.f a0_0 l0_1 a1_0 l1_1).bind fun bt139 => ((num_Sub.f a0_0 l0_1 a1_0 l1_1).bind fun bt145 => ((num_Cmp.f a0_0 l0_1 a1_0 l1_1).bind fun t151 => ((moraineref02_Cmp.f bt129.1 bt129.2 bt133.1 bt133.2).bind fun t152 => (if t151 = t152 then ((moraineref02_Add.f bt129.1 bt129.2 bt133.1 bt133.2).bind fun bt153 => ((morainelaw02_is.f bt139.1 bt139.2.1 bt139.2.2 bt153.1 bt153.2).bind fun t157 => (if t157 = true then ((moraineref02_Turn.f bt133.1 bt133.2).bind fun bt158 => ((moraineref02_Add.f bt129.1 bt129.2 bt158.1 bt158.2).bind fun bt162 => ((morainelaw02_is.f bt145.1 bt145.2.1 bt145.2.2 bt162.1 bt162.2).bind fun t166 => (morainelaw02_NumAdds.j1 kj2 (!t166) a0_0 l0_1 a1_0 l1_1 t119 t120 bt123.1 bt123.2 bt139.1 bt139.2.1 bt145.1 bt145.2.1)))) else (morainelaw02_NumAdds.j1 kj2 true a0_0 l0_1 a1_0 l1_1 t119 t120 bt123.1 bt123.2 bt139.1 bt139.2.1 bt145.1 bt145.2.1)))) else (morainelaw02_NumAdds.j1 kj2 true a0_0 l0_1 a1_0 l1_1 t119 t120 bt123.1 bt123.2 bt139.1 bt139.2.1 bt145.1 bt145.2.1))))))))) = some r := H
    have A20 := Aside0.mk A200
    clear A200
    replace H := Option.bind_eq_some_iff.mp H
    obtain ⟨⟨t123, t124⟩, A210, H⟩ := H
    replace H : ((moraineref02_Value.f t119 t120).bind fun bt129 => ((moraineref02_Value.f t123 t124).bind fun bt133 => ((num_Add.f a0_0 l0_1 a1_0 l1_1).bind fun bt139 => ((num_Sub.f a0_0 l0_1 a1_0 l1_1).bind fun bt145 => ((num_Cmp.f a0_0 l0_1 a1_0 l1_1).bind fun t151 => ((moraineref02_Cmp.f bt129.1 bt129.2 bt133.1 bt133.2).bind fun t152 => (if t151 = t152 then ((moraineref02_Add.f bt129.1 bt129.2 bt133.1 bt133.2).bind fun bt153 => ((morainelaw02_is.f bt139.1 bt139.2.1 bt139.2.2 bt153.1 bt153.2).bind fun t157 => (if t157 = true then ((moraineref02_Turn.f bt133.1 bt133.2).bind fun bt158 => ((moraineref02_Add.f bt129.1 bt129.2 bt158.1 bt158.2).bind fun bt162 => ((morainelaw02_is.f bt145.1 bt145.2.1 bt145.2.2 bt162.1 bt162.2).bind fun t166 => (morainelaw02_NumAdds.j1 kj2 (!t166) a0_0 l0_1 a1_0 l1_1 t119 t120 t123 t124 bt139.1 bt139.2.1 bt145.1 bt145.2.1)))) else (morainelaw02_NumAdds.j1 kj2 true a0_0 l0_1 a1_0 l1_1 t119 t120 t123 t124 bt139.1 bt139.2.1 bt145.1 bt145.2.1)))) else (morainelaw02_NumAdds.j1 kj2 true a0_0 l0_1 a1_0 l1_1 t119 t120 t123 t124 bt139.1 bt139.2.1 bt145.1 bt145.2.1)))))))) = some r := H
    have A21 := Aside0.mk A210
    clear A210
    replace H := Option.bind_eq_some_iff.mp H
    obtain ⟨⟨t129, t130⟩, A220, H⟩ := H
    replace H : ((moraineref02_Value.f t123 t124).bind fun bt133 => ((num_Add.f a0_0 l0_1 a1_0 l1_1).bind fun bt139 => ((num_Sub.f a0_0 l0_1 a1_0 l1_1).bind fun bt145 => ((num_Cmp.f a0_0 l0_1 a1_0 l1_1).bind fun t151 => ((moraineref02_Cmp.f t129 t130 bt133.1 bt133.2).bind fun t152 => (if t151 = t152 then ((moraineref02_Add.f t129 t130 bt133.1 bt133.2).bind fun bt153 => ((morainelaw02_is.f bt139.1 bt139.2.1 bt139.2.2 bt153.1 bt153.2).bind fun t157 => (if t157 = true then ((moraineref02_Turn.f bt133.1 bt133.2).bind fun bt158 => ((moraineref02_Add.f t129 t130 bt158.1 bt158.2).bind fun bt162 => ((morainelaw02_is.f bt145.1 bt145.2.1 bt145.2.2 bt162.1 bt162.2).bind fun t166 => (morainelaw02_NumAdds.j1 kj2 (!t166) a0_0 l0_1 a1_0 l1_1 t119 t120 t123 t124 bt139.1 bt139.2.1 bt145.1 bt145.2.1)))) else (morainelaw02_NumAdds.j1 kj2 true a0_0 l0_1 a1_0 l1_1 t119 t120 t123 t124 bt139.1 bt139.2.1 bt145.1 bt145.2.1)))) else (morainelaw02_NumAdds.j1 kj2 true a0_0 l0_1 a1_0 l1_1 t119 t120 t123 t124 bt139.1 bt139.2.1 bt145.1 bt145.2.1))))))) = some r := H
    have A22 := Aside0.mk A220
    clear A220
    replace H := Option.bind_eq_some_iff.mp H
    obtain ⟨⟨t133, t134⟩, A230, H⟩ := H
    replace H : ((num_Add.f a0_0 l0_1 a1_0 l1_1).bind fun bt139 => ((num_Sub.f a0_0 l0_1 a1_0 l1_1).bind fun bt145 => ((num_Cmp.f a0_0 l0_1 a1_0 l1_1).bind fun t151 => ((moraineref02_Cmp.f t129 t130 t133 t134).bind fun t152 => (if t151 = t152 then ((moraineref02_Add.f t129 t130 t133 t134).bind fun bt153 => ((morainelaw02_is.f bt139.1 bt139.2.1 bt139.2.2 bt153.1 bt153.2).bind fun t157 => (if t157 = true then ((moraineref02_Turn.f t133 t134).bind fun bt158 => ((moraineref02_Add.f t129 t130 bt158.1 bt158.2).bind fun bt162 => ((morainelaw02_is.f bt145.1 bt145.2.1 bt145.2.2 bt162.1 bt162.2).bind fun t166 => (morainelaw02_NumAdds.j1 kj2 (!t166) a0_0 l0_1 a1_0 l1_1 t119 t120 t123 t124 bt139.1 bt139.2.1 bt145.1 bt145.2.1)))) else (morainelaw02_NumAdds.j1 kj2 true a0_0 l0_1 a1_0 l1_1 t119 t120 t123 t124 bt139.1 bt139.2.1 bt145.1 bt145.2.1)))) else (morainelaw02_NumAdds.j1 kj2 true a0_0 l0_1 a1_0 l1_1 t119 t120 t123 t124 bt139.1 bt139.2.1 bt145.1 bt145.2.1)))))) = some r := H
    have A23 := Aside0.mk A230
    clear A230
    replace H := Option.bind_eq_some_iff.mp H
    obtain ⟨⟨t139, t140, t143⟩, A240, H⟩ := H
    replace H : ((num_Sub.f a0_0 l0_1 a1_0 l1_1).bind fun bt145 => ((num_Cmp.f a0_0 l0_1 a1_0 l1_1).bind fun t151 => ((moraineref02_Cmp.f t129 t130 t133 t134).bind fun t152 => (if t151 = t152 then ((moraineref02_Add.f t129 t130 t133 t134).bind fun bt153 => ((morainelaw02_is.f t139 t140 t143 bt153.1 bt153.2).bind fun t157 => (if t157 = true then ((moraineref02_Turn.f t133 t134).bind fun bt158 => ((moraineref02_Add.f t129 t130 bt158.1 bt158.2).bind fun bt162 => ((morainelaw02_is.f bt145.1 bt145.2.1 bt145.2.2 bt162.1 bt162.2).bind fun t166 => (morainelaw02_NumAdds.j1 kj2 (!t166) a0_0 l0_1 a1_0 l1_1 t119 t120 t123 t124 t139 t140 bt145.1 bt145.2.1)))) else (morainelaw02_NumAdds.j1 kj2 true a0_0 l0_1 a1_0 l1_1 t119 t120 t123 t124 t139 t140 bt145.1 bt145.2.1)))) else (morainelaw02_NumAdds.j1 kj2 true a0_0 l0_1 a1_0 l1_1 t119 t120 t123 t124 t139 t140 bt145.1 bt145.2.1))))) = some r := H
    have A24 := Aside0.mk A240
    clear A240
    replace H := Option.bind_eq_some_iff.mp H
    obtain ⟨⟨t145, t146, t149⟩, A250, H⟩ := H
    replace H : ((num_Cmp.f a0_0 l0_1 a1_0 l1_1).bind fun t151 => ((moraineref02_Cmp.f t129 t130 t133 t134).bind fun t152 => (if t151 = t152 then ((moraineref02_Add.f t129 t130 t133 t134).bind fun bt153 => ((morainelaw02_is.f t139 t140 t143 bt153.1 bt153.2).bind fun t157 => (if t157 = true then ((moraineref02_Turn.f t133 t134).bind fun bt158 => ((moraineref02_Add.f t129 t130 bt158.1 bt158.2).bind fun bt162 => ((morainelaw02_is.f t145 t146 t149 bt162.1 bt162.2).bind fun t166 => (morainelaw02_NumAdds.j1 kj2 (!t166) a0_0 l0_1 a1_0 l1_1 t119 t120 t123 t124 t139 t140 t145 t146)))) else (morainelaw02_NumAdds.j1 kj2 true a0_0 l0_1 a1_0 l1_1 t119 t120 t123 t124 t139 t140 t145 t146)))) else (morainelaw02_NumAdds.j1 kj2 true a0_0 l0_1 a1_0 l1_1 t119 t120 t123 t124 t139 t140 t145 t146)))) = some r := H
    have A25 := Aside0.mk A250
    clear A250
    have HC26 := Aside0.mk H
    clear H
    try go_wp2
    replace BK114 := Aside0.mk (blk_drew BK114.out)
    replace BK115 := Aside0.mk (blk_drew BK115.out)
    replace HB := Aside0.mk (below_drew1 HB.out)
    refine start_ (n := 8) (S := fun w' => w'.cell? ⟨gb114, 0, none⟩ = some (.bool a0_0) ∧ w'.cell? ⟨gb114, 1, none⟩ = some (.slice A0_1 l0_1.length c0_1) ∧ w'.cell? ⟨gb115, 0, none⟩ = some (.bool a1_0) ∧ w'.cell? ⟨gb115, 1, none⟩ = some (.slice A1_1 l1_1.length c1_1)) (ds := []) #[false, false, false, false, false, false, false, false] (by kernel_rfl) rfl rfl ⟨qc BK114 0, qc BK114 1, qc BK115 0, qc BK115 1⟩ (fun hHeld => ?_); refine with_tabW morainelaw02_NumAdds.tab3 morainelaw02_NumAdds.bits3 (fun HT_ HW_ => ?_)
    generalize wc.drew = w27 at BK114 BK115 HB hHeld ⊢
    refine take_ (i := 0) (N := some 20) (v := ?_) (a' := ?_) #[true, false, false, false, false, false, false, false] rfl rfl (take_ofW HT_.out HW_.out (by kernel_rfl)) (fun _ _ _ h => h) (Or.inl ⟨by rfl, ?_⟩) hHeld ?_ ?_
    rotate_left
    ·rintro w' ⟨s0, s1, s2, s3⟩
     go_simp
     with_reducible rfl
    rotate_left
    ·simp only [Act.put, zA, zB, zC, i64_w, i32_w]
     rfl
    refine take_ (i := 2) (N := some 22) (v := ?_) (a' := ?_) #[true, false, true, false, false, false, false, false] rfl rfl (take_ofW HT_.out HW_.out (by kernel_rfl)) (fun _ _ _ h => h) (Or.inl ⟨by rfl, ?_⟩) hHeld ?_ ?_
    rotate_left
    ·rintro w' ⟨s0, s1, s2, s3⟩
     go_simp
     with_reducible rfl
    rotate_left
    ·simp only [Act.put, zA, zB, zC, i64_w, i32_w]
     rfl
    refine join_ (σ := Value × Value × Nat × Nat) 2 #[true, true, true, true, true, true, false, false] (fun s_ => [(21, .agg #[.bool t119, s_.1]), (23, .agg #[.bool t123, s_.2.1]), (5, .pointer (some ⟨s_.2.2.1, 0, none⟩)), (6, .pointer (some ⟨s_.2.2.2, 0, none⟩))]) (fun s_ w' => (w'.cell? ⟨gb114, 0, none⟩ = some (.bool a0_0) ∧ w'.cell? ⟨gb114, 1, none⟩ = some (.slice A0_1 l0_1.length c0_1) ∧ w'.cell? ⟨gb115, 0, none⟩ = some (.bool a1_0) ∧ w'.cell? ⟨gb115, 1, none⟩ = some (.slice A1_1 l1_1.length c1_1)) ∧ (Kd.R (Kd.int .u32) 63 w' w.heap.size (fun k_ => some k_ ≠ (s_.2.1 : Value).ownBlock) s_.1 t120) ∧ (Kd.R (Kd.int .u32) 63 w' w.heap.size (fun k_ => some k_ ≠ (s_.1 : Value).ownBlock) s_.2.1 t124) ∧ (w'.heap[gb114]? = some (.cells #[.bool a0_0, .slice A0_1 l0_1.length c0_1] 25 (0, 0))) ∧ (w'.heap[gb115]? = some (.cells #[.bool a1_0, .slice A1_1 l1_1.length c1_1] 25 (0, 0))) ∧ (w'.heap[s_.2.2.1]? = some (.cells #[.bool false, .slice none 0 0] 25 (0, 0))) ∧ (w'.heap[s_.2.2.2]? = some (.cells #[.bool false, .slice none 0 0] 25 (0, 0))) ∧ (w.heap.size ≤ s_.2.2.1) ∧ (w.heap.size ≤ s_.2.2.1) ∧ (gb114 ≠ s_.2.2.1) ∧ (s_.2.2.1 ≠ gb114) ∧ (gb115 ≠ s_.2.2.1) ∧ (s_.2.2.1 ≠ gb115) ∧ (s_.2.2.2 ≠ s_.2.2.1) ∧ (s_.2.2.1 ≠ s_.2.2.2) ∧ (w.heap.size ≤ s_.2.2.2) ∧ (w.heap.size ≤ s_.2.2.2) ∧ (gb114 ≠ s_.2.2.2) ∧ (s_.2.2.2 ≠ gb114) ∧ (gb115 ≠ s_.2.2.2) ∧ (s_.2.2.2 ≠ gb115) ∧ (Below w.heap.size w w')) ?_ ?_
    rotate_left
    ·intro hJ1_3_4_5
     refine join_ (σ := Value × Value × Nat) 3 #[true, true, true, true, true, false, false, false] (fun s_ => [(21, .agg #[.bool t119, s_.1]), (23, .agg #[.bool t123, s_.2.1]), (5, .pointer (some ⟨s_.2.2, 0, none⟩))]) (fun s_ w' => (w'.cell? ⟨gb114, 0, none⟩ = some (.bool a0_0) ∧ w'.cell? ⟨gb114, 1, none⟩ = some (.slice A0_1 l0_1.length c0_1) ∧ w'.cell? ⟨gb115, 0, none⟩ = some (.bool a1_0) ∧ w'.cell? ⟨gb115, 1, none⟩ = some (.slice A1_1 l1_1.length c1_1)) ∧ (Kd.R (Kd.int .u32) 63 w' w.heap.size (fun k_ => some k_ ≠ (s_.2.1 : Value).ownBlock) s_.1 t120) ∧ (Kd.R (Kd.int .u32) 63 w' w.heap.size (fun k_ => some k_ ≠ (s_.1 : Value).ownBlock) s_.2.1 t124) ∧ (w'.heap[gb114]? = some (.cells #[.bool a0_0, .slice A0_1 l0_1.length c0_1] 25 (0, 0))) ∧ (w'.heap[gb115]? = some (.cells #[.bool a1_0, .slice A1_1 l1_1.length c1_1] 25 (0, 0))) ∧ (w'.heap[s_.2.2]? = some (.cells #[.bool false, .slice none 0 0] 25 (0, 0))) ∧ (w.heap.size ≤ s_.2.2) ∧ (w.heap.size ≤ s_.2.2) ∧ (gb114 ≠ s_.2.2) ∧ (s_.2.2 ≠ gb114) ∧ (gb115 ≠ s_.2.2) ∧ (s_.2.2 ≠ gb115) ∧ (Below w.heap.size w w')) ?_ ?_
     rotate_left
     ·intro hJ1_3_4
      refine join_ (σ := Value × Value × Nat) 3 #[true, true, true, true, false, true, false, false] (fun s_ => [(21, .agg #[.bool t119, s_.1]), (23, .agg #[.bool t123, s_.2.1]), (6, .pointer (some ⟨s_.2.2, 0, none⟩))]) (fun s_ w' => (w'.cell? ⟨gb114, 0, none⟩ = some (.bool a0_0) ∧ w'.cell? ⟨gb114, 1, none⟩ = some (.slice A0_1 l0_1.length c0_1) ∧ w'.cell? ⟨gb115, 0, none⟩ = some (.bool a1_0) ∧ w'.cell? ⟨gb115, 1, none⟩ = some (.slice A1_1 l1_1.length c1_1)) ∧ (Kd.R (Kd.int .u32) 63 w' w.heap.size (fun k_ => some k_ ≠ (s_.2.1 : Value).ownBlock) s_.1 t120) ∧ (Kd.R (Kd.int .u32) 63 w' w.heap.size (fun k_ => some k_ ≠ (s_.1 : Value).ownBlock) s_.2.1 t124) ∧ (w'.heap[gb114]? = some (.cells #[.bool a0_0, .slice A0_1 l0_1.length c0_1] 25 (0, 0))) ∧ (w'.heap[gb115]? = some (.cells #[.bool a1_0, .slice A1_1 l1_1.length c1_1] 25 (0, 0))) ∧ (w'.heap[s_.2.2]? = some (.cells #[.bool false, .slice none 0 0] 25 (0, 0))) ∧ (w.heap.size ≤ s_.2.2) ∧ (w.heap.size ≤ s_.2.2) ∧ (gb114 ≠ s_.2.2) ∧ (s_.2.2 ≠ gb114) ∧ (gb115 ≠ s_.2.2) ∧ (s_.2.2 ≠ gb115) ∧ (Below w.heap.size w w')) ?_ ?_
      rotate_left
      ·intro hJ1_3_5
       refine join_ (σ := Value × Nat × Nat) 3 #[true, true, true, false, true, true, false, false] (fun s_ => [(21, .agg #[.bool t119, s_.1]), (5, .pointer (some ⟨s_.2.1, 0, none⟩)), (6, .pointer (some ⟨s_.2.2, 0, none⟩))]) (fun s_ w' => (w'.cell? ⟨gb114, 0, none⟩ = some (.bool a0_0) ∧ w'.cell? ⟨gb114, 1, none⟩ = some (.slice A0_1 l0_1.length c0_1) ∧ w'.cell? ⟨gb115, 0, none⟩ = some (.bool a1_0) ∧ w'.cell? ⟨gb115, 1, none⟩ = some (.slice A1_1 l1_1.length c1_1)) ∧ (Kd.R (Kd.int .u32) 63 w' w.heap.size (fun _ => True) s_.1 t120) ∧ (w'.heap[gb114]? = some (.cells #[.bool a0_0, .slice A0_1 l0_1.length c0_1] 25 (0, 0))) ∧ (w'.heap[gb115]? = some (.cells #[.bool a1_0, .slice A1_1 l1_1.length c1_1] 25 (0, 0))) ∧ (w'.heap[s_.2.1]? = some (.cells #[.bool false, .slice none 0 0] 25 (0, 0))) ∧ (w'.heap[s_.2.2]? = some (.cells #[.bool false, .slice none 0 0] 25 (0, 0))) ∧ (w.heap.size ≤ s_.2.1) ∧ (w.heap.size ≤ s_.2.1) ∧ (gb114 ≠ s_.2.1) ∧ (s_.2.1 ≠ gb114) ∧ (gb115 ≠ s_.2.1) ∧ (s_.2.1 ≠ gb115) ∧ (s_.2.2 ≠ s_.2.1) ∧ (s_.2.1 ≠ s_.2.2) ∧ (w.heap.size ≤ s_.2.2) ∧ (w.heap.size ≤ s_.2.2) ∧ (gb114 ≠ s_.2.2) ∧ (s_.2.2 ≠ gb114) ∧ (gb115 ≠ s_.2.2) ∧ (s_.2.2 ≠ gb115) ∧ (Below w.heap.size w w')) ?_ ?_
       rotate_left
       ·intro hJ1_4_5
        refine join_ (σ := Value × Value) 4 #[true, true, true, true, false, false, false, false] (fun s_ => [(21, .agg #[.bool t119, s_.1]), (23, .agg #[.bool t123, s_.2])]) (fun s_ w' => (w'.cell? ⟨gb114, 0, none⟩ = some (.bool a0_0) ∧ w'.cell? ⟨gb114, 1, none⟩ = some (.slice A0_1 l0_1.length c0_1) ∧ w'.cell? ⟨gb115, 0, none⟩ = some (.bool a1_0) ∧ w'.cell? ⟨gb115, 1, none⟩ = some (.slice A1_1 l1_1.length c1_1)) ∧ (Kd.R (Kd.int .u32) 63 w' w.heap.size (fun k_ => some k_ ≠ (s_.2 : Value).ownBlock) s_.1 t120) ∧ (Kd.R (Kd.int .u32) 63 w' w.heap.size (fun k_ => some k_ ≠ (s_.1 : Value).ownBlock) s_.2 t124) ∧ (w'.heap[gb114]? = some (.cells #[.bool a0_0, .slice A0_1 l0_1.length c0_1] 25 (0, 0))) ∧ (w'.heap[gb115]? = some (.cells #[.bool a1_0, .slice A1_1 l1_1.length c1_1] 25 (0, 0))) ∧ (Below w.heap.size w w')) ?_ ?_
        rotate_left
        ·intro hJ1_3
         refine join_ (σ := Value × Nat) 4 #[true, true, true, false, true, false, false, false] (fun s_ => [(21, .agg #[.bool t119, s_.1]), (5, .pointer (some ⟨s_.2, 0, none⟩))]) (fun s_ w' => (w'.cell? ⟨gb114, 0, none⟩ = some (.bool a0_0) ∧ w'.cell? ⟨gb114, 1, none⟩ = some (.slice A0_1 l0_1.length c0_1) ∧ w'.cell? ⟨gb115, 0, none⟩ = some (.bool a1_0) ∧ w'.cell? ⟨gb115, 1, none⟩ = some (.slice A1_1 l1_1.length c1_1)) ∧ (Kd.R (Kd.int .u32) 63 w' w.heap.size (fun _ => True) s_.1 t120) ∧ (w'.heap[gb114]? = some (.cells #[.bool a0_0, .slice A0_1 l0_1.length c0_1] 25 (0, 0))) ∧ (w'.heap[gb115]? = some (.cells #[.bool a1_0, .slice A1_1 l1_1.length c1_1] 25 (0, 0))) ∧ (w'.heap[s_.2]? = some (.cells #[.bool false, .slice none 0 0] 25 (0, 0))) ∧ (w.heap.size ≤ s_.2) ∧ (w.heap.size ≤ s_.2) ∧ (gb114 ≠ s_.2) ∧ (s_.2 ≠ gb114) ∧ (gb115 ≠ s_.2) ∧ (s_.2 ≠ gb115) ∧ (Below w.heap.size w w')) ?_ ?_
         rotate_left
         ·intro hJ1_4
          refine join_ (σ := Value × Nat) 4 #[true, true, true, false, false, true, false, false] (fun s_ => [(21, .agg #[.bool t119, s_.1]), (6, .pointer (some ⟨s_.2, 0, none⟩))]) (fun s_ w' => (w'.cell? ⟨gb114, 0, none⟩ = some (.bool a0_0) ∧ w'.cell? ⟨gb114, 1, none⟩ = some (.slice A0_1 l0_1.length c0_1) ∧ w'.cell? ⟨gb115, 0, none⟩ = some (.bool a1_0) ∧ w'.cell? ⟨gb115, 1, none⟩ = some (.slice A1_1 l1_1.length c1_1)) ∧ (Kd.R (Kd.int .u32) 63 w' w.heap.size (fun _ => True) s_.1 t120) ∧ (w'.heap[gb114]? = some (.cells #[.bool a0_0, .slice A0_1 l0_1.length c0_1] 25 (0, 0))) ∧ (w'.heap[gb115]? = some (.cells #[.bool a1_0, .slice A1_1 l1_1.length c1_1] 25 (0, 0))) ∧ (w'.heap[s_.2]? = some (.cells #[.bool false, .slice none 0 0] 25 (0, 0))) ∧ (w.heap.size ≤ s_.2) ∧ (w.heap.size ≤ s_.2) ∧ (gb114 ≠ s_.2) ∧ (s_.2 ≠ gb114) ∧ (gb115 ≠ s_.2) ∧ (s_.2 ≠ gb115) ∧ (Below w.heap.size w w')) ?_ ?_
          rotate_left
          ·intro hJ1_5
           refine join_ (σ := Nat × Nat) 4 #[true, false, true, false, true, true, false, false] (fun s_ => [(5, .pointer (some ⟨s_.1, 0, none⟩)), (6, .pointer (some ⟨s_.2, 0, none⟩))]) (fun s_ w' => (w'.cell? ⟨gb114, 0, none⟩ = some (.bool a0_0) ∧ w'.cell? ⟨gb114, 1, none⟩ = some (.slice A0_1 l0_1.length c0_1) ∧ w'.cell? ⟨gb115, 0, none⟩ = some (.bool a1_0) ∧ w'.cell? ⟨gb115, 1, none⟩ = some (.slice A1_1 l1_1.length c1_1)) ∧ (w'.heap[gb114]? = some (.cells #[.bool a0_0, .slice A0_1 l0_1.length c0_1] 25 (0, 0))) ∧ (w'.heap[gb115]? = some (.cells #[.bool a1_0, .slice A1_1 l1_1.length c1_1] 25 (0, 0))) ∧ (w'.heap[s_.1]? = some (.cells #[.bool false, .slice none 0 0] 25 (0, 0))) ∧ (w'.heap[s_.2]? = some (.cells #[.bool false, .slice none 0 0] 25 (0, 0))) ∧ (w.heap.size ≤ s_.1) ∧ (w.heap.size ≤ s_.1) ∧ (gb114 ≠ s_.1) ∧ (s_.1 ≠ gb114) ∧ (gb115 ≠ s_.1) ∧ (s_.1 ≠ gb115) ∧ (s_.2 ≠ s_.1) ∧ (s_.1 ≠ s_.2) ∧ (w.heap.size ≤ s_.2) ∧ (w.heap.size ≤ s_.2) ∧ (gb114 ≠ s_.2) ∧ (s_.2 ≠ gb114) ∧ (gb115 ≠ s_.2) ∧ (s_.2 ≠ gb115) ∧ (Below w.heap.size w w')) ?_ ?_
           rotate_left
           ·intro hJ4_5
            refine join_ (σ := Value) 5 #[true, true, true, false, false, false, false, false] (fun s_ => [(21, .agg #[.bool t119, s_])]) (fun s_ w' => (w'.cell? ⟨gb114, 0, none⟩ = some (.bool a0_0) ∧ w'.cell? ⟨gb114, 1, none⟩ = some (.slice A0_1 l0_1.length c0_1) ∧ w'.cell? ⟨gb115, 0, none⟩ = some (.bool a1_0) ∧ w'.cell? ⟨gb115, 1, none⟩ = some (.slice A1_1 l1_1.length c1_1)) ∧ (Kd.R (Kd.int .u32) 63 w' w.heap.size (fun _ => True) s_ t120) ∧ (w'.heap[gb114]? = some (.cells #[.bool a0_0, .slice A0_1 l0_1.length c0_1] 25 (0, 0))) ∧ (w'.heap[gb115]? = some (.cells #[.bool a1_0, .slice A1_1 l1_1.length c1_1] 25 (0, 0))) ∧ (Below w.heap.size w w')) ?_ ?_
            rotate_left
            ·intro hJ1
             refine join_ (σ := Nat) 5 #[true, false, true, false, true, false, false, false] (fun s_ => [(5, .pointer (some ⟨s_, 0, none⟩))]) (fun s_ w' => (w'.cell? ⟨gb114, 0, none⟩ = some (.bool a0_0) ∧ w'.cell? ⟨gb114, 1, none⟩ = some (.slice A0_1 l0_1.length c0_1) ∧ w'.cell? ⟨gb115, 0, none⟩ = some (.bool a1_0) ∧ w'.cell? ⟨gb115, 1, none⟩ = some (.slice A1_1 l1_1.length c1_1)) ∧ (w'.heap[gb114]? = some (.cells #[.bool a0_0, .slice A0_1 l0_1.length c0_1] 25 (0, 0))) ∧ (w'.heap[gb115]? = some (.cells #[.bool a1_0, .slice A1_1 l1_1.length c1_1] 25 (0, 0))) ∧ (w'.heap[s_]? = some (.cells #[.bool false, .slice none 0 0] 25 (0, 0))) ∧ (w.heap.size ≤ s_) ∧ (w.heap.size ≤ s_) ∧ (gb114 ≠ s_) ∧ (s_ ≠ gb114) ∧ (gb115 ≠ s_) ∧ (s_ ≠ gb115) ∧ (Below w.heap.size w w')) ?_ ?_
             rotate_left
             ·intro hJ4
              refine join_ (σ := Nat) 5 #[true, false, true, false, false, true, false, false] (fun s_ => [(6, .pointer (some ⟨s_, 0, none⟩))]) (fun s_ w' => (w'.cell? ⟨gb114, 0, none⟩ = some (.bool a0_0) ∧ w'.cell? ⟨gb114, 1, none⟩ = some (.slice A0_1 l0_1.length c0_1) ∧ w'.cell? ⟨gb115, 0, none⟩ = some (.bool a1_0) ∧ w'.cell? ⟨gb115, 1, none⟩ = some (.slice A1_1 l1_1.length c1_1)) ∧ (w'.heap[gb114]? = some (.cells #[.bool a0_0, .slice A0_1 l0_1.length c0_1] 25 (0, 0))) ∧ (w'.heap[gb115]? = some (.cells #[.bool a1_0, .slice A1_1 l1_1.length c1_1] 25 (0, 0))) ∧ (w'.heap[s_]? = some (.cells #[.bool false, .slice none 0 0] 25 (0, 0))) ∧ (w.heap.size ≤ s_) ∧ (w.heap.size ≤ s_) ∧ (gb114 ≠ s_) ∧ (s_ ≠ gb114) ∧ (gb115 ≠ s_) ∧ (s_ ≠ gb115) ∧ (Below w.heap.size w w')) ?_ ?_
              rotate_left
              ·intro hJ5
               refine three_ (i := 1) (j := 4) (k := 5) (Ni := some 21) (Nj := some 5) (Nk := some 6) #[true, true, true, false, false, false, false, false] #[true, false, true, false, true, false, false, false] #[true, false, true, false, false, true, false, false] rfl rfl rfl rfl rfl rfl (three_of HT_.out (by kernel_rfl)) (by decide) (by decide) (by decide) (fun K hK => ?_) (fun K hK => ?_) (fun K hK => ?_)
               ·skip
                refine goes_ Tryd.func28 (by kernel_rfl) rfl #[.agg #[.bool a0_0, .slice A0_1 l0_1.length c0_1]] (by rfl) rfl rfl (by (try simp only [zM, zO, zP]); first|done|rfl) ?_
                with_reducible refine (moraineref02_Copy.calls a0_0 _ _ l0_1 t119 t120 _ ?side1 ?side2 A20.out).mono ?_
                (case side1 => exact qC HR0_1 HB)
                (case side2 => exact HC0_1.out)
                rintro e w28 ⟨v121, rfl, ho0, hb⟩
                refine ⟨_, rfl, ?_⟩
                have HO122 := Aside0.mk (Kd.R_lower ho0 (below_size (by repeat with_reducible first|exact HB.out|apply qx|apply qv|apply qw|refine qs ?_ (by assumption))))
                replace BK114 := qb BK114 hb
                replace BK115 := qb BK115 hb
                replace HB := Aside0.mk (below_step (by repeat with_reducible first|exact HB.out|apply qx|apply qv|apply qw|refine qs ?_ (by assumption)) hb)
                (try clear hb)
                (try clear hb2)
                (try clear hk)
                (try clear hi)
                (try clear ho0)
                refine hK.out _ _ ⟨qc BK114 0, qc BK114 1, qc BK115 0, qc BK115 1⟩ (fun hHeld => ?_)
                clear hK K
                refine norm_ (a' := ?_) ?_ ?_
                rotate_left
                ·show Act.put _ (some 21) _ = _
                 simp only [Act.put, zA, zB, zC, i64_w, i32_w]
                 rfl
                exact norm_ (by simp only [putAll, Act.put, zA, zB, zC] <;> rfl) (hJ1 (v121) _ ⟨hHeld, qq HO122, qk BK114, qk BK115, (by repeat with_reducible first|exact HB.out|apply qx|apply qv|apply qw|refine qs ?_ (by assumption))⟩)
               ·skip
                refine box_step ?hg (N := 5) ?hd (cs := #[.bool false, .slice none 0 0]) (t := 25) ?hr ?_; (case hd => rfl); (case hg => rfl); (case hr => go_simp <;> rfl)
                intro gb127 hg w28 hbox hb
                have BK127 := Aside0.mk (hbox)
                have GW127 := qg hg (by repeat with_reducible first|exact HB.out|apply qx|apply qv|apply qw|refine qs ?_ (by assumption))
                have GE127 := GW127
                replace HB := Aside0.mk (below_step (by repeat with_reducible first|exact HB.out|apply qx|apply qv|apply qw|refine qs ?_ (by assumption)) hb)
                have NB114_127 := qn BK114 hg
                have NB127_114 := qm BK114 hg
                replace BK114 := qb BK114 hb
                have NB115_127 := qn BK115 hg
                have NB127_115 := qm BK115 hg
                replace BK115 := qb BK115 hb
                clear hb hbox hg
                refine hK.out _ _ ⟨qc BK114 0, qc BK114 1, qc BK115 0, qc BK115 1⟩ (fun hHeld => ?_)
                clear hK K
                refine norm_ (a' := ?_) ?_ ?_
                rotate_left
                ·show Act.put _ (some 5) _ = _
                 simp only [Act.put, zA, zB, zC, i64_w, i32_w]
                 rfl
                exact norm_ (by simp only [putAll, Act.put, zA, zB, zC] <;> rfl) (hJ4 (gb127) _ ⟨hHeld, qk BK114, qk BK115, qk BK127, GW127.out, GE127.out, NB114_127.out, NB127_114.out, NB115_127.out, NB127_115.out, (by repeat with_reducible first|exact HB.out|apply qx|apply qv|apply qw|refine qs ?_ (by assumption))⟩)
               ·skip
                refine box_step ?hg (N := 6) ?hd (cs := #[.bool false, .slice none 0 0]) (t := 25) ?hr ?_; (case hd => rfl); (case hg => rfl); (case hr => go_simp <;> rfl)
                intro gb128 hg w28 hbox hb
                have BK128 := Aside0.mk (hbox)
                have GW128 := qg hg (by repeat with_reducible first|exact HB.out|apply qx|apply qv|apply qw|refine qs ?_ (by assumption))
                have GE128 := GW128
                replace HB := Aside0.mk (below_step (by repeat with_reducible first|exact HB.out|apply qx|apply qv|apply qw|refine qs ?_ (by assumption)) hb)
                have NB114_128 := qn BK114 hg
                have NB128_114 := qm BK114 hg
                replace BK114 := qb BK114 hb
                have NB115_128 := qn BK115 hg
                have NB128_115 := qm BK115 hg
                replace BK115 := qb BK115 hb
                clear hb hbox hg
                refine hK.out _ _ ⟨qc BK114 0, qc BK114 1, qc BK115 0, qc BK115 1⟩ (fun hHeld => ?_)
                clear hK K
                refine norm_ (a' := ?_) ?_ ?_
                rotate_left
                ·show Act.put _ (some 6) _ = _
                 simp only [Act.put, zA, zB, zC, i64_w, i32_w]
                 rfl
                exact norm_ (by simp only [putAll, Act.put, zA, zB, zC] <;> rfl) (hJ5 (gb128) _ ⟨hHeld, qk BK114, qk BK115, qk BK128, GW128.out, GE128.out, NB114_128.out, NB128_114.out, NB115_128.out, NB128_115.out, (by repeat with_reducible first|exact HB.out|apply qx|apply qv|apply qw|refine qs ?_ (by assumption))⟩)
              ·skip
               rintro gb128 w29 ⟨hS_, h0_, h1_, h2_, h3_, h4_, h5_, h6_, h7_, h8_, h9_⟩
               replace BK114 : Aside0 (w29.heap[gb114]? = some (.cells #[.bool a0_0, .slice A0_1 l0_1.length c0_1] 25 (0, 0))) := ⟨h0_⟩
               replace BK115 : Aside0 (w29.heap[gb115]? = some (.cells #[.bool a1_0, .slice A1_1 l1_1.length c1_1] 25 (0, 0))) := ⟨h1_⟩
               have BK128 : Aside0 (w29.heap[gb128]? = some (.cells #[.bool false, .slice none 0 0] 25 (0, 0))) := ⟨h2_⟩
               have GW128 : Aside0 (w.heap.size ≤ gb128) := ⟨h3_⟩
               have GE128 : Aside0 (w.heap.size ≤ gb128) := ⟨h4_⟩
               have NB114_128 : Aside0 (gb114 ≠ gb128) := ⟨h5_⟩
               have NB128_114 : Aside0 (gb128 ≠ gb114) := ⟨h6_⟩
               have NB115_128 : Aside0 (gb115 ≠ gb128) := ⟨h7_⟩
               have NB128_115 : Aside0 (gb128 ≠ gb115) := ⟨h8_⟩
               replace HB : Aside0 (Below w.heap.size w w29) := ⟨h9_⟩
               clear h0_ h1_ h2_ h3_ h4_ h5_ h6_ h7_ h8_ h9_
               have hHeld : w29.cell? ⟨gb114, 0, none⟩ = some (.bool a0_0) ∧ w29.cell? ⟨gb114, 1, none⟩ = some (.slice A0_1 l0_1.length c0_1) ∧ w29.cell? ⟨gb115, 0, none⟩ = some (.bool a1_0) ∧ w29.cell? ⟨gb115, 1, none⟩ = some (.slice A1_1 l1_1.length c1_1) := hS_
               refine norm_ (a' := ?_) ?_ ?_
               rotate_left
               ·simp only [putAll, Act.put, zA, zB, zC]
                rfl
               refine two_ (i := 1) (j := 4) (Ni := some 21) (Nj := some 5) #[true, true, true, false, false, true, false, false] #[true, false, true, false, true, true, false, false] rfl rfl rfl rfl (two_of HT_.out (by kernel_rfl)) (by decide) (by decide) (fun K hK => ?_) (fun K hK => ?_)
               ·skip
                refine goes_ Tryd.func28 (by kernel_rfl) rfl #[.agg #[.bool a0_0, .slice A0_1 l0_1.length c0_1]] (by rfl) rfl rfl (by (try simp only [zM, zO, zP]); first|done|rfl) ?_
                with_reducible refine (moraineref02_Copy.calls a0_0 _ _ l0_1 t119 t120 _ ?side1 ?side2 A20.out).mono ?_
                (case side1 => exact qC HR0_1 HB)
                (case side2 => exact HC0_1.out)
                rintro e w30 ⟨v121, rfl, ho0, hb⟩
                refine ⟨_, rfl, ?_⟩
                have HO122 := Aside0.mk (Kd.R_lower ho0 (below_size (by repeat with_reducible first|exact HB.out|apply qx|apply qv|apply qw|refine qs ?_ (by assumption))))
                replace BK114 := qb BK114 hb
                replace BK115 := qb BK115 hb
                replace BK128 := qb BK128 hb
                replace HB := Aside0.mk (below_step (by repeat with_reducible first|exact HB.out|apply qx|apply qv|apply qw|refine qs ?_ (by assumption)) hb)
                (try clear hb)
                (try clear hb2)
                (try clear hk)
                (try clear hi)
                (try clear ho0)
                refine hK.out _ _ ⟨qc BK114 0, qc BK114 1, qc BK115 0, qc BK115 1⟩ (fun hHeld => ?_)
                clear hK K
                refine norm_ (a' := ?_) ?_ ?_
                rotate_left
                ·show Act.put _ (some 21) _ = _
                 simp only [Act.put, zA, zB, zC, i64_w, i32_w]
                 rfl
                exact norm_ (by simp only [putAll, Act.put, zA, zB, zC] <;> rfl) (hJ1_5 (v121, gb128) _ ⟨hHeld, qq HO122, qk BK114, qk BK115, qk BK128, GW128.out, GE128.out, NB114_128.out, NB128_114.out, NB115_128.out, NB128_115.out, (by repeat with_reducible first|exact HB.out|apply qx|apply qv|apply qw|refine qs ?_ (by assumption))⟩)
               ·skip
                refine box_step ?hg (N := 5) ?hd (cs := #[.bool false, .slice none 0 0]) (t := 25) ?hr ?_; (case hd => rfl); (case hg => rfl); (case hr => go_simp <;> rfl)
                intro gb127 hg w30 hbox hb
                have BK127 := Aside0.mk (hbox)
                have GW127 := qg hg (by repeat with_reducible first|exact HB.out|apply qx|apply qv|apply qw|refine qs ?_ (by assumption))
                have GE127 := GW127
                replace HB := Aside0.mk (below_step (by repeat with_reducible first|exact HB.out|apply qx|apply qv|apply qw|refine qs ?_ (by assumption)) hb)
                have NB114_127 := qn BK114 hg
                have NB127_114 := qm BK114 hg
                replace BK114 := qb BK114 hb
                have NB115_127 := qn BK115 hg
                have NB127_115 := qm BK115 hg
                replace BK115 := qb BK115 hb
                have NB128_127 := qn BK128 hg
                have NB127_128 := qm BK128 hg
                replace BK128 := qb BK128 hb
                clear hb hbox hg
                refine hK.out _ _ ⟨qc BK114 0, qc BK114 1, qc BK115 0, qc BK115 1⟩ (fun hHeld => ?_)
                clear hK K
                refine norm_ (a' := ?_) ?_ ?_
                rotate_left
                ·show Act.put _ (some 5) _ = _
                 simp only [Act.put, zA, zB, zC, i64_w, i32_w]
                 rfl
                exact norm_ (by simp only [putAll, Act.put, zA, zB, zC] <;> rfl) (hJ4_5 (gb127, gb128) _ ⟨hHeld, qk BK114, qk BK115, qk BK127, qk BK128, GW127.out, GE127.out, NB114_127.out, NB127_114.out, NB115_127.out, NB127_115.out, NB128_127.out, NB127_128.out, GW128.out, GE128.out, NB114_128.out, NB128_114.out, NB115_128.out, NB128_115.out, (by repeat with_reducible first|exact HB.out|apply qx|apply qv|apply qw|refine qs ?_ (by assumption))⟩)
             ·skip
              rintro gb127 w29 ⟨hS_, h0_, h1_, h2_, h3_, h4_, h5_, h6_, h7_, h8_, h9_⟩
              replace BK114 : Aside0 (w29.heap[gb114]? = some (.cells #[.bool a0_0, .slice A0_1 l0_1.length c0_1] 25 (0, 0))) := ⟨h0_⟩
              replace BK115 : Aside0 (w29.heap[gb115]? = some (.cells #[.bool a1_0, .slice A1_1 l1_1.length c1_1] 25 (0, 0))) := ⟨h1_⟩
              have BK127 : Aside0 (w29.heap[gb127]? = some (.cells #[.bool false, .slice none 0 0] 25 (0, 0))) := ⟨h2_⟩
              have GW127 : Aside0 (w.heap.size ≤ gb127) := ⟨h3_⟩
              have GE127 : Aside0 (w.heap.size ≤ gb127) := ⟨h4_⟩
              have NB114_127 : Aside0 (gb114 ≠ gb127) := ⟨h5_⟩
              have NB127_114 : Aside0 (gb127 ≠ gb114) := ⟨h6_⟩
              have NB115_127 : Aside0 (gb115 ≠ gb127) := ⟨h7_⟩
              have NB127_115 : Aside0 (gb127 ≠ gb115) := ⟨h8_⟩
              replace HB : Aside0 (Below w.heap.size w w29) := ⟨h9_⟩
              clear h0_ h1_ h2_ h3_ h4_ h5_ h6_ h7_ h8_ h9_
              have hHeld : w29.cell? ⟨gb114, 0, none⟩ = some (.bool a0_0) ∧ w29.cell? ⟨gb114, 1, none⟩ = some (.slice A0_1 l0_1.length c0_1) ∧ w29.cell? ⟨gb115, 0, none⟩ = some (.bool a1_0) ∧ w29.cell? ⟨gb115, 1, none⟩ = some (.slice A1_1 l1_1.length c1_1) := hS_
              refine norm_ (a' := ?_) ?_ ?_
              rotate_left
              ·simp only [putAll, Act.put, zA, zB, zC]
               rfl
              refine two_ (i := 1) (j := 5) (Ni := some 21) (Nj := some 6) #[true, true, true, false, true, false, false, false] #[true, false, true, false, true, true, false, false] rfl rfl rfl rfl (two_of HT_.out (by kernel_rfl)) (by decide) (by decide) (fun K hK => ?_) (fun K hK => ?_)
              ·skip
               refine goes_ Tryd.func28 (by kernel_rfl) rfl #[.agg #[.bool a0_0, .slice A0_1 l0_1.length c0_1]] (by rfl) rfl rfl (by (try simp only [zM, zO, zP]); first|done|rfl) ?_
               with_reducible refine (moraineref02_Copy.calls a0_0 _ _ l0_1 t119 t120 _ ?side1 ?side2 A20.out).mono ?_
               (case side1 => exact qC HR0_1 HB)
               (case side2 => exact HC0_1.out)
               rintro e w30 ⟨v121, rfl, ho0, hb⟩
               refine ⟨_, rfl, ?_⟩
               have HO122 := Aside0.mk (Kd.R_lower ho0 (below_size (by repeat with_reducible first|exact HB.out|apply qx|apply qv|apply qw|refine qs ?_ (by assumption))))
               replace BK114 := qb BK114 hb
               replace BK115 := qb BK115 hb
               replace BK127 := qb BK127 hb
               replace HB := Aside0.mk (below_step (by repeat with_reducible first|exact HB.out|apply qx|apply qv|apply qw|refine qs ?_ (by assumption)) hb)
               (try clear hb)
               (try clear hb2)
               (try clear hk)
               (try clear hi)
               (try clear ho0)
               refine hK.out _ _ ⟨qc BK114 0, qc BK114 1, qc BK115 0, qc BK115 1⟩ (fun hHeld => ?_)
               clear hK K
               refine norm_ (a' := ?_) ?_ ?_
               rotate_left
               ·show Act.put _ (some 21) _ = _
                simp only [Act.put, zA, zB, zC, i64_w, i32_w]
                rfl
               exact norm_ (by simp only [putAll, Act.put, zA, zB, zC] <;> rfl) (hJ1_4 (v121, gb127) _ ⟨hHeld, qq HO122, qk BK114, qk BK115, qk BK127, GW127.out, GE127.out, NB114_127.out, NB127_114.out, NB115_127.out, NB127_115.out, (by repeat with_reducible first|exact HB.out|apply qx|apply qv|apply qw|refine qs ?_ (by assumption))⟩)
              ·skip
               refine box_step ?hg (N := 6) ?hd (cs := #[.bool false, .slice none 0 0]) (t := 25) ?hr ?_; (case hd => rfl); (case hg => rfl); (case hr => go_simp <;> rfl)
               intro gb128 hg w30 hbox hb
               have BK128 := Aside0.mk (hbox)
               have GW128 := qg hg (by repeat with_reducible first|exact HB.out|apply qx|apply qv|apply qw|refine qs ?_ (by assumption))
               have GE128 := GW128
               replace HB := Aside0.mk (below_step (by repeat with_reducible first|exact HB.out|apply qx|apply qv|apply qw|refine qs ?_ (by assumption)) hb)
               have NB114_128 := qn BK114 hg
               have NB128_114 := qm BK114 hg
               replace BK114 := qb BK114 hb
               have NB115_128 := qn BK115 hg
               have NB128_115 := qm BK115 hg
               replace BK115 := qb BK115 hb
               have NB127_128 := qn BK127 hg
               have NB128_127 := qm BK127 hg
               replace BK127 := qb BK127 hb
               clear hb hbox hg
               refine hK.out _ _ ⟨qc BK114 0, qc BK114 1, qc BK115 0, qc BK115 1⟩ (fun hHeld => ?_)
               clear hK K
               refine norm_ (a' := ?_) ?_ ?_
               rotate_left
               ·show Act.put _ (some 6) _ = _
                simp only [Act.put, zA, zB, zC, i64_w, i32_w]
                rfl
               exact norm_ (by simp only [putAll, Act.put, zA, zB, zC] <;> rfl) (hJ4_5 (gb127, gb128) _ ⟨hHeld, qk BK114, qk BK115, qk BK127, qk BK128, GW127.out, GE127.out, NB114_127.out, NB127_114.out, NB115_127.out, NB127_115.out, NB128_127.out, NB127_128.out, GW128.out, GE128.out, NB114_128.out, NB128_114.out, NB115_128.out, NB128_115.out, (by repeat with_reducible first|exact HB.out|apply qx|apply qv|apply qw|refine qs ?_ (by assumption))⟩)
            ·skip
             rintro v121 w29 ⟨hS_, h0_, h1_, h2_, h3_⟩
             have HO122 : Aside0 (Kd.R (Kd.int .u32) 63 w29 w.heap.size (fun _ => True) v121 t120) := ⟨h0_⟩
             replace BK114 : Aside0 (w29.heap[gb114]? = some (.cells #[.bool a0_0, .slice A0_1 l0_1.length c0_1] 25 (0, 0))) := ⟨h1_⟩
             replace BK115 : Aside0 (w29.heap[gb115]? = some (.cells #[.bool a1_0, .slice A1_1 l1_1.length c1_1] 25 (0, 0))) := ⟨h2_⟩
             replace HB : Aside0 (Below w.heap.size w w29) := ⟨h3_⟩
             clear h0_ h1_ h2_ h3_
             have hHeld : w29.cell? ⟨gb114, 0, none⟩ = some (.bool a0_0) ∧ w29.cell? ⟨gb114, 1, none⟩ = some (.slice A0_1 l0_1.length c0_1) ∧ w29.cell? ⟨gb115, 0, none⟩ = some (.bool a1_0) ∧ w29.cell? ⟨gb115, 1, none⟩ = some (.slice A1_1 l1_1.length c1_1) := hS_
             refine norm_ (a' := ?_) ?_ ?_
             rotate_left
             ·simp only [putAll, Act.put, zA, zB, zC]
              rfl
             refine three_ (i := 3) (j := 4) (k := 5) (Ni := some 23) (Nj := some 5) (Nk := some 6) #[true, true, true, true, false, false, false, false] #[true, true, true, false, true, false, false, false] #[true, true, true, false, false, true, false, false] rfl rfl rfl rfl rfl rfl (three_of HT_.out (by kernel_rfl)) (by decide) (by decide) (by decide) (fun K hK => ?_) (fun K hK => ?_) (fun K hK => ?_)
             ·skip
              refine goes_ Tryd.func28 (by kernel_rfl) rfl #[.agg #[.bool a1_0, .slice A1_1 l1_1.length c1_1]] (by rfl) rfl rfl (by (try simp only [zM, zO, zP]); first|done|rfl) ?_
              with_reducible refine (moraineref02_Copy.calls a1_0 _ _ l1_1 t123 t124 _ ?side1 ?side2 A21.out).mono ?_
              (case side1 => exact qC HR1_1 HB)
              (case side2 => exact HC1_1.out)
              rintro e w30 ⟨v125, rfl, ho0, hb⟩
              refine ⟨_, rfl, ?_⟩
              have HO126 := Aside0.mk (Kd.R_lower (Kd.R_new' ho0 (ql HO122)) (below_size (by repeat with_reducible first|exact HB.out|apply qx|apply qv|apply qw|refine qs ?_ (by assumption))))
              replace HO122 := qe HO122 ho0 hb
              replace BK114 := qb BK114 hb
              replace BK115 := qb BK115 hb
              replace HB := Aside0.mk (below_step (by repeat with_reducible first|exact HB.out|apply qx|apply qv|apply qw|refine qs ?_ (by assumption)) hb)
              (try clear hb)
              (try clear hb2)
              (try clear hk)
              (try clear hi)
              (try clear ho0)
              refine hK.out _ _ ⟨qc BK114 0, qc BK114 1, qc BK115 0, qc BK115 1⟩ (fun hHeld => ?_)
              clear hK K
              refine norm_ (a' := ?_) ?_ ?_
              rotate_left
              ·show Act.put _ (some 23) _ = _
               simp only [Act.put, zA, zB, zC, i64_w, i32_w]
               rfl
              exact norm_ (by simp only [putAll, Act.put, zA, zB, zC] <;> rfl) (hJ1_3 (v121, v125) _ ⟨hHeld, (by (with_reducible repeat first|apply Kd.R_alloc|apply Kd.R_drewN|apply Kd.R_drew); exact Kd.R_mono HO122.out (fun _ hk => hk.2)), (by (with_reducible repeat first|apply Kd.R_alloc|apply Kd.R_drewN|apply Kd.R_drew); exact Kd.R_mono HO126.out (fun _ hk => hk.2)), qk BK114, qk BK115, (by repeat with_reducible first|exact HB.out|apply qx|apply qv|apply qw|refine qs ?_ (by assumption))⟩)
             ·skip
              refine box_step ?hg (N := 5) ?hd (cs := #[.bool false, .slice none 0 0]) (t := 25) ?hr ?_; (case hd => rfl); (case hg => rfl); (case hr => go_simp <;> rfl)
              intro gb127 hg w30 hbox hb
              replace HO122 := qr HO122 hb
              have BK127 := Aside0.mk (hbox)
              have GW127 := qg hg (by repeat with_reducible first|exact HB.out|apply qx|apply qv|apply qw|refine qs ?_ (by assumption))
              have GE127 := GW127
              replace HB := Aside0.mk (below_step (by repeat with_reducible first|exact HB.out|apply qx|apply qv|apply qw|refine qs ?_ (by assumption)) hb)
              have NB114_127 := qn BK114 hg
              have NB127_114 := qm BK114 hg
              replace BK114 := qb BK114 hb
              have NB115_127 := qn BK115 hg
              have NB127_115 := qm BK115 hg
              replace BK115 := qb BK115 hb
              clear hb hbox hg
              refine hK.out _ _ ⟨qc BK114 0, qc BK114 1, qc BK115 0, qc BK115 1⟩ (fun hHeld => ?_)
              clear hK K
              refine norm_ (a' := ?_) ?_ ?_
              rotate_left
              ·show Act.put _ (some 5) _ = _
               simp only [Act.put, zA, zB, zC, i64_w, i32_w]
               rfl
              exact norm_ (by simp only [putAll, Act.put, zA, zB, zC] <;> rfl) (hJ1_4 (v121, gb127) _ ⟨hHeld, qq HO122, qk BK114, qk BK115, qk BK127, GW127.out, GE127.out, NB114_127.out, NB127_114.out, NB115_127.out, NB127_115.out, (by repeat with_reducible first|exact HB.out|apply qx|apply qv|apply qw|refine qs ?_ (by assumption))⟩)
             ·skip
              refine box_step ?hg (N := 6) ?hd (cs := #[.bool false, .slice none 0 0]) (t := 25) ?hr ?_; (case hd => rfl); (case hg => rfl); (case hr => go_simp <;> rfl)
              intro gb128 hg w30 hbox hb
              replace HO122 := qr HO122 hb
              have BK128 := Aside0.mk (hbox)
              have GW128 := qg hg (by repeat with_reducible first|exact HB.out|apply qx|apply qv|apply qw|refine qs ?_ (by assumption))
              have GE128 := GW128
              replace HB := Aside0.mk (below_step (by repeat with_reducible first|exact HB.out|apply qx|apply qv|apply qw|refine qs ?_ (by assumption)) hb)
              have NB114_128 := qn BK114 hg
              have NB128_114 := qm BK114 hg
              replace BK114 := qb BK114 hb
              have NB115_128 := qn BK115 hg
              have NB128_115 := qm BK115 hg
              replace BK115 := qb BK115 hb
              clear hb hbox hg
              refine hK.out _ _ ⟨qc BK114 0, qc BK114 1, qc BK115 0, qc BK115 1⟩ (fun hHeld => ?_)
              clear hK K
              refine norm_ (a' := ?_) ?_ ?_
              rotate_left
              ·show Act.put _ (some 6) _ = _
               simp only [Act.put, zA, zB, zC, i64_w, i32_w]
               rfl
              exact norm_ (by simp only [putAll, Act.put, zA, zB, zC] <;> rfl) (hJ1_5 (v121, gb128) _ ⟨hHeld, qq HO122, qk BK114, qk BK115, qk BK128, GW128.out, GE128.out, NB114_128.out, NB128_114.out, NB115_128.out, NB128_115.out, (by repeat with_reducible first|exact HB.out|apply qx|apply qv|apply qw|refine qs ?_ (by assumption))⟩)
           ·skip
            rintro ⟨gb127, gb128⟩ w30 ⟨hS_, h0_, h1_, h2_, h3_, h4_, h5_, h6_, h7_, h8_, h9_, h10_, h11_, h12_, h13_, h14_, h15_, h16_, h17_, h18_⟩
            replace BK114 : Aside0 (w30.heap[gb114]? = some (.cells #[.bool a0_0, .slice A0_1 l0_1.length c0_1] 25 (0, 0))) := ⟨h0_⟩
            replace BK115 : Aside0 (w30.heap[gb115]? = some (.cells #[.bool a1_0, .slice A1_1 l1_1.length c1_1] 25 (0, 0))) := ⟨h1_⟩
            have BK127 : Aside0 (w30.heap[gb127]? = some (.cells #[.bool false, .slice none 0 0] 25 (0, 0))) := ⟨h2_⟩
            have BK128 : Aside0 (w30.heap[gb128]? = some (.cells #[.bool false, .slice none 0 0] 25 (0, 0))) := ⟨h3_⟩
            have GW127 : Aside0 (w.heap.size ≤ gb127) := ⟨h4_⟩
            have GE127 : Aside0 (w.heap.size ≤ gb127) := ⟨h5_⟩
            have NB114_127 : Aside0 (gb114 ≠ gb127) := ⟨h6_⟩
            have NB127_114 : Aside0 (gb127 ≠ gb114) := ⟨h7_⟩
            have NB115_127 : Aside0 (gb115 ≠ gb127) := ⟨h8_⟩
            have NB127_115 : Aside0 (gb127 ≠ gb115) := ⟨h9_⟩
            have NB128_127 : Aside0 (gb128 ≠ gb127) := ⟨h10_⟩
            have NB127_128 : Aside0 (gb127 ≠ gb128) := ⟨h11_⟩
            have GW128 : Aside0 (w.heap.size ≤ gb128) := ⟨h12_⟩
            have GE128 : Aside0 (w.heap.size ≤ gb128) := ⟨h13_⟩
            have NB114_128 : Aside0 (gb114 ≠ gb128) := ⟨h14_⟩
            have NB128_114 : Aside0 (gb128 ≠ gb114) := ⟨h15_⟩
            have NB115_128 : Aside0 (gb115 ≠ gb128) := ⟨h16_⟩
            have NB128_115 : Aside0 (gb128 ≠ gb115) := ⟨h17_⟩
            replace HB : Aside0 (Below w.heap.size w w30) := ⟨h18_⟩
            clear h0_ h1_ h2_ h3_ h4_ h5_ h6_ h7_ h8_ h9_ h10_ h11_ h12_ h13_ h14_ h15_ h16_ h17_ h18_
            have hHeld : w30.cell? ⟨gb114, 0, none⟩ = some (.bool a0_0) ∧ w30.cell? ⟨gb114, 1, none⟩ = some (.slice A0_1 l0_1.length c0_1) ∧ w30.cell? ⟨gb115, 0, none⟩ = some (.bool a1_0) ∧ w30.cell? ⟨gb115, 1, none⟩ = some (.slice A1_1 l1_1.length c1_1) := hS_
            refine norm_ (a' := ?_) ?_ ?_
            rotate_left
            ·simp only [putAll, Act.put, zA, zB, zC]
             rfl
            refine one_ (i := 1) (N := some 21) #[true, true, true, false, true, true, false, false] rfl rfl (one_of HT_.out (by kernel_rfl)) (by decide) (fun K hK => ?_)
            refine goes_ Tryd.func28 (by kernel_rfl) rfl #[.agg #[.bool a0_0, .slice A0_1 l0_1.length c0_1]] (by rfl) rfl rfl (by (try simp only [zM, zO, zP]); first|done|rfl) ?_
            with_reducible refine (moraineref02_Copy.calls a0_0 _ _ l0_1 t119 t120 _ ?side1 ?side2 A20.out).mono ?_
            (case side1 => exact qC HR0_1 HB)
            (case side2 => exact HC0_1.out)
            rintro e w31 ⟨v121, rfl, ho0, hb⟩
            refine ⟨_, rfl, ?_⟩
            have HO122 := Aside0.mk (Kd.R_lower ho0 (below_size (by repeat with_reducible first|exact HB.out|apply qx|apply qv|apply qw|refine qs ?_ (by assumption))))
            replace BK114 := qb BK114 hb
            replace BK115 := qb BK115 hb
            replace BK127 := qb BK127 hb
            replace BK128 := qb BK128 hb
            replace HB := Aside0.mk (below_step (by repeat with_reducible first|exact HB.out|apply qx|apply qv|apply qw|refine qs ?_ (by assumption)) hb)
            (try clear hb)
            (try clear hb2)
            (try clear hk)
            (try clear hi)
            (try clear ho0)
            refine hK.out _ _ ⟨qc BK114 0, qc BK114 1, qc BK115 0, qc BK115 1⟩ (fun hHeld => ?_)
            clear hK K
            refine norm_ (a' := ?_) ?_ ?_
            rotate_left
            ·show Act.put _ (some 21) _ = _
             simp only [Act.put, zA, zB, zC, i64_w, i32_w]
             rfl
            exact norm_ (by simp only [putAll, Act.put, zA, zB, zC] <;> rfl) (hJ1_4_5 (v121, gb127, gb128) _ ⟨hHeld, qq HO122, qk BK114, qk BK115, qk BK127, qk BK128, GW127.out, GE127.out, NB114_127.out, NB127_114.out, NB115_127.out, NB127_115.out, NB128_127.out, NB127_128.out, GW128.out, GE128.out, NB114_128.out, NB128_114.out, NB115_128.out, NB128_115.out, (by repeat with_reducible first|exact HB.out|apply qx|apply qv|apply qw|refine qs ?_ (by assumption))⟩)
          ·skip
           rintro ⟨v121, gb128⟩ w30 ⟨hS_, h0_, h1_, h2_, h3_, h4_, h5_, h6_, h7_, h8_, h9_, h10_⟩
           have HO122 : Aside0 (Kd.R (Kd.int .u32) 63 w30 w.heap.size (fun _ => True) v121 t120) := ⟨h0_⟩
           replace BK114 : Aside0 (w30.heap[gb114]? = some (.cells #[.bool a0_0, .slice A0_1 l0_1.length c0_1] 25 (0, 0))) := ⟨h1_⟩
           replace BK115 : Aside0 (w30.heap[gb115]? = some (.cells #[.bool a1_0, .slice A1_1 l1_1.length c1_1] 25 (0, 0))) := ⟨h2_⟩
           have BK128 : Aside0 (w30.heap[gb128]? = some (.cells #[.bool false, .slice none 0 0] 25 (0, 0))) := ⟨h3_⟩
           have GW128 : Aside0 (w.heap.size ≤ gb128) := ⟨h4_⟩
           have GE128 : Aside0 (w.heap.size ≤ gb128) := ⟨h5_⟩
           have NB114_128 : Aside0 (gb114 ≠ gb128) := ⟨h6_⟩
           have NB128_114 : Aside0 (gb128 ≠ gb114) := ⟨h7_⟩
           have NB115_128 : Aside0 (gb115 ≠ gb128) := ⟨h8_⟩
           have NB128_115 : Aside0 (gb128 ≠ gb115) := ⟨h9_⟩
           replace HB : Aside0 (Below w.heap.size w w30) := ⟨h10_⟩
           clear h0_ h1_ h2_ h3_ h4_ h5_ h6_ h7_ h8_ h9_ h10_
           have hHeld : w30.cell? ⟨gb114, 0, none⟩ = some (.bool a0_0) ∧ w30.cell? ⟨gb114, 1, none⟩ = some (.slice A0_1 l0_1.length c0_1) ∧ w30.cell? ⟨gb115, 0, none⟩ = some (.bool a1_0) ∧ w30.cell? ⟨gb115, 1, none⟩ = some (.slice A1_1 l1_1.length c1_1) := hS_
           refine norm_ (a' := ?_) ?_ ?_
           rotate_left
           ·simp only [putAll, Act.put, zA, zB, zC]
            rfl
           refine two_ (i := 3) (j := 4) (Ni := some 23) (Nj := some 5) #[true, true, true, true, false, true, false, false] #[true, true, true, false, true, true, false, false] rfl rfl rfl rfl (two_of HT_.out (by kernel_rfl)) (by decide) (by decide) (fun K hK => ?_) (fun K hK => ?_)
           ·skip
            refine goes_ Tryd.func28 (by kernel_rfl) rfl #[.agg #[.bool a1_0, .slice A1_1 l1_1.length c1_1]] (by rfl) rfl rfl (by (try simp only [zM, zO, zP]); first|done|rfl) ?_
            with_reducible refine (moraineref02_Copy.calls a1_0 _ _ l1_1 t123 t124 _ ?side1 ?side2 A21.out).mono ?_
            (case side1 => exact qC HR1_1 HB)
            (case side2 => exact HC1_1.out)
            rintro e w31 ⟨v125, rfl, ho0, hb⟩
            refine ⟨_, rfl, ?_⟩
            have HO126 := Aside0.mk (Kd.R_lower (Kd.R_new' ho0 (ql HO122)) (below_size (by repeat with_reducible first|exact HB.out|apply qx|apply qv|apply qw|refine qs ?_ (by assumption))))
            replace HO122 := qe HO122 ho0 hb
            replace BK114 := qb BK114 hb
            replace BK115 := qb BK115 hb
            replace BK128 := qb BK128 hb
            replace HB := Aside0.mk (below_step (by repeat with_reducible first|exact HB.out|apply qx|apply qv|apply qw|refine qs ?_ (by assumption)) hb)
            (try clear hb)
            (try clear hb2)
            (try clear hk)
            (try clear hi)
            (try clear ho0)
            refine hK.out _ _ ⟨qc BK114 0, qc BK114 1, qc BK115 0, qc BK115 1⟩ (fun hHeld => ?_)
            clear hK K
            refine norm_ (a' := ?_) ?_ ?_
            rotate_left
            ·show Act.put _ (some 23) _ = _
             simp only [Act.put, zA, zB, zC, i64_w, i32_w]
             rfl
            exact norm_ (by simp only [putAll, Act.put, zA, zB, zC] <;> rfl) (hJ1_3_5 (v121, v125, gb128) _ ⟨hHeld, (by (with_reducible repeat first|apply Kd.R_alloc|apply Kd.R_drewN|apply Kd.R_drew); exact Kd.R_mono HO122.out (fun _ hk => hk.2)), (by (with_reducible repeat first|apply Kd.R_alloc|apply Kd.R_drewN|apply Kd.R_drew); exact Kd.R_mono HO126.out (fun _ hk => hk.2)), qk BK114, qk BK115, qk BK128, GW128.out, GE128.out, NB114_128.out, NB128_114.out, NB115_128.out, NB128_115.out, (by repeat with_reducible first|exact HB.out|apply qx|apply qv|apply qw|refine qs ?_ (by assumption))⟩)
           ·skip
            refine box_step ?hg (N := 5) ?hd (cs := #[.bool false, .slice none 0 0]) (t := 25) ?hr ?_; (case hd => rfl); (case hg => rfl); (case hr => go_simp <;> rfl)
            intro gb127 hg w31 hbox hb
            replace HO122 := qr HO122 hb
            have BK127 := Aside0.mk (hbox)
            have GW127 := qg hg (by repeat with_reducible first|exact HB.out|apply qx|apply qv|apply qw|refine qs ?_ (by assumption))
            have GE127 := GW127
            replace HB := Aside0.mk (below_step (by repeat with_reducible first|exact HB.out|apply qx|apply qv|apply qw|refine qs ?_ (by assumption)) hb)
            have NB114_127 := qn BK114 hg
            have NB127_114 := qm BK114 hg
            replace BK114 := qb BK114 hb
            have NB115_127 := qn BK115 hg
            have NB127_115 := qm BK115 hg
            replace BK115 := qb BK115 hb
            have NB128_127 := qn BK128 hg
            have NB127_128 := qm BK128 hg
            replace BK128 := qb BK128 hb
            clear hb hbox hg
            refine hK.out _ _ ⟨qc BK114 0, qc BK114 1, qc BK115 0, qc BK115 1⟩ (fun hHeld => ?_)
            clear hK K
            refine norm_ (a' := ?_) ?_ ?_
            rotate_left
            ·show Act.put _ (some 5) _ = _
             simp only [Act.put, zA, zB, zC, i64_w, i32_w]
             rfl
            exact norm_ (by simp only [putAll, Act.put, zA, zB, zC] <;> rfl) (hJ1_4_5 (v121, gb127, gb128) _ ⟨hHeld, qq HO122, qk BK114, qk BK115, qk BK127, qk BK128, GW127.out, GE127.out, NB114_127.out, NB127_114.out, NB115_127.out, NB127_115.out, NB128_127.out, NB127_128.out, GW128.out, GE128.out, NB114_128.out, NB128_114.out, NB115_128.out, NB128_115.out, (by repeat with_reducible first|exact HB.out|apply qx|apply qv|apply qw|refine qs ?_ (by assumption))⟩)
         ·skip
          rintro ⟨v121, gb127⟩ w30 ⟨hS_, h0_, h1_, h2_, h3_, h4_, h5_, h6_, h7_, h8_, h9_, h10_⟩
          have HO122 : Aside0 (Kd.R (Kd.int .u32) 63 w30 w.heap.size (fun _ => True) v121 t120) := ⟨h0_⟩
          replace BK114 : Aside0 (w30.heap[gb114]? = some (.cells #[.bool a0_0, .slice A0_1 l0_1.length c0_1] 25 (0, 0))) := ⟨h1_⟩
          replace BK115 : Aside0 (w30.heap[gb115]? = some (.cells #[.bool a1_0, .slice A1_1 l1_1.length c1_1] 25 (0, 0))) := ⟨h2_⟩
          have BK127 : Aside0 (w30.heap[gb127]? = some (.cells #[.bool false, .slice none 0 0] 25 (0, 0))) := ⟨h3_⟩
          have GW127 : Aside0 (w.heap.size ≤ gb127) := ⟨h4_⟩
          have GE127 : Aside0 (w.heap.size ≤ gb127) := ⟨h5_⟩
          have NB114_127 : Aside0 (gb114 ≠ gb127) := ⟨h6_⟩
          have NB127_114 : Aside0 (gb127 ≠ gb114) := ⟨h7_⟩
          have NB115_127 : Aside0 (gb115 ≠ gb127) := ⟨h8_⟩
          have NB127_115 : Aside0 (gb127 ≠ gb115) := ⟨h9_⟩
          replace HB : Aside0 (Below w.heap.size w w30) := ⟨h10_⟩
          clear h0_ h1_ h2_ h3_ h4_ h5_ h6_ h7_ h8_ h9_ h10_
          have hHeld : w30.cell? ⟨gb114, 0, none⟩ = some (.bool a0_0) ∧ w30.cell? ⟨gb114, 1, none⟩ = some (.slice A0_1 l0_1.length c0_1) ∧ w30.cell? ⟨gb115, 0, none⟩ = some (.bool a1_0) ∧ w30.cell? ⟨gb115, 1, none⟩ = some (.slice A1_1 l1_1.length c1_1) := hS_
          refine norm_ (a' := ?_) ?_ ?_
          rotate_left
          ·simp only [putAll, Act.put, zA, zB, zC]
           rfl
          refine two_ (i := 3) (j := 5) (Ni := some 23) (Nj := some 6) #[true, true, true, true, true, false, false, false] #[true, true, true, false, true, true, false, false] rfl rfl rfl rfl (two_of HT_.out (by kernel_rfl)) (by decide) (by decide) (fun K hK => ?_) (fun K hK => ?_)
          ·skip
           refine goes_ Tryd.func28 (by kernel_rfl) rfl #[.agg #[.bool a1_0, .slice A1_1 l1_1.length c1_1]] (by rfl) rfl rfl (by (try simp only [zM, zO, zP]); first|done|rfl) ?_
           with_reducible refine (moraineref02_Copy.calls a1_0 _ _ l1_1 t123 t124 _ ?side1 ?side2 A21.out).mono ?_
           (case side1 => exact qC HR1_1 HB)
           (case side2 => exact HC1_1.out)
           rintro e w31 ⟨v125, rfl, ho0, hb⟩
           refine ⟨_, rfl, ?_⟩
           have HO126 := Aside0.mk (Kd.R_lower (Kd.R_new' ho0 (ql HO122)) (below_size (by repeat with_reducible first|exact HB.out|apply qx|apply qv|apply qw|refine qs ?_ (by assumption))))
           replace HO122 := qe HO122 ho0 hb
           replace BK114 := qb BK114 hb
           replace BK115 := qb BK115 hb
           replace BK127 := qb BK127 hb
           replace HB := Aside0.mk (below_step (by repeat with_reducible first|exact HB.out|apply qx|apply qv|apply qw|refine qs ?_ (by assumption)) hb)
           (try clear hb)
           (try clear hb2)
           (try clear hk)
           (try clear hi)
           (try clear ho0)
           refine hK.out _ _ ⟨qc BK114 0, qc BK114 1, qc BK115 0, qc BK115 1⟩ (fun hHeld => ?_)
           clear hK K
           refine norm_ (a' := ?_) ?_ ?_
           rotate_left
           ·show Act.put _ (some 23) _ = _
            simp only [Act.put, zA, zB, zC, i64_w, i32_w]
            rfl
           exact norm_ (by simp only [putAll, Act.put, zA, zB, zC] <;> rfl) (hJ1_3_4 (v121, v125, gb127) _ ⟨hHeld, (by (with_reducible repeat first|apply Kd.R_alloc|apply Kd.R_drewN|apply Kd.R_drew); exact Kd.R_mono HO122.out (fun _ hk => hk.2)), (by (with_reducible repeat first|apply Kd.R_alloc|apply Kd.R_drewN|apply Kd.R_drew); exact Kd.R_mono HO126.out (fun _ hk => hk.2)), qk BK114, qk BK115, qk BK127, GW127.out, GE127.out, NB114_127.out, NB127_114.out, NB115_127.out, NB127_115.out, (by repeat with_reducible first|exact HB.out|apply qx|apply qv|apply qw|refine qs ?_ (by assumption))⟩)
          ·skip
           refine box_step ?hg (N := 6) ?hd (cs := #[.bool false, .slice none 0 0]) (t := 25) ?hr ?_; (case hd => rfl); (case hg => rfl); (case hr => go_simp <;> rfl)
           intro gb128 hg w31 hbox hb
           replace HO122 := qr HO122 hb
           have BK128 := Aside0.mk (hbox)
           have GW128 := qg hg (by repeat with_reducible first|exact HB.out|apply qx|apply qv|apply qw|refine qs ?_ (by assumption))
           have GE128 := GW128
           replace HB := Aside0.mk (below_step (by repeat with_reducible first|exact HB.out|apply qx|apply qv|apply qw|refine qs ?_ (by assumption)) hb)
           have NB114_128 := qn BK114 hg
           have NB128_114 := qm BK114 hg
           replace BK114 := qb BK114 hb
           have NB115_128 := qn BK115 hg
           have NB128_115 := qm BK115 hg
           replace BK115 := qb BK115 hb
           have NB127_128 := qn BK127 hg
           have NB128_127 := qm BK127 hg
           replace BK127 := qb BK127 hb
           clear hb hbox hg
           refine hK.out _ _ ⟨qc BK114 0, qc BK114 1, qc BK115 0, qc BK115 1⟩ (fun hHeld => ?_)
           clear hK K
           refine norm_ (a' := ?_) ?_ ?_
           rotate_left
           ·show Act.put _ (some 6) _ = _
            simp only [Act.put, zA, zB, zC, i64_w, i32_w]
            rfl
           exact norm_ (by simp only [putAll, Act.put, zA, zB, zC] <;> rfl) (hJ1_4_5 (v121, gb127, gb128) _ ⟨hHeld, qq HO122, qk BK114, qk BK115, qk BK127, qk BK128, GW127.out, GE127.out, NB114_127.out, NB127_114.out, NB115_127.out, NB127_115.out, NB128_127.out, NB127_128.out, GW128.out, GE128.out, NB114_128.out, NB128_114.out, NB115_128.out, NB128_115.out, (by repeat with_reducible first|exact HB.out|apply qx|apply qv|apply qw|refine qs ?_ (by assumption))⟩)
        ·skip
         rintro ⟨v121, v125⟩ w30 ⟨hS_, h0_, h1_, h2_, h3_, h4_⟩
         have HO122 : Aside0 (Kd.R (Kd.int .u32) 63 w30 w.heap.size (fun k_ => some k_ ≠ (v125 : Value).ownBlock) v121 t120) := ⟨h0_⟩
         have HO126 : Aside0 (Kd.R (Kd.int .u32) 63 w30 w.heap.size (fun k_ => some k_ ≠ (v121 : Value).ownBlock) v125 t124) := ⟨h1_⟩
         replace BK114 : Aside0 (w30.heap[gb114]? = some (.cells #[.bool a0_0, .slice A0_1 l0_1.length c0_1] 25 (0, 0))) := ⟨h2_⟩
         replace BK115 : Aside0 (w30.heap[gb115]? = some (.cells #[.bool a1_0, .slice A1_1 l1_1.length c1_1] 25 (0, 0))) := ⟨h3_⟩
         replace HB : Aside0 (Below w.heap.size w w30) := ⟨h4_⟩
         clear h0_ h1_ h2_ h3_ h4_
         have hHeld : w30.cell? ⟨gb114, 0, none⟩ = some (.bool a0_0) ∧ w30.cell? ⟨gb114, 1, none⟩ = some (.slice A0_1 l0_1.length c0_1) ∧ w30.cell? ⟨gb115, 0, none⟩ = some (.bool a1_0) ∧ w30.cell? ⟨gb115, 1, none⟩ = some (.slice A1_1 l1_1.length c1_1) := hS_
         refine norm_ (a' := ?_) ?_ ?_
         rotate_left
         ·simp only [putAll, Act.put, zA, zB, zC]
          rfl
         refine two_ (i := 4) (j := 5) (Ni := some 5) (Nj := some 6) #[true, true, true, true, true, false, false, false] #[true, true, true, true, false, true, false, false] rfl rfl rfl rfl (two_of HT_.out (by kernel_rfl)) (by decide) (by decide) (fun K hK => ?_) (fun K hK => ?_)
         ·skip
          refine box_step ?hg (N := 5) ?hd (cs := #[.bool false, .slice none 0 0]) (t := 25) ?hr ?_; (case hd => rfl); (case hg => rfl); (case hr => go_simp <;> rfl)
          intro gb127 hg w31 hbox hb
          replace HO122 := qr HO122 hb
          replace HO126 := qr HO126 hb
          have BK127 := Aside0.mk (hbox)
          have GW127 := qg hg (by repeat with_reducible first|exact HB.out|apply qx|apply qv|apply qw|refine qs ?_ (by assumption))
          have GE127 := GW127
          replace HB := Aside0.mk (below_step (by repeat with_reducible first|exact HB.out|apply qx|apply qv|apply qw|refine qs ?_ (by assumption)) hb)
          have NB114_127 := qn BK114 hg
          have NB127_114 := qm BK114 hg
          replace BK114 := qb BK114 hb
          have NB115_127 := qn BK115 hg
          have NB127_115 := qm BK115 hg
          replace BK115 := qb BK115 hb
          clear hb hbox hg
          refine hK.out _ _ ⟨qc BK114 0, qc BK114 1, qc BK115 0, qc BK115 1⟩ (fun hHeld => ?_)
          clear hK K
          refine norm_ (a' := ?_) ?_ ?_
          rotate_left
          ·show Act.put _ (some 5) _ = _
           simp only [Act.put, zA, zB, zC, i64_w, i32_w]
           rfl
          exact norm_ (by simp only [putAll, Act.put, zA, zB, zC] <;> rfl) (hJ1_3_4 (v121, v125, gb127) _ ⟨hHeld, qq HO122, qq HO126, qk BK114, qk BK115, qk BK127, GW127.out, GE127.out, NB114_127.out, NB127_114.out, NB115_127.out, NB127_115.out, (by repeat with_reducible first|exact HB.out|apply qx|apply qv|apply qw|refine qs ?_ (by assumption))⟩)
         ·skip
          refine box_step ?hg (N := 6) ?hd (cs := #[.bool false, .slice none 0 0]) (t := 25) ?hr ?_; (case hd => rfl); (case hg => rfl); (case hr => go_simp <;> rfl)
          intro gb128 hg w31 hbox hb
          replace HO122 := qr HO122 hb
          replace HO126 := qr HO126 hb
          have BK128 := Aside0.mk (hbox)
          have GW128 := qg hg (by repeat with_reducible first|exact HB.out|apply qx|apply qv|apply qw|refine qs ?_ (by assumption))
          have GE128 := GW128
          replace HB := Aside0.mk (below_step (by repeat with_reducible first|exact HB.out|apply qx|apply qv|apply qw|refine qs ?_ (by assumption)) hb)
          have NB114_128 := qn BK114 hg
          have NB128_114 := qm BK114 hg
          replace BK114 := qb BK114 hb
          have NB115_128 := qn BK115 hg
          have NB128_115 := qm BK115 hg
          replace BK115 := qb BK115 hb
          clear hb hbox hg
          refine hK.out _ _ ⟨qc BK114 0, qc BK114 1, qc BK115 0, qc BK115 1⟩ (fun hHeld => ?_)
          clear hK K
          refine norm_ (a' := ?_) ?_ ?_
          rotate_left
          ·show Act.put _ (some 6) _ = _
           simp only [Act.put, zA, zB, zC, i64_w, i32_w]
           rfl
          exact norm_ (by simp only [putAll, Act.put, zA, zB, zC] <;> rfl) (hJ1_3_5 (v121, v125, gb128) _ ⟨hHeld, qq HO122, qq HO126, qk BK114, qk BK115, qk BK128, GW128.out, GE128.out, NB114_128.out, NB128_114.out, NB115_128.out, NB128_115.out, (by repeat with_reducible first|exact HB.out|apply qx|apply qv|apply qw|refine qs ?_ (by assumption))⟩)
       ·skip
        rintro ⟨v121, gb127, gb128⟩ w31 ⟨hS_, h0_, h1_, h2_, h3_, h4_, h5_, h6_, h7_, h8_, h9_, h10_, h11_, h12_, h13_, h14_, h15_, h16_, h17_, h18_, h19_⟩
        have HO122 : Aside0 (Kd.R (Kd.int .u32) 63 w31 w.heap.size (fun _ => True) v121 t120) := ⟨h0_⟩
        replace BK114 : Aside0 (w31.heap[gb114]? = some (.cells #[.bool a0_0, .slice A0_1 l0_1.length c0_1] 25 (0, 0))) := ⟨h1_⟩
        replace BK115 : Aside0 (w31.heap[gb115]? = some (.cells #[.bool a1_0, .slice A1_1 l1_1.length c1_1] 25 (0, 0))) := ⟨h2_⟩
        have BK127 : Aside0 (w31.heap[gb127]? = some (.cells #[.bool false, .slice none 0 0] 25 (0, 0))) := ⟨h3_⟩
        have BK128 : Aside0 (w31.heap[gb128]? = some (.cells #[.bool false, .slice none 0 0] 25 (0, 0))) := ⟨h4_⟩
        have GW127 : Aside0 (w.heap.size ≤ gb127) := ⟨h5_⟩
        have GE127 : Aside0 (w.heap.size ≤ gb127) := ⟨h6_⟩
        have NB114_127 : Aside0 (gb114 ≠ gb127) := ⟨h7_⟩
        have NB127_114 : Aside0 (gb127 ≠ gb114) := ⟨h8_⟩
        have NB115_127 : Aside0 (gb115 ≠ gb127) := ⟨h9_⟩
        have NB127_115 : Aside0 (gb127 ≠ gb115) := ⟨h10_⟩
        have NB128_127 : Aside0 (gb128 ≠ gb127) := ⟨h11_⟩
        have NB127_128 : Aside0 (gb127 ≠ gb128) := ⟨h12_⟩
        have GW128 : Aside0 (w.heap.size ≤ gb128) := ⟨h13_⟩
        have GE128 : Aside0 (w.heap.size ≤ gb128) := ⟨h14_⟩
        have NB114_128 : Aside0 (gb114 ≠ gb128) := ⟨h15_⟩
        have NB128_114 : Aside0 (gb128 ≠ gb114) := ⟨h16_⟩
        have NB115_128 : Aside0 (gb115 ≠ gb128) := ⟨h17_⟩
        have NB128_115 : Aside0 (gb128 ≠ gb115) := ⟨h18_⟩
        replace HB : Aside0 (Below w.heap.size w w31) := ⟨h19_⟩
        clear h0_ h1_ h2_ h3_ h4_ h5_ h6_ h7_ h8_ h9_ h10_ h11_ h12_ h13_ h14_ h15_ h16_ h17_ h18_ h19_
        have hHeld : w31.cell? ⟨gb114, 0, none⟩ = some (.bool a0_0) ∧ w31.cell? ⟨gb114, 1, none⟩ = some (.slice A0_1 l0_1.length c0_1) ∧ w31.cell? ⟨gb115, 0, none⟩ = some (.bool a1_0) ∧ w31.cell? ⟨gb115, 1, none⟩ = some (.slice A1_1 l1_1.length c1_1) := hS_
        refine norm_ (a' := ?_) ?_ ?_
        rotate_left
        ·simp only [putAll, Act.put, zA, zB, zC]
         rfl
        refine one_ (i := 3) (N := some 23) #[true, true, true, true, true, true, false, false] rfl rfl (one_of HT_.out (by kernel_rfl)) (by decide) (fun K hK => ?_)
        refine goes_ Tryd.func28 (by kernel_rfl) rfl #[.agg #[.bool a1_0, .slice A1_1 l1_1.length c1_1]] (by rfl) rfl rfl (by (try simp only [zM, zO, zP]); first|done|rfl) ?_
        with_reducible refine (moraineref02_Copy.calls a1_0 _ _ l1_1 t123 t124 _ ?side1 ?side2 A21.out).mono ?_
        (case side1 => exact qC HR1_1 HB)
        (case side2 => exact HC1_1.out)
        rintro e w32 ⟨v125, rfl, ho0, hb⟩
        refine ⟨_, rfl, ?_⟩
        have HO126 := Aside0.mk (Kd.R_lower (Kd.R_new' ho0 (ql HO122)) (below_size (by repeat with_reducible first|exact HB.out|apply qx|apply qv|apply qw|refine qs ?_ (by assumption))))
        replace HO122 := qe HO122 ho0 hb
        replace BK114 := qb BK114 hb
        replace BK115 := qb BK115 hb
        replace BK127 := qb BK127 hb
        replace BK128 := qb BK128 hb
        replace HB := Aside0.mk (below_step (by repeat with_reducible first|exact HB.out|apply qx|apply qv|apply qw|refine qs ?_ (by assumption)) hb)
        (try clear hb)
        (try clear hb2)
        (try clear hk)
        (try clear hi)
        (try clear ho0)
        refine hK.out _ _ ⟨qc BK114 0, qc BK114 1, qc BK115 0, qc BK115 1⟩ (fun hHeld => ?_)
        clear hK K
        refine norm_ (a' := ?_) ?_ ?_
        rotate_left
        ·show Act.put _ (some 23) _ = _
         simp only [Act.put, zA, zB, zC, i64_w, i32_w]
         rfl
        exact norm_ (by simp only [putAll, Act.put, zA, zB, zC] <;> rfl) (hJ1_3_4_5 (v121, v125, gb127, gb128) _ ⟨hHeld, (by (with_reducible repeat first|apply Kd.R_alloc|apply Kd.R_drewN|apply Kd.R_drew); exact Kd.R_mono HO122.out (fun _ hk => hk.2)), (by (with_reducible repeat first|apply Kd.R_alloc|apply Kd.R_drewN|apply Kd.R_drew); exact Kd.R_mono HO126.out (fun _ hk => hk.2)), qk BK114, qk BK115, qk BK127, qk BK128, GW127.out, GE127.out, NB114_127.out, NB127_114.out, NB115_127.out, NB127_115.out, NB128_127.out, NB127_128.out, GW128.out, GE128.out, NB114_128.out, NB128_114.out, NB115_128.out, NB128_115.out, (by repeat with_reducible first|exact HB.out|apply qx|apply qv|apply qw|refine qs ?_ (by assumption))⟩)
      ·skip
       rintro ⟨v121, v125, gb128⟩ w31 ⟨hS_, h0_, h1_, h2_, h3_, h4_, h5_, h6_, h7_, h8_, h9_, h10_, h11_⟩
       have HO122 : Aside0 (Kd.R (Kd.int .u32) 63 w31 w.heap.size (fun k_ => some k_ ≠ (v125 : Value).ownBlock) v121 t120) := ⟨h0_⟩
       have HO126 : Aside0 (Kd.R (Kd.int .u32) 63 w31 w.heap.size (fun k_ => some k_ ≠ (v121 : Value).ownBlock) v125 t124) := ⟨h1_⟩
       replace BK114 : Aside0 (w31.heap[gb114]? = some (.cells #[.bool a0_0, .slice A0_1 l0_1.length c0_1] 25 (0, 0))) := ⟨h2_⟩
       replace BK115 : Aside0 (w31.heap[gb115]? = some (.cells #[.bool a1_0, .slice A1_1 l1_1.length c1_1] 25 (0, 0))) := ⟨h3_⟩
       have BK128 : Aside0 (w31.heap[gb128]? = some (.cells #[.bool false, .slice none 0 0] 25 (0, 0))) := ⟨h4_⟩
       have GW128 : Aside0 (w.heap.size ≤ gb128) := ⟨h5_⟩
       have GE128 : Aside0 (w.heap.size ≤ gb128) := ⟨h6_⟩
       have NB114_128 : Aside0 (gb114 ≠ gb128) := ⟨h7_⟩
       have NB128_114 : Aside0 (gb128 ≠ gb114) := ⟨h8_⟩
       have NB115_128 : Aside0 (gb115 ≠ gb128) := ⟨h9_⟩
       have NB128_115 : Aside0 (gb128 ≠ gb115) := ⟨h10_⟩
       replace HB : Aside0 (Below w.heap.size w w31) := ⟨h11_⟩
       clear h0_ h1_ h2_ h3_ h4_ h5_ h6_ h7_ h8_ h9_ h10_ h11_
       have hHeld : w31.cell? ⟨gb114, 0, none⟩ = some (.bool a0_0) ∧ w31.cell? ⟨gb114, 1, none⟩ = some (.slice A0_1 l0_1.length c0_1) ∧ w31.cell? ⟨gb115, 0, none⟩ = some (.bool a1_0) ∧ w31.cell? ⟨gb115, 1, none⟩ = some (.slice A1_1 l1_1.length c1_1) := hS_
       refine norm_ (a' := ?_) ?_ ?_
       rotate_left
       ·simp only [putAll, Act.put, zA, zB, zC]
        rfl
       refine one_ (i := 4) (N := some 5) #[true, true, true, true, true, true, false, false] rfl rfl (one_of HT_.out (by kernel_rfl)) (by decide) (fun K hK => ?_)
       refine box_step ?hg (N := 5) ?hd (cs := #[.bool false, .slice none 0 0]) (t := 25) ?hr ?_; (case hd => rfl); (case hg => rfl); (case hr => go_simp <;> rfl)
       intro gb127 hg w32 hbox hb
       replace HO122 := qr HO122 hb
       replace HO126 := qr HO126 hb
       have BK127 := Aside0.mk (hbox)
       have GW127 := qg hg (by repeat with_reducible first|exact HB.out|apply qx|apply qv|apply qw|refine qs ?_ (by assumption))
       have GE127 := GW127
       replace HB := Aside0.mk (below_step (by repeat with_reducible first|exact HB.out|apply qx|apply qv|apply qw|refine qs ?_ (by assumption)) hb)
       have NB114_127 := qn BK114 hg
       have NB127_114 := qm BK114 hg
       replace BK114 := qb BK114 hb
       have NB115_127 := qn BK115 hg
       have NB127_115 := qm BK115 hg
       replace BK115 := qb BK115 hb
       have NB128_127 := qn BK128 hg
       have NB127_128 := qm BK128 hg
       replace BK128 := qb BK128 hb
       clear hb hbox hg
       refine hK.out _ _ ⟨qc BK114 0, qc BK114 1, qc BK115 0, qc BK115 1⟩ (fun hHeld => ?_)
       clear hK K
       refine norm_ (a' := ?_) ?_ ?_
       rotate_left
       ·show Act.put _ (some 5) _ = _
        simp only [Act.put, zA, zB, zC, i64_w, i32_w]
        rfl
       exact norm_ (by simp only [putAll, Act.put, zA, zB, zC] <;> rfl) (hJ1_3_4_5 (v121, v125, gb127, gb128) _ ⟨hHeld, qq HO122, qq HO126, qk BK114, qk BK115, qk BK127, qk BK128, GW127.out, GE127.out, NB114_127.out, NB127_114.out, NB115_127.out, NB127_115.out, NB128_127.out, NB127_128.out, GW128.out, GE128.out, NB114_128.out, NB128_114.out, NB115_128.out, NB128_115.out, (by repeat with_reducible first|exact HB.out|apply qx|apply qv|apply qw|refine qs ?_ (by assumption))⟩)
     ·skip
      rintro ⟨v121, v125, gb127⟩ w31 ⟨hS_, h0_, h1_, h2_, h3_, h4_, h5_, h6_, h7_, h8_, h9_, h10_, h11_⟩
      have HO122 : Aside0 (Kd.R (Kd.int .u32) 63 w31 w.heap.size (fun k_ => some k_ ≠ (v125 : Value).ownBlock) v121 t120) := ⟨h0_⟩
      have HO126 : Aside0 (Kd.R (Kd.int .u32) 63 w31 w.heap.size (fun k_ => some k_ ≠ (v121 : Value).ownBlock) v125 t124) := ⟨h1_⟩
      replace BK114 : Aside0 (w31.heap[gb114]? = some (.cells #[.bool a0_0, .slice A0_1 l0_1.length c0_1] 25 (0, 0))) := ⟨h2_⟩
      replace BK115 : Aside0 (w31.heap[gb115]? = some (.cells #[.bool a1_0, .slice A1_1 l1_1.length c1_1] 25 (0, 0))) := ⟨h3_⟩
      have BK127 : Aside0 (w31.heap[gb127]? = some (.cells #[.bool false, .slice none 0 0] 25 (0, 0))) := ⟨h4_⟩
      have GW127 : Aside0 (w.heap.size ≤ gb127) := ⟨h5_⟩
      have GE127 : Aside0 (w.heap.size ≤ gb127) := ⟨h6_⟩
      have NB114_127 : Aside0 (gb114 ≠ gb127) := ⟨h7_⟩
      have NB127_114 : Aside0 (gb127 ≠ gb114) := ⟨h8_⟩
      have NB115_127 : Aside0 (gb115 ≠ gb127) := ⟨h9_⟩
      have NB127_115 : Aside0 (gb127 ≠ gb115) := ⟨h10_⟩
      replace HB : Aside0 (Below w.heap.size w w31) := ⟨h11_⟩
      clear h0_ h1_ h2_ h3_ h4_ h5_ h6_ h7_ h8_ h9_ h10_ h11_
      have hHeld : w31.cell? ⟨gb114, 0, none⟩ = some (.bool a0_0) ∧ w31.cell? ⟨gb114, 1, none⟩ = some (.slice A0_1 l0_1.length c0_1) ∧ w31.cell? ⟨gb115, 0, none⟩ = some (.bool a1_0) ∧ w31.cell? ⟨gb115, 1, none⟩ = some (.slice A1_1 l1_1.length c1_1) := hS_
      refine norm_ (a' := ?_) ?_ ?_
      rotate_left
      ·simp only [putAll, Act.put, zA, zB, zC]
       rfl
      refine one_ (i := 5) (N := some 6) #[true, true, true, true, true, true, false, false] rfl rfl (one_of HT_.out (by kernel_rfl)) (by decide) (fun K hK => ?_)
      refine box_step ?hg (N := 6) ?hd (cs := #[.bool false, .slice none 0 0]) (t := 25) ?hr ?_; (case hd => rfl); (case hg => rfl); (case hr => go_simp <;> rfl)
      intro gb128 hg w32 hbox hb
      replace HO122 := qr HO122 hb
      replace HO126 := qr HO126 hb
      have BK128 := Aside0.mk (hbox)
      have GW128 := qg hg (by repeat with_reducible first|exact HB.out|apply qx|apply qv|apply qw|refine qs ?_ (by assumption))
      have GE128 := GW128
      replace HB := Aside0.mk (below_step (by repeat with_reducible first|exact HB.out|apply qx|apply qv|apply qw|refine qs ?_ (by assumption)) hb)
      have NB114_128 := qn BK114 hg
      have NB128_114 := qm BK114 hg
      replace BK114 := qb BK114 hb
      have NB115_128 := qn BK115 hg
      have NB128_115 := qm BK115 hg
      replace BK115 := qb BK115 hb
      have NB127_128 := qn BK127 hg
      have NB128_127 := qm BK127 hg
      replace BK127 := qb BK127 hb
      clear hb hbox hg
      refine hK.out _ _ ⟨qc BK114 0, qc BK114 1, qc BK115 0, qc BK115 1⟩ (fun hHeld => ?_)
      clear hK K
      refine norm_ (a' := ?_) ?_ ?_
      rotate_left
      ·show Act.put _ (some 6) _ = _
       simp only [Act.put, zA, zB, zC, i64_w, i32_w]
       rfl
      exact norm_ (by simp only [putAll, Act.put, zA, zB, zC] <;> rfl) (hJ1_3_4_5 (v121, v125, gb127, gb128) _ ⟨hHeld, qq HO122, qq HO126, qk BK114, qk BK115, qk BK127, qk BK128, GW127.out, GE127.out, NB114_127.out, NB127_114.out, NB115_127.out, NB127_115.out, NB128_127.out, NB127_128.out, GW128.out, GE128.out, NB114_128.out, NB128_114.out, NB115_128.out, NB128_115.out, (by repeat with_reducible first|exact HB.out|apply qx|apply qv|apply qw|refine qs ?_ (by assumption))⟩)
    rintro ⟨v121, v125, gb127, gb128⟩ w32 ⟨hS_, h0_, h1_, h2_, h3_, h4_, h5_, h6_, h7_, h8_, h9_, h10_, h11_, h12_, h13_, h14_, h15_, h16_, h17_, h18_, h19_, h20_⟩
    have HO122 : Aside0 (Kd.R (Kd.int .u32) 63 w32 w.heap.size (fun k_ => some k_ ≠ (v125 : Value).ownBlock) v121 t120) := ⟨h0_⟩
    have HO126 : Aside0 (Kd.R (Kd.int .u32) 63 w32 w.heap.size (fun k_ => some k_ ≠ (v121 : Value).ownBlock) v125 t124) := ⟨h1_⟩
    replace BK114 : Aside0 (w32.heap[gb114]? = some (.cells #[.bool a0_0, .slice A0_1 l0_1.length c0_1] 25 (0, 0))) := ⟨h2_⟩
    replace BK115 : Aside0 (w32.heap[gb115]? = some (.cells #[.bool a1_0, .slice A1_1 l1_1.length c1_1] 25 (0, 0))) := ⟨h3_⟩
    have BK127 : Aside0 (w32.heap[gb127]? = some (.cells #[.bool false, .slice none 0 0] 25 (0, 0))) := ⟨h4_⟩
    have BK128 : Aside0 (w32.heap[gb128]? = some (.cells #[.bool false, .slice none 0 0] 25 (0, 0))) := ⟨h5_⟩
    have GW127 : Aside0 (w.heap.size ≤ gb127) := ⟨h6_⟩
    have GE127 : Aside0 (w.heap.size ≤ gb127) := ⟨h7_⟩
    have NB114_127 : Aside0 (gb114 ≠ gb127) := ⟨h8_⟩
    have NB127_114 : Aside0 (gb127 ≠ gb114) := ⟨h9_⟩
    have NB115_127 : Aside0 (gb115 ≠ gb127) := ⟨h10_⟩
    have NB127_115 : Aside0 (gb127 ≠ gb115) := ⟨h11_⟩
    have NB128_127 : Aside0 (gb128 ≠ gb127) := ⟨h12_⟩
    have NB127_128 : Aside0 (gb127 ≠ gb128) := ⟨h13_⟩
    have GW128 : Aside0 (w.heap.size ≤ gb128) := ⟨h14_⟩
    have GE128 : Aside0 (w.heap.size ≤ gb128) := ⟨h15_⟩
    have NB114_128 : Aside0 (gb114 ≠ gb128) := ⟨h16_⟩
    have NB128_114 : Aside0 (gb128 ≠ gb114) := ⟨h17_⟩
    have NB115_128 : Aside0 (gb115 ≠ gb128) := ⟨h18_⟩
    have NB128_115 : Aside0 (gb128 ≠ gb115) := ⟨h19_⟩
    replace HB : Aside0 (Below w.heap.size w w32) := ⟨h20_⟩
    clear h0_ h1_ h2_ h3_ h4_ h5_ h6_ h7_ h8_ h9_ h10_ h11_ h12_ h13_ h14_ h15_ h16_ h17_ h18_ h19_ h20_
    have hHeld : w32.cell? ⟨gb114, 0, none⟩ = some (.bool a0_0) ∧ w32.cell? ⟨gb114, 1, none⟩ = some (.slice A0_1 l0_1.length c0_1) ∧ w32.cell? ⟨gb115, 0, none⟩ = some (.bool a1_0) ∧ w32.cell? ⟨gb115, 1, none⟩ = some (.slice A1_1 l1_1.length c1_1) := hS_
    obtain ⟨Ao34, co34, eo34⟩ := Kd.R_slice HO122.out
    (first | subst eo34 | (injection eo34 with f1_ f2_ f3_; have f4_ := f1_.symm; have f5_ := f3_.symm; clear f1_ f2_ f3_; subst f4_; subst f5_))
    obtain ⟨Ao37, co37, eo37⟩ := Kd.R_slice HO126.out
    (first | subst eo37 | (injection eo37 with f1_ f2_ f3_; have f4_ := f1_.symm; have f5_ := f3_.symm; clear f1_ f2_ f3_; subst f4_; subst f5_))
    refine norm_ (a' := ?_) ?_ ?_
    rotate_left
    ·simp only [putAll, Act.put, zA, zB, zC]
     rfl
    refine one_ (i := 6) (N := none) #[true, true, true, true, true, true, true, false] rfl rfl (one_of HT_.out (by kernel_rfl)) (by decide) (fun K hK => ?_)
    have hs33 : w32.cell? ⟨gb127, 0, none⟩ = some (.bool false) := qc BK127 0
    have hfs33 := blk_frozen BK127.out 0
    have hns33_0 := NB114_127.out
    have hns33_1 := NB115_127.out
    have hns33_3 := NB128_127.out
    have hms33_0 := NB127_114.out
    have hms33_1 := NB127_115.out
    have hms33_3 := NB127_128.out
    have hs35 : w32.cell? ⟨gb127, 1, none⟩ = some (.slice none 0 0) := qc BK127 1
    have hfs35 := blk_frozen BK127.out 1
    have hns35_0 := NB114_127.out
    have hns35_1 := NB115_127.out
    have hns35_3 := NB128_127.out
    have hms35_0 := NB127_114.out
    have hms35_1 := NB127_115.out
    have hms35_3 := NB127_128.out
    refine skip_ (w1 := ?_) (by rfl) rfl ?_ ?_
    rotate_left
    ·go_simp
     rfl
    refine hK.out _ _ ⟨((cell_far (p := ⟨gb127, _, none⟩) NB114_127.out _).trans (((cell_far (p := ⟨gb127, _, none⟩) NB114_127.out _).trans (hHeld.1)))), ((cell_far (p := ⟨gb127, _, none⟩) NB114_127.out _).trans (((cell_far (p := ⟨gb127, _, none⟩) NB114_127.out _).trans (hHeld.2.1)))), ((cell_far (p := ⟨gb127, _, none⟩) NB115_127.out _).trans (((cell_far (p := ⟨gb127, _, none⟩) NB115_127.out _).trans (hHeld.2.2.1)))), ((cell_far (p := ⟨gb127, _, none⟩) NB115_127.out _).trans (((cell_far (p := ⟨gb127, _, none⟩) NB115_127.out _).trans (hHeld.2.2.2))))⟩ (fun hHeld => ?_)
    clear hK K
    refine one_ (i := 7) (N := none) #[true, true, true, true, true, true, true, true] rfl rfl (one_of HT_.out (by kernel_rfl)) (by decide) (fun K hK => ?_)
    have hs36 : w32.cell? ⟨gb128, 0, none⟩ = some (.bool false) := qc BK128 0
    have hfs36 := blk_frozen BK128.out 0
    have hns36_0 := NB114_128.out
    have hns36_1 := NB115_128.out
    have hns36_2 := NB127_128.out
    have hms36_0 := NB128_114.out
    have hms36_1 := NB128_115.out
    have hms36_2 := NB128_127.out
    have hs38 : w32.cell? ⟨gb128, 1, none⟩ = some (.slice none 0 0) := qc BK128 1
    have hfs38 := blk_frozen BK128.out 1
    have hns38_0 := NB114_128.out
    have hns38_1 := NB115_128.out
    have hns38_2 := NB127_128.out
    have hms38_0 := NB128_114.out
    have hms38_1 := NB128_115.out
    have hms38_2 := NB128_127.out
    refine skip_ (w1 := ?_) (by rfl) rfl ?_ ?_
    rotate_left
    ·go_simp
     rfl
    refine hK.out _ _ ⟨((cell_far (p := ⟨gb128, _, none⟩) NB114_128.out _).trans (((cell_far (p := ⟨gb128, _, none⟩) NB114_128.out _).trans (hHeld.1)))), ((cell_far (p := ⟨gb128, _, none⟩) NB114_128.out _).trans (((cell_far (p := ⟨gb128, _, none⟩) NB114_128.out _).trans (hHeld.2.1)))), ((cell_far (p := ⟨gb128, _, none⟩) NB115_128.out _).trans (((cell_far (p := ⟨gb128, _, none⟩) NB115_128.out _).trans (hHeld.2.2.1)))), ((cell_far (p := ⟨gb128, _, none⟩) NB115_128.out _).trans (((cell_far (p := ⟨gb128, _, none⟩) NB115_128.out _).trans (hHeld.2.2.2))))⟩ (fun hHeld => ?_)
    clear hK K
    refine done_ (done_of HT_.out (by kernel_rfl)) ?_
    try go_wp2
    have n0_ : Aside0 (Kd.R (Kd.int .u32) 63 ((((w32.setCell ⟨gb127, 0, none⟩ (.bool t119)).setCell ⟨gb127, 1, none⟩ (.slice Ao34 t120.length co34)).setCell ⟨gb128, 0, none⟩ (.bool t123)).setCell ⟨gb128, 1, none⟩ (.slice Ao37 t124.length co37)) w.heap.size (fun k_ => some k_ ≠ (.slice Ao37 t124.length co37 : Value).ownBlock) (.slice Ao34 t120.length co34) t120) := ⟨by (with_reducible repeat first|apply Kd.R_alloc|apply Kd.R_drewN|apply Kd.R_drew); exact Kd.R_mono (Kd.R_far (p := ⟨gb128, 1, none⟩) (Kd.R_far (p := ⟨gb128, 0, none⟩) (Kd.R_far (p := ⟨gb127, 1, none⟩) (Kd.R_far (p := ⟨gb127, 0, none⟩) (Kd.R_types (Kd.R_types HO122.out BK127.out (by decide)) BK128.out (by decide)) (fun _ hk => hk.1.2) (.bool t119)) (fun _ hk => hk.1.2) (.slice Ao34 t120.length co34)) (fun _ hk => hk.2) (.bool t123)) (fun _ hk => hk.2) (.slice Ao37 t124.length co37)) (fun _ hk => hk.1.1)⟩
    have n1_ : Aside0 (Kd.R (Kd.int .u32) 63 ((((w32.setCell ⟨gb127, 0, none⟩ (.bool t119)).setCell ⟨gb127, 1, none⟩ (.slice Ao34 t120.length co34)).setCell ⟨gb128, 0, none⟩ (.bool t123)).setCell ⟨gb128, 1, none⟩ (.slice Ao37 t124.length co37)) w.heap.size (fun k_ => some k_ ≠ (.slice Ao34 t120.length co34 : Value).ownBlock) (.slice Ao37 t124.length co37) t124) := ⟨by (with_reducible repeat first|apply Kd.R_alloc|apply Kd.R_drewN|apply Kd.R_drew); exact Kd.R_mono (Kd.R_far (p := ⟨gb128, 1, none⟩) (Kd.R_far (p := ⟨gb128, 0, none⟩) (Kd.R_far (p := ⟨gb127, 1, none⟩) (Kd.R_far (p := ⟨gb127, 0, none⟩) (Kd.R_types (Kd.R_types HO126.out BK127.out (by decide)) BK128.out (by decide)) (fun _ hk => hk.1.2) (.bool t119)) (fun _ hk => hk.1.2) (.slice Ao34 t120.length co34)) (fun _ hk => hk.2) (.bool t123)) (fun _ hk => hk.2) (.slice Ao37 t124.length co37)) (fun _ hk => hk.1.1)⟩
    have n2_ : Aside0 (((((w32.setCell ⟨gb127, 0, none⟩ (.bool t119)).setCell ⟨gb127, 1, none⟩ (.slice Ao34 t120.length co34)).setCell ⟨gb128, 0, none⟩ (.bool t123)).setCell ⟨gb128, 1, none⟩ (.slice Ao37 t124.length co37)).heap[gb114]? = some (.cells #[.bool a0_0, .slice A0_1 l0_1.length c0_1] 25 (0, 0))) := ⟨by (with_reducible repeat first|refine qN ?_ _|refine qW ?_|refine qA ?_ _); refine qf ?_ NB114_128; (with_reducible repeat first|refine qN ?_ _|refine qW ?_|refine qA ?_ _); refine qf ?_ NB114_127; (with_reducible repeat first|refine qN ?_ _|refine qW ?_|refine qA ?_ _); exact BK114.out⟩
    have n3_ : Aside0 (((((w32.setCell ⟨gb127, 0, none⟩ (.bool t119)).setCell ⟨gb127, 1, none⟩ (.slice Ao34 t120.length co34)).setCell ⟨gb128, 0, none⟩ (.bool t123)).setCell ⟨gb128, 1, none⟩ (.slice Ao37 t124.length co37)).heap[gb115]? = some (.cells #[.bool a1_0, .slice A1_1 l1_1.length c1_1] 25 (0, 0))) := ⟨by (with_reducible repeat first|refine qN ?_ _|refine qW ?_|refine qA ?_ _); refine qf ?_ NB115_128; (with_reducible repeat first|refine qN ?_ _|refine qW ?_|refine qA ?_ _); refine qf ?_ NB115_127; (with_reducible repeat first|refine qN ?_ _|refine qW ?_|refine qA ?_ _); exact BK115.out⟩
    have n4_ : Aside0 (((((w32.setCell ⟨gb127, 0, none⟩ (.bool t119)).setCell ⟨gb127, 1, none⟩ (.slice Ao34 t120.length co34)).setCell ⟨gb128, 0, none⟩ (.bool t123)).setCell ⟨gb128, 1, none⟩ (.slice Ao37 t124.length co37)).heap[gb127]? = some (.cells #[.bool t119, .slice Ao34 t120.length co34] 25 (0, 0))) := ⟨by (with_reducible repeat first|refine qN ?_ _|refine qW ?_|refine qA ?_ _); refine qf ?_ NB127_128; (with_reducible repeat first|refine qN ?_ _|refine qW ?_|refine qA ?_ _); refine blk_put (cs := #[.bool t119, .slice none 0 0]) ?_ 1 _ rfl; (with_reducible repeat first|refine qN ?_ _|refine qW ?_|refine qA ?_ _); refine blk_put (cs := #[.bool false, .slice none 0 0]) ?_ 0 _ rfl; (with_reducible repeat first|refine qN ?_ _|refine qW ?_|refine qA ?_ _); exact BK127.out⟩
    have n5_ : Aside0 (((((w32.setCell ⟨gb127, 0, none⟩ (.bool t119)).setCell ⟨gb127, 1, none⟩ (.slice Ao34 t120.length co34)).setCell ⟨gb128, 0, none⟩ (.bool t123)).setCell ⟨gb128, 1, none⟩ (.slice Ao37 t124.length co37)).heap[gb128]? = some (.cells #[.bool t123, .slice Ao37 t124.length co37] 25 (0, 0))) := ⟨by (with_reducible repeat first|refine qN ?_ _|refine qW ?_|refine qA ?_ _); refine blk_put (cs := #[.bool t123, .slice none 0 0]) ?_ 1 _ rfl; (with_reducible repeat first|refine qN ?_ _|refine qW ?_|refine qA ?_ _); refine blk_put (cs := #[.bool false, .slice none 0 0]) ?_ 0 _ rfl; (with_reducible repeat first|refine qN ?_ _|refine qW ?_|refine qA ?_ _); refine qf ?_ NB128_127; (with_reducible repeat first|refine qN ?_ _|refine qW ?_|refine qA ?_ _); exact BK128.out⟩
    have n6_ : Aside0 (Below w.heap.size w ((((w32.setCell ⟨gb127, 0, none⟩ (.bool t119)).setCell ⟨gb127, 1, none⟩ (.slice Ao34 t120.length co34)).setCell ⟨gb128, 0, none⟩ (.bool t123)).setCell ⟨gb128, 1, none⟩ (.slice Ao37 t124.length co37))) := ⟨by repeat (first | (with_reducible first | exact HB.out | apply qx | apply qv | apply qw | refine qs ?_ (by assumption)) | exact HB.out)⟩
    (try clear HO122)
    (try clear HO126)
    (try clear BK114)
    (try clear BK115)
    (try clear BK127)
    (try clear BK128)
    (try clear HB)
    generalize ((((w32.setCell ⟨gb127, 0, none⟩ (.bool t119)).setCell ⟨gb127, 1, none⟩ (.slice Ao34 t120.length co34)).setCell ⟨gb128, 0, none⟩ (.bool t123)).setCell ⟨gb128, 1, none⟩ (.slice Ao37 t124.length co37)) = w39 at n0_ n1_ n2_ n3_ n4_ n5_ n6_ ⊢
    have HO122 := n0_
    have HO126 := n1_
    have BK114 := n2_
    have BK115 := n3_
    have BK127 := n4_
    have BK128 := n5_
    have HB := n6_
    clear n0_ n1_ n2_ n3_ n4_ n5_ n6_
    replace HO122 := Aside0.mk (Kd.R_drew HO122.out)
    replace HO126 := Aside0.mk (Kd.R_drew HO126.out)
    replace BK114 := Aside0.mk (blk_drew BK114.out)
    replace BK115 := Aside0.mk (blk_drew BK115.out)
    replace BK127 := Aside0.mk (blk_drew BK127.out)
    replace BK128 := Aside0.mk (blk_drew BK128.out)
    replace HB := Aside0.mk (below_drew1 HB.out)
    refine start_ (n := 8) (S := fun w' => w'.cell? ⟨gb127, 0, none⟩ = some (.bool t119) ∧ w'.cell? ⟨gb127, 1, none⟩ = some (.slice Ao34 t120.length co34) ∧ w'.cell? ⟨gb128, 0, none⟩ = some (.bool t123) ∧ w'.cell? ⟨gb128, 1, none⟩ = some (.slice Ao37 t124.length co37)) (ds := []) #[false, false, false, false, false, false, false, false] (by kernel_rfl) rfl rfl ⟨qc BK127 0, qc BK127 1, qc BK128 0, qc BK128 1⟩ (fun hHeld => ?_); refine with_tabW morainelaw02_NumAdds.tab4 morainelaw02_NumAdds.bits4 (fun HT_ HW_ => ?_)
    generalize w39.drew = w40 at HO122 HO126 BK114 BK115 BK127 BK128 HB hHeld ⊢
    refine take_ (i := 0) (N := some 24) (v := ?_) (a' := ?_) #[true, false, false, false, false, false, false, false] rfl rfl (take_ofW HT_.out HW_.out (by kernel_rfl)) (fun _ _ _ h => h) (Or.inl ⟨by rfl, ?_⟩) hHeld ?_ ?_
    rotate_left
    ·rintro w' ⟨s0, s1, s2, s3⟩
     go_simp
     with_reducible rfl
    rotate_left
    ·simp only [Act.put, zA, zB, zC, i64_w, i32_w]
     rfl
    refine take_ (i := 2) (N := some 26) (v := ?_) (a' := ?_) #[true, false, true, false, false, false, false, false] rfl rfl (take_ofW HT_.out HW_.out (by kernel_rfl)) (fun _ _ _ h => h) (Or.inl ⟨by rfl, ?_⟩) hHeld ?_ ?_
    rotate_left
    ·rintro w' ⟨s0, s1, s2, s3⟩
     go_simp
     with_reducible rfl
    rotate_left
    ·simp only [Act.put, zA, zB, zC, i64_w, i32_w]
     rfl
    refine join_ (σ := Value × Value × Nat × Nat) 2 #[true, true, true, true, true, true, false, false] (fun s_ => [(25, .agg #[.bool t129, s_.1]), (27, .agg #[.bool t133, s_.2.1]), (7, .pointer (some ⟨s_.2.2.1, 0, none⟩)), (8, .pointer (some ⟨s_.2.2.2, 0, none⟩))]) (fun s_ w' => (w'.cell? ⟨gb127, 0, none⟩ = some (.bool t119) ∧ w'.cell? ⟨gb127, 1, none⟩ = some (.slice Ao34 t120.length co34) ∧ w'.cell? ⟨gb128, 0, none⟩ = some (.bool t123) ∧ w'.cell? ⟨gb128, 1, none⟩ = some (.slice Ao37 t124.length co37)) ∧ (Kd.R (Kd.int .u32) 63 w' w.heap.size (fun k_ => some k_ ≠ (.slice Ao37 t124.length co37 : Value).ownBlock) (.slice Ao34 t120.length co34) t120) ∧ (Kd.R (Kd.int .u32) 63 w' w.heap.size (fun k_ => some k_ ≠ (.slice Ao34 t120.length co34 : Value).ownBlock) (.slice Ao37 t124.length co37) t124) ∧ (Kd.R (Kd.int .u8) 5 w' w.heap.size (fun k_ => some k_ ≠ (s_.2.1 : Value).ownBlock) s_.1 t130) ∧ (Kd.R (Kd.int .u8) 5 w' w.heap.size (fun k_ => some k_ ≠ (s_.1 : Value).ownBlock) s_.2.1 t134) ∧ (w'.heap[gb114]? = some (.cells #[.bool a0_0, .slice A0_1 l0_1.length c0_1] 25 (0, 0))) ∧ (w'.heap[gb115]? = some (.cells #[.bool a1_0, .slice A1_1 l1_1.length c1_1] 25 (0, 0))) ∧ (w'.heap[gb127]? = some (.cells #[.bool t119, .slice Ao34 t120.length co34] 25 (0, 0))) ∧ (w'.heap[gb128]? = some (.cells #[.bool t123, .slice Ao37 t124.length co37] 25 (0, 0))) ∧ (w'.heap[s_.2.2.1]? = some (.cells #[.bool false, .slice none 0 0] 34 (0, 0))) ∧ (w'.heap[s_.2.2.2]? = some (.cells #[.bool false, .slice none 0 0] 34 (0, 0))) ∧ (w.heap.size ≤ s_.2.2.1) ∧ (w.heap.size ≤ s_.2.2.1) ∧ (gb114 ≠ s_.2.2.1) ∧ (s_.2.2.1 ≠ gb114) ∧ (gb115 ≠ s_.2.2.1) ∧ (s_.2.2.1 ≠ gb115) ∧ (gb127 ≠ s_.2.2.1) ∧ (s_.2.2.1 ≠ gb127) ∧ (gb128 ≠ s_.2.2.1) ∧ (s_.2.2.1 ≠ gb128) ∧ (s_.2.2.2 ≠ s_.2.2.1) ∧ (s_.2.2.1 ≠ s_.2.2.2) ∧ (w.heap.size ≤ s_.2.2.2) ∧ (w.heap.size ≤ s_.2.2.2) ∧ (gb114 ≠ s_.2.2.2) ∧ (s_.2.2.2 ≠ gb114) ∧ (gb115 ≠ s_.2.2.2) ∧ (s_.2.2.2 ≠ gb115) ∧ (gb127 ≠ s_.2.2.2) ∧ (s_.2.2.2 ≠ gb127) ∧ (gb128 ≠ s_.2.2.2) ∧ (s_.2.2.2 ≠ gb128) ∧ (Below w.heap.size w w')) ?_ ?_
    rotate_left
    ·intro hJ1_3_4_5
     refine join_ (σ := Value × Value × Nat) 3 #[true, true, true, true, true, false, false, false] (fun s_ => [(25, .agg #[.bool t129, s_.1]), (27, .agg #[.bool t133, s_.2.1]), (7, .pointer (some ⟨s_.2.2, 0, none⟩))]) (fun s_ w' => (w'.cell? ⟨gb127, 0, none⟩ = some (.bool t119) ∧ w'.cell? ⟨gb127, 1, none⟩ = some (.slice Ao34 t120.length co34) ∧ w'.cell? ⟨gb128, 0, none⟩ = some (.bool t123) ∧ w'.cell? ⟨gb128, 1, none⟩ = some (.slice Ao37 t124.length co37)) ∧ (Kd.R (Kd.int .u32) 63 w' w.heap.size (fun k_ => some k_ ≠ (.slice Ao37 t124.length co37 : Value).ownBlock) (.slice Ao34 t120.length co34) t120) ∧ (Kd.R (Kd.int .u32) 63 w' w.heap.size (fun k_ => some k_ ≠ (.slice Ao34 t120.length co34 : Value).ownBlock) (.slice Ao37 t124.length co37) t124) ∧ (Kd.R (Kd.int .u8) 5 w' w.heap.size (fun k_ => some k_ ≠ (s_.2.1 : Value).ownBlock) s_.1 t130) ∧ (Kd.R (Kd.int .u8) 5 w' w.heap.size (fun k_ => some k_ ≠ (s_.1 : Value).ownBlock) s_.2.1 t134) ∧ (w'.heap[gb114]? = some (.cells #[.bool a0_0, .slice A0_1 l0_1.length c0_1] 25 (0, 0))) ∧ (w'.heap[gb115]? = some (.cells #[.bool a1_0, .slice A1_1 l1_1.length c1_1] 25 (0, 0))) ∧ (w'.heap[gb127]? = some (.cells #[.bool t119, .slice Ao34 t120.length co34] 25 (0, 0))) ∧ (w'.heap[gb128]? = some (.cells #[.bool t123, .slice Ao37 t124.length co37] 25 (0, 0))) ∧ (w'.heap[s_.2.2]? = some (.cells #[.bool false, .slice none 0 0] 34 (0, 0))) ∧ (w.heap.size ≤ s_.2.2) ∧ (w.heap.size ≤ s_.2.2) ∧ (gb114 ≠ s_.2.2) ∧ (s_.2.2 ≠ gb114) ∧ (gb115 ≠ s_.2.2) ∧ (s_.2.2 ≠ gb115) ∧ (gb127 ≠ s_.2.2) ∧ (s_.2.2 ≠ gb127) ∧ (gb128 ≠ s_.2.2) ∧ (s_.2.2 ≠ gb128) ∧ (Below w.heap.size w w')) ?_ ?_
     rotate_left
     ·intro hJ1_3_4
      refine join_ (σ := Value × Value × Nat) 3 #[true, true, true, true, false, true, false, false] (fun s_ => [(25, .agg #[.bool t129, s_.1]), (27, .agg #[.bool t133, s_.2.1]), (8, .pointer (some ⟨s_.2.2, 0, none⟩))]) (fun s_ w' => (w'.cell? ⟨gb127, 0, none⟩ = some (.bool t119) ∧ w'.cell? ⟨gb127, 1, none⟩ = some (.slice Ao34 t120.length co34) ∧ w'.cell? ⟨gb128, 0, none⟩ = some (.bool t123) ∧ w'.cell? ⟨gb128, 1, none⟩ = some (.slice Ao37 t124.length co37)) ∧ (Kd.R (Kd.int .u32) 63 w' w.heap.size (fun k_ => some k_ ≠ (.slice Ao37 t124.length co37 : Value).ownBlock) (.slice Ao34 t120.length co34) t120) ∧ (Kd.R (Kd.int .u32) 63 w' w.heap.size (fun k_ => some k_ ≠ (.slice Ao34 t120.length co34 : Value).ownBlock) (.slice Ao37 t124.length co37) t124) ∧ (Kd.R (Kd.int .u8) 5 w' w.heap.size (fun k_ => some k_ ≠ (s_.2.1 : Value).ownBlock) s_.1 t130) ∧ (Kd.R (Kd.int .u8) 5 w' w.heap.size (fun k_ => some k_ ≠ (s_.1 : Value).ownBlock) s_.2.1 t134) ∧ (w'.heap[gb114]? = some (.cells #[.bool a0_0, .slice A0_1 l0_1.length c0_1] 25 (0, 0))) ∧ (w'.heap[gb115]? = some (.cells #[.bool a1_0, .slice A1_1 l1_1.length c1_1] 25 (0, 0))) ∧ (w'.heap[gb127]? = some (.cells #[.bool t119, .slice Ao34 t120.length co34] 25 (0, 0))) ∧ (w'.heap[gb128]? = some (.cells #[.bool t123, .slice Ao37 t124.length co37] 25 (0, 0))) ∧ (w'.heap[s_.2.2]? = some (.cells #[.bool false, .slice none 0 0] 34 (0, 0))) ∧ (w.heap.size ≤ s_.2.2) ∧ (w.heap.size ≤ s_.2.2) ∧ (gb114 ≠ s_.2.2) ∧ (s_.2.2 ≠ gb114) ∧ (gb115 ≠ s_.2.2) ∧ (s_.2.2 ≠ gb115) ∧ (gb127 ≠ s_.2.2) ∧ (s_.2.2 ≠ gb127) ∧ (gb128 ≠ s_.2.2) ∧ (s_.2.2 ≠ gb128) ∧ (Below w.heap.size w w')) ?_ ?_
      rotate_left
      ·intro hJ1_3_5
       refine join_ (σ := Value × Nat × Nat) 3 #[true, true, true, false, true, true, false, false] (fun s_ => [(25, .agg #[.bool t129, s_.1]), (7, .pointer (some ⟨s_.2.1, 0, none⟩)), (8, .pointer (some ⟨s_.2.2, 0, none⟩))]) (fun s_ w' => (w'.cell? ⟨gb127, 0, none⟩ = some (.bool t119) ∧ w'.cell? ⟨gb127, 1, none⟩ = some (.slice Ao34 t120.length co34) ∧ w'.cell? ⟨gb128, 0, none⟩ = some (.bool t123) ∧ w'.cell? ⟨gb128, 1, none⟩ = some (.slice Ao37 t124.length co37)) ∧ (Kd.R (Kd.int .u32) 63 w' w.heap.size (fun k_ => some k_ ≠ (.slice Ao37 t124.length co37 : Value).ownBlock) (.slice Ao34 t120.length co34) t120) ∧ (Kd.R (Kd.int .u32) 63 w' w.heap.size (fun k_ => some k_ ≠ (.slice Ao34 t120.length co34 : Value).ownBlock) (.slice Ao37 t124.length co37) t124) ∧ (Kd.R (Kd.int .u8) 5 w' w.heap.size (fun _ => True) s_.1 t130) ∧ (w'.heap[gb114]? = some (.cells #[.bool a0_0, .slice A0_1 l0_1.length c0_1] 25 (0, 0))) ∧ (w'.heap[gb115]? = some (.cells #[.bool a1_0, .slice A1_1 l1_1.length c1_1] 25 (0, 0))) ∧ (w'.heap[gb127]? = some (.cells #[.bool t119, .slice Ao34 t120.length co34] 25 (0, 0))) ∧ (w'.heap[gb128]? = some (.cells #[.bool t123, .slice Ao37 t124.length co37] 25 (0, 0))) ∧ (w'.heap[s_.2.1]? = some (.cells #[.bool false, .slice none 0 0] 34 (0, 0))) ∧ (w'.heap[s_.2.2]? = some (.cells #[.bool false, .slice none 0 0] 34 (0, 0))) ∧ (w.heap.size ≤ s_.2.1) ∧ (w.heap.size ≤ s_.2.1) ∧ (gb114 ≠ s_.2.1) ∧ (s_.2.1 ≠ gb114) ∧ (gb115 ≠ s_.2.1) ∧ (s_.2.1 ≠ gb115) ∧ (gb127 ≠ s_.2.1) ∧ (s_.2.1 ≠ gb127) ∧ (gb128 ≠ s_.2.1) ∧ (s_.2.1 ≠ gb128) ∧ (s_.2.2 ≠ s_.2.1) ∧ (s_.2.1 ≠ s_.2.2) ∧ (w.heap.size ≤ s_.2.2) ∧ (w.heap.size ≤ s_.2.2) ∧ (gb114 ≠ s_.2.2) ∧ (s_.2.2 ≠ gb114) ∧ (gb115 ≠ s_.2.2) ∧ (s_.2.2 ≠ gb115) ∧ (gb127 ≠ s_.2.2) ∧ (s_.2.2 ≠ gb127) ∧ (gb128 ≠ s_.2.2) ∧ (s_.2.2 ≠ gb128) ∧ (Below w.heap.size w w')) ?_ ?_
       rotate_left
       ·intro hJ1_4_5
        refine join_ (σ := Value × Value) 4 #[true, true, true, true, false, false, false, false] (fun s_ => [(25, .agg #[.bool t129, s_.1]), (27, .agg #[.bool t133, s_.2])]) (fun s_ w' => (w'.cell? ⟨gb127, 0, none⟩ = some (.bool t119) ∧ w'.cell? ⟨gb127, 1, none⟩ = some (.slice Ao34 t120.length co34) ∧ w'.cell? ⟨gb128, 0, none⟩ = some (.bool t123) ∧ w'.cell? ⟨gb128, 1, none⟩ = some (.slice Ao37 t124.length co37)) ∧ (Kd.R (Kd.int .u32) 63 w' w.heap.size (fun k_ => some k_ ≠ (.slice Ao37 t124.length co37 : Value).ownBlock) (.slice Ao34 t120.length co34) t120) ∧ (Kd.R (Kd.int .u32) 63 w' w.heap.size (fun k_ => some k_ ≠ (.slice Ao34 t120.length co34 : Value).ownBlock) (.slice Ao37 t124.length co37) t124) ∧ (Kd.R (Kd.int .u8) 5 w' w.heap.size (fun k_ => some k_ ≠ (s_.2 : Value).ownBlock) s_.1 t130) ∧ (Kd.R (Kd.int .u8) 5 w' w.heap.size (fun k_ => some k_ ≠ (s_.1 : Value).ownBlock) s_.2 t134) ∧ (w'.heap[gb114]? = some (.cells #[.bool a0_0, .slice A0_1 l0_1.length c0_1] 25 (0, 0))) ∧ (w'.heap[gb115]? = some (.cells #[.bool a1_0, .slice A1_1 l1_1.length c1_1] 25 (0, 0))) ∧ (w'.heap[gb127]? = some (.cells #[.bool t119, .slice Ao34 t120.length co34] 25 (0, 0))) ∧ (w'.heap[gb128]? = some (.cells #[.bool t123, .slice Ao37 t124.length co37] 25 (0, 0))) ∧ (Below w.heap.size w w')) ?_ ?_
        rotate_left
        ·intro hJ1_3
         refine join_ (σ := Value × Nat) 4 #[true, true, true, false, true, false, false, false] (fun s_ => [(25, .agg #[.bool t129, s_.1]), (7, .pointer (some ⟨s_.2, 0, none⟩))]) (fun s_ w' => (w'.cell? ⟨gb127, 0, none⟩ = some (.bool t119) ∧ w'.cell? ⟨gb127, 1, none⟩ = some (.slice Ao34 t120.length co34) ∧ w'.cell? ⟨gb128, 0, none⟩ = some (.bool t123) ∧ w'.cell? ⟨gb128, 1, none⟩ = some (.slice Ao37 t124.length co37)) ∧ (Kd.R (Kd.int .u32) 63 w' w.heap.size (fun k_ => some k_ ≠ (.slice Ao37 t124.length co37 : Value).ownBlock) (.slice Ao34 t120.length co34) t120) ∧ (Kd.R (Kd.int .u32) 63 w' w.heap.size (fun k_ => some k_ ≠ (.slice Ao34 t120.length co34 : Value).ownBlock) (.slice Ao37 t124.length co37) t124) ∧ (Kd.R (Kd.int .u8) 5 w' w.heap.size (fun _ => True) s_.1 t130) ∧ (w'.heap[gb114]? = some (.cells #[.bool a0_0, .slice A0_1 l0_1.length c0_1] 25 (0, 0))) ∧ (w'.heap[gb115]? = some (.cells #[.bool a1_0, .slice A1_1 l1_1.length c1_1] 25 (0, 0))) ∧ (w'.heap[gb127]? = some (.cells #[.bool t119, .slice Ao34 t120.length co34] 25 (0, 0))) ∧ (w'.heap[gb128]? = some (.cells #[.bool t123, .slice Ao37 t124.length co37] 25 (0, 0))) ∧ (w'.heap[s_.2]? = some (.cells #[.bool false, .slice none 0 0] 34 (0, 0))) ∧ (w.heap.size ≤ s_.2) ∧ (w.heap.size ≤ s_.2) ∧ (gb114 ≠ s_.2) ∧ (s_.2 ≠ gb114) ∧ (gb115 ≠ s_.2) ∧ (s_.2 ≠ gb115) ∧ (gb127 ≠ s_.2) ∧ (s_.2 ≠ gb127) ∧ (gb128 ≠ s_.2) ∧ (s_.2 ≠ gb128) ∧ (Below w.heap.size w w')) ?_ ?_
         rotate_left
         ·intro hJ1_4
          refine join_ (σ := Value × Nat) 4 #[true, true, true, false, false, true, false, false] (fun s_ => [(25, .agg #[.bool t129, s_.1]), (8, .pointer (some ⟨s_.2, 0, none⟩))]) (fun s_ w' => (w'.cell? ⟨gb127, 0, none⟩ = some (.bool t119) ∧ w'.cell? ⟨gb127, 1, none⟩ = some (.slice Ao34 t120.length co34) ∧ w'.cell? ⟨gb128, 0, none⟩ = some (.bool t123) ∧ w'.cell? ⟨gb128, 1, none⟩ = some (.slice Ao37 t124.length co37)) ∧ (Kd.R (Kd.int .u32) 63 w' w.heap.size (fun k_ => some k_ ≠ (.slice Ao37 t124.length co37 : Value).ownBlock) (.slice Ao34 t120.length co34) t120) ∧ (Kd.R (Kd.int .u32) 63 w' w.heap.size (fun k_ => some k_ ≠ (.slice Ao34 t120.length co34 : Value).ownBlock) (.slice Ao37 t124.length co37) t124) ∧ (Kd.R (Kd.int .u8) 5 w' w.heap.size (fun _ => True) s_.1 t130) ∧ (w'.heap[gb114]? = some (.cells #[.bool a0_0, .slice A0_1 l0_1.length c0_1] 25 (0, 0))) ∧ (w'.heap[gb115]? = some (.cells #[.bool a1_0, .slice A1_1 l1_1.length c1_1] 25 (0, 0))) ∧ (w'.heap[gb127]? = some (.cells #[.bool t119, .slice Ao34 t120.length co34] 25 (0, 0))) ∧ (w'.heap[gb128]? = some (.cells #[.bool t123, .slice Ao37 t124.length co37] 25 (0, 0))) ∧ (w'.heap[s_.2]? = some (.cells #[.bool false, .slice none 0 0] 34 (0, 0))) ∧ (w.heap.size ≤ s_.2) ∧ (w.heap.size ≤ s_.2) ∧ (gb114 ≠ s_.2) ∧ (s_.2 ≠ gb114) ∧ (gb115 ≠ s_.2) ∧ (s_.2 ≠ gb115) ∧ (gb127 ≠ s_.2) ∧ (s_.2 ≠ gb127) ∧ (gb128 ≠ s_.2) ∧ (s_.2 ≠ gb128) ∧ (Below w.heap.size w w')) ?_ ?_
          rotate_left
          ·intro hJ1_5
           refine join_ (σ := Nat × Nat) 4 #[true, false, true, false, true, true, false, false] (fun s_ => [(7, .pointer (some ⟨s_.1, 0, none⟩)), (8, .pointer (some ⟨s_.2, 0, none⟩))]) (fun s_ w' => (w'.cell? ⟨gb127, 0, none⟩ = some (.bool t119) ∧ w'.cell? ⟨gb127, 1, none⟩ = some (.slice Ao34 t120.length co34) ∧ w'.cell? ⟨gb128, 0, none⟩ = some (.bool t123) ∧ w'.cell? ⟨gb128, 1, none⟩ = some (.slice Ao37 t124.length co37)) ∧ (Kd.R (Kd.int .u32) 63 w' w.heap.size (fun k_ => some k_ ≠ (.slice Ao37 t124.length co37 : Value).ownBlock) (.slice Ao34 t120.length co34) t120) ∧ (Kd.R (Kd.int .u32) 63 w' w.heap.size (fun k_ => some k_ ≠ (.slice Ao34 t120.length co34 : Value).ownBlock) (.slice Ao37 t124.length co37) t124) ∧ (w'.heap[gb114]? = some (.cells #[.bool a0_0, .slice A0_1 l0_1.length c0_1] 25 (0, 0))) ∧ (w'.heap[gb115]? = some (.cells #[.bool a1_0, .slice A1_1 l1_1.length c1_1] 25 (0, 0))) ∧ (w'.heap[gb127]? = some (.cells #[.bool t119, .slice Ao34 t120.length co34] 25 (0, 0))) ∧ (w'.heap[gb128]? = some (.cells #[.bool t123, .slice Ao37 t124.length co37] 25 (0, 0))) ∧ (w'.heap[s_.1]? = some (.cells #[.bool false, .slice none 0 0] 34 (0, 0))) ∧ (w'.heap[s_.2]? = some (.cells #[.bool false, .slice none 0 0] 34 (0, 0))) ∧ (w.heap.size ≤ s_.1) ∧ (w.heap.size ≤ s_.1) ∧ (gb114 ≠ s_.1) ∧ (s_.1 ≠ gb114) ∧ (gb115 ≠ s_.1) ∧ (s_.1 ≠ gb115) ∧ (gb127 ≠ s_.1) ∧ (s_.1 ≠ gb127) ∧ (gb128 ≠ s_.1) ∧ (s_.1 ≠ gb128) ∧ (s_.2 ≠ s_.1) ∧ (s_.1 ≠ s_.2) ∧ (w.heap.size ≤ s_.2) ∧ (w.heap.size ≤ s_.2) ∧ (gb114 ≠ s_.2) ∧ (s_.2 ≠ gb114) ∧ (gb115 ≠ s_.2) ∧ (s_.2 ≠ gb115) ∧ (gb127 ≠ s_.2) ∧ (s_.2 ≠ gb127) ∧ (gb128 ≠ s_.2) ∧ (s_.2 ≠ gb128) ∧ (Below w.heap.size w w')) ?_ ?_
           rotate_left
           ·intro hJ4_5
            refine join_ (σ := Value) 5 #[true, true, true, false, false, false, false, false] (fun s_ => [(25, .agg #[.bool t129, s_])]) (fun s_ w' => (w'.cell? ⟨gb127, 0, none⟩ = some (.bool t119) ∧ w'.cell? ⟨gb127, 1, none⟩ = some (.slice Ao34 t120.length co34) ∧ w'.cell? ⟨gb128, 0, none⟩ = some (.bool t123) ∧ w'.cell? ⟨gb128, 1, none⟩ = some (.slice Ao37 t124.length co37)) ∧ (Kd.R (Kd.int .u32) 63 w' w.heap.size (fun k_ => some k_ ≠ (.slice Ao37 t124.length co37 : Value).ownBlock) (.slice Ao34 t120.length co34) t120) ∧ (Kd.R (Kd.int .u32) 63 w' w.heap.size (fun k_ => some k_ ≠ (.slice Ao34 t120.length co34 : Value).ownBlock) (.slice Ao37 t124.length co37) t124) ∧ (Kd.R (Kd.int .u8) 5 w' w.heap.size (fun _ => True) s_ t130) ∧ (w'.heap[gb114]? = some (.cells #[.bool a0_0, .slice A0_1 l0_1.length c0_1] 25 (0, 0))) ∧ (w'.heap[gb115]? = some (.cells #[.bool a1_0, .slice A1_1 l1_1.length c1_1] 25 (0, 0))) ∧ (w'.heap[gb127]? = some (.cells #[.bool t119, .slice Ao34 t120.length co34] 25 (0, 0))) ∧ (w'.heap[gb128]? = some (.cells #[.bool t123, .slice Ao37 t124.length co37] 25 (0, 0))) ∧ (Below w.heap.size w w')) ?_ ?_
            rotate_left
            ·intro hJ1
             refine join_ (σ := Nat) 5 #[true, false, true, false, true, false, false, false] (fun s_ => [(7, .pointer (some ⟨s_, 0, none⟩))]) (fun s_ w' => (w'.cell? ⟨gb127, 0, none⟩ = some (.bool t119) ∧ w'.cell? ⟨gb127, 1, none⟩ = some (.slice Ao34 t120.length co34) ∧ w'.cell? ⟨gb128, 0, none⟩ = some (.bool t123) ∧ w'.cell? ⟨gb128, 1, none⟩ = some (.slice Ao37 t124.length co37)) ∧ (Kd.R (Kd.int .u32) 63 w' w.heap.size (fun k_ => some k_ ≠ (.slice Ao37 t124.length co37 : Value).ownBlock) (.slice Ao34 t120.length co34) t120) ∧ (Kd.R (Kd.int .u32) 63 w' w.heap.size (fun k_ => some k_ ≠ (.slice Ao34 t120.length co34 : Value).ownBlock) (.slice Ao37 t124.length co37) t124) ∧ (w'.heap[gb114]? = some (.cells #[.bool a0_0, .slice A0_1 l0_1.length c0_1] 25 (0, 0))) ∧ (w'.heap[gb115]? = some (.cells #[.bool a1_0, .slice A1_1 l1_1.length c1_1] 25 (0, 0))) ∧ (w'.heap[gb127]? = some (.cells #[.bool t119, .slice Ao34 t120.length co34] 25 (0, 0))) ∧ (w'.heap[gb128]? = some (.cells #[.bool t123, .slice Ao37 t124.length co37] 25 (0, 0))) ∧ (w'.heap[s_]? = some (.cells #[.bool false, .slice none 0 0] 34 (0, 0))) ∧ (w.heap.size ≤ s_) ∧ (w.heap.size ≤ s_) ∧ (gb114 ≠ s_) ∧ (s_ ≠ gb114) ∧ (gb115 ≠ s_) ∧ (s_ ≠ gb115) ∧ (gb127 ≠ s_) ∧ (s_ ≠ gb127) ∧ (gb128 ≠ s_) ∧ (s_ ≠ gb128) ∧ (Below w.heap.size w w')) ?_ ?_
             rotate_left
             ·intro hJ4
              refine join_ (σ := Nat) 5 #[true, false, true, false, false, true, false, false] (fun s_ => [(8, .pointer (some ⟨s_, 0, none⟩))]) (fun s_ w' => (w'.cell? ⟨gb127, 0, none⟩ = some (.bool t119) ∧ w'.cell? ⟨gb127, 1, none⟩ = some (.slice Ao34 t120.length co34) ∧ w'.cell? ⟨gb128, 0, none⟩ = some (.bool t123) ∧ w'.cell? ⟨gb128, 1, none⟩ = some (.slice Ao37 t124.length co37)) ∧ (Kd.R (Kd.int .u32) 63 w' w.heap.size (fun k_ => some k_ ≠ (.slice Ao37 t124.length co37 : Value).ownBlock) (.slice Ao34 t120.length co34) t120) ∧ (Kd.R (Kd.int .u32) 63 w' w.heap.size (fun k_ => some k_ ≠ (.slice Ao34 t120.length co34 : Value).ownBlock) (.slice Ao37 t124.length co37) t124) ∧ (w'.heap[gb114]? = some (.cells #[.bool a0_0, .slice A0_1 l0_1.length c0_1] 25 (0, 0))) ∧ (w'.heap[gb115]? = some (.cells #[.bool a1_0, .slice A1_1 l1_1.length c1_1] 25 (0, 0))) ∧ (w'.heap[gb127]? = some (.cells #[.bool t119, .slice Ao34 t120.length co34] 25 (0, 0))) ∧ (w'.heap[gb128]? = some (.cells #[.bool t123, .slice Ao37 t124.length co37] 25 (0, 0))) ∧ (w'.heap[s_]? = some (.cells #[.bool false, .slice none 0 0] 34 (0, 0))) ∧ (w.heap.size ≤ s_) ∧ (w.heap.size ≤ s_) ∧ (gb114 ≠ s_) ∧ (s_ ≠ gb114) ∧ (gb115 ≠ s_) ∧ (s_ ≠ gb115) ∧ (gb127 ≠ s_) ∧ (s_ ≠ gb127) ∧ (gb128 ≠ s_) ∧ (s_ ≠ gb128) ∧ (Below w.heap.size w w')) ?_ ?_
              rotate_left
              ·intro hJ5
               refine three_ (i := 1) (j := 4) (k := 5) (Ni := some 25) (Nj := some 7) (Nk := some 8) #[true, true, true, false, false, false, false, false] #[true, false, true, false, true, false, false, false] #[true, false, true, false, false, true, false, false] rfl rfl rfl rfl rfl rfl (three_of HT_.out (by kernel_rfl)) (by decide) (by decide) (by decide) (fun K hK => ?_) (fun K hK => ?_) (fun K hK => ?_)
               ·skip
                refine goes_ Tryd.func24 (by kernel_rfl) rfl #[.agg #[.bool t119, .slice Ao34 t120.length co34]] (by rfl) rfl rfl (by (try simp only [zM, zO, zP]); first|done|rfl) ?_
                with_reducible refine (moraineref02_Value.calls t119 _ _ t120 t129 t130 _ ?side1 ?side2 A22.out).mono ?_
                (case side1 => repeat (first | exact (Kd.R_reads' HO122.out).2.2 | (with_reducible first|refine Kd.C_alloc ?_ _|refine Kd.C_drewN ?_ _|refine Kd.C_drew ?_)))
                (case side2 => exact (Kd.R_reads' HO122.out).2.1)
                rintro e w41 ⟨v131, rfl, ho0, hb⟩
                refine ⟨_, rfl, ?_⟩
                replace HO122 := qr HO122 hb
                replace HO126 := qr HO126 hb
                have HO132 := Aside0.mk (Kd.R_lower ho0 (below_size (by repeat with_reducible first|exact HB.out|apply qx|apply qv|apply qw|refine qs ?_ (by assumption))))
                replace BK114 := qb BK114 hb
                replace BK115 := qb BK115 hb
                replace BK127 := qb BK127 hb
                replace BK128 := qb BK128 hb
                replace HB := Aside0.mk (below_step (by repeat with_reducible first|exact HB.out|apply qx|apply qv|apply qw|refine qs ?_ (by assumption)) hb)
                (try clear hb)
                (try clear hb2)
                (try clear hk)
                (try clear hi)
                (try clear ho0)
                refine hK.out _ _ ⟨qc BK127 0, qc BK127 1, qc BK128 0, qc BK128 1⟩ (fun hHeld => ?_)
                clear hK K
                refine norm_ (a' := ?_) ?_ ?_
                rotate_left
                ·show Act.put _ (some 25) _ = _
                 simp only [Act.put, zA, zB, zC, i64_w, i32_w]
                 rfl
                exact norm_ (by simp only [putAll, Act.put, zA, zB, zC] <;> rfl) (hJ1 (v131) _ ⟨hHeld, qq HO122, qq HO126, qq HO132, qk BK114, qk BK115, qk BK127, qk BK128, (by repeat with_reducible first|exact HB.out|apply qx|apply qv|apply qw|refine qs ?_ (by assumption))⟩)
               ·skip
                refine box_step ?hg (N := 7) ?hd (cs := #[.bool false, .slice none 0 0]) (t := 34) ?hr ?_; (case hd => rfl); (case hg => rfl); (case hr => go_simp <;> rfl)
                intro gb137 hg w41 hbox hb
                replace HO122 := qr HO122 hb
                replace HO126 := qr HO126 hb
                have BK137 := Aside0.mk (hbox)
                have GW137 := qg hg (by repeat with_reducible first|exact HB.out|apply qx|apply qv|apply qw|refine qs ?_ (by assumption))
                have GE137 := GW137
                replace HB := Aside0.mk (below_step (by repeat with_reducible first|exact HB.out|apply qx|apply qv|apply qw|refine qs ?_ (by assumption)) hb)
                have NB114_137 := qn BK114 hg
                have NB137_114 := qm BK114 hg
                replace BK114 := qb BK114 hb
                have NB115_137 := qn BK115 hg
                have NB137_115 := qm BK115 hg
                replace BK115 := qb BK115 hb
                have NB127_137 := qn BK127 hg
                have NB137_127 := qm BK127 hg
                replace BK127 := qb BK127 hb
                have NB128_137 := qn BK128 hg
                have NB137_128 := qm BK128 hg
                replace BK128 := qb BK128 hb
                clear hb hbox hg
                refine hK.out _ _ ⟨qc BK127 0, qc BK127 1, qc BK128 0, qc BK128 1⟩ (fun hHeld => ?_)
                clear hK K
                refine norm_ (a' := ?_) ?_ ?_
                rotate_left
                ·show Act.put _ (some 7) _ = _
                 simp only [Act.put, zA, zB, zC, i64_w, i32_w]
                 rfl
                exact norm_ (by simp only [putAll, Act.put, zA, zB, zC] <;> rfl) (hJ4 (gb137) _ ⟨hHeld, qq HO122, qq HO126, qk BK114, qk BK115, qk BK127, qk BK128, qk BK137, GW137.out, GE137.out, NB114_137.out, NB137_114.out, NB115_137.out, NB137_115.out, NB127_137.out, NB137_127.out, NB128_137.out, NB137_128.out, (by repeat with_reducible first|exact HB.out|apply qx|apply qv|apply qw|refine qs ?_ (by assumption))⟩)
               ·skip
                refine box_step ?hg (N := 8) ?hd (cs := #[.bool false, .slice none 0 0]) (t := 34) ?hr ?_; (case hd => rfl); (case hg => rfl); (case hr => go_simp <;> rfl)
                intro gb138 hg w41 hbox hb
                replace HO122 := qr HO122 hb
                replace HO126 := qr HO126 hb
                have BK138 := Aside0.mk (hbox)
                have GW138 := qg hg (by repeat with_reducible first|exact HB.out|apply qx|apply qv|apply qw|refine qs ?_ (by assumption))
                have GE138 := GW138
                replace HB := Aside0.mk (below_step (by repeat with_reducible first|exact HB.out|apply qx|apply qv|apply qw|refine qs ?_ (by assumption)) hb)
                have NB114_138 := qn BK114 hg
                have NB138_114 := qm BK114 hg
                replace BK114 := qb BK114 hb
                have NB115_138 := qn BK115 hg
                have NB138_115 := qm BK115 hg
                replace BK115 := qb BK115 hb
                have NB127_138 := qn BK127 hg
                have NB138_127 := qm BK127 hg
                replace BK127 := qb BK127 hb
                have NB128_138 := qn BK128 hg
                have NB138_128 := qm BK128 hg
                replace BK128 := qb BK128 hb
                clear hb hbox hg
                refine hK.out _ _ ⟨qc BK127 0, qc BK127 1, qc BK128 0, qc BK128 1⟩ (fun hHeld => ?_)
                clear hK K
                refine norm_ (a' := ?_) ?_ ?_
                rotate_left
                ·show Act.put _ (some 8) _ = _
                 simp only [Act.put, zA, zB, zC, i64_w, i32_w]
                 rfl
                exact norm_ (by simp only [putAll, Act.put, zA, zB, zC] <;> rfl) (hJ5 (gb138) _ ⟨hHeld, qq HO122, qq HO126, qk BK114, qk BK115, qk BK127, qk BK128, qk BK138, GW138.out, GE138.out, NB114_138.out, NB138_114.out, NB115_138.out, NB138_115.out, NB127_138.out, NB138_127.out, NB128_138.out, NB138_128.out, (by repeat with_reducible first|exact HB.out|apply qx|apply qv|apply qw|refine qs ?_ (by assumption))⟩)
              ·skip
               rintro gb138 w42 ⟨hS_, h0_, h1_, h2_, h3_, h4_, h5_, h6_, h7_, h8_, h9_, h10_, h11_, h12_, h13_, h14_, h15_, h16_, h17_⟩
               replace HO122 : Aside0 (Kd.R (Kd.int .u32) 63 w42 w.heap.size (fun k_ => some k_ ≠ (.slice Ao37 t124.length co37 : Value).ownBlock) (.slice Ao34 t120.length co34) t120) := ⟨h0_⟩
               replace HO126 : Aside0 (Kd.R (Kd.int .u32) 63 w42 w.heap.size (fun k_ => some k_ ≠ (.slice Ao34 t120.length co34 : Value).ownBlock) (.slice Ao37 t124.length co37) t124) := ⟨h1_⟩
               replace BK114 : Aside0 (w42.heap[gb114]? = some (.cells #[.bool a0_0, .slice A0_1 l0_1.length c0_1] 25 (0, 0))) := ⟨h2_⟩
               replace BK115 : Aside0 (w42.heap[gb115]? = some (.cells #[.bool a1_0, .slice A1_1 l1_1.length c1_1] 25 (0, 0))) := ⟨h3_⟩
               replace BK127 : Aside0 (w42.heap[gb127]? = some (.cells #[.bool t119, .slice Ao34 t120.length co34] 25 (0, 0))) := ⟨h4_⟩
               replace BK128 : Aside0 (w42.heap[gb128]? = some (.cells #[.bool t123, .slice Ao37 t124.length co37] 25 (0, 0))) := ⟨h5_⟩
               have BK138 : Aside0 (w42.heap[gb138]? = some (.cells #[.bool false, .slice none 0 0] 34 (0, 0))) := ⟨h6_⟩
               have GW138 : Aside0 (w.heap.size ≤ gb138) := ⟨h7_⟩
               have GE138 : Aside0 (w.heap.size ≤ gb138) := ⟨h8_⟩
               have NB114_138 : Aside0 (gb114 ≠ gb138) := ⟨h9_⟩
               have NB138_114 : Aside0 (gb138 ≠ gb114) := ⟨h10_⟩
               have NB115_138 : Aside0 (gb115 ≠ gb138) := ⟨h11_⟩
               have NB138_115 : Aside0 (gb138 ≠ gb115) := ⟨h12_⟩
               have NB127_138 : Aside0 (gb127 ≠ gb138) := ⟨h13_⟩
               have NB138_127 : Aside0 (gb138 ≠ gb127) := ⟨h14_⟩
               have NB128_138 : Aside0 (gb128 ≠ gb138) := ⟨h15_⟩
               have NB138_128 : Aside0 (gb138 ≠ gb128) := ⟨h16_⟩
               replace HB : Aside0 (Below w.heap.size w w42) := ⟨h17_⟩
               clear h0_ h1_ h2_ h3_ h4_ h5_ h6_ h7_ h8_ h9_ h10_ h11_ h12_ h13_ h14_ h15_ h16_ h17_
               have hHeld : w42.cell? ⟨gb127, 0, none⟩ = some (.bool t119) ∧ w42.cell? ⟨gb127, 1, none⟩ = some (.slice Ao34 t120.length co34) ∧ w42.cell? ⟨gb128, 0, none⟩ = some (.bool t123) ∧ w42.cell? ⟨gb128, 1, none⟩ = some (.slice Ao37 t124.length co37) := hS_
               refine norm_ (a' := ?_) ?_ ?_
               rotate_left
               ·simp only [putAll, Act.put, zA, zB, zC]
                rfl
               refine two_ (i := 1) (j := 4) (Ni := some 25) (Nj := some 7) #[true, true, true, false, false, true, false, false] #[true, false, true, false, true, true, false, false] rfl rfl rfl rfl (two_of HT_.out (by kernel_rfl)) (by decide) (by decide) (fun K hK => ?_) (fun K hK => ?_)
               ·skip
                refine goes_ Tryd.func24 (by kernel_rfl) rfl #[.agg #[.bool t119, .slice Ao34 t120.length co34]] (by rfl) rfl rfl (by (try simp only [zM, zO, zP]); first|done|rfl) ?_
                with_reducible refine (moraineref02_Value.calls t119 _ _ t120 t129 t130 _ ?side1 ?side2 A22.out).mono ?_
                (case side1 => repeat (first | exact (Kd.R_reads' HO122.out).2.2 | (with_reducible first|refine Kd.C_alloc ?_ _|refine Kd.C_drewN ?_ _|refine Kd.C_drew ?_)))
                (case side2 => exact (Kd.R_reads' HO122.out).2.1)
                rintro e w43 ⟨v131, rfl, ho0, hb⟩
                refine ⟨_, rfl, ?_⟩
                replace HO122 := qr HO122 hb
                replace HO126 := qr HO126 hb
                have HO132 := Aside0.mk (Kd.R_lower ho0 (below_size (by repeat with_reducible first|exact HB.out|apply qx|apply qv|apply qw|refine qs ?_ (by assumption))))
                replace BK114 := qb BK114 hb
                replace BK115 := qb BK115 hb
                replace BK127 := qb BK127 hb
                replace BK128 := qb BK128 hb
                replace BK138 := qb BK138 hb
                replace HB := Aside0.mk (below_step (by repeat with_reducible first|exact HB.out|apply qx|apply qv|apply qw|refine qs ?_ (by assumption)) hb)
                (try clear hb)
                (try clear hb2)
                (try clear hk)
                (try clear hi)
                (try clear ho0)
                refine hK.out _ _ ⟨qc BK127 0, qc BK127 1, qc BK128 0, qc BK128 1⟩ (fun hHeld => ?_)
                clear hK K
                refine norm_ (a' := ?_) ?_ ?_
                rotate_left
                ·show Act.put _ (some 25) _ = _
                 simp only [Act.put, zA, zB, zC, i64_w, i32_w]
                 rfl
                exact norm_ (by simp only [putAll, Act.put, zA, zB, zC] <;> rfl) (hJ1_5 (v131, gb138) _ ⟨hHeld, qq HO122, qq HO126, qq HO132, qk BK114, qk BK115, qk BK127, qk BK128, qk BK138, GW138.out, GE138.out, NB114_138.out, NB138_114.out, NB115_138.out, NB138_115.out, NB127_138.out, NB138_127.out, NB128_138.out, NB138_128.out, (by repeat with_reducible first|exact HB.out|apply qx|apply qv|apply qw|refine qs ?_ (by assumption))⟩)
               ·skip
                refine box_step ?hg (N := 7) ?hd (cs := #[.bool false, .slice none 0 0]) (t := 34) ?hr ?_; (case hd => rfl); (case hg => rfl); (case hr => go_simp <;> rfl)
                intro gb137 hg w43 hbox hb
                replace HO122 := qr HO122 hb
                replace HO126 := qr HO126 hb
                have BK137 := Aside0.mk (hbox)
                have GW137 := qg hg (by repeat with_reducible first|exact HB.out|apply qx|apply qv|apply qw|refine qs ?_ (by assumption))
                have GE137 := GW137
                replace HB := Aside0.mk (below_step (by repeat with_reducible first|exact HB.out|apply qx|apply qv|apply qw|refine qs ?_ (by assumption)) hb)
                have NB114_137 := qn BK114 hg
                have NB137_114 := qm BK114 hg
                replace BK114 := qb BK114 hb
                have NB115_137 := qn BK115 hg
                have NB137_115 := qm BK115 hg
                replace BK115 := qb BK115 hb
                have NB127_137 := qn BK127 hg
                have NB137_127 := qm BK127 hg
                replace BK127 := qb BK127 hb
                have NB128_137 := qn BK128 hg
                have NB137_128 := qm BK128 hg
                replace BK128 := qb BK128 hb
                have NB138_137 := qn BK138 hg
                have NB137_138 := qm BK138 hg
                replace BK138 := qb BK138 hb
                clear hb hbox hg
                refine hK.out _ _ ⟨qc BK127 0, qc BK127 1, qc BK128 0, qc BK128 1⟩ (fun hHeld => ?_)
                clear hK K
                refine norm_ (a' := ?_) ?_ ?_
                rotate_left
                ·show Act.put _ (some 7) _ = _
                 simp only [Act.put, zA, zB, zC, i64_w, i32_w]
                 rfl
                exact norm_ (by simp only [putAll, Act.put, zA, zB, zC] <;> rfl) (hJ4_5 (gb137, gb138) _ ⟨hHeld, qq HO122, qq HO126, qk BK114, qk BK115, qk BK127, qk BK128, qk BK137, qk BK138, GW137.out, GE137.out, NB114_137.out, NB137_114.out, NB115_137.out, NB137_115.out, NB127_137.out, NB137_127.out, NB128_137.out, NB137_128.out, NB138_137.out, NB137_138.out, GW138.out, GE138.out, NB114_138.out, NB138_114.out, NB115_138.out, NB138_115.out, NB127_138.out, NB138_127.out, NB128_138.out, NB138_128.out, (by repeat with_reducible first|exact HB.out|apply qx|apply qv|apply qw|refine qs ?_ (by assumption))⟩)
             ·skip
              rintro gb137 w42 ⟨hS_, h0_, h1_, h2_, h3_, h4_, h5_, h6_, h7_, h8_, h9_, h10_, h11_, h12_, h13_, h14_, h15_, h16_, h17_⟩
              replace HO122 : Aside0 (Kd.R (Kd.int .u32) 63 w42 w.heap.size (fun k_ => some k_ ≠ (.slice Ao37 t124.length co37 : Value).ownBlock) (.slice Ao34 t120.length co34) t120) := ⟨h0_⟩
              replace HO126 : Aside0 (Kd.R (Kd.int .u32) 63 w42 w.heap.size (fun k_ => some k_ ≠ (.slice Ao34 t120.length co34 : Value).ownBlock) (.slice Ao37 t124.length co37) t124) := ⟨h1_⟩
              replace BK114 : Aside0 (w42.heap[gb114]? = some (.cells #[.bool a0_0, .slice A0_1 l0_1.length c0_1] 25 (0, 0))) := ⟨h2_⟩
              replace BK115 : Aside0 (w42.heap[gb115]? = some (.cells #[.bool a1_0, .slice A1_1 l1_1.length c1_1] 25 (0, 0))) := ⟨h3_⟩
              replace BK127 : Aside0 (w42.heap[gb127]? = some (.cells #[.bool t119, .slice Ao34 t120.length co34] 25 (0, 0))) := ⟨h4_⟩
              replace BK128 : Aside0 (w42.heap[gb128]? = some (.cells #[.bool t123, .slice Ao37 t124.length co37] 25 (0, 0))) := ⟨h5_⟩
              have BK137 : Aside0 (w42.heap[gb137]? = some (.cells #[.bool false, .slice none 0 0] 34 (0, 0))) := ⟨h6_⟩
              have GW137 : Aside0 (w.heap.size ≤ gb137) := ⟨h7_⟩
              have GE137 : Aside0 (w.heap.size ≤ gb137) := ⟨h8_⟩
              have NB114_137 : Aside0 (gb114 ≠ gb137) := ⟨h9_⟩
              have NB137_114 : Aside0 (gb137 ≠ gb114) := ⟨h10_⟩
              have NB115_137 : Aside0 (gb115 ≠ gb137) := ⟨h11_⟩
              have NB137_115 : Aside0 (gb137 ≠ gb115) := ⟨h12_⟩
              have NB127_137 : Aside0 (gb127 ≠ gb137) := ⟨h13_⟩
              have NB137_127 : Aside0 (gb137 ≠ gb127) := ⟨h14_⟩
              have NB128_137 : Aside0 (gb128 ≠ gb137) := ⟨h15_⟩
              have NB137_128 : Aside0 (gb137 ≠ gb128) := ⟨h16_⟩
              replace HB : Aside0 (Below w.heap.size w w42) := ⟨h17_⟩
              clear h0_ h1_ h2_ h3_ h4_ h5_ h6_ h7_ h8_ h9_ h10_ h11_ h12_ h13_ h14_ h15_ h16_ h17_
              have hHeld : w42.cell? ⟨gb127, 0, none⟩ = some (.bool t119) ∧ w42.cell? ⟨gb127, 1, none⟩ = some (.slice Ao34 t120.length co34) ∧ w42.cell? ⟨gb128, 0, none⟩ = some (.bool t123) ∧ w42.cell? ⟨gb128, 1, none⟩ = some (.slice Ao37 t124.length co37) := hS_
              refine norm_ (a' := ?_) ?_ ?_
              rotate_left
              ·simp only [putAll, Act.put, zA, zB, zC]
               rfl
              refine two_ (i := 1) (j := 5) (Ni := some 25) (Nj := some 8) #[true, true, true, false, true, false, false, false] #[true, false, true, false, true, true, false, false] rfl rfl rfl rfl (two_of HT_.out (by kernel_rfl)) (by decide) (by decide) (fun K hK => ?_) (fun K hK => ?_)
              ·skip
               refine goes_ Tryd.func24 (by kernel_rfl) rfl #[.agg #[.bool t119, .slice Ao34 t120.length co34]] (by rfl) rfl rfl (by (try simp only [zM, zO, zP]); first|done|rfl) ?_
               with_reducible refine (moraineref02_Value.calls t119 _ _ t120 t129 t130 _ ?side1 ?side2 A22.out).mono ?_
               (case side1 => repeat (first | exact (Kd.R_reads' HO122.out).2.2 | (with_reducible first|refine Kd.C_alloc ?_ _|refine Kd.C_drewN ?_ _|refine Kd.C_drew ?_)))
               (case side2 => exact (Kd.R_reads' HO122.out).2.1)
               rintro e w43 ⟨v131, rfl, ho0, hb⟩
               refine ⟨_, rfl, ?_⟩
               replace HO122 := qr HO122 hb
               replace HO126 := qr HO126 hb
               have HO132 := Aside0.mk (Kd.R_lower ho0 (below_size (by repeat with_reducible first|exact HB.out|apply qx|apply qv|apply qw|refine qs ?_ (by assumption))))
               replace BK114 := qb BK114 hb
               replace BK115 := qb BK115 hb
               replace BK127 := qb BK127 hb
               replace BK128 := qb BK128 hb
               replace BK137 := qb BK137 hb
               replace HB := Aside0.mk (below_step (by repeat with_reducible first|exact HB.out|apply qx|apply qv|apply qw|refine qs ?_ (by assumption)) hb)
               (try clear hb)
               (try clear hb2)
               (try clear hk)
               (try clear hi)
               (try clear ho0)
               refine hK.out _ _ ⟨qc BK127 0, qc BK127 1, qc BK128 0, qc BK128 1⟩ (fun hHeld => ?_)
               clear hK K
               refine norm_ (a' := ?_) ?_ ?_
               rotate_left
               ·show Act.put _ (some 25) _ = _
                simp only [Act.put, zA, zB, zC, i64_w, i32_w]
                rfl
               exact norm_ (by simp only [putAll, Act.put, zA, zB, zC] <;> rfl) (hJ1_4 (v131, gb137) _ ⟨hHeld, qq HO122, qq HO126, qq HO132, qk BK114, qk BK115, qk BK127, qk BK128, qk BK137, GW137.out, GE137.out, NB114_137.out, NB137_114.out, NB115_137.out, NB137_115.out, NB127_137.out, NB137_127.out, NB128_137.out, NB137_128.out, (by repeat with_reducible first|exact HB.out|apply qx|apply qv|apply qw|refine qs ?_ (by assumption))⟩)
              ·skip
               refine box_step ?hg (N := 8) ?hd (cs := #[.bool false, .slice none 0 0]) (t := 34) ?hr ?_; (case hd => rfl); (case hg => rfl); (case hr => go_simp <;> rfl)
               intro gb138 hg w43 hbox hb
               replace HO122 := qr HO122 hb
               replace HO126 := qr HO126 hb
               have BK138 := Aside0.mk (hbox)
               have GW138 := qg hg (by repeat with_reducible first|exact HB.out|apply qx|apply qv|apply qw|refine qs ?_ (by assumption))
               have GE138 := GW138
               replace HB := Aside0.mk (below_step (by repeat with_reducible first|exact HB.out|apply qx|apply qv|apply qw|refine qs ?_ (by assumption)) hb)
               have NB114_138 := qn BK114 hg
               have NB138_114 := qm BK114 hg
               replace BK114 := qb BK114 hb
               have NB115_138 := qn BK115 hg
               have NB138_115 := qm BK115 hg
               replace BK115 := qb BK115 hb
               have NB127_138 := qn BK127 hg
               have NB138_127 := qm BK127 hg
               replace BK127 := qb BK127 hb
               have NB128_138 := qn BK128 hg
               have NB138_128 := qm BK128 hg
               replace BK128 := qb BK128 hb
               have NB137_138 := qn BK137 hg
               have NB138_137 := qm BK137 hg
               replace BK137 := qb BK137 hb
               clear hb hbox hg
               refine hK.out _ _ ⟨qc BK127 0, qc BK127 1, qc BK128 0, qc BK128 1⟩ (fun hHeld => ?_)
               clear hK K
               refine norm_ (a' := ?_) ?_ ?_
               rotate_left
               ·show Act.put _ (some 8) _ = _
                simp only [Act.put, zA, zB, zC, i64_w, i32_w]
                rfl
               exact norm_ (by simp only [putAll, Act.put, zA, zB, zC] <;> rfl) (hJ4_5 (gb137, gb138) _ ⟨hHeld, qq HO122, qq HO126, qk BK114, qk BK115, qk BK127, qk BK128, qk BK137, qk BK138, GW137.out, GE137.out, NB114_137.out, NB137_114.out, NB115_137.out, NB137_115.out, NB127_137.out, NB137_127.out, NB128_137.out, NB137_128.out, NB138_137.out, NB137_138.out, GW138.out, GE138.out, NB114_138.out, NB138_114.out, NB115_138.out, NB138_115.out, NB127_138.out, NB138_127.out, NB128_138.out, NB138_128.out, (by repeat with_reducible first|exact HB.out|apply qx|apply qv|apply qw|refine qs ?_ (by assumption))⟩)
            ·skip
             rintro v131 w42 ⟨hS_, h0_, h1_, h2_, h3_, h4_, h5_, h6_, h7_⟩
             replace HO122 : Aside0 (Kd.R (Kd.int .u32) 63 w42 w.heap.size (fun k_ => some k_ ≠ (.slice Ao37 t124.length co37 : Value).ownBlock) (.slice Ao34 t120.length co34) t120) := ⟨h0_⟩
             replace HO126 : Aside0 (Kd.R (Kd.int .u32) 63 w42 w.heap.size (fun k_ => some k_ ≠ (.slice Ao34 t120.length co34 : Value).ownBlock) (.slice Ao37 t124.length co37) t124) := ⟨h1_⟩
             have HO132 : Aside0 (Kd.R (Kd.int .u8) 5 w42 w.heap.size (fun _ => True) v131 t130) := ⟨h2_⟩
             replace BK114 : Aside0 (w42.heap[gb114]? = some (.cells #[.bool a0_0, .slice A0_1 l0_1.length c0_1] 25 (0, 0))) := ⟨h3_⟩
             replace BK115 : Aside0 (w42.heap[gb115]? = some (.cells #[.bool a1_0, .slice A1_1 l1_1.length c1_1] 25 (0, 0))) := ⟨h4_⟩
             replace BK127 : Aside0 (w42.heap[gb127]? = some (.cells #[.bool t119, .slice Ao34 t120.length co34] 25 (0, 0))) := ⟨h5_⟩
             replace BK128 : Aside0 (w42.heap[gb128]? = some (.cells #[.bool t123, .slice Ao37 t124.length co37] 25 (0, 0))) := ⟨h6_⟩
             replace HB : Aside0 (Below w.heap.size w w42) := ⟨h7_⟩
             clear h0_ h1_ h2_ h3_ h4_ h5_ h6_ h7_
             have hHeld : w42.cell? ⟨gb127, 0, none⟩ = some (.bool t119) ∧ w42.cell? ⟨gb127, 1, none⟩ = some (.slice Ao34 t120.length co34) ∧ w42.cell? ⟨gb128, 0, none⟩ = some (.bool t123) ∧ w42.cell? ⟨gb128, 1, none⟩ = some (.slice Ao37 t124.length co37) := hS_
             refine norm_ (a' := ?_) ?_ ?_
             rotate_left
             ·simp only [putAll, Act.put, zA, zB, zC]
              rfl
             refine three_ (i := 3) (j := 4) (k := 5) (Ni := some 27) (Nj := some 7) (Nk := some 8) #[true, true, true, true, false, false, false, false] #[true, true, true, false, true, false, false, false] #[true, true, true, false, false, true, false, false] rfl rfl rfl rfl rfl rfl (three_of HT_.out (by kernel_rfl)) (by decide) (by decide) (by decide) (fun K hK => ?_) (fun K hK => ?_) (fun K hK => ?_)
             ·skip
              refine goes_ Tryd.func24 (by kernel_rfl) rfl #[.agg #[.bool t123, .slice Ao37 t124.length co37]] (by rfl) rfl rfl (by (try simp only [zM, zO, zP]); first|done|rfl) ?_
              with_reducible refine (moraineref02_Value.calls t123 _ _ t124 t133 t134 _ ?side1 ?side2 A23.out).mono ?_
              (case side1 => repeat (first | exact (Kd.R_reads' HO126.out).2.2 | (with_reducible first|refine Kd.C_alloc ?_ _|refine Kd.C_drewN ?_ _|refine Kd.C_drew ?_)))
              (case side2 => exact (Kd.R_reads' HO126.out).2.1)
              rintro e w43 ⟨v135, rfl, ho0, hb⟩
              refine ⟨_, rfl, ?_⟩
              replace HO122 := qr HO122 hb
              replace HO126 := qr HO126 hb
              have HO136 := Aside0.mk (Kd.R_lower (Kd.R_new' ho0 (ql HO132)) (below_size (by repeat with_reducible first|exact HB.out|apply qx|apply qv|apply qw|refine qs ?_ (by assumption))))
              replace HO132 := qe HO132 ho0 hb
              replace BK114 := qb BK114 hb
              replace BK115 := qb BK115 hb
              replace BK127 := qb BK127 hb
              replace BK128 := qb BK128 hb
              replace HB := Aside0.mk (below_step (by repeat with_reducible first|exact HB.out|apply qx|apply qv|apply qw|refine qs ?_ (by assumption)) hb)
              (try clear hb)
              (try clear hb2)
              (try clear hk)
              (try clear hi)
              (try clear ho0)
              refine hK.out _ _ ⟨qc BK127 0, qc BK127 1, qc BK128 0, qc BK128 1⟩ (fun hHeld => ?_)
              clear hK K
              refine norm_ (a' := ?_) ?_ ?_
              rotate_left
              ·show Act.put _ (some 27) _ = _
               simp only [Act.put, zA, zB, zC, i64_w, i32_w]
               rfl
              exact norm_ (by simp only [putAll, Act.put, zA, zB, zC] <;> rfl) (hJ1_3 (v131, v135) _ ⟨hHeld, qq HO122, qq HO126, (by (with_reducible repeat first|apply Kd.R_alloc|apply Kd.R_drewN|apply Kd.R_drew); exact Kd.R_mono HO132.out (fun _ hk => hk.2)), (by (with_reducible repeat first|apply Kd.R_alloc|apply Kd.R_drewN|apply Kd.R_drew); exact Kd.R_mono HO136.out (fun _ hk => hk.2)), qk BK114, qk BK115, qk BK127, qk BK128, (by repeat with_reducible first|exact HB.out|apply qx|apply qv|apply qw|refine qs ?_ (by assumption))⟩)
             ·skip
              refine box_step ?hg (N := 7) ?hd (cs := #[.bool false, .slice none 0 0]) (t := 34) ?hr ?_; (case hd => rfl); (case hg => rfl); (case hr => go_simp <;> rfl)
              intro gb137 hg w43 hbox hb
              replace HO122 := qr HO122 hb
              replace HO126 := qr HO126 hb
              replace HO132 := qr HO132 hb
              have BK137 := Aside0.mk (hbox)
              have GW137 := qg hg (by repeat with_reducible first|exact HB.out|apply qx|apply qv|apply qw|refine qs ?_ (by assumption))
              have GE137 := GW137
              replace HB := Aside0.mk (below_step (by repeat with_reducible first|exact HB.out|apply qx|apply qv|apply qw|refine qs ?_ (by assumption)) hb)
              have NB114_137 := qn BK114 hg
              have NB137_114 := qm BK114 hg
              replace BK114 := qb BK114 hb
              have NB115_137 := qn BK115 hg
              have NB137_115 := qm BK115 hg
              replace BK115 := qb BK115 hb
              have NB127_137 := qn BK127 hg
              have NB137_127 := qm BK127 hg
              replace BK127 := qb BK127 hb
              have NB128_137 := qn BK128 hg
              have NB137_128 := qm BK128 hg
              replace BK128 := qb BK128 hb
              clear hb hbox hg
              refine hK.out _ _ ⟨qc BK127 0, qc BK127 1, qc BK128 0, qc BK128 1⟩ (fun hHeld => ?_)
              clear hK K
              refine norm_ (a' := ?_) ?_ ?_
              rotate_left
              ·show Act.put _ (some 7) _ = _
               simp only [Act.put, zA, zB, zC, i64_w, i32_w]
               rfl
              exact norm_ (by simp only [putAll, Act.put, zA, zB, zC] <;> rfl) (hJ1_4 (v131, gb137) _ ⟨hHeld, qq HO122, qq HO126, qq HO132, qk BK114, qk BK115, qk BK127, qk BK128, qk BK137, GW137.out, GE137.out, NB114_137.out, NB137_114.out, NB115_137.out, NB137_115.out, NB127_137.out, NB137_127.out, NB128_137.out, NB137_128.out, (by repeat with_reducible first|exact HB.out|apply qx|apply qv|apply qw|refine qs ?_ (by assumption))⟩)
             ·skip
              refine box_step ?hg (N := 8) ?hd (cs := #[.bool false, .slice none 0 0]) (t := 34) ?hr ?_; (case hd => rfl); (case hg => rfl); (case hr => go_simp <;> rfl)
              intro gb138 hg w43 hbox hb
              replace HO122 := qr HO122 hb
              replace HO126 := qr HO126 hb
              replace HO132 := qr HO132 hb
              have BK138 := Aside0.mk (hbox)
              have GW138 := qg hg (by repeat with_reducible first|exact HB.out|apply qx|apply qv|apply qw|refine qs ?_ (by assumption))
              have GE138 := GW138
              replace HB := Aside0.mk (below_step (by repeat with_reducible first|exact HB.out|apply qx|apply qv|apply qw|refine qs ?_ (by assumption)) hb)
              have NB114_138 := qn BK114 hg
              have NB138_114 := qm BK114 hg
              replace BK114 := qb BK114 hb
              have NB115_138 := qn BK115 hg
              have NB138_115 := qm BK115 hg
              replace BK115 := qb BK115 hb
              have NB127_138 := qn BK127 hg
              have NB138_127 := qm BK127 hg
              replace BK127 := qb BK127 hb
              have NB128_138 := qn BK128 hg
              have NB138_128 := qm BK128 hg
              replace BK128 := qb BK128 hb
              clear hb hbox hg
              refine hK.out _ _ ⟨qc BK127 0, qc BK127 1, qc BK128 0, qc BK128 1⟩ (fun hHeld => ?_)
              clear hK K
              refine norm_ (a' := ?_) ?_ ?_
              rotate_left
              ·show Act.put _ (some 8) _ = _
               simp only [Act.put, zA, zB, zC, i64_w, i32_w]
               rfl
              exact norm_ (by simp only [putAll, Act.put, zA, zB, zC] <;> rfl) (hJ1_5 (v131, gb138) _ ⟨hHeld, qq HO122, qq HO126, qq HO132, qk BK114, qk BK115, qk BK127, qk BK128, qk BK138, GW138.out, GE138.out, NB114_138.out, NB138_114.out, NB115_138.out, NB138_115.out, NB127_138.out, NB138_127.out, NB128_138.out, NB138_128.out, (by repeat with_reducible first|exact HB.out|apply qx|apply qv|apply qw|refine qs ?_ (by assumption))⟩)
           ·skip
            rintro ⟨gb137, gb138⟩ w43 ⟨hS_, h0_, h1_, h2_, h3_, h4_, h5_, h6_, h7_, h8_, h9_, h10_, h11_, h12_, h13_, h14_, h15_, h16_, h17_, h18_, h19_, h20_, h21_, h22_, h23_, h24_, h25_, h26_, h27_, h28_, h29_, h30_⟩
            replace HO122 : Aside0 (Kd.R (Kd.int .u32) 63 w43 w.heap.size (fun k_ => some k_ ≠ (.slice Ao37 t124.length co37 : Value).ownBlock) (.slice Ao34 t120.length co34) t120) := ⟨h0_⟩
            replace HO126 : Aside0 (Kd.R (Kd.int .u32) 63 w43 w.heap.size (fun k_ => some k_ ≠ (.slice Ao34 t120.length co34 : Value).ownBlock) (.slice Ao37 t124.length co37) t124) := ⟨h1_⟩
            replace BK114 : Aside0 (w43.heap[gb114]? = some (.cells #[.bool a0_0, .slice A0_1 l0_1.length c0_1] 25 (0, 0))) := ⟨h2_⟩
            replace BK115 : Aside0 (w43.heap[gb115]? = some (.cells #[.bool a1_0, .slice A1_1 l1_1.length c1_1] 25 (0, 0))) := ⟨h3_⟩
            replace BK127 : Aside0 (w43.heap[gb127]? = some (.cells #[.bool t119, .slice Ao34 t120.length co34] 25 (0, 0))) := ⟨h4_⟩
            replace BK128 : Aside0 (w43.heap[gb128]? = some (.cells #[.bool t123, .slice Ao37 t124.length co37] 25 (0, 0))) := ⟨h5_⟩
            have BK137 : Aside0 (w43.heap[gb137]? = some (.cells #[.bool false, .slice none 0 0] 34 (0, 0))) := ⟨h6_⟩
            have BK138 : Aside0 (w43.heap[gb138]? = some (.cells #[.bool false, .slice none 0 0] 34 (0, 0))) := ⟨h7_⟩
            have GW137 : Aside0 (w.heap.size ≤ gb137) := ⟨h8_⟩
            have GE137 : Aside0 (w.heap.size ≤ gb137) := ⟨h9_⟩
            have NB114_137 : Aside0 (gb114 ≠ gb137) := ⟨h10_⟩
            have NB137_114 : Aside0 (gb137 ≠ gb114) := ⟨h11_⟩
            have NB115_137 : Aside0 (gb115 ≠ gb137) := ⟨h12_⟩
            have NB137_115 : Aside0 (gb137 ≠ gb115) := ⟨h13_⟩
            have NB127_137 : Aside0 (gb127 ≠ gb137) := ⟨h14_⟩
            have NB137_127 : Aside0 (gb137 ≠ gb127) := ⟨h15_⟩
            have NB128_137 : Aside0 (gb128 ≠ gb137) := ⟨h16_⟩
            have NB137_128 : Aside0 (gb137 ≠ gb128) := ⟨h17_⟩
            have NB138_137 : Aside0 (gb138 ≠ gb137) := ⟨h18_⟩
            have NB137_138 : Aside0 (gb137 ≠ gb138) := ⟨h19_⟩
            have GW138 : Aside0 (w.heap.size ≤ gb138) := ⟨h20_⟩
            have GE138 : Aside0 (w.heap.size ≤ gb138) := ⟨h21_⟩
            have NB114_138 : Aside0 (gb114 ≠ gb138) := ⟨h22_⟩
            have NB138_114 : Aside0 (gb138 ≠ gb114) := ⟨h23_⟩
            have NB115_138 : Aside0 (gb115 ≠ gb138) := ⟨h24_⟩
            have NB138_115 : Aside0 (gb138 ≠ gb115) := ⟨h25_⟩
            have NB127_138 : Aside0 (gb127 ≠ gb138) := ⟨h26_⟩
            have NB138_127 : Aside0 (gb138 ≠ gb127) := ⟨h27_⟩
            have NB128_138 : Aside0 (gb128 ≠ gb138) := ⟨h28_⟩
            have NB138_128 : Aside0 (gb138 ≠ gb128) := ⟨h29_⟩
            replace HB : Aside0 (Below w.heap.size w w43) := ⟨h30_⟩
            clear h0_ h1_ h2_ h3_ h4_ h5_ h6_ h7_ h8_ h9_ h10_ h11_ h12_ h13_ h14_ h15_ h16_ h17_ h18_ h19_ h20_ h21_ h22_ h23_ h24_ h25_ h26_ h27_ h28_ h29_ h30_
            have hHeld : w43.cell? ⟨gb127, 0, none⟩ = some (.bool t119) ∧ w43.cell? ⟨gb127, 1, none⟩ = some (.slice Ao34 t120.length co34) ∧ w43.cell? ⟨gb128, 0, none⟩ = some (.bool t123) ∧ w43.cell? ⟨gb128, 1, none⟩ = some (.slice Ao37 t124.length co37) := hS_
            refine norm_ (a' := ?_) ?_ ?_
            rotate_left
            ·simp only [putAll, Act.put, zA, zB, zC]
             rfl
            refine one_ (i := 1) (N := some 25) #[true, true, true, false, true, true, false, false] rfl rfl (one_of HT_.out (by kernel_rfl)) (by decide) (fun K hK => ?_)
            refine goes_ Tryd.func24 (by kernel_rfl) rfl #[.agg #[.bool t119, .slice Ao34 t120.length co34]] (by rfl) rfl rfl (by (try simp only [zM, zO, zP]); first|done|rfl) ?_
            with_reducible refine (moraineref02_Value.calls t119 _ _ t120 t129 t130 _ ?side1 ?side2 A22.out).mono ?_
            (case side1 => repeat (first | exact (Kd.R_reads' HO122.out).2.2 | (with_reducible first|refine Kd.C_alloc ?_ _|refine Kd.C_drewN ?_ _|refine Kd.C_drew ?_)))
            (case side2 => exact (Kd.R_reads' HO122.out).2.1)
            rintro e w44 ⟨v131, rfl, ho0, hb⟩
            refine ⟨_, rfl, ?_⟩
            replace HO122 := qr HO122 hb
            replace HO126 := qr HO126 hb
            have HO132 := Aside0.mk (Kd.R_lower ho0 (below_size (by repeat with_reducible first|exact HB.out|apply qx|apply qv|apply qw|refine qs ?_ (by assumption))))
            replace BK114 := qb BK114 hb
            replace BK115 := qb BK115 hb
            replace BK127 := qb BK127 hb
            replace BK128 := qb BK128 hb
            replace BK137 := qb BK137 hb
            replace BK138 := qb BK138 hb
            replace HB := Aside0.mk (below_step (by repeat with_reducible first|exact HB.out|apply qx|apply qv|apply qw|refine qs ?_ (by assumption)) hb)
            (try clear hb)
            (try clear hb2)
            (try clear hk)
            (try clear hi)
            (try clear ho0)
            refine hK.out _ _ ⟨qc BK127 0, qc BK127 1, qc BK128 0, qc BK128 1⟩ (fun hHeld => ?_)
            clear hK K
            refine norm_ (a' := ?_) ?_ ?_
            rotate_left
            ·show Act.put _ (some 25) _ = _
             simp only [Act.put, zA, zB, zC, i64_w, i32_w]
             rfl
            exact norm_ (by simp only [putAll, Act.put, zA, zB, zC] <;> rfl) (hJ1_4_5 (v131, gb137, gb138) _ ⟨hHeld, qq HO122, qq HO126, qq HO132, qk BK114, qk BK115, qk BK127, qk BK128, qk BK137, qk BK138, GW137.out, GE137.out, NB114_137.out, NB137_114.out, NB115_137.out, NB137_115.out, NB127_137.out, NB137_127.out, NB128_137.out, NB137_128.out, NB138_137.out, NB137_138.out, GW138.out, GE138.out, NB114_138.out, NB138_114.out, NB115_138.out, NB138_115.out, NB127_138.out, NB138_127.out, NB128_138.out, NB138_128.out, (by repeat with_reducible first|exact HB.out|apply qx|apply qv|apply qw|refine qs ?_ (by assumption))⟩)
          ·skip
           rintro ⟨v131, gb138⟩ w43 ⟨hS_, h0_, h1_, h2_, h3_, h4_, h5_, h6_, h7_, h8_, h9_, h10_, h11_, h12_, h13_, h14_, h15_, h16_, h17_, h18_⟩
           replace HO122 : Aside0 (Kd.R (Kd.int .u32) 63 w43 w.heap.size (fun k_ => some k_ ≠ (.slice Ao37 t124.length co37 : Value).ownBlock) (.slice Ao34 t120.length co34) t120) := ⟨h0_⟩
           replace HO126 : Aside0 (Kd.R (Kd.int .u32) 63 w43 w.heap.size (fun k_ => some k_ ≠ (.slice Ao34 t120.length co34 : Value).ownBlock) (.slice Ao37 t124.length co37) t124) := ⟨h1_⟩
           have HO132 : Aside0 (Kd.R (Kd.int .u8) 5 w43 w.heap.size (fun _ => True) v131 t130) := ⟨h2_⟩
           replace BK114 : Aside0 (w43.heap[gb114]? = some (.cells #[.bool a0_0, .slice A0_1 l0_1.length c0_1] 25 (0, 0))) := ⟨h3_⟩
           replace BK115 : Aside0 (w43.heap[gb115]? = some (.cells #[.bool a1_0, .slice A1_1 l1_1.length c1_1] 25 (0, 0))) := ⟨h4_⟩
           replace BK127 : Aside0 (w43.heap[gb127]? = some (.cells #[.bool t119, .slice Ao34 t120.length co34] 25 (0, 0))) := ⟨h5_⟩
           replace BK128 : Aside0 (w43.heap[gb128]? = some (.cells #[.bool t123, .slice Ao37 t124.length co37] 25 (0, 0))) := ⟨h6_⟩
           have BK138 : Aside0 (w43.heap[gb138]? = some (.cells #[.bool false, .slice none 0 0] 34 (0, 0))) := ⟨h7_⟩
           have GW138 : Aside0 (w.heap.size ≤ gb138) := ⟨h8_⟩
           have GE138 : Aside0 (w.heap.size ≤ gb138) := ⟨h9_⟩
           have NB114_138 : Aside0 (gb114 ≠ gb138) := ⟨h10_⟩
           have NB138_114 : Aside0 (gb138 ≠ gb114) := ⟨h11_⟩
           have NB115_138 : Aside0 (gb115 ≠ gb138) := ⟨h12_⟩
           have NB138_115 : Aside0 (gb138 ≠ gb115) := ⟨h13_⟩
           have NB127_138 : Aside0 (gb127 ≠ gb138) := ⟨h14_⟩
           have NB138_127 : Aside0 (gb138 ≠ gb127) := ⟨h15_⟩
           have NB128_138 : Aside0 (gb128 ≠ gb138) := ⟨h16_⟩
           have NB138_128 : Aside0 (gb138 ≠ gb128) := ⟨h17_⟩
           replace HB : Aside0 (Below w.heap.size w w43) := ⟨h18_⟩
           clear h0_ h1_ h2_ h3_ h4_ h5_ h6_ h7_ h8_ h9_ h10_ h11_ h12_ h13_ h14_ h15_ h16_ h17_ h18_
           have hHeld : w43.cell? ⟨gb127, 0, none⟩ = some (.bool t119) ∧ w43.cell? ⟨gb127, 1, none⟩ = some (.slice Ao34 t120.length co34) ∧ w43.cell? ⟨gb128, 0, none⟩ = some (.bool t123) ∧ w43.cell? ⟨gb128, 1, none⟩ = some (.slice Ao37 t124.length co37) := hS_
           refine norm_ (a' := ?_) ?_ ?_
           rotate_left
           ·simp only [putAll, Act.put, zA, zB, zC]
            rfl
           refine two_ (i := 3) (j := 4) (Ni := some 27) (Nj := some 7) #[true, true, true, true, false, true, false, false] #[true, true, true, false, true, true, false, false] rfl rfl rfl rfl (two_of HT_.out (by kernel_rfl)) (by decide) (by decide) (fun K hK => ?_) (fun K hK => ?_)
           ·skip
            refine goes_ Tryd.func24 (by kernel_rfl) rfl #[.agg #[.bool t123, .slice Ao37 t124.length co37]] (by rfl) rfl rfl (by (try simp only [zM, zO, zP]); first|done|rfl) ?_
            with_reducible refine (moraineref02_Value.calls t123 _ _ t124 t133 t134 _ ?side1 ?side2 A23.out).mono ?_
            (case side1 => repeat (first | exact (Kd.R_reads' HO126.out).2.2 | (with_reducible first|refine Kd.C_alloc ?_ _|refine Kd.C_drewN ?_ _|refine Kd.C_drew ?_)))
            (case side2 => exact (Kd.R_reads' HO126.out).2.1)
            rintro e w44 ⟨v135, rfl, ho0, hb⟩
            refine ⟨_, rfl, ?_⟩
            replace HO122 := qr HO122 hb
            replace HO126 := qr HO126 hb
            have HO136 := Aside0.mk (Kd.R_lower (Kd.R_new' ho0 (ql HO132)) (below_size (by repeat with_reducible first|exact HB.out|apply qx|apply qv|apply qw|refine qs ?_ (by assumption))))
            replace HO132 := qe HO132 ho0 hb
            replace BK114 := qb BK114 hb
            replace BK115 := qb BK115 hb
            replace BK127 := qb BK127 hb
            replace BK128 := qb BK128 hb
            replace BK138 := qb BK138 hb
            replace HB := Aside0.mk (below_step (by repeat with_reducible first|exact HB.out|apply qx|apply qv|apply qw|refine qs ?_ (by assumption)) hb)
            (try clear hb)
            (try clear hb2)
            (try clear hk)
            (try clear hi)
            (try clear ho0)
            refine hK.out _ _ ⟨qc BK127 0, qc BK127 1, qc BK128 0, qc BK128 1⟩ (fun hHeld => ?_)
            clear hK K
            refine norm_ (a' := ?_) ?_ ?_
            rotate_left
            ·show Act.put _ (some 27) _ = _
             simp only [Act.put, zA, zB, zC, i64_w, i32_w]
             rfl
            exact norm_ (by simp only [putAll, Act.put, zA, zB, zC] <;> rfl) (hJ1_3_5 (v131, v135, gb138) _ ⟨hHeld, qq HO122, qq HO126, (by (with_reducible repeat first|apply Kd.R_alloc|apply Kd.R_drewN|apply Kd.R_drew); exact Kd.R_mono HO132.out (fun _ hk => hk.2)), (by (with_reducible repeat first|apply Kd.R_alloc|apply Kd.R_drewN|apply Kd.R_drew); exact Kd.R_mono HO136.out (fun _ hk => hk.2)), qk BK114, qk BK115, qk BK127, qk BK128, qk BK138, GW138.out, GE138.out, NB114_138.out, NB138_114.out, NB115_138.out, NB138_115.out, NB127_138.out, NB138_127.out, NB128_138.out, NB138_128.out, (by repeat with_reducible first|exact HB.out|apply qx|apply qv|apply qw|refine qs ?_ (by assumption))⟩)
           ·skip
            refine box_step ?hg (N := 7) ?hd (cs := #[.bool false, .slice none 0 0]) (t := 34) ?hr ?_; (case hd => rfl); (case hg => rfl); (case hr => go_simp <;> rfl)
            intro gb137 hg w44 hbox hb
            replace HO122 := qr HO122 hb
            replace HO126 := qr HO126 hb
            replace HO132 := qr HO132 hb
            have BK137 := Aside0.mk (hbox)
            have GW137 := qg hg (by repeat with_reducible first|exact HB.out|apply qx|apply qv|apply qw|refine qs ?_ (by assumption))
            have GE137 := GW137
            replace HB := Aside0.mk (below_step (by repeat with_reducible first|exact HB.out|apply qx|apply qv|apply qw|refine qs ?_ (by assumption)) hb)
            have NB114_137 := qn BK114 hg
            have NB137_114 := qm BK114 hg
            replace BK114 := qb BK114 hb
            have NB115_137 := qn BK115 hg
            have NB137_115 := qm BK115 hg
            replace BK115 := qb BK115 hb
            have NB127_137 := qn BK127 hg
            have NB137_127 := qm BK127 hg
            replace BK127 := qb BK127 hb
            have NB128_137 := qn BK128 hg
            have NB137_128 := qm BK128 hg
            replace BK128 := qb BK128 hb
            have NB138_137 := qn BK138 hg
            have NB137_138 := qm BK138 hg
            replace BK138 := qb BK138 hb
            clear hb hbox hg
            refine hK.out _ _ ⟨qc BK127 0, qc BK127 1, qc BK128 0, qc BK128 1⟩ (fun hHeld => ?_)
            clear hK K
            refine norm_ (a' := ?_) ?_ ?_
            rotate_left
            ·show Act.put _ (some 7) _ = _
             simp only [Act.put, zA, zB, zC, i64_w, i32_w]
             rfl
            exact norm_ (by simp only [putAll, Act.put, zA, zB, zC] <;> rfl) (hJ1_4_5 (v131, gb137, gb138) _ ⟨hHeld, qq HO122, qq HO126, qq HO132, qk BK114, qk BK115, qk BK127, qk BK128, qk BK137, qk BK138, GW137.out, GE137.out, NB114_137.out, NB137_114.out, NB115_137.out, NB137_115.out, NB127_137.out, NB137_127.out, NB128_137.out, NB137_128.out, NB138_137.out, NB137_138.out, GW138.out, GE138.out, NB114_138.out, NB138_114.out, NB115_138.out, NB138_115.out, NB127_138.out, NB138_127.out, NB128_138.out, NB138_128.out, (by repeat with_reducible first|exact HB.out|apply qx|apply qv|apply qw|refine qs ?_ (by assumption))⟩)
         ·skip
          rintro ⟨v131, gb137⟩ w43 ⟨hS_, h0_, h1_, h2_, h3_, h4_, h5_, h6_, h7_, h8_, h9_, h10_, h11_, h12_, h13_, h14_, h15_, h16_, h17_, h18_⟩
          replace HO122 : Aside0 (Kd.R (Kd.int .u32) 63 w43 w.heap.size (fun k_ => some k_ ≠ (.slice Ao37 t124.length co37 : Value).ownBlock) (.slice Ao34 t120.length co34) t120) := ⟨h0_⟩
          replace HO126 : Aside0 (Kd.R (Kd.int .u32) 63 w43 w.heap.size (fun k_ => some k_ ≠ (.slice Ao34 t120.length co34 : Value).ownBlock) (.slice Ao37 t124.length co37) t124) := ⟨h1_⟩
          have HO132 : Aside0 (Kd.R (Kd.int .u8) 5 w43 w.heap.size (fun _ => True) v131 t130) := ⟨h2_⟩
          replace BK114 : Aside0 (w43.heap[gb114]? = some (.cells #[.bool a0_0, .slice A0_1 l0_1.length c0_1] 25 (0, 0))) := ⟨h3_⟩
          replace BK115 : Aside0 (w43.heap[gb115]? = some (.cells #[.bool a1_0, .slice A1_1 l1_1.length c1_1] 25 (0, 0))) := ⟨h4_⟩
          replace BK127 : Aside0 (w43.heap[gb127]? = some (.cells #[.bool t119, .slice Ao34 t120.length co34] 25 (0, 0))) := ⟨h5_⟩
          replace BK128 : Aside0 (w43.heap[gb128]? = some (.cells #[.bool t123, .slice Ao37 t124.length co37] 25 (0, 0))) := ⟨h6_⟩
          have BK137 : Aside0 (w43.heap[gb137]? = some (.cells #[.bool false, .slice none 0 0] 34 (0, 0))) := ⟨h7_⟩
          have GW137 : Aside0 (w.heap.size ≤ gb137) := ⟨h8_⟩
          have GE137 : Aside0 (w.heap.size ≤ gb137) := ⟨h9_⟩
          have NB114_137 : Aside0 (gb114 ≠ gb137) := ⟨h10_⟩
          have NB137_114 : Aside0 (gb137 ≠ gb114) := ⟨h11_⟩
          have NB115_137 : Aside0 (gb115 ≠ gb137) := ⟨h12_⟩
          have NB137_115 : Aside0 (gb137 ≠ gb115) := ⟨h13_⟩
          have NB127_137 : Aside0 (gb127 ≠ gb137) := ⟨h14_⟩
          have NB137_127 : Aside0 (gb137 ≠ gb127) := ⟨h15_⟩
          have NB128_137 : Aside0 (gb128 ≠ gb137) := ⟨h16_⟩
          have NB137_128 : Aside0 (gb137 ≠ gb128) := ⟨h17_⟩
          replace HB : Aside0 (Below w.heap.size w w43) := ⟨h18_⟩
          clear h0_ h1_ h2_ h3_ h4_ h5_ h6_ h7_ h8_ h9_ h10_ h11_ h12_ h13_ h14_ h15_ h16_ h17_ h18_
          have hHeld : w43.cell? ⟨gb127, 0, none⟩ = some (.bool t119) ∧ w43.cell? ⟨gb127, 1, none⟩ = some (.slice Ao34 t120.length co34) ∧ w43.cell? ⟨gb128, 0, none⟩ = some (.bool t123) ∧ w43.cell? ⟨gb128, 1, none⟩ = some (.slice Ao37 t124.length co37) := hS_
          refine norm_ (a' := ?_) ?_ ?_
          rotate_left
          ·simp only [putAll, Act.put, zA, zB, zC]
           rfl
          refine two_ (i := 3) (j := 5) (Ni := some 27) (Nj := some 8) #[true, true, true, true, true, false, false, false] #[true, true, true, false, true, true, false, false] rfl rfl rfl rfl (two_of HT_.out (by kernel_rfl)) (by decide) (by decide) (fun K hK => ?_) (fun K hK => ?_)
          ·skip
           refine goes_ Tryd.func24 (by kernel_rfl) rfl #[.agg #[.bool t123, .slice Ao37 t124.length co37]] (by rfl) rfl rfl (by (try simp only [zM, zO, zP]); first|done|rfl) ?_
           with_reducible refine (moraineref02_Value.calls t123 _ _ t124 t133 t134 _ ?side1 ?side2 A23.out).mono ?_
           (case side1 => repeat (first | exact (Kd.R_reads' HO126.out).2.2 | (with_reducible first|refine Kd.C_alloc ?_ _|refine Kd.C_drewN ?_ _|refine Kd.C_drew ?_)))
           (case side2 => exact (Kd.R_reads' HO126.out).2.1)
           rintro e w44 ⟨v135, rfl, ho0, hb⟩
           refine ⟨_, rfl, ?_⟩
           replace HO122 := qr HO122 hb
           replace HO126 := qr HO126 hb
           have HO136 := Aside0.mk (Kd.R_lower (Kd.R_new' ho0 (ql HO132)) (below_size (by repeat with_reducible first|exact HB.out|apply qx|apply qv|apply qw|refine qs ?_ (by assumption))))
           replace HO132 := qe HO132 ho0 hb
           replace BK114 := qb BK114 hb
           replace BK115 := qb BK115 hb
           replace BK127 := qb BK127 hb
           replace BK128 := qb BK128 hb
           replace BK137 := qb BK137 hb
           replace HB := Aside0.mk (below_step (by repeat with_reducible first|exact HB.out|apply qx|apply qv|apply qw|refine qs ?_ (by assumption)) hb)
           (try clear hb)
           (try clear hb2)
           (try clear hk)
           (try clear hi)
           (try clear ho0)
           refine hK.out _ _ ⟨qc BK127 0, qc BK127 1, qc BK128 0, qc BK128 1⟩ (fun hHeld => ?_)
           clear hK K
           refine norm_ (a' := ?_) ?_ ?_
           rotate_left
           ·show Act.put _ (some 27) _ = _
            simp only [Act.put, zA, zB, zC, i64_w, i32_w]
            rfl
           exact norm_ (by simp only [putAll, Act.put, zA, zB, zC] <;> rfl) (hJ1_3_4 (v131, v135, gb137) _ ⟨hHeld, qq HO122, qq HO126, (by (with_reducible repeat first|apply Kd.R_alloc|apply Kd.R_drewN|apply Kd.R_drew); exact Kd.R_mono HO132.out (fun _ hk => hk.2)), (by (with_reducible repeat first|apply Kd.R_alloc|apply Kd.R_drewN|apply Kd.R_drew); exact Kd.R_mono HO136.out (fun _ hk => hk.2)), qk BK114, qk BK115, qk BK127, qk BK128, qk BK137, GW137.out, GE137.out, NB114_137.out, NB137_114.out, NB115_137.out, NB137_115.out, NB127_137.out, NB137_127.out, NB128_137.out, NB137_128.out, (by repeat with_reducible first|exact HB.out|apply qx|apply qv|apply qw|refine qs ?_ (by assumption))⟩)
          ·skip
           refine box_step ?hg (N := 8) ?hd (cs := #[.bool false, .slice none 0 0]) (t := 34) ?hr ?_; (case hd => rfl); (case hg => rfl); (case hr => go_simp <;> rfl)
           intro gb138 hg w44 hbox hb
           replace HO122 := qr HO122 hb
           replace HO126 := qr HO126 hb
           replace HO132 := qr HO132 hb
           have BK138 := Aside0.mk (hbox)
           have GW138 := qg hg (by repeat with_reducible first|exact HB.out|apply qx|apply qv|apply qw|refine qs ?_ (by assumption))
           have GE138 := GW138
           replace HB := Aside0.mk (below_step (by repeat with_reducible first|exact HB.out|apply qx|apply qv|apply qw|refine qs ?_ (by assumption)) hb)
           have NB114_138 := qn BK114 hg
           have NB138_114 := qm BK114 hg
           replace BK114 := qb BK114 hb
           have NB115_138 := qn BK115 hg
           have NB138_115 := qm BK115 hg
           replace BK115 := qb BK115 hb
           have NB127_138 := qn BK127 hg
           have NB138_127 := qm BK127 hg
           replace BK127 := qb BK127 hb
           have NB128_138 := qn BK128 hg
           have NB138_128 := qm BK128 hg
           replace BK128 := qb BK128 hb
           have NB137_138 := qn BK137 hg
           have NB138_137 := qm BK137 hg
           replace BK137 := qb BK137 hb
           clear hb hbox hg
           refine hK.out _ _ ⟨qc BK127 0, qc BK127 1, qc BK128 0, qc BK128 1⟩ (fun hHeld => ?_)
           clear hK K
           refine norm_ (a' := ?_) ?_ ?_
           rotate_left
           ·show Act.put _ (some 8) _ = _
            simp only [Act.put, zA, zB, zC, i64_w, i32_w]
            rfl
           exact norm_ (by simp only [putAll, Act.put, zA, zB, zC] <;> rfl) (hJ1_4_5 (v131, gb137, gb138) _ ⟨hHeld, qq HO122, qq HO126, qq HO132, qk BK114, qk BK115, qk BK127, qk BK128, qk BK137, qk BK138, GW137.out, GE137.out, NB114_137.out, NB137_114.out, NB115_137.out, NB137_115.out, NB127_137.out, NB137_127.out, NB128_137.out, NB137_128.out, NB138_137.out, NB137_138.out, GW138.out, GE138.out, NB114_138.out, NB138_114.out, NB115_138.out, NB138_115.out, NB127_138.out, NB138_127.out, NB128_138.out, NB138_128.out, (by repeat with_reducible first|exact HB.out|apply qx|apply qv|apply qw|refine qs ?_ (by assumption))⟩)
        ·skip
         rintro ⟨v131, v135⟩ w43 ⟨hS_, h0_, h1_, h2_, h3_, h4_, h5_, h6_, h7_, h8_⟩
         replace HO122 : Aside0 (Kd.R (Kd.int .u32) 63 w43 w.heap.size (fun k_ => some k_ ≠ (.slice Ao37 t124.length co37 : Value).ownBlock) (.slice Ao34 t120.length co34) t120) := ⟨h0_⟩
         replace HO126 : Aside0 (Kd.R (Kd.int .u32) 63 w43 w.heap.size (fun k_ => some k_ ≠ (.slice Ao34 t120.length co34 : Value).ownBlock) (.slice Ao37 t124.length co37) t124) := ⟨h1_⟩
         have HO132 : Aside0 (Kd.R (Kd.int .u8) 5 w43 w.heap.size (fun k_ => some k_ ≠ (v135 : Value).ownBlock) v131 t130) := ⟨h2_⟩
         have HO136 : Aside0 (Kd.R (Kd.int .u8) 5 w43 w.heap.size (fun k_ => some k_ ≠ (v131 : Value).ownBlock) v135 t134) := ⟨h3_⟩
         replace BK114 : Aside0 (w43.heap[gb114]? = some (.cells #[.bool a0_0, .slice A0_1 l0_1.length c0_1] 25 (0, 0))) := ⟨h4_⟩
         replace BK115 : Aside0 (w43.heap[gb115]? = some (.cells #[.bool a1_0, .slice A1_1 l1_1.length c1_1] 25 (0, 0))) := ⟨h5_⟩
         replace BK127 : Aside0 (w43.heap[gb127]? = some (.cells #[.bool t119, .slice Ao34 t120.length co34] 25 (0, 0))) := ⟨h6_⟩
         replace BK128 : Aside0 (w43.heap[gb128]? = some (.cells #[.bool t123, .slice Ao37 t124.length co37] 25 (0, 0))) := ⟨h7_⟩
         replace HB : Aside0 (Below w.heap.size w w43) := ⟨h8_⟩
         clear h0_ h1_ h2_ h3_ h4_ h5_ h6_ h7_ h8_
         have hHeld : w43.cell? ⟨gb127, 0, none⟩ = some (.bool t119) ∧ w43.cell? ⟨gb127, 1, none⟩ = some (.slice Ao34 t120.length co34) ∧ w43.cell? ⟨gb128, 0, none⟩ = some (.bool t123) ∧ w43.cell? ⟨gb128, 1, none⟩ = some (.slice Ao37 t124.length co37) := hS_
         refine norm_ (a' := ?_) ?_ ?_
         rotate_left
         ·simp only [putAll, Act.put, zA, zB, zC]
          rfl
         refine two_ (i := 4) (j := 5) (Ni := some 7) (Nj := some 8) #[true, true, true, true, true, false, false, false] #[true, true, true, true, false, true, false, false] rfl rfl rfl rfl (two_of HT_.out (by kernel_rfl)) (by decide) (by decide) (fun K hK => ?_) (fun K hK => ?_)
         ·skip
          refine box_step ?hg (N := 7) ?hd (cs := #[.bool false, .slice none 0 0]) (t := 34) ?hr ?_; (case hd => rfl); (case hg => rfl); (case hr => go_simp <;> rfl)
          intro gb137 hg w44 hbox hb
          replace HO122 := qr HO122 hb
          replace HO126 := qr HO126 hb
          replace HO132 := qr HO132 hb
          replace HO136 := qr HO136 hb
          have BK137 := Aside0.mk (hbox)
          have GW137 := qg hg (by repeat with_reducible first|exact HB.out|apply qx|apply qv|apply qw|refine qs ?_ (by assumption))
          have GE137 := GW137
          replace HB := Aside0.mk (below_step (by repeat with_reducible first|exact HB.out|apply qx|apply qv|apply qw|refine qs ?_ (by assumption)) hb)
          have NB114_137 := qn BK114 hg
          have NB137_114 := qm BK114 hg
          replace BK114 := qb BK114 hb
          have NB115_137 := qn BK115 hg
          have NB137_115 := qm BK115 hg
          replace BK115 := qb BK115 hb
          have NB127_137 := qn BK127 hg
          have NB137_127 := qm BK127 hg
          replace BK127 := qb BK127 hb
          have NB128_137 := qn BK128 hg
          have NB137_128 := qm BK128 hg
          replace BK128 := qb BK128 hb
          clear hb hbox hg
          refine hK.out _ _ ⟨qc BK127 0, qc BK127 1, qc BK128 0, qc BK128 1⟩ (fun hHeld => ?_)
          clear hK K
          refine norm_ (a' := ?_) ?_ ?_
          rotate_left
          ·show Act.put _ (some 7) _ = _
           simp only [Act.put, zA, zB, zC, i64_w, i32_w]
           rfl
          exact norm_ (by simp only [putAll, Act.put, zA, zB, zC] <;> rfl) (hJ1_3_4 (v131, v135, gb137) _ ⟨hHeld, qq HO122, qq HO126, qq HO132, qq HO136, qk BK114, qk BK115, qk BK127, qk BK128, qk BK137, GW137.out, GE137.out, NB114_137.out, NB137_114.out, NB115_137.out, NB137_115.out, NB127_137.out, NB137_127.out, NB128_137.out, NB137_128.out, (by repeat with_reducible first|exact HB.out|apply qx|apply qv|apply qw|refine qs ?_ (by assumption))⟩)
         ·skip
          refine box_step ?hg (N := 8) ?hd (cs := #[.bool false, .slice none 0 0]) (t := 34) ?hr ?_; (case hd => rfl); (case hg => rfl); (case hr => go_simp <;> rfl)
          intro gb138 hg w44 hbox hb
          replace HO122 := qr HO122 hb
          replace HO126 := qr HO126 hb
          replace HO132 := qr HO132 hb
          replace HO136 := qr HO136 hb
          have BK138 := Aside0.mk (hbox)
          have GW138 := qg hg (by repeat with_reducible first|exact HB.out|apply qx|apply qv|apply qw|refine qs ?_ (by assumption))
          have GE138 := GW138
          replace HB := Aside0.mk (below_step (by repeat with_reducible first|exact HB.out|apply qx|apply qv|apply qw|refine qs ?_ (by assumption)) hb)
          have NB114_138 := qn BK114 hg
          have NB138_114 := qm BK114 hg
          replace BK114 := qb BK114 hb
          have NB115_138 := qn BK115 hg
          have NB138_115 := qm BK115 hg
          replace BK115 := qb BK115 hb
          have NB127_138 := qn BK127 hg
          have NB138_127 := qm BK127 hg
          replace BK127 := qb BK127 hb
          have NB128_138 := qn BK128 hg
          have NB138_128 := qm BK128 hg
          replace BK128 := qb BK128 hb
          clear hb hbox hg
          refine hK.out _ _ ⟨qc BK127 0, qc BK127 1, qc BK128 0, qc BK128 1⟩ (fun hHeld => ?_)
          clear hK K
          refine norm_ (a' := ?_) ?_ ?_
          rotate_left
          ·show Act.put _ (some 8) _ = _
           simp only [Act.put, zA, zB, zC, i64_w, i32_w]
           rfl
          exact norm_ (by simp only [putAll, Act.put, zA, zB, zC] <;> rfl) (hJ1_3_5 (v131, v135, gb138) _ ⟨hHeld, qq HO122, qq HO126, qq HO132, qq HO136, qk BK114, qk BK115, qk BK127, qk BK128, qk BK138, GW138.out, GE138.out, NB114_138.out, NB138_114.out, NB115_138.out, NB138_115.out, NB127_138.out, NB138_127.out, NB128_138.out, NB138_128.out, (by repeat with_reducible first|exact HB.out|apply qx|apply qv|apply qw|refine qs ?_ (by assumption))⟩)
       ·skip
        rintro ⟨v131, gb137, gb138⟩ w44 ⟨hS_, h0_, h1_, h2_, h3_, h4_, h5_, h6_, h7_, h8_, h9_, h10_, h11_, h12_, h13_, h14_, h15_, h16_, h17_, h18_, h19_, h20_, h21_, h22_, h23_, h24_, h25_, h26_, h27_, h28_, h29_, h30_, h31_⟩
        replace HO122 : Aside0 (Kd.R (Kd.int .u32) 63 w44 w.heap.size (fun k_ => some k_ ≠ (.slice Ao37 t124.length co37 : Value).ownBlock) (.slice Ao34 t120.length co34) t120) := ⟨h0_⟩
        replace HO126 : Aside0 (Kd.R (Kd.int .u32) 63 w44 w.heap.size (fun k_ => some k_ ≠ (.slice Ao34 t120.length co34 : Value).ownBlock) (.slice Ao37 t124.length co37) t124) := ⟨h1_⟩
        have HO132 : Aside0 (Kd.R (Kd.int .u8) 5 w44 w.heap.size (fun _ => True) v131 t130) := ⟨h2_⟩
        replace BK114 : Aside0 (w44.heap[gb114]? = some (.cells #[.bool a0_0, .slice A0_1 l0_1.length c0_1] 25 (0, 0))) := ⟨h3_⟩
        replace BK115 : Aside0 (w44.heap[gb115]? = some (.cells #[.bool a1_0, .slice A1_1 l1_1.length c1_1] 25 (0, 0))) := ⟨h4_⟩
        replace BK127 : Aside0 (w44.heap[gb127]? = some (.cells #[.bool t119, .slice Ao34 t120.length co34] 25 (0, 0))) := ⟨h5_⟩
        replace BK128 : Aside0 (w44.heap[gb128]? = some (.cells #[.bool t123, .slice Ao37 t124.length co37] 25 (0, 0))) := ⟨h6_⟩
        have BK137 : Aside0 (w44.heap[gb137]? = some (.cells #[.bool false, .slice none 0 0] 34 (0, 0))) := ⟨h7_⟩
        have BK138 : Aside0 (w44.heap[gb138]? = some (.cells #[.bool false, .slice none 0 0] 34 (0, 0))) := ⟨h8_⟩
        have GW137 : Aside0 (w.heap.size ≤ gb137) := ⟨h9_⟩
        have GE137 : Aside0 (w.heap.size ≤ gb137) := ⟨h10_⟩
        have NB114_137 : Aside0 (gb114 ≠ gb137) := ⟨h11_⟩
        have NB137_114 : Aside0 (gb137 ≠ gb114) := ⟨h12_⟩
        have NB115_137 : Aside0 (gb115 ≠ gb137) := ⟨h13_⟩
        have NB137_115 : Aside0 (gb137 ≠ gb115) := ⟨h14_⟩
        have NB127_137 : Aside0 (gb127 ≠ gb137) := ⟨h15_⟩
        have NB137_127 : Aside0 (gb137 ≠ gb127) := ⟨h16_⟩
        have NB128_137 : Aside0 (gb128 ≠ gb137) := ⟨h17_⟩
        have NB137_128 : Aside0 (gb137 ≠ gb128) := ⟨h18_⟩
        have NB138_137 : Aside0 (gb138 ≠ gb137) := ⟨h19_⟩
        have NB137_138 : Aside0 (gb137 ≠ gb138) := ⟨h20_⟩
        have GW138 : Aside0 (w.heap.size ≤ gb138) := ⟨h21_⟩
        have GE138 : Aside0 (w.heap.size ≤ gb138) := ⟨h22_⟩
        have NB114_138 : Aside0 (gb114 ≠ gb138) := ⟨h23_⟩
        have NB138_114 : Aside0 (gb138 ≠ gb114) := ⟨h24_⟩
        have NB115_138 : Aside0 (gb115 ≠ gb138) := ⟨h25_⟩
        have NB138_115 : Aside0 (gb138 ≠ gb115) := ⟨h26_⟩
        have NB127_138 : Aside0 (gb127 ≠ gb138) := ⟨h27_⟩
        have NB138_127 : Aside0 (gb138 ≠ gb127) := ⟨h28_⟩
        have NB128_138 : Aside0 (gb128 ≠ gb138) := ⟨h29_⟩
        have NB138_128 : Aside0 (gb138 ≠ gb128) := ⟨h30_⟩
        replace HB : Aside0 (Below w.heap.size w w44) := ⟨h31_⟩
        clear h0_ h1_ h2_ h3_ h4_ h5_ h6_ h7_ h8_ h9_ h10_ h11_ h12_ h13_ h14_ h15_ h16_ h17_ h18_ h19_ h20_ h21_ h22_ h23_ h24_ h25_ h26_ h27_ h28_ h29_ h30_ h31_
        have hHeld : w44.cell? ⟨gb127, 0, none⟩ = some (.bool t119) ∧ w44.cell? ⟨gb127, 1, none⟩ = some (.slice Ao34 t120.length co34) ∧ w44.cell? ⟨gb128, 0, none⟩ = some (.bool t123) ∧ w44.cell? ⟨gb128, 1, none⟩ = some (.slice Ao37 t124.length co37) := hS_
        refine norm_ (a' := ?_) ?_ ?_
        rotate_left
        ·simp only [putAll, Act.put, zA, zB, zC]
         rfl
        refine one_ (i := 3) (N := some 27) #[true, true, true, true, true, true, false, false] rfl rfl (one_of HT_.out (by kernel_rfl)) (by decide) (fun K hK => ?_)
        refine goes_ Tryd.func24 (by kernel_rfl) rfl #[.agg #[.bool t123, .slice Ao37 t124.length co37]] (by rfl) rfl rfl (by (try simp only [zM, zO, zP]); first|done|rfl) ?_
        with_reducible refine (moraineref02_Value.calls t123 _ _ t124 t133 t134 _ ?side1 ?side2 A23.out).mono ?_
        (case side1 => repeat (first | exact (Kd.R_reads' HO126.out).2.2 | (with_reducible first|refine Kd.C_alloc ?_ _|refine Kd.C_drewN ?_ _|refine Kd.C_drew ?_)))
        (case side2 => exact (Kd.R_reads' HO126.out).2.1)
        rintro e w45 ⟨v135, rfl, ho0, hb⟩
        refine ⟨_, rfl, ?_⟩
        replace HO122 := qr HO122 hb
        replace HO126 := qr HO126 hb
        have HO136 := Aside0.mk (Kd.R_lower (Kd.R_new' ho0 (ql HO132)) (below_size (by repeat with_reducible first|exact HB.out|apply qx|apply qv|apply qw|refine qs ?_ (by assumption))))
        replace HO132 := qe HO132 ho0 hb
        replace BK114 := qb BK114 hb
        replace BK115 := qb BK115 hb
        replace BK127 := qb BK127 hb
        replace BK128 := qb BK128 hb
        replace BK137 := qb BK137 hb
        replace BK138 := qb BK138 hb
        replace HB := Aside0.mk (below_step (by repeat with_reducible first|exact HB.out|apply qx|apply qv|apply qw|refine qs ?_ (by assumption)) hb)
        (try clear hb)
        (try clear hb2)
        (try clear hk)
        (try clear hi)
        (try clear ho0)
        refine hK.out _ _ ⟨qc BK127 0, qc BK127 1, qc BK128 0, qc BK128 1⟩ (fun hHeld => ?_)
        clear hK K
        refine norm_ (a' := ?_) ?_ ?_
        rotate_left
        ·show Act.put _ (some 27) _ = _
         simp only [Act.put, zA, zB, zC, i64_w, i32_w]
         rfl
        exact norm_ (by simp only [putAll, Act.put, zA, zB, zC] <;> rfl) (hJ1_3_4_5 (v131, v135, gb137, gb138) _ ⟨hHeld, qq HO122, qq HO126, (by (with_reducible repeat first|apply Kd.R_alloc|apply Kd.R_drewN|apply Kd.R_drew); exact Kd.R_mono HO132.out (fun _ hk => hk.2)), (by (with_reducible repeat first|apply Kd.R_alloc|apply Kd.R_drewN|apply Kd.R_drew); exact Kd.R_mono HO136.out (fun _ hk => hk.2)), qk BK114, qk BK115, qk BK127, qk BK128, qk BK137, qk BK138, GW137.out, GE137.out, NB114_137.out, NB137_114.out, NB115_137.out, NB137_115.out, NB127_137.out, NB137_127.out, NB128_137.out, NB137_128.out, NB138_137.out, NB137_138.out, GW138.out, GE138.out, NB114_138.out, NB138_114.out, NB115_138.out, NB138_115.out, NB127_138.out, NB138_127.out, NB128_138.out, NB138_128.out, (by repeat with_reducible first|exact HB.out|apply qx|apply qv|apply qw|refine qs ?_ (by assumption))⟩)
      ·skip
       rintro ⟨v131, v135, gb138⟩ w44 ⟨hS_, h0_, h1_, h2_, h3_, h4_, h5_, h6_, h7_, h8_, h9_, h10_, h11_, h12_, h13_, h14_, h15_, h16_, h17_, h18_, h19_⟩
       replace HO122 : Aside0 (Kd.R (Kd.int .u32) 63 w44 w.heap.size (fun k_ => some k_ ≠ (.slice Ao37 t124.length co37 : Value).ownBlock) (.slice Ao34 t120.length co34) t120) := ⟨h0_⟩
       replace HO126 : Aside0 (Kd.R (Kd.int .u32) 63 w44 w.heap.size (fun k_ => some k_ ≠ (.slice Ao34 t120.length co34 : Value).ownBlock) (.slice Ao37 t124.length co37) t124) := ⟨h1_⟩
       have HO132 : Aside0 (Kd.R (Kd.int .u8) 5 w44 w.heap.size (fun k_ => some k_ ≠ (v135 : Value).ownBlock) v131 t130) := ⟨h2_⟩
       have HO136 : Aside0 (Kd.R (Kd.int .u8) 5 w44 w.heap.size (fun k_ => some k_ ≠ (v131 : Value).ownBlock) v135 t134) := ⟨h3_⟩
       replace BK114 : Aside0 (w44.heap[gb114]? = some (.cells #[.bool a0_0, .slice A0_1 l0_1.length c0_1] 25 (0, 0))) := ⟨h4_⟩
       replace BK115 : Aside0 (w44.heap[gb115]? = some (.cells #[.bool a1_0, .slice A1_1 l1_1.length c1_1] 25 (0, 0))) := ⟨h5_⟩
       replace BK127 : Aside0 (w44.heap[gb127]? = some (.cells #[.bool t119, .slice Ao34 t120.length co34] 25 (0, 0))) := ⟨h6_⟩
       replace BK128 : Aside0 (w44.heap[gb128]? = some (.cells #[.bool t123, .slice Ao37 t124.length co37] 25 (0, 0))) := ⟨h7_⟩
       have BK138 : Aside0 (w44.heap[gb138]? = some (.cells #[.bool false, .slice none 0 0] 34 (0, 0))) := ⟨h8_⟩
       have GW138 : Aside0 (w.heap.size ≤ gb138) := ⟨h9_⟩
       have GE138 : Aside0 (w.heap.size ≤ gb138) := ⟨h10_⟩
       have NB114_138 : Aside0 (gb114 ≠ gb138) := ⟨h11_⟩
       have NB138_114 : Aside0 (gb138 ≠ gb114) := ⟨h12_⟩
       have NB115_138 : Aside0 (gb115 ≠ gb138) := ⟨h13_⟩
       have NB138_115 : Aside0 (gb138 ≠ gb115) := ⟨h14_⟩
       have NB127_138 : Aside0 (gb127 ≠ gb138) := ⟨h15_⟩
       have NB138_127 : Aside0 (gb138 ≠ gb127) := ⟨h16_⟩
       have NB128_138 : Aside0 (gb128 ≠ gb138) := ⟨h17_⟩
       have NB138_128 : Aside0 (gb138 ≠ gb128) := ⟨h18_⟩
       replace HB : Aside0 (Below w.heap.size w w44) := ⟨h19_⟩
       clear h0_ h1_ h2_ h3_ h4_ h5_ h6_ h7_ h8_ h9_ h10_ h11_ h12_ h13_ h14_ h15_ h16_ h17_ h18_ h19_
       have hHeld : w44.cell? ⟨gb127, 0, none⟩ = some (.bool t119) ∧ w44.cell? ⟨gb127, 1, none⟩ = some (.slice Ao34 t120.length co34) ∧ w44.cell? ⟨gb128, 0, none⟩ = some (.bool t123) ∧ w44.cell? ⟨gb128, 1, none⟩ = some (.slice Ao37 t124.length co37) := hS_
       refine norm_ (a' := ?_) ?_ ?_
       rotate_left
       ·simp only [putAll, Act.put, zA, zB, zC]
        rfl
       refine one_ (i := 4) (N := some 7) #[true, true, true, true, true, true, false, false] rfl rfl (one_of HT_.out (by kernel_rfl)) (by decide) (fun K hK => ?_)
       refine box_step ?hg (N := 7) ?hd (cs := #[.bool false, .slice none 0 0]) (t := 34) ?hr ?_; (case hd => rfl); (case hg => rfl); (case hr => go_simp <;> rfl)
       intro gb137 hg w45 hbox hb
       replace HO122 := qr HO122 hb
       replace HO126 := qr HO126 hb
       replace HO132 := qr HO132 hb
       replace HO136 := qr HO136 hb
       have BK137 := Aside0.mk (hbox)
       have GW137 := qg hg (by repeat with_reducible first|exact HB.out|apply qx|apply qv|apply qw|refine qs ?_ (by assumption))
       have GE137 := GW137
       replace HB := Aside0.mk (below_step (by repeat with_reducible first|exact HB.out|apply qx|apply qv|apply qw|refine qs ?_ (by assumption)) hb)
       have NB114_137 := qn BK114 hg
       have NB137_114 := qm BK114 hg
       replace BK114 := qb BK114 hb
       have NB115_137 := qn BK115 hg
       have NB137_115 := qm BK115 hg
       replace BK115 := qb BK115 hb
       have NB127_137 := qn BK127 hg
       have NB137_127 := qm BK127 hg
       replace BK127 := qb BK127 hb
       have NB128_137 := qn BK128 hg
       have NB137_128 := qm BK128 hg
       replace BK128 := qb BK128 hb
       have NB138_137 := qn BK138 hg
       have NB137_138 := qm BK138 hg
       replace BK138 := qb BK138 hb
       clear hb hbox hg
       refine hK.out _ _ ⟨qc BK127 0, qc BK127 1, qc BK128 0, qc BK128 1⟩ (fun hHeld => ?_)
       clear hK K
       refine norm_ (a' := ?_) ?_ ?_
       rotate_left
       ·show Act.put _ (some 7) _ = _
        simp only [Act.put, zA, zB, zC, i64_w, i32_w]
        rfl
       exact norm_ (by simp only [putAll, Act.put, zA, zB, zC] <;> rfl) (hJ1_3_4_5 (v131, v135, gb137, gb138) _ ⟨hHeld, qq HO122, qq HO126, qq HO132, qq HO136, qk BK114, qk BK115, qk BK127, qk BK128, qk BK137, qk BK138, GW137.out, GE137.out, NB114_137.out, NB137_114.out, NB115_137.out, NB137_115.out, NB127_137.out, NB137_127.out, NB128_137.out, NB137_128.out, NB138_137.out, NB137_138.out, GW138.out, GE138.out, NB114_138.out, NB138_114.out, NB115_138.out, NB138_115.out, NB127_138.out, NB138_127.out, NB128_138.out, NB138_128.out, (by repeat with_reducible first|exact HB.out|apply qx|apply qv|apply qw|refine qs ?_ (by assumption))⟩)
     ·skip
      rintro ⟨v131, v135, gb137⟩ w44 ⟨hS_, h0_, h1_, h2_, h3_, h4_, h5_, h6_, h7_, h8_, h9_, h10_, h11_, h12_, h13_, h14_, h15_, h16_, h17_, h18_, h19_⟩
      replace HO122 : Aside0 (Kd.R (Kd.int .u32) 63 w44 w.heap.size (fun k_ => some k_ ≠ (.slice Ao37 t124.length co37 : Value).ownBlock) (.slice Ao34 t120.length co34) t120) := ⟨h0_⟩
      replace HO126 : Aside0 (Kd.R (Kd.int .u32) 63 w44 w.heap.size (fun k_ => some k_ ≠ (.slice Ao34 t120.length co34 : Value).ownBlock) (.slice Ao37 t124.length co37) t124) := ⟨h1_⟩
      have HO132 : Aside0 (Kd.R (Kd.int .u8) 5 w44 w.heap.size (fun k_ => some k_ ≠ (v135 : Value).ownBlock) v131 t130) := ⟨h2_⟩
      have HO136 : Aside0 (Kd.R (Kd.int .u8) 5 w44 w.heap.size (fun k_ => some k_ ≠ (v131 : Value).ownBlock) v135 t134) := ⟨h3_⟩
      replace BK114 : Aside0 (w44.heap[gb114]? = some (.cells #[.bool a0_0, .slice A0_1 l0_1.length c0_1] 25 (0, 0))) := ⟨h4_⟩
      replace BK115 : Aside0 (w44.heap[gb115]? = some (.cells #[.bool a1_0, .slice A1_1 l1_1.length c1_1] 25 (0, 0))) := ⟨h5_⟩
      replace BK127 : Aside0 (w44.heap[gb127]? = some (.cells #[.bool t119, .slice Ao34 t120.length co34] 25 (0, 0))) := ⟨h6_⟩
      replace BK128 : Aside0 (w44.heap[gb128]? = some (.cells #[.bool t123, .slice Ao37 t124.length co37] 25 (0, 0))) := ⟨h7_⟩
      have BK137 : Aside0 (w44.heap[gb137]? = some (.cells #[.bool false, .slice none 0 0] 34 (0, 0))) := ⟨h8_⟩
      have GW137 : Aside0 (w.heap.size ≤ gb137) := ⟨h9_⟩
      have GE137 : Aside0 (w.heap.size ≤ gb137) := ⟨h10_⟩
      have NB114_137 : Aside0 (gb114 ≠ gb137) := ⟨h11_⟩
      have NB137_114 : Aside0 (gb137 ≠ gb114) := ⟨h12_⟩
      have NB115_137 : Aside0 (gb115 ≠ gb137) := ⟨h13_⟩
      have NB137_115 : Aside0 (gb137 ≠ gb115) := ⟨h14_⟩
      have NB127_137 : Aside0 (gb127 ≠ gb137) := ⟨h15_⟩
      have NB137_127 : Aside0 (gb137 ≠ gb127) := ⟨h16_⟩
      have NB128_137 : Aside0 (gb128 ≠ gb137) := ⟨h17_⟩
      have NB137_128 : Aside0 (gb137 ≠ gb128) := ⟨h18_⟩
      replace HB : Aside0 (Below w.heap.size w w44) := ⟨h19_⟩
      clear h0_ h1_ h2_ h3_ h4_ h5_ h6_ h7_ h8_ h9_ h10_ h11_ h12_ h13_ h14_ h15_ h16_ h17_ h18_ h19_
      have hHeld : w44.cell? ⟨gb127, 0, none⟩ = some (.bool t119) ∧ w44.cell? ⟨gb127, 1, none⟩ = some (.slice Ao34 t120.length co34) ∧ w44.cell? ⟨gb128, 0, none⟩ = some (.bool t123) ∧ w44.cell? ⟨gb128, 1, none⟩ = some (.slice Ao37 t124.length co37) := hS_
      refine norm_ (a' := ?_) ?_ ?_
      rotate_left
      ·simp only [putAll, Act.put, zA, zB, zC]
       rfl
      refine one_ (i := 5) (N := some 8) #[true, true, true, true, true, true, false, false] rfl rfl (one_of HT_.out (by kernel_rfl)) (by decide) (fun K hK => ?_)
      refine box_step ?hg (N := 8) ?hd (cs := #[.bool false, .slice none 0 0]) (t := 34) ?hr ?_; (case hd => rfl); (case hg => rfl); (case hr => go_simp <;> rfl)
      intro gb138 hg w45 hbox hb
      replace HO122 := qr HO122 hb
      replace HO126 := qr HO126 hb
      replace HO132 := qr HO132 hb
      replace HO136 := qr HO136 hb
      have BK138 := Aside0.mk (hbox)
      have GW138 := qg hg (by repeat with_reducible first|exact HB.out|apply qx|apply qv|apply qw|refine qs ?_ (by assumption))
      have GE138 := GW138
      replace HB := Aside0.mk (below_step (by repeat with_reducible first|exact HB.out|apply qx|apply qv|apply qw|refine qs ?_ (by assumption)) hb)
      have NB114_138 := qn BK114 hg
      have NB138_114 := qm BK114 hg
      replace BK114 := qb BK114 hb
      have NB115_138 := qn BK115 hg
      have NB138_115 := qm BK115 hg
      replace BK115 := qb BK115 hb
      have NB127_138 := qn BK127 hg
      have NB138_127 := qm BK127 hg
      replace BK127 := qb BK127 hb
      have NB128_138 := qn BK128 hg
      have NB138_128 := qm BK128 hg
      replace BK128 := qb BK128 hb
      have NB137_138 := qn BK137 hg
      have NB138_137 := qm BK137 hg
      replace BK137 := qb BK137 hb
      clear hb hbox hg
      refine hK.out _ _ ⟨qc BK127 0, qc BK127 1, qc BK128 0, qc BK128 1⟩ (fun hHeld => ?_)
      clear hK K
      refine norm_ (a' := ?_) ?_ ?_
      rotate_left
      ·show Act.put _ (some 8) _ = _
       simp only [Act.put, zA, zB, zC, i64_w, i32_w]
       rfl
      exact norm_ (by simp only [putAll, Act.put, zA, zB, zC] <;> rfl) (hJ1_3_4_5 (v131, v135, gb137, gb138) _ ⟨hHeld, qq HO122, qq HO126, qq HO132, qq HO136, qk BK114, qk BK115, qk BK127, qk BK128, qk BK137, qk BK138, GW137.out, GE137.out, NB114_137.out, NB137_114.out, NB115_137.out, NB137_115.out, NB127_137.out, NB137_127.out, NB128_137.out, NB137_128.out, NB138_137.out, NB137_138.out, GW138.out, GE138.out, NB114_138.out, NB138_114.out, NB115_138.out, NB138_115.out, NB127_138.out, NB138_127.out, NB128_138.out, NB138_128.out, (by repeat with_reducible first|exact HB.out|apply qx|apply qv|apply qw|refine qs ?_ (by assumption))⟩)
    rintro ⟨v131, v135, gb137, gb138⟩ w45 ⟨hS_, h0_, h1_, h2_, h3_, h4_, h5_, h6_, h7_, h8_, h9_, h10_, h11_, h12_, h13_, h14_, h15_, h16_, h17_, h18_, h19_, h20_, h21_, h22_, h23_, h24_, h25_, h26_, h27_, h28_, h29_, h30_, h31_, h32_⟩
    replace HO122 : Aside0 (Kd.R (Kd.int .u32) 63 w45 w.heap.size (fun k_ => some k_ ≠ (.slice Ao37 t124.length co37 : Value).ownBlock) (.slice Ao34 t120.length co34) t120) := ⟨h0_⟩
    replace HO126 : Aside0 (Kd.R (Kd.int .u32) 63 w45 w.heap.size (fun k_ => some k_ ≠ (.slice Ao34 t120.length co34 : Value).ownBlock) (.slice Ao37 t124.length co37) t124) := ⟨h1_⟩
    have HO132 : Aside0 (Kd.R (Kd.int .u8) 5 w45 w.heap.size (fun k_ => some k_ ≠ (v135 : Value).ownBlock) v131 t130) := ⟨h2_⟩
    have HO136 : Aside0 (Kd.R (Kd.int .u8) 5 w45 w.heap.size (fun k_ => some k_ ≠ (v131 : Value).ownBlock) v135 t134) := ⟨h3_⟩
    replace BK114 : Aside0 (w45.heap[gb114]? = some (.cells #[.bool a0_0, .slice A0_1 l0_1.length c0_1] 25 (0, 0))) := ⟨h4_⟩
    replace BK115 : Aside0 (w45.heap[gb115]? = some (.cells #[.bool a1_0, .slice A1_1 l1_1.length c1_1] 25 (0, 0))) := ⟨h5_⟩
    replace BK127 : Aside0 (w45.heap[gb127]? = some (.cells #[.bool t119, .slice Ao34 t120.length co34] 25 (0, 0))) := ⟨h6_⟩
    replace BK128 : Aside0 (w45.heap[gb128]? = some (.cells #[.bool t123, .slice Ao37 t124.length co37] 25 (0, 0))) := ⟨h7_⟩
    have BK137 : Aside0 (w45.heap[gb137]? = some (.cells #[.bool false, .slice none 0 0] 34 (0, 0))) := ⟨h8_⟩
    have BK138 : Aside0 (w45.heap[gb138]? = some (.cells #[.bool false, .slice none 0 0] 34 (0, 0))) := ⟨h9_⟩
    have GW137 : Aside0 (w.heap.size ≤ gb137) := ⟨h10_⟩
    have GE137 : Aside0 (w.heap.size ≤ gb137) := ⟨h11_⟩
    have NB114_137 : Aside0 (gb114 ≠ gb137) := ⟨h12_⟩
    have NB137_114 : Aside0 (gb137 ≠ gb114) := ⟨h13_⟩
    have NB115_137 : Aside0 (gb115 ≠ gb137) := ⟨h14_⟩
    have NB137_115 : Aside0 (gb137 ≠ gb115) := ⟨h15_⟩
    have NB127_137 : Aside0 (gb127 ≠ gb137) := ⟨h16_⟩
    have NB137_127 : Aside0 (gb137 ≠ gb127) := ⟨h17_⟩
    have NB128_137 : Aside0 (gb128 ≠ gb137) := ⟨h18_⟩
    have NB137_128 : Aside0 (gb137 ≠ gb128) := ⟨h19_⟩
    have NB138_137 : Aside0 (gb138 ≠ gb137) := ⟨h20_⟩
    have NB137_138 : Aside0 (gb137 ≠ gb138) := ⟨h21_⟩
    have GW138 : Aside0 (w.heap.size ≤ gb138) := ⟨h22_⟩
    have GE138 : Aside0 (w.heap.size ≤ gb138) := ⟨h23_⟩
    have NB114_138 : Aside0 (gb114 ≠ gb138) := ⟨h24_⟩
    have NB138_114 : Aside0 (gb138 ≠ gb114) := ⟨h25_⟩
    have NB115_138 : Aside0 (gb115 ≠ gb138) := ⟨h26_⟩
    have NB138_115 : Aside0 (gb138 ≠ gb115) := ⟨h27_⟩
    have NB127_138 : Aside0 (gb127 ≠ gb138) := ⟨h28_⟩
    have NB138_127 : Aside0 (gb138 ≠ gb127) := ⟨h29_⟩
    have NB128_138 : Aside0 (gb128 ≠ gb138) := ⟨h30_⟩
    have NB138_128 : Aside0 (gb138 ≠ gb128) := ⟨h31_⟩
    replace HB : Aside0 (Below w.heap.size w w45) := ⟨h32_⟩
    clear h0_ h1_ h2_ h3_ h4_ h5_ h6_ h7_ h8_ h9_ h10_ h11_ h12_ h13_ h14_ h15_ h16_ h17_ h18_ h19_ h20_ h21_ h22_ h23_ h24_ h25_ h26_ h27_ h28_ h29_ h30_ h31_ h32_
    have hHeld : w45.cell? ⟨gb127, 0, none⟩ = some (.bool t119) ∧ w45.cell? ⟨gb127, 1, none⟩ = some (.slice Ao34 t120.length co34) ∧ w45.cell? ⟨gb128, 0, none⟩ = some (.bool t123) ∧ w45.cell? ⟨gb128, 1, none⟩ = some (.slice Ao37 t124.length co37) := hS_
    obtain ⟨Ao47, co47, eo47⟩ := Kd.R_slice HO132.out
    (first | subst eo47 | (injection eo47 with f1_ f2_ f3_; have f4_ := f1_.symm; have f5_ := f3_.symm; clear f1_ f2_ f3_; subst f4_; subst f5_))
    obtain ⟨Ao50, co50, eo50⟩ := Kd.R_slice HO136.out
    (first | subst eo50 | (injection eo50 with f1_ f2_ f3_; have f4_ := f1_.symm; have f5_ := f3_.symm; clear f1_ f2_ f3_; subst f4_; subst f5_))
    refine norm_ (a' := ?_) ?_ ?_
    rotate_left
    ·simp only [putAll, Act.put, zA, zB, zC]
     rfl
    refine one_ (i := 6) (N := none) #[true, true, true, true, true, true, true, false] rfl rfl (one_of HT_.out (by kernel_rfl)) (by decide) (fun K hK => ?_)
    have hs46 : w45.cell? ⟨gb137, 0, none⟩ = some (.bool false) := qc BK137 0
    have hfs46 := blk_frozen BK137.out 0
    have hns46_0 := NB114_137.out
    have hns46_1 := NB115_137.out
    have hns46_2 := NB127_137.out
    have hns46_3 := NB128_137.out
    have hns46_5 := NB138_137.out
    have hms46_0 := NB137_114.out
    have hms46_1 := NB137_115.out
    have hms46_2 := NB137_127.out
    have hms46_3 := NB137_128.out
    have hms46_5 := NB137_138.out
    have hs48 : w45.cell? ⟨gb137, 1, none⟩ = some (.slice none 0 0) := qc BK137 1
    have hfs48 := blk_frozen BK137.out 1
    have hns48_0 := NB114_137.out
    have hns48_1 := NB115_137.out
    have hns48_2 := NB127_137.out
    have hns48_3 := NB128_137.out
    have hns48_5 := NB138_137.out
    have hms48_0 := NB137_114.out
    have hms48_1 := NB137_115.out
    have hms48_2 := NB137_127.out
    have hms48_3 := NB137_128.out
    have hms48_5 := NB137_138.out
    refine skip_ (w1 := ?_) (by rfl) rfl ?_ ?_
    rotate_left
    ·go_simp
     rfl
    refine hK.out _ _ ⟨((cell_far (p := ⟨gb137, _, none⟩) NB127_137.out _).trans (((cell_far (p := ⟨gb137, _, none⟩) NB127_137.out _).trans (hHeld.1)))), ((cell_far (p := ⟨gb137, _, none⟩) NB127_137.out _).trans (((cell_far (p := ⟨gb137, _, none⟩) NB127_137.out _).trans (hHeld.2.1)))), ((cell_far (p := ⟨gb137, _, none⟩) NB128_137.out _).trans (((cell_far (p := ⟨gb137, _, none⟩) NB128_137.out _).trans (hHeld.2.2.1)))), ((cell_far (p := ⟨gb137, _, none⟩) NB128_137.out _).trans (((cell_far (p := ⟨gb137, _, none⟩) NB128_137.out _).trans (hHeld.2.2.2))))⟩ (fun hHeld => ?_)
    clear hK K
    refine one_ (i := 7) (N := none) #[true, true, true, true, true, true, true, true] rfl rfl (one_of HT_.out (by kernel_rfl)) (by decide) (fun K hK => ?_)
    have hs49 : w45.cell? ⟨gb138, 0, none⟩ = some (.bool false) := qc BK138 0
    have hfs49 := blk_frozen BK138.out 0
    have hns49_0 := NB114_138.out
    have hns49_1 := NB115_138.out
    have hns49_2 := NB127_138.out
    have hns49_3 := NB128_138.out
    have hns49_4 := NB137_138.out
    have hms49_0 := NB138_114.out
    have hms49_1 := NB138_115.out
    have hms49_2 := NB138_127.out
    have hms49_3 := NB138_128.out
    have hms49_4 := NB138_137.out
    have hs51 : w45.cell? ⟨gb138, 1, none⟩ = some (.slice none 0 0) := qc BK138 1
    have hfs51 := blk_frozen BK138.out 1
    have hns51_0 := NB114_138.out
    have hns51_1 := NB115_138.out
    have hns51_2 := NB127_138.out
    have hns51_3 := NB128_138.out
    have hns51_4 := NB137_138.out
    have hms51_0 := NB138_114.out
    have hms51_1 := NB138_115.out
    have hms51_2 := NB138_127.out
    have hms51_3 := NB138_128.out
    have hms51_4 := NB138_137.out
    refine skip_ (w1 := ?_) (by rfl) rfl ?_ ?_
    rotate_left
    ·go_simp
     rfl
    refine hK.out _ _ ⟨((cell_far (p := ⟨gb138, _, none⟩) NB127_138.out _).trans (((cell_far (p := ⟨gb138, _, none⟩) NB127_138.out _).trans (hHeld.1)))), ((cell_far (p := ⟨gb138, _, none⟩) NB127_138.out _).trans (((cell_far (p := ⟨gb138, _, none⟩) NB127_138.out _).trans (hHeld.2.1)))), ((cell_far (p := ⟨gb138, _, none⟩) NB128_138.out _).trans (((cell_far (p := ⟨gb138, _, none⟩) NB128_138.out _).trans (hHeld.2.2.1)))), ((cell_far (p := ⟨gb138, _, none⟩) NB128_138.out _).trans (((cell_far (p := ⟨gb138, _, none⟩) NB128_138.out _).trans (hHeld.2.2.2))))⟩ (fun hHeld => ?_)
    clear hK K
    refine done_ (done_of HT_.out (by kernel_rfl)) ?_
    have hnb52 := NB114_115.out
    have hnc52 := NB115_114.out
    have hnb53 := NB114_127.out
    have hnc53 := NB127_114.out
    have hnb54 := NB114_128.out
    have hnc54 := NB128_114.out
    have hnb55 := NB114_137.out
    have hnc55 := NB137_114.out
    have hnb56 := NB114_138.out
    have hnc56 := NB138_114.out
    have hcz57_0 : w45.cell? ⟨gb114, 0, none⟩ = some (.bool a0_0) := qc BK114 0
    have hcz57_1 : w45.cell? ⟨gb114, 1, none⟩ = some (.slice A0_1 l0_1.length c0_1) := qc BK114 1
    have hfz57_0 := blk_frozen BK114.out 0
    have hfz57_1 := blk_frozen BK114.out 1
    have hnb58 := NB115_127.out
    have hnc58 := NB127_115.out
    have hnb59 := NB115_128.out
    have hnc59 := NB128_115.out
    have hnb60 := NB115_137.out
    have hnc60 := NB137_115.out
    have hnb61 := NB115_138.out
    have hnc61 := NB138_115.out
    have hcz62_0 : w45.cell? ⟨gb115, 0, none⟩ = some (.bool a1_0) := qc BK115 0
    have hcz62_1 : w45.cell? ⟨gb115, 1, none⟩ = some (.slice A1_1 l1_1.length c1_1) := qc BK115 1
    have hfz62_0 := blk_frozen BK115.out 0
    have hfz62_1 := blk_frozen BK115.out 1
    go_upto_region 7 with (first | ((with_reducible refine gate_callee (f := 41) rfl ?_); refine goesL_ (some 31) rfl rfl Tryd.func41 (by kernel_rfl) rfl #[.agg #[.bool a0_0, .slice A0_1 l0_1.length c0_1], .agg #[.bool a1_0, .slice A1_1 l1_1.length c1_1]] rfl (by (try simp only [zM, zO, zP]); first|done|rfl) ?_; (with_reducible refine (num_Add.calls a0_0 _ _ l0_1 a1_0 _ _ l1_1 t139 t140 t143 _ ?side1 ?side2 ?side3 ?side4 A24.out).mono ?_); (case side1 => exact Kd.C_below HR0_1.out (by repeat with_reducible first|exact HB.out|apply qx|apply qv|apply qw|refine qs ?_ (by assumption))); (case side2 => exact HC0_1.out); (case side3 => exact Kd.C_below HR1_1.out (by repeat with_reducible first|exact HB.out|apply qx|apply qv|apply qw|refine qs ?_ (by assumption))); (case side4 => exact HC1_1.out); rintro e w63 ⟨v141, rfl, ho0, hb⟩; refine ⟨_, rfl, ?_⟩; have n0_ := Aside0.mk (Kd.R_elder' (by (with_reducible repeat first|apply Kd.R_alloc|apply Kd.R_drewN|apply Kd.R_drew); exact (Kd.R_mono (Kd.R_mono (Kd.R_far (p := ⟨gb138, 1, none⟩) (Kd.R_far (p := ⟨gb138, 0, none⟩) (Kd.R_far (p := ⟨gb137, 1, none⟩) (Kd.R_far (p := ⟨gb137, 0, none⟩) (Kd.R_types (Kd.R_types HO122.out BK137.out (by decide)) BK138.out (by decide)) (fun _ hk => hk.1.2) (.bool t129)) (fun _ hk => hk.1.2) (.slice Ao47 t130.length co47)) (fun _ hk => hk.2) (.bool t133)) (fun _ hk => hk.2) (.slice Ao50 t134.length co50)) (fun _ h_ => h_.1)) (fun _ h_ => h_.1))) (Kd.R_base ho0) hb); have n1_ := Aside0.mk (Kd.R_elder' (by (with_reducible repeat first|apply Kd.R_alloc|apply Kd.R_drewN|apply Kd.R_drew); exact (Kd.R_mono (Kd.R_mono (Kd.R_far (p := ⟨gb138, 1, none⟩) (Kd.R_far (p := ⟨gb138, 0, none⟩) (Kd.R_far (p := ⟨gb137, 1, none⟩) (Kd.R_far (p := ⟨gb137, 0, none⟩) (Kd.R_types (Kd.R_types HO126.out BK137.out (by decide)) BK138.out (by decide)) (fun _ hk => hk.1.2) (.bool t129)) (fun _ hk => hk.1.2) (.slice Ao47 t130.length co47)) (fun _ hk => hk.2) (.bool t133)) (fun _ hk => hk.2) (.slice Ao50 t134.length co50)) (fun _ h_ => h_.1)) (fun _ h_ => h_.1))) (Kd.R_base ho0) hb); have n2_ := Aside0.mk (Kd.R_below (by (with_reducible repeat first|apply Kd.R_alloc|apply Kd.R_drewN|apply Kd.R_drew); exact (Kd.R_mono (Kd.R_mono (Kd.R_far (p := ⟨gb138, 1, none⟩) (Kd.R_far (p := ⟨gb138, 0, none⟩) (Kd.R_far (p := ⟨gb137, 1, none⟩) (Kd.R_far (p := ⟨gb137, 0, none⟩) (Kd.R_types (Kd.R_types HO132.out BK137.out (by decide)) BK138.out (by decide)) (fun _ hk => hk.1.2) (.bool t129)) (fun _ hk => hk.1.2) (.slice Ao47 t130.length co47)) (fun _ hk => hk.2) (.bool t133)) (fun _ hk => hk.2) (.slice Ao50 t134.length co50)) (fun _ h_ => h_.1)) (fun _ h_ => h_.1))) hb); have n3_ := Aside0.mk (Kd.R_below (by (with_reducible repeat first|apply Kd.R_alloc|apply Kd.R_drewN|apply Kd.R_drew); exact (Kd.R_mono (Kd.R_mono (Kd.R_far (p := ⟨gb138, 1, none⟩) (Kd.R_far (p := ⟨gb138, 0, none⟩) (Kd.R_far (p := ⟨gb137, 1, none⟩) (Kd.R_far (p := ⟨gb137, 0, none⟩) (Kd.R_types (Kd.R_types HO136.out BK137.out (by decide)) BK138.out (by decide)) (fun _ hk => hk.1.2) (.bool t129)) (fun _ hk => hk.1.2) (.slice Ao47 t130.length co47)) (fun _ hk => hk.2) (.bool t133)) (fun _ hk => hk.2) (.slice Ao50 t134.length co50)) (fun _ h_ => h_.1)) (fun _ h_ => h_.1))) hb); have n4_ := Aside0.mk (Kd.R_lower (Kd.R_new' (Kd.R_new' ho0 (Kd.R_lt (by (with_reducible repeat first|apply Kd.R_alloc|apply Kd.R_drewN|apply Kd.R_drew); exact (Kd.R_mono (Kd.R_mono (Kd.R_far (p := ⟨gb138, 1, none⟩) (Kd.R_far (p := ⟨gb138, 0, none⟩) (Kd.R_far (p := ⟨gb137, 1, none⟩) (Kd.R_far (p := ⟨gb137, 0, none⟩) (Kd.R_types (Kd.R_types HO122.out BK137.out (by decide)) BK138.out (by decide)) (fun _ hk => hk.1.2) (.bool t129)) (fun _ hk => hk.1.2) (.slice Ao47 t130.length co47)) (fun _ hk => hk.2) (.bool t133)) (fun _ hk => hk.2) (.slice Ao50 t134.length co50)) (fun _ h_ => h_.1)) (fun _ h_ => h_.1))))) (Kd.R_lt (by (with_reducible repeat first|apply Kd.R_alloc|apply Kd.R_drewN|apply Kd.R_drew); exact (Kd.R_mono (Kd.R_mono (Kd.R_far (p := ⟨gb138, 1, none⟩) (Kd.R_far (p := ⟨gb138, 0, none⟩) (Kd.R_far (p := ⟨gb137, 1, none⟩) (Kd.R_far (p := ⟨gb137, 0, none⟩) (Kd.R_types (Kd.R_types HO126.out BK137.out (by decide)) BK138.out (by decide)) (fun _ hk => hk.1.2) (.bool t129)) (fun _ hk => hk.1.2) (.slice Ao47 t130.length co47)) (fun _ hk => hk.2) (.bool t133)) (fun _ hk => hk.2) (.slice Ao50 t134.length co50)) (fun _ h_ => h_.1)) (fun _ h_ => h_.1))))) (below_size (by repeat with_reducible first|exact HB.out|apply qx|apply qv|apply qw|refine qs ?_ (by assumption)))); have n5_ := Aside0.mk (blk_below (g := gb114) (o := .cells #[.bool a0_0, .slice A0_1 l0_1.length c0_1] 25 (0, 0)) (by (with_reducible repeat first|refine qN ?_ _|refine qW ?_|refine qA ?_ _); refine qf ?_ NB114_138; (with_reducible repeat first|refine qN ?_ _|refine qW ?_|refine qA ?_ _); refine qf ?_ NB114_137; (with_reducible repeat first|refine qN ?_ _|refine qW ?_|refine qA ?_ _); exact BK114.out) hb); have n6_ := Aside0.mk (blk_below (g := gb115) (o := .cells #[.bool a1_0, .slice A1_1 l1_1.length c1_1] 25 (0, 0)) (by (with_reducible repeat first|refine qN ?_ _|refine qW ?_|refine qA ?_ _); refine qf ?_ NB115_138; (with_reducible repeat first|refine qN ?_ _|refine qW ?_|refine qA ?_ _); refine qf ?_ NB115_137; (with_reducible repeat first|refine qN ?_ _|refine qW ?_|refine qA ?_ _); exact BK115.out) hb); have n7_ := Aside0.mk (blk_below (g := gb127) (o := .cells #[.bool t119, .slice Ao34 t120.length co34] 25 (0, 0)) (by (with_reducible repeat first|refine qN ?_ _|refine qW ?_|refine qA ?_ _); refine qf ?_ NB127_138; (with_reducible repeat first|refine qN ?_ _|refine qW ?_|refine qA ?_ _); refine qf ?_ NB127_137; (with_reducible repeat first|refine qN ?_ _|refine qW ?_|refine qA ?_ _); exact BK127.out) hb); have n8_ := Aside0.mk (blk_below (g := gb128) (o := .cells #[.bool t123, .slice Ao37 t124.length co37] 25 (0, 0)) (by (with_reducible repeat first|refine qN ?_ _|refine qW ?_|refine qA ?_ _); refine qf ?_ NB128_138; (with_reducible repeat first|refine qN ?_ _|refine qW ?_|refine qA ?_ _); refine qf ?_ NB128_137; (with_reducible repeat first|refine qN ?_ _|refine qW ?_|refine qA ?_ _); exact BK128.out) hb); have n9_ := Aside0.mk (blk_below (g := gb137) (o := .cells #[.bool t129, .slice Ao47 t130.length co47] 34 (0, 0)) (by (with_reducible repeat first|refine qN ?_ _|refine qW ?_|refine qA ?_ _); refine qf ?_ NB137_138; (with_reducible repeat first|refine qN ?_ _|refine qW ?_|refine qA ?_ _); refine blk_put (cs := #[.bool t129, .slice none 0 0]) ?_ 1 _ rfl; (with_reducible repeat first|refine qN ?_ _|refine qW ?_|refine qA ?_ _); refine blk_put (cs := #[.bool false, .slice none 0 0]) ?_ 0 _ rfl; (with_reducible repeat first|refine qN ?_ _|refine qW ?_|refine qA ?_ _); exact BK137.out) hb); have n10_ := Aside0.mk (blk_below (g := gb138) (o := .cells #[.bool t133, .slice Ao50 t134.length co50] 34 (0, 0)) (by (with_reducible repeat first|refine qN ?_ _|refine qW ?_|refine qA ?_ _); refine blk_put (cs := #[.bool t133, .slice none 0 0]) ?_ 1 _ rfl; (with_reducible repeat first|refine qN ?_ _|refine qW ?_|refine qA ?_ _); refine blk_put (cs := #[.bool false, .slice none 0 0]) ?_ 0 _ rfl; (with_reducible repeat first|refine qN ?_ _|refine qW ?_|refine qA ?_ _); refine qf ?_ NB138_137; (with_reducible repeat first|refine qN ?_ _|refine qW ?_|refine qA ?_ _); exact BK138.out) hb); have n11_ := Aside0.mk (below_step (by repeat with_reducible first|exact HB.out|apply qx|apply qv|apply qw|refine qs ?_ (by assumption)) hb); clear HO122; clear HO126; clear HO132; clear HO136; clear BK114; clear BK115; clear BK127; clear BK128; clear BK137; clear BK138; clear HB; have HO122 := n0_; have HO126 := n1_; have HO132 := n2_; have HO136 := n3_; have HO142 := n4_; have BK114 := n5_; have BK115 := n6_; have BK127 := n7_; have BK128 := n8_; have BK137 := n9_; have BK138 := n10_; have HB := n11_; clear n0_ n1_ n2_ n3_ n4_ n5_ n6_ n7_ n8_ n9_ n10_ n11_; (try clear hb); (try clear hb2); (try clear hk); (try clear hi); (try clear ho0)) | ((with_reducible refine gate_dst (N := 9) rfl ?_); refine box_event ?hg (N := 9) ?hd (cs := #[.bool false, .slice none 0 0]) (t := 25) ?hr ?_; (case hd => rfl); (case hg => rfl); (case hr => go_simp <;> rfl); intro gb144 hg w64 hbox hb; replace HO122 := qr HO122 hb; replace HO126 := qr HO126 hb; replace HO132 := qr HO132 hb; replace HO136 := qr HO136 hb; replace HO142 := qr HO142 hb; have BK144 := Aside0.mk (hbox); have GW144 := qg hg (by repeat with_reducible first|exact HB.out|apply qx|apply qv|apply qw|refine qs ?_ (by assumption)); have GE144 := GW144; replace HB := Aside0.mk (below_step (by repeat with_reducible first|exact HB.out|apply qx|apply qv|apply qw|refine qs ?_ (by assumption)) hb); have NB114_144 := qn BK114 hg; have NB144_114 := qm BK114 hg; replace BK114 := qb BK114 hb; have NB115_144 := qn BK115 hg; have NB144_115 := qm BK115 hg; replace BK115 := qb BK115 hb; have NB127_144 := qn BK127 hg; have NB144_127 := qm BK127 hg; replace BK127 := qb BK127 hb; have NB128_144 := qn BK128 hg; have NB144_128 := qm BK128 hg; replace BK128 := qb BK128 hb; have NB137_144 := qn BK137 hg; have NB144_137 := qm BK137 hg; replace BK137 := qb BK137 hb; have NB138_144 := qn BK138 hg; have NB144_138 := qm BK138 hg; replace BK138 := qb BK138 hb; clear hb hbox hg; have hnb65 := NB144_114.out; have hnc65 := NB114_144.out; have hnb66 := NB144_115.out; have hnc66 := NB115_144.out; have hnb67 := NB144_127.out; have hnc67 := NB127_144.out; have hnb68 := NB144_128.out; have hnc68 := NB128_144.out; have hnb69 := NB144_137.out; have hnc69 := NB137_144.out; have hnb70 := NB144_138.out; have hnc70 := NB138_144.out; have hcz71_0 : w64.cell? ⟨gb144, 0, none⟩ = some (.bool false) := qc BK144 0; have hcz71_1 : w64.cell? ⟨gb144, 1, none⟩ = some (.slice none 0 0) := qc BK144 1; have hfz71_0 := blk_frozen BK144.out 0; have hfz71_1 := blk_frozen BK144.out 1; obtain ⟨Ao72, co72, eo72⟩ := Kd.R_slice HO142.out; subst eo72; have hcz73_0 : w64.cell? ⟨gb114, 0, none⟩ = some (.bool a0_0) := qc BK114 0; have hcz73_1 : w64.cell? ⟨gb114, 1, none⟩ = some (.slice A0_1 l0_1.length c0_1) := qc BK114 1; have hfz73_0 := blk_frozen BK114.out 0; have hfz73_1 := blk_frozen BK114.out 1; have hcz74_0 : w64.cell? ⟨gb115, 0, none⟩ = some (.bool a1_0) := qc BK115 0; have hcz74_1 : w64.cell? ⟨gb115, 1, none⟩ = some (.slice A1_1 l1_1.length c1_1) := qc BK115 1; have hfz74_0 := blk_frozen BK115.out 0; have hfz74_1 := blk_frozen BK115.out 1) | ((with_reducible refine gate_callee (f := 42) rfl ?_); refine goesL_ (some 37) rfl rfl Tryd.func42 (by kernel_rfl) rfl #[.agg #[.bool a0_0, .slice A0_1 l0_1.length c0_1], .agg #[.bool a1_0, .slice A1_1 l1_1.length c1_1]] rfl (by (try simp only [zM, zO, zP]); first|done|rfl) ?_; (with_reducible refine (num_Sub.calls a0_0 _ _ l0_1 a1_0 _ _ l1_1 t145 t146 t149 _ ?side1 ?side2 ?side3 ?side4 A25.out).mono ?_); (case side1 => exact Kd.C_below HR0_1.out (by repeat with_reducible first|exact HB.out|apply qx|apply qv|apply qw|refine qs ?_ (by assumption))); (case side2 => exact HC0_1.out); (case side3 => exact Kd.C_below HR1_1.out (by repeat with_reducible first|exact HB.out|apply qx|apply qv|apply qw|refine qs ?_ (by assumption))); (case side4 => exact HC1_1.out); rintro e w75 ⟨v147, rfl, ho0, hb⟩; refine ⟨_, rfl, ?_⟩; have n0_ := Aside0.mk (Kd.R_elder' (by (with_reducible repeat first|apply Kd.R_alloc|apply Kd.R_drewN|apply Kd.R_drew); exact (Kd.R_mono (qz HO122 BK144 (by decide) (.bool t139) (.slice Ao72 t140.length co72)) (fun _ h_ => h_.1))) (Kd.R_base ho0) hb); have n1_ := Aside0.mk (Kd.R_elder' (by (with_reducible repeat first|apply Kd.R_alloc|apply Kd.R_drewN|apply Kd.R_drew); exact (Kd.R_mono (qz HO126 BK144 (by decide) (.bool t139) (.slice Ao72 t140.length co72)) (fun _ h_ => h_.1))) (Kd.R_base ho0) hb); have n2_ := Aside0.mk (Kd.R_below (by (with_reducible repeat first|apply Kd.R_alloc|apply Kd.R_drewN|apply Kd.R_drew); exact (Kd.R_mono (qz HO132 BK144 (by decide) (.bool t139) (.slice Ao72 t140.length co72)) (fun _ h_ => h_.1))) hb); have n3_ := Aside0.mk (Kd.R_below (by (with_reducible repeat first|apply Kd.R_alloc|apply Kd.R_drewN|apply Kd.R_drew); exact (Kd.R_mono (qz HO136 BK144 (by decide) (.bool t139) (.slice Ao72 t140.length co72)) (fun _ h_ => h_.1))) hb); have n4_ := Aside0.mk (Kd.R_elder' (by (with_reducible repeat first|apply Kd.R_alloc|apply Kd.R_drewN|apply Kd.R_drew); exact (Kd.R_mono (qz HO142 BK144 (by decide) (.bool t139) (.slice Ao72 t140.length co72)) (fun _ h_ => h_.1))) (Kd.R_base ho0) hb); have n5_ := Aside0.mk (Kd.R_lower (Kd.R_new' (Kd.R_new' (Kd.R_new' ho0 (Kd.R_lt (by (with_reducible repeat first|apply Kd.R_alloc|apply Kd.R_drewN|apply Kd.R_drew); exact (Kd.R_mono (qz HO122 BK144 (by decide) (.bool t139) (.slice Ao72 t140.length co72)) (fun _ h_ => h_.1))))) (Kd.R_lt (by (with_reducible repeat first|apply Kd.R_alloc|apply Kd.R_drewN|apply Kd.R_drew); exact (Kd.R_mono (qz HO126 BK144 (by decide) (.bool t139) (.slice Ao72 t140.length co72)) (fun _ h_ => h_.1))))) (Kd.R_lt (by (with_reducible repeat first|apply Kd.R_alloc|apply Kd.R_drewN|apply Kd.R_drew); exact (Kd.R_mono (qz HO142 BK144 (by decide) (.bool t139) (.slice Ao72 t140.length co72)) (fun _ h_ => h_.1))))) (below_size (by repeat with_reducible first|exact HB.out|apply qx|apply qv|apply qw|refine qs ?_ (by assumption)))); have n6_ := Aside0.mk (blk_below (g := gb114) (o := .cells #[.bool a0_0, .slice A0_1 l0_1.length c0_1] 25 (0, 0)) (by (with_reducible repeat first|refine qN ?_ _|refine qW ?_|refine qA ?_ _); refine qf ?_ NB114_144; (with_reducible repeat first|refine qN ?_ _|refine qW ?_|refine qA ?_ _); exact BK114.out) hb); have n7_ := Aside0.mk (blk_below (g := gb115) (o := .cells #[.bool a1_0, .slice A1_1 l1_1.length c1_1] 25 (0, 0)) (by (with_reducible repeat first|refine qN ?_ _|refine qW ?_|refine qA ?_ _); refine qf ?_ NB115_144; (with_reducible repeat first|refine qN ?_ _|refine qW ?_|refine qA ?_ _); exact BK115.out) hb); have n8_ := Aside0.mk (blk_below (g := gb127) (o := .cells #[.bool t119, .slice Ao34 t120.length co34] 25 (0, 0)) (by (with_reducible repeat first|refine qN ?_ _|refine qW ?_|refine qA ?_ _); refine qf ?_ NB127_144; (with_reducible repeat first|refine qN ?_ _|refine qW ?_|refine qA ?_ _); exact BK127.out) hb); have n9_ := Aside0.mk (blk_below (g := gb128) (o := .cells #[.bool t123, .slice Ao37 t124.length co37] 25 (0, 0)) (by (with_reducible repeat first|refine qN ?_ _|refine qW ?_|refine qA ?_ _); refine qf ?_ NB128_144; (with_reducible repeat first|refine qN ?_ _|refine qW ?_|refine qA ?_ _); exact BK128.out) hb); have n10_ := Aside0.mk (blk_below (g := gb137) (o := .cells #[.bool t129, .slice Ao47 t130.length co47] 34 (0, 0)) (by (with_reducible repeat first|refine qN ?_ _|refine qW ?_|refine qA ?_ _); refine qf ?_ NB137_144; (with_reducible repeat first|refine qN ?_ _|refine qW ?_|refine qA ?_ _); exact BK137.out) hb); have n11_ := Aside0.mk (blk_below (g := gb138) (o := .cells #[.bool t133, .slice Ao50 t134.length co50] 34 (0, 0)) (by (with_reducible repeat first|refine qN ?_ _|refine qW ?_|refine qA ?_ _); refine qf ?_ NB138_144; (with_reducible repeat first|refine qN ?_ _|refine qW ?_|refine qA ?_ _); exact BK138.out) hb); have n12_ := Aside0.mk (blk_below (g := gb144) (o := .cells #[.bool t139, .slice Ao72 t140.length co72] 25 (0, 0)) (by (with_reducible repeat first|refine qN ?_ _|refine qW ?_|refine qA ?_ _); refine blk_put (cs := #[.bool t139, .slice none 0 0]) ?_ 1 _ rfl; (with_reducible repeat first|refine qN ?_ _|refine qW ?_|refine qA ?_ _); refine blk_put (cs := #[.bool false, .slice none 0 0]) ?_ 0 _ rfl; (with_reducible repeat first|refine qN ?_ _|refine qW ?_|refine qA ?_ _); exact BK144.out) hb); have n13_ := Aside0.mk (below_step (by repeat with_reducible first|exact HB.out|apply qx|apply qv|apply qw|refine qs ?_ (by assumption)) hb); clear HO122; clear HO126; clear HO132; clear HO136; clear HO142; clear BK114; clear BK115; clear BK127; clear BK128; clear BK137; clear BK138; clear BK144; clear HB; have HO122 := n0_; have HO126 := n1_; have HO132 := n2_; have HO136 := n3_; have HO142 := n4_; have HO148 := n5_; have BK114 := n6_; have BK115 := n7_; have BK127 := n8_; have BK128 := n9_; have BK137 := n10_; have BK138 := n11_; have BK144 := n12_; have HB := n13_; clear n0_ n1_ n2_ n3_ n4_ n5_ n6_ n7_ n8_ n9_ n10_ n11_ n12_ n13_; (try clear hb); (try clear hb2); (try clear hk); (try clear hi); (try clear ho0)) | ((with_reducible refine gate_dst (N := 11) rfl ?_); refine box_event ?hg (N := 11) ?hd (cs := #[.bool false, .slice none 0 0]) (t := 25) ?hr ?_; (case hd => rfl); (case hg => rfl); (case hr => go_simp <;> rfl); intro gb150 hg w76 hbox hb; replace HO122 := qr HO122 hb; replace HO126 := qr HO126 hb; replace HO132 := qr HO132 hb; replace HO136 := qr HO136 hb; replace HO142 := qr HO142 hb; replace HO148 := qr HO148 hb; have BK150 := Aside0.mk (hbox); have GW150 := qg hg (by repeat with_reducible first|exact HB.out|apply qx|apply qv|apply qw|refine qs ?_ (by assumption)); have GE150 := GW150; replace HB := Aside0.mk (below_step (by repeat with_reducible first|exact HB.out|apply qx|apply qv|apply qw|refine qs ?_ (by assumption)) hb); have NB114_150 := qn BK114 hg; have NB150_114 := qm BK114 hg; replace BK114 := qb BK114 hb; have NB115_150 := qn BK115 hg; have NB150_115 := qm BK115 hg; replace BK115 := qb BK115 hb; have NB127_150 := qn BK127 hg; have NB150_127 := qm BK127 hg; replace BK127 := qb BK127 hb; have NB128_150 := qn BK128 hg; have NB150_128 := qm BK128 hg; replace BK128 := qb BK128 hb; have NB137_150 := qn BK137 hg; have NB150_137 := qm BK137 hg; replace BK137 := qb BK137 hb; have NB138_150 := qn BK138 hg; have NB150_138 := qm BK138 hg; replace BK138 := qb BK138 hb; have NB144_150 := qn BK144 hg; have NB150_144 := qm BK144 hg; replace BK144 := qb BK144 hb; clear hb hbox hg; have hnb77 := NB150_114.out; have hnc77 := NB114_150.out; have hnb78 := NB150_115.out; have hnc78 := NB115_150.out; have hnb79 := NB150_127.out; have hnc79 := NB127_150.out; have hnb80 := NB150_128.out; have hnc80 := NB128_150.out; have hnb81 := NB150_137.out; have hnc81 := NB137_150.out; have hnb82 := NB150_138.out; have hnc82 := NB138_150.out; have hnb83 := NB150_144.out; have hnc83 := NB144_150.out; have hcz84_0 : w76.cell? ⟨gb150, 0, none⟩ = some (.bool false) := qc BK150 0; have hcz84_1 : w76.cell? ⟨gb150, 1, none⟩ = some (.slice none 0 0) := qc BK150 1; have hfz84_0 := blk_frozen BK150.out 0; have hfz84_1 := blk_frozen BK150.out 1; obtain ⟨Ao85, co85, eo85⟩ := Kd.R_slice HO148.out; subst eo85))
    (try simp only [Act.put, zA, zB, zC])
    go_cut [65] (fun v65 wc => ∃ (kq : Nat) (x65_25 : Bool), v65 = .bool x65_25 ∧ Aside0 (morainelaw02_NumAdds.j1 kq x65_25 a0_0 l0_1 a1_0 l1_1 t119 t120 t123 t124 t139 t140 t145 t146 = some r) ∧ Aside0 (kq ≤ kj2) ∧ Aside0 (Kd.R (Kd.int .u32) 63 wc w.heap.size (fun k_ => some k_ ≠ ((.slice Ao37 t124.length co37) : Value).ownBlock ∧ some k_ ≠ ((.slice Ao72 t140.length co72) : Value).ownBlock ∧ some k_ ≠ ((.slice Ao85 t146.length co85) : Value).ownBlock) (.slice Ao34 t120.length co34) t120) ∧ Aside0 (Kd.R (Kd.int .u32) 63 wc w.heap.size (fun k_ => some k_ ≠ ((.slice Ao34 t120.length co34) : Value).ownBlock ∧ some k_ ≠ ((.slice Ao72 t140.length co72) : Value).ownBlock ∧ some k_ ≠ ((.slice Ao85 t146.length co85) : Value).ownBlock) (.slice Ao37 t124.length co37) t124) ∧ Aside0 (Kd.R (Kd.int .u8) 5 wc w.heap.size (fun _ => True) (.slice Ao47 t130.length co47) t130) ∧ Aside0 (Kd.R (Kd.int .u32) 63 wc w.heap.size (fun k_ => some k_ ≠ ((.slice Ao34 t120.length co34) : Value).ownBlock ∧ some k_ ≠ ((.slice Ao37 t124.length co37) : Value).ownBlock ∧ some k_ ≠ ((.slice Ao85 t146.length co85) : Value).ownBlock) (.slice Ao72 t140.length co72) t140) ∧ Aside0 (Kd.R (Kd.int .u32) 63 wc w.heap.size (fun k_ => some k_ ≠ ((.slice Ao34 t120.length co34) : Value).ownBlock ∧ some k_ ≠ ((.slice Ao37 t124.length co37) : Value).ownBlock ∧ some k_ ≠ ((.slice Ao72 t140.length co72) : Value).ownBlock) (.slice Ao85 t146.length co85) t146) ∧ Aside0 (wc.heap[gb114]? = some (.cells #[.bool a0_0, (.slice A0_1 l0_1.length c0_1)] 25 (0, 0))) ∧ Aside0 (wc.heap[gb115]? = some (.cells #[.bool a1_0, (.slice A1_1 l1_1.length c1_1)] 25 (0, 0))) ∧ Aside0 (wc.heap[gb127]? = some (.cells #[.bool t119, (.slice Ao34 t120.length co34)] 25 (0, 0))) ∧ Aside0 (wc.heap[gb128]? = some (.cells #[.bool t123, (.slice Ao37 t124.length co37)] 25 (0, 0))) ∧ Aside0 (wc.heap[gb137]? = some (.cells #[.bool t129, (.slice Ao47 t130.length co47)] 34 (0, 0))) ∧ Aside0 (wc.heap[gb144]? = some (.cells #[.bool t139, (.slice Ao72 t140.length co72)] 25 (0, 0))) ∧ Aside0 (wc.heap[gb150]? = some (.cells #[.bool t145, (.slice Ao85 t146.length co85)] 25 (0, 0))) ∧ Aside0 (Below w.heap.size w wc))
    case first =>
     have H := HC26.out
     clear HC26
     replace H := Option.bind_eq_some_iff.mp H
     obtain ⟨t151, A860, H⟩ := H
     replace H : ((moraineref02_Cmp.f t129 t130 t133 t134).bind fun t152 => (if t151 = t152 then ((moraineref02_Add.f t129 t130 t133 t134).bind fun bt153 => ((morainelaw02_is.f t139 t140 t143 bt153.1 bt153.2).bind fun t157 => (if t157 = true then ((moraineref02_Turn.f t133 t134).bind fun bt158 => ((moraineref02_Add.f t129 t130 bt158.1 bt158.2).bind fun bt162 => ((morainelaw02_is.f t145 t146 t149 bt162.1 bt162.2).bind fun t166 => (morainelaw02_NumAdds.j1 kj2 (!t166) a0_0 l0_1 a1_0 l1_1 t119 t120 t123 t124 t139 t140 t145 t146)))) else (morainelaw02_NumAdds.j1 kj2 true a0_0 l0_1 a1_0 l1_1 t119 t120 t123 t124 t139 t140 t145 t146)))) else (morainelaw02_NumAdds.j1 kj2 true a0_0 l0_1 a1_0 l1_1 t119 t120 t123 t124 t139 t140 t145 t146))) = some r := H
     have A86 := Aside0.mk A860
     clear A860
     replace H := Option.bind_eq_some_iff.mp H
     obtain ⟨t152, A870, H⟩ := H
     replace H : (if t151 = t152 then ((moraineref02_Add.f t129 t130 t133 t134).bind fun bt153 => ((morainelaw02_is.f t139 t140 t143 bt153.1 bt153.2).bind fun t157 => (if t157 = true then ((moraineref02_Turn.f t133 t134).bind fun bt158 => ((moraineref02_Add.f t129 t130 bt158.1 bt158.2).bind fun bt162 => ((morainelaw02_is.f t145 t146 t149 bt162.1 bt162.2).bind fun t166 => (morainelaw02_NumAdds.j1 kj2 (!t166) a0_0 l0_1 a1_0 l1_1 t119 t120 t123 t124 t139 t140 t145 t146)))) else (morainelaw02_NumAdds.j1 kj2 true a0_0 l0_1 a1_0 l1_1 t119 t120 t123 t124 t139 t140 t145 t146)))) else (morainelaw02_NumAdds.j1 kj2 true a0_0 l0_1 a1_0 l1_1 t119 t120 t123 t124 t139 t140 t145 t146)) = some r := H
     have A87 := Aside0.mk A870
     clear A870
     by_cases c88 : t151 = t152
     ·rw [if_pos c88] at H
      have c88b0 : (t151 == t152) = true := beq_iff_eq.mpr c88
      have c88b1 : (t151 != t152) = false := bne_eq_false_iff_eq.mpr c88
      clear c88
      (first | rw [c88b0] | (simp only [i64_w, i32_w]; rw [c88b0]) | skip)
      replace H := Option.bind_eq_some_iff.mp H
      obtain ⟨⟨t153, t154⟩, A890, H⟩ := H
      replace H : ((morainelaw02_is.f t139 t140 t143 t153 t154).bind fun t157 => (if t157 = true then ((moraineref02_Turn.f t133 t134).bind fun bt158 => ((moraineref02_Add.f t129 t130 bt158.1 bt158.2).bind fun bt162 => ((morainelaw02_is.f t145 t146 t149 bt162.1 bt162.2).bind fun t166 => (morainelaw02_NumAdds.j1 kj2 (!t166) a0_0 l0_1 a1_0 l1_1 t119 t120 t123 t124 t139 t140 t145 t146)))) else (morainelaw02_NumAdds.j1 kj2 true a0_0 l0_1 a1_0 l1_1 t119 t120 t123 t124 t139 t140 t145 t146))) = some r := H
      have A89 := Aside0.mk A890
      clear A890
      replace H := Option.bind_eq_some_iff.mp H
      obtain ⟨t157, A900, H⟩ := H
      replace H : (if t157 = true then ((moraineref02_Turn.f t133 t134).bind fun bt158 => ((moraineref02_Add.f t129 t130 bt158.1 bt158.2).bind fun bt162 => ((morainelaw02_is.f t145 t146 t149 bt162.1 bt162.2).bind fun t166 => (morainelaw02_NumAdds.j1 kj2 (!t166) a0_0 l0_1 a1_0 l1_1 t119 t120 t123 t124 t139 t140 t145 t146)))) else (morainelaw02_NumAdds.j1 kj2 true a0_0 l0_1 a1_0 l1_1 t119 t120 t123 t124 t139 t140 t145 t146)) = some r := H
      have A90 := Aside0.mk A900
      clear A900
      by_cases c91 : t157 = true
      ·subst c91
       have H1 : ((moraineref02_Turn.f t133 t134).bind fun bt158 => ((moraineref02_Add.f t129 t130 bt158.1 bt158.2).bind fun bt162 => ((morainelaw02_is.f t145 t146 t149 bt162.1 bt162.2).bind fun t166 => (morainelaw02_NumAdds.j1 kj2 (!t166) a0_0 l0_1 a1_0 l1_1 t119 t120 t123 t124 t139 t140 t145 t146)))) = some r := by rw [if_pos rfl] at H; exact H
       clear H
       have H := H1
       clear H1
       replace H := Option.bind_eq_some_iff.mp H
       obtain ⟨⟨t158, t159⟩, A920, H⟩ := H
       replace H : ((moraineref02_Add.f t129 t130 t158 t159).bind fun bt162 => ((morainelaw02_is.f t145 t146 t149 bt162.1 bt162.2).bind fun t166 => (morainelaw02_NumAdds.j1 kj2 (!t166) a0_0 l0_1 a1_0 l1_1 t119 t120 t123 t124 t139 t140 t145 t146))) = some r := H
       have A92 := Aside0.mk A920
       clear A920
       replace H := Option.bind_eq_some_iff.mp H
       obtain ⟨⟨t162, t163⟩, A930, H⟩ := H
       replace H : ((morainelaw02_is.f t145 t146 t149 t162 t163).bind fun t166 => (morainelaw02_NumAdds.j1 kj2 (!t166) a0_0 l0_1 a1_0 l1_1 t119 t120 t123 t124 t139 t140 t145 t146)) = some r := H
       have A93 := Aside0.mk A930
       clear A930
       replace H := Option.bind_eq_some_iff.mp H
       obtain ⟨t166, A940, H⟩ := H
       replace H : (morainelaw02_NumAdds.j1 kj2 (!t166) a0_0 l0_1 a1_0 l1_1 t119 t120 t123 t124 t139 t140 t145 t146) = some r := H
       have A94 := Aside0.mk A940
       clear A940
       have H' := Aside0.mk H
       clear H
       try go_wp2
       have n0_ : Aside0 (Kd.R (Kd.int .u32) 63 ((w76.setCell ⟨gb150, 0, none⟩ (.bool t145)).setCell ⟨gb150, 1, none⟩ (.slice Ao85 t146.length co85)) w.heap.size (fun k_ => some k_ ≠ (.slice Ao37 t124.length co37 : Value).ownBlock ∧ some k_ ≠ (.slice Ao72 t140.length co72 : Value).ownBlock ∧ some k_ ≠ (.slice Ao85 t146.length co85 : Value).ownBlock) (.slice Ao34 t120.length co34) t120) := ⟨by (with_reducible repeat first|apply Kd.R_alloc|apply Kd.R_drewN|apply Kd.R_drew); exact Kd.R_mono (qz HO122 BK150 (by decide) (.bool t145) (.slice Ao85 t146.length co85)) (fun _ hk => ⟨hk.1.1.1, ⟨hk.1.1.2, hk.1.2⟩⟩)⟩
       have n1_ : Aside0 (Kd.R (Kd.int .u32) 63 ((w76.setCell ⟨gb150, 0, none⟩ (.bool t145)).setCell ⟨gb150, 1, none⟩ (.slice Ao85 t146.length co85)) w.heap.size (fun k_ => some k_ ≠ (.slice Ao34 t120.length co34 : Value).ownBlock ∧ some k_ ≠ (.slice Ao72 t140.length co72 : Value).ownBlock ∧ some k_ ≠ (.slice Ao85 t146.length co85 : Value).ownBlock) (.slice Ao37 t124.length co37) t124) := ⟨by (with_reducible repeat first|apply Kd.R_alloc|apply Kd.R_drewN|apply Kd.R_drew); exact Kd.R_mono (qz HO126 BK150 (by decide) (.bool t145) (.slice Ao85 t146.length co85)) (fun _ hk => ⟨hk.1.1.1, ⟨hk.1.1.2, hk.1.2⟩⟩)⟩
       have n2_ : Aside0 (Kd.R (Kd.int .u8) 5 ((w76.setCell ⟨gb150, 0, none⟩ (.bool t145)).setCell ⟨gb150, 1, none⟩ (.slice Ao85 t146.length co85)) w.heap.size (fun k_ => some k_ ≠ (.slice Ao50 t134.length co50 : Value).ownBlock) (.slice Ao47 t130.length co47) t130) := ⟨by (with_reducible repeat first|apply Kd.R_alloc|apply Kd.R_drewN|apply Kd.R_drew); exact Kd.R_mono (qz HO132 BK150 (by decide) (.bool t145) (.slice Ao85 t146.length co85)) (fun _ hk => hk.1)⟩
       have n3_ : Aside0 (Kd.R (Kd.int .u8) 5 ((w76.setCell ⟨gb150, 0, none⟩ (.bool t145)).setCell ⟨gb150, 1, none⟩ (.slice Ao85 t146.length co85)) w.heap.size (fun k_ => some k_ ≠ (.slice Ao47 t130.length co47 : Value).ownBlock) (.slice Ao50 t134.length co50) t134) := ⟨by (with_reducible repeat first|apply Kd.R_alloc|apply Kd.R_drewN|apply Kd.R_drew); exact Kd.R_mono (qz HO136 BK150 (by decide) (.bool t145) (.slice Ao85 t146.length co85)) (fun _ hk => hk.1)⟩
       have n4_ : Aside0 (Kd.R (Kd.int .u32) 63 ((w76.setCell ⟨gb150, 0, none⟩ (.bool t145)).setCell ⟨gb150, 1, none⟩ (.slice Ao85 t146.length co85)) w.heap.size (fun k_ => some k_ ≠ (.slice Ao34 t120.length co34 : Value).ownBlock ∧ some k_ ≠ (.slice Ao37 t124.length co37 : Value).ownBlock ∧ some k_ ≠ (.slice Ao85 t146.length co85 : Value).ownBlock) (.slice Ao72 t140.length co72) t140) := ⟨by (with_reducible repeat first|apply Kd.R_alloc|apply Kd.R_drewN|apply Kd.R_drew); exact Kd.R_mono (qz HO142 BK150 (by decide) (.bool t145) (.slice Ao85 t146.length co85)) (fun _ hk => ⟨hk.1.1.1.2, ⟨hk.1.1.2, hk.1.2⟩⟩)⟩
       have n5_ : Aside0 (Kd.R (Kd.int .u32) 63 ((w76.setCell ⟨gb150, 0, none⟩ (.bool t145)).setCell ⟨gb150, 1, none⟩ (.slice Ao85 t146.length co85)) w.heap.size (fun k_ => some k_ ≠ (.slice Ao34 t120.length co34 : Value).ownBlock ∧ some k_ ≠ (.slice Ao37 t124.length co37 : Value).ownBlock ∧ some k_ ≠ (.slice Ao72 t140.length co72 : Value).ownBlock) (.slice Ao85 t146.length co85) t146) := ⟨by (with_reducible repeat first|apply Kd.R_alloc|apply Kd.R_drewN|apply Kd.R_drew); exact Kd.R_mono (qz HO148 BK150 (by decide) (.bool t145) (.slice Ao85 t146.length co85)) (fun _ hk => ⟨hk.1.1.1.2, ⟨hk.1.1.2, hk.1.2⟩⟩)⟩
       have n6_ : Aside0 (((w76.setCell ⟨gb150, 0, none⟩ (.bool t145)).setCell ⟨gb150, 1, none⟩ (.slice Ao85 t146.length co85)).heap[gb114]? = some (.cells #[.bool a0_0, .slice A0_1 l0_1.length c0_1] 25 (0, 0))) := ⟨by (with_reducible repeat first|refine qN ?_ _|refine qW ?_|refine qA ?_ _); refine qf ?_ NB114_150; (with_reducible repeat first|refine qN ?_ _|refine qW ?_|refine qA ?_ _); exact BK114.out⟩
       have n7_ : Aside0 (((w76.setCell ⟨gb150, 0, none⟩ (.bool t145)).setCell ⟨gb150, 1, none⟩ (.slice Ao85 t146.length co85)).heap[gb115]? = some (.cells #[.bool a1_0, .slice A1_1 l1_1.length c1_1] 25 (0, 0))) := ⟨by (with_reducible repeat first|refine qN ?_ _|refine qW ?_|refine qA ?_ _); refine qf ?_ NB115_150; (with_reducible repeat first|refine qN ?_ _|refine qW ?_|refine qA ?_ _); exact BK115.out⟩
       have n8_ : Aside0 (((w76.setCell ⟨gb150, 0, none⟩ (.bool t145)).setCell ⟨gb150, 1, none⟩ (.slice Ao85 t146.length co85)).heap[gb127]? = some (.cells #[.bool t119, .slice Ao34 t120.length co34] 25 (0, 0))) := ⟨by (with_reducible repeat first|refine qN ?_ _|refine qW ?_|refine qA ?_ _); refine qf ?_ NB127_150; (with_reducible repeat first|refine qN ?_ _|refine qW ?_|refine qA ?_ _); exact BK127.out⟩
       have n9_ : Aside0 (((w76.setCell ⟨gb150, 0, none⟩ (.bool t145)).setCell ⟨gb150, 1, none⟩ (.slice Ao85 t146.length co85)).heap[gb128]? = some (.cells #[.bool t123, .slice Ao37 t124.length co37] 25 (0, 0))) := ⟨by (with_reducible repeat first|refine qN ?_ _|refine qW ?_|refine qA ?_ _); refine qf ?_ NB128_150; (with_reducible repeat first|refine qN ?_ _|refine qW ?_|refine qA ?_ _); exact BK128.out⟩
       have n10_ : Aside0 (((w76.setCell ⟨gb150, 0, none⟩ (.bool t145)).setCell ⟨gb150, 1, none⟩ (.slice Ao85 t146.length co85)).heap[gb137]? = some (.cells #[.bool t129, .slice Ao47 t130.length co47] 34 (0, 0))) := ⟨by (with_reducible repeat first|refine qN ?_ _|refine qW ?_|refine qA ?_ _); refine qf ?_ NB137_150; (with_reducible repeat first|refine qN ?_ _|refine qW ?_|refine qA ?_ _); exact BK137.out⟩
       have n11_ : Aside0 (((w76.setCell ⟨gb150, 0, none⟩ (.bool t145)).setCell ⟨gb150, 1, none⟩ (.slice Ao85 t146.length co85)).heap[gb138]? = some (.cells #[.bool t133, .slice Ao50 t134.length co50] 34 (0, 0))) := ⟨by (with_reducible repeat first|refine qN ?_ _|refine qW ?_|refine qA ?_ _); refine qf ?_ NB138_150; (with_reducible repeat first|refine qN ?_ _|refine qW ?_|refine qA ?_ _); exact BK138.out⟩
       have n12_ : Aside0 (((w76.setCell ⟨gb150, 0, none⟩ (.bool t145)).setCell ⟨gb150, 1, none⟩ (.slice Ao85 t146.length co85)).heap[gb144]? = some (.cells #[.bool t139, .slice Ao72 t140.length co72] 25 (0, 0))) := ⟨by (with_reducible repeat first|refine qN ?_ _|refine qW ?_|refine qA ?_ _); refine qf ?_ NB144_150; (with_reducible repeat first|refine qN ?_ _|refine qW ?_|refine qA ?_ _); exact BK144.out⟩
       have n13_ : Aside0 (((w76.setCell ⟨gb150, 0, none⟩ (.bool t145)).setCell ⟨gb150, 1, none⟩ (.slice Ao85 t146.length co85)).heap[gb150]? = some (.cells #[.bool t145, .slice Ao85 t146.length co85] 25 (0, 0))) := ⟨by (with_reducible repeat first|refine qN ?_ _|refine qW ?_|refine qA ?_ _); refine blk_put (cs := #[.bool t145, .slice none 0 0]) ?_ 1 _ rfl; (with_reducible repeat first|refine qN ?_ _|refine qW ?_|refine qA ?_ _); refine blk_put (cs := #[.bool false, .slice none 0 0]) ?_ 0 _ rfl; (with_reducible repeat first|refine qN ?_ _|refine qW ?_|refine qA ?_ _); exact BK150.out⟩
       have n14_ : Aside0 (Below w.heap.size w ((w76.setCell ⟨gb150, 0, none⟩ (.bool t145)).setCell ⟨gb150, 1, none⟩ (.slice Ao85 t146.length co85))) := ⟨by repeat (first | (with_reducible first | exact HB.out | apply qx | apply qv | apply qw | refine qs ?_ (by assumption)) | exact HB.out)⟩
       (try clear HO122)
       (try clear HO126)
       (try clear HO132)
       (try clear HO136)
       (try clear HO142)
       (try clear HO148)
       (try clear BK114)
       (try clear BK115)
       (try clear BK127)
       (try clear BK128)
       (try clear BK137)
       (try clear BK138)
       (try clear BK144)
       (try clear BK150)
       (try clear HB)
       generalize ((w76.setCell ⟨gb150, 0, none⟩ (.bool t145)).setCell ⟨gb150, 1, none⟩ (.slice Ao85 t146.length co85)) = w95 at n0_ n1_ n2_ n3_ n4_ n5_ n6_ n7_ n8_ n9_ n10_ n11_ n12_ n13_ n14_ ⊢
       have HO122 := n0_
       have HO126 := n1_
       have HO132 := n2_
       have HO136 := n3_
       have HO142 := n4_
       have HO148 := n5_
       have BK114 := n6_
       have BK115 := n7_
       have BK127 := n8_
       have BK128 := n9_
       have BK137 := n10_
       have BK138 := n11_
       have BK144 := n12_
       have BK150 := n13_
       have HB := n14_
       clear n0_ n1_ n2_ n3_ n4_ n5_ n6_ n7_ n8_ n9_ n10_ n11_ n12_ n13_ n14_
       replace HO122 := Aside0.mk (Kd.R_drew HO122.out)
       replace HO126 := Aside0.mk (Kd.R_drew HO126.out)
       replace HO132 := Aside0.mk (Kd.R_drew HO132.out)
       replace HO136 := Aside0.mk (Kd.R_drew HO136.out)
       replace HO142 := Aside0.mk (Kd.R_drew HO142.out)
       replace HO148 := Aside0.mk (Kd.R_drew HO148.out)
       replace BK114 := Aside0.mk (blk_drew BK114.out)
       replace BK115 := Aside0.mk (blk_drew BK115.out)
       replace BK127 := Aside0.mk (blk_drew BK127.out)
       replace BK128 := Aside0.mk (blk_drew BK128.out)
       replace BK137 := Aside0.mk (blk_drew BK137.out)
       replace BK138 := Aside0.mk (blk_drew BK138.out)
       replace BK144 := Aside0.mk (blk_drew BK144.out)
       replace BK150 := Aside0.mk (blk_drew BK150.out)
       replace HB := Aside0.mk (below_drew1 HB.out)
       refine start_ (n := 26) (S := fun w' => w'.cell? ⟨gb114, 0, none⟩ = some (.bool a0_0) ∧ w'.cell? ⟨gb114, 1, none⟩ = some (.slice A0_1 l0_1.length c0_1) ∧ w'.cell? ⟨gb115, 0, none⟩ = some (.bool a1_0) ∧ w'.cell? ⟨gb115, 1, none⟩ = some (.slice A1_1 l1_1.length c1_1) ∧ w'.cell? ⟨gb137, 0, none⟩ = some (.bool t129) ∧ w'.cell? ⟨gb137, 1, none⟩ = some (.slice Ao47 t130.length co47) ∧ w'.cell? ⟨gb138, 0, none⟩ = some (.bool t133) ∧ w'.cell? ⟨gb138, 1, none⟩ = some (.slice Ao50 t134.length co50) ∧ w'.cell? ⟨gb144, 0, none⟩ = some (.bool t139) ∧ w'.cell? ⟨gb144, 1, none⟩ = some (.slice Ao72 t140.length co72) ∧ w'.cell? ⟨gb150, 0, none⟩ = some (.bool t145) ∧ w'.cell? ⟨gb150, 1, none⟩ = some (.slice Ao85 t146.length co85)) (ds := []) #[false, false, false, false, false, false, false, false, false, false, false, false, false, false, false, false, false, false, false, false, false, false, false, false, false, false] (by kernel_rfl) rfl rfl ⟨qc BK114 0, qc BK114 1, qc BK115 0, qc BK115 1, qc BK137 0, qc BK137 1, qc BK138 0, qc BK138 1, qc BK144 0, qc BK144 1, qc BK150 0, qc BK150 1⟩ (fun hHeld => ?_); refine with_tabW morainelaw02_NumAdds.tab7 morainelaw02_NumAdds.bits7 (fun HT_ HW_ => ?_)
       generalize w95.drew = w96 at HO122 HO126 HO132 HO136 HO142 HO148 BK114 BK115 BK127 BK128 BK137 BK138 BK144 BK150 HB hHeld ⊢
       refine take_ (i := 0) (N := some 40) (v := ?_) (a' := ?_) #[true, false, false, false, false, false, false, false, false, false, false, false, false, false, false, false, false, false, false, false, false, false, false, false, false, false] rfl rfl (take_ofW HT_.out HW_.out (by kernel_rfl)) (fun _ _ _ h => h) (Or.inl ⟨by rfl, ?_⟩) hHeld ?_ ?_
       rotate_left
       ·rintro w' ⟨s0, s1, s2, s3, s4, s5, s6, s7, s8, s9, s10, s11⟩
        go_simp
        with_reducible rfl
       rotate_left
       ·simp only [Act.put, zA, zB, zC, i64_w, i32_w]
        rfl
       refine take_ (i := 1) (N := some 41) (v := ?_) (a' := ?_) #[true, true, false, false, false, false, false, false, false, false, false, false, false, false, false, false, false, false, false, false, false, false, false, false, false, false] rfl rfl (take_ofW HT_.out HW_.out (by kernel_rfl)) (fun _ _ _ h => h) (Or.inl ⟨by rfl, ?_⟩) hHeld ?_ ?_
       rotate_left
       ·rintro w' ⟨s0, s1, s2, s3, s4, s5, s6, s7, s8, s9, s10, s11⟩
        go_simp
        with_reducible rfl
       rotate_left
       ·simp only [Act.put, zA, zB, zC, i64_w, i32_w]
        rfl
       refine take_ (i := 3) (N := some 43) (v := ?_) (a' := ?_) #[true, true, false, true, false, false, false, false, false, false, false, false, false, false, false, false, false, false, false, false, false, false, false, false, false, false] rfl rfl (take_ofW HT_.out HW_.out (by kernel_rfl)) (fun _ _ _ h => h) (Or.inl ⟨by rfl, ?_⟩) hHeld ?_ ?_
       rotate_left
       ·rintro w' ⟨s0, s1, s2, s3, s4, s5, s6, s7, s8, s9, s10, s11⟩
        go_simp
        with_reducible rfl
       rotate_left
       ·simp only [Act.put, zA, zB, zC, i64_w, i32_w]
        rfl
       refine take_ (i := 4) (N := some 44) (v := ?_) (a' := ?_) #[true, true, false, true, true, false, false, false, false, false, false, false, false, false, false, false, false, false, false, false, false, false, false, false, false, false] rfl rfl (take_ofW HT_.out HW_.out (by kernel_rfl)) (fun _ _ _ h => h) (Or.inl ⟨by rfl, ?_⟩) hHeld ?_ ?_
       rotate_left
       ·rintro w' ⟨s0, s1, s2, s3, s4, s5, s6, s7, s8, s9, s10, s11⟩
        go_simp
        with_reducible rfl
       rotate_left
       ·simp only [Act.put, zA, zB, zC, i64_w, i32_w]
        rfl
       refine one_ (i := 2) (N := some 42) #[true, true, true, true, true, false, false, false, false, false, false, false, false, false, false, false, false, false, false, false, false, false, false, false, false, false] rfl rfl (one_of HT_.out (by kernel_rfl)) (by decide) (fun K hK => ?_)
       refine goes_ Tryd.func43 (by kernel_rfl) rfl #[.agg #[.bool a0_0, .slice A0_1 l0_1.length c0_1], .agg #[.bool a1_0, .slice A1_1 l1_1.length c1_1]] (by rfl) rfl rfl (by (try simp only [zM, zO, zP]); first|done|rfl) ?_
       with_reducible refine (num_Cmp.calls a0_0 _ _ l0_1 a1_0 _ _ l1_1 t151 _ ?side1 ?side2 ?side3 ?side4 A86.out).mono ?_
       (case side1 => exact qC HR0_1 HB)
       (case side2 => exact HC0_1.out)
       (case side3 => exact qC HR1_1 HB)
       (case side4 => exact HC1_1.out)
       rintro e w97 ⟨rfl, hb⟩
       refine ⟨_, rfl, ?_⟩
       replace HO122 := qr HO122 hb
       replace HO126 := qr HO126 hb
       replace HO132 := qr HO132 hb
       replace HO136 := qr HO136 hb
       replace HO142 := qr HO142 hb
       replace HO148 := qr HO148 hb
       replace BK114 := qb BK114 hb
       replace BK115 := qb BK115 hb
       replace BK127 := qb BK127 hb
       replace BK128 := qb BK128 hb
       replace BK137 := qb BK137 hb
       replace BK138 := qb BK138 hb
       replace BK144 := qb BK144 hb
       replace BK150 := qb BK150 hb
       replace HB := Aside0.mk (below_step (by repeat with_reducible first|exact HB.out|apply qx|apply qv|apply qw|refine qs ?_ (by assumption)) hb)
       (try clear hb)
       (try clear hb2)
       (try clear hk)
       (try clear hi)
       refine hK.out _ _ ⟨qc BK114 0, qc BK114 1, qc BK115 0, qc BK115 1, qc BK137 0, qc BK137 1, qc BK138 0, qc BK138 1, qc BK144 0, qc BK144 1, qc BK150 0, qc BK150 1⟩ (fun hHeld => ?_)
       clear hK K
       refine norm_ (a' := ?_) ?_ ?_
       rotate_left
       ·show Act.put _ (some 42) _ = _
        simp only [Act.put, zA, zB, zC, i64_w, i32_w]
        rfl
       refine one_ (i := 5) (N := some 45) #[true, true, true, true, true, true, false, false, false, false, false, false, false, false, false, false, false, false, false, false, false, false, false, false, false, false] rfl rfl (one_of HT_.out (by kernel_rfl)) (by decide) (fun K hK => ?_)
       refine goes_ Tryd.func44 (by kernel_rfl) rfl #[.agg #[.bool t129, .slice Ao47 t130.length co47], .agg #[.bool t133, .slice Ao50 t134.length co50]] (by rfl) rfl rfl (by (try simp only [zM, zO, zP]); first|done|rfl) ?_
       with_reducible refine (moraineref02_Cmp.calls t129 _ _ t130 t133 _ _ t134 t152 _ ?side1 ?side2 ?side3 ?side4 A87.out).mono ?_
       (case side1 => repeat (first | exact (Kd.R_reads' HO132.out).2.2 | (with_reducible first|refine Kd.C_alloc ?_ _|refine Kd.C_drewN ?_ _|refine Kd.C_drew ?_)))
       (case side2 => exact (Kd.R_reads' HO132.out).2.1)
       (case side3 => repeat (first | exact (Kd.R_reads' HO136.out).2.2 | (with_reducible first|refine Kd.C_alloc ?_ _|refine Kd.C_drewN ?_ _|refine Kd.C_drew ?_)))
       (case side4 => exact (Kd.R_reads' HO136.out).2.1)
       rintro e w98 ⟨rfl, hb⟩
       refine ⟨_, rfl, ?_⟩
       replace HO122 := qr HO122 hb
       replace HO126 := qr HO126 hb
       replace HO132 := qr HO132 hb
       replace HO136 := qr HO136 hb
       replace HO142 := qr HO142 hb
       replace HO148 := qr HO148 hb
       replace BK114 := qb BK114 hb
       replace BK115 := qb BK115 hb
       replace BK127 := qb BK127 hb
       replace BK128 := qb BK128 hb
       replace BK137 := qb BK137 hb
       replace BK138 := qb BK138 hb
       replace BK144 := qb BK144 hb
       replace BK150 := qb BK150 hb
       replace HB := Aside0.mk (below_step (by repeat with_reducible first|exact HB.out|apply qx|apply qv|apply qw|refine qs ?_ (by assumption)) hb)
       (try clear hb)
       (try clear hb2)
       (try clear hk)
       (try clear hi)
       refine hK.out _ _ ⟨qc BK114 0, qc BK114 1, qc BK115 0, qc BK115 1, qc BK137 0, qc BK137 1, qc BK138 0, qc BK138 1, qc BK144 0, qc BK144 1, qc BK150 0, qc BK150 1⟩ (fun hHeld => ?_)
       clear hK K
       refine norm_ (a' := ?_) ?_ ?_
       rotate_left
       ·show Act.put _ (some 45) _ = _
        simp only [Act.put, zA, zB, zC, i64_w, i32_w]
        rfl
       refine pure_ (i := 6) (N := some 46) (v := ?_) (a' := ?_) #[true, true, true, true, true, true, true, false, false, false, false, false, false, false, false, false, false, false, false, false, false, false, false, false, false, false] rfl rfl (any_of HT_.out (by kernel_rfl)) (fun _ _ _ h => h) (Or.inl ⟨by rfl, ?_⟩) ?_ ?_
       rotate_left
       ·intro w'
        go_simp
        with_reducible rfl
       rotate_left
       ·simp only [Act.put, zA, zB, zC, i64_w, i32_w]
        rfl
       refine pure_ (i := 7) (N := some 47) (v := ?_) (a' := ?_) #[true, true, true, true, true, true, true, true, false, false, false, false, false, false, false, false, false, false, false, false, false, false, false, false, false, false] rfl rfl (any_of HT_.out (by kernel_rfl)) (fun _ _ _ h => h) (Or.inl ⟨by rfl, ?_⟩) ?_ ?_
       rotate_left
       ·intro w'
        go_simp
        with_reducible rfl
       rotate_left
       ·simp only [Act.put, zA, zB, zC, i64_w, i32_w]
        rfl
       refine pure_ (i := 9) (N := some 49) (v := ?_) (a' := ?_) #[true, true, true, true, true, true, true, true, false, true, false, false, false, false, false, false, false, false, false, false, false, false, false, false, false, false] rfl rfl (any_of HT_.out (by kernel_rfl)) (fun _ _ _ h => h) (Or.inl ⟨by rfl, ?_⟩) ?_ ?_
       rotate_left
       ·intro w'
        go_simp
        with_reducible rfl
       rotate_left
       ·simp only [Act.put, zA, zB, zC, i64_w, i32_w]
        rfl
       refine take_ (i := 8) (N := some 48) (v := ?_) (a' := ?_) #[true, true, true, true, true, true, true, true, true, true, false, false, false, false, false, false, false, false, false, false, false, false, false, false, false, false] rfl rfl (take_ofW HT_.out HW_.out (by kernel_rfl)) (fun _ _ _ h => h) (Or.inl ⟨by rfl, ?_⟩) hHeld ?_ ?_
       rotate_left
       ·rintro w' ⟨s0, s1, s2, s3, s4, s5, s6, s7, s8, s9, s10, s11⟩
        go_simp
        with_reducible rfl
       rotate_left
       ·simp only [Act.put, zA, zB, zC, i64_w, i32_w]
        rfl
       refine take_ (i := 10) (N := some 50) (v := ?_) (a' := ?_) #[true, true, true, true, true, true, true, true, true, true, true, false, false, false, false, false, false, false, false, false, false, false, false, false, false, false] rfl rfl (take_ofW HT_.out HW_.out (by kernel_rfl)) (fun _ _ _ h => h) (Or.inl ⟨by rfl, ?_⟩) hHeld ?_ ?_
       rotate_left
       ·rintro w' ⟨s0, s1, s2, s3, s4, s5, s6, s7, s8, s9, s10, s11⟩
        go_simp
        with_reducible rfl
       rotate_left
       ·simp only [Act.put, zA, zB, zC, i64_w, i32_w]
        rfl
       refine take_ (i := 11) (N := some 51) (v := ?_) (a' := ?_) #[true, true, true, true, true, true, true, true, true, true, true, true, false, false, false, false, false, false, false, false, false, false, false, false, false, false] rfl rfl (take_ofW HT_.out HW_.out (by kernel_rfl)) (fun _ _ _ h => h) (Or.inl ⟨by rfl, ?_⟩) hHeld ?_ ?_
       rotate_left
       ·rintro w' ⟨s0, s1, s2, s3, s4, s5, s6, s7, s8, s9, s10, s11⟩
        go_simp
        with_reducible rfl
       rotate_left
       ·simp only [Act.put, zA, zB, zC, i64_w, i32_w]
        rfl
       refine one_ (i := 12) (N := some 52) #[true, true, true, true, true, true, true, true, true, true, true, true, true, false, false, false, false, false, false, false, false, false, false, false, false, false] rfl rfl (one_of HT_.out (by kernel_rfl)) (by decide) (fun K hK => ?_)
       refine goes_ Tryd.func45 (by kernel_rfl) rfl #[.agg #[.bool t129, .slice Ao47 t130.length co47], .agg #[.bool t133, .slice Ao50 t134.length co50]] (by rfl) rfl rfl (by (try simp only [zM, zO, zP]); first|done|rfl) ?_
       with_reducible refine (moraineref02_Add.calls t129 _ _ t130 t133 _ _ t134 t153 t154 _ ?side1 ?side2 ?side3 ?side4 A89.out).mono ?_
       (case side1 => repeat (first | exact (Kd.R_reads' HO132.out).2.2 | (with_reducible first|refine Kd.C_alloc ?_ _|refine Kd.C_drewN ?_ _|refine Kd.C_drew ?_)))
       (case side2 => exact (Kd.R_reads' HO132.out).2.1)
       (case side3 => repeat (first | exact (Kd.R_reads' HO136.out).2.2 | (with_reducible first|refine Kd.C_alloc ?_ _|refine Kd.C_drewN ?_ _|refine Kd.C_drew ?_)))
       (case side4 => exact (Kd.R_reads' HO136.out).2.1)
       rintro e w99 ⟨v155, rfl, ho0, hb⟩
       refine ⟨_, rfl, ?_⟩
       replace HO122 := qr HO122 hb
       replace HO126 := qr HO126 hb
       replace HO142 := qr HO142 hb
       replace HO148 := qr HO148 hb
       have HO156 := Aside0.mk (Kd.R_lower (Kd.R_new' (Kd.R_new' ho0 (ql HO132)) (ql HO136)) (below_size (by repeat with_reducible first|exact HB.out|apply qx|apply qv|apply qw|refine qs ?_ (by assumption))))
       replace HO132 := qe HO132 ho0 hb
       replace HO136 := qe HO136 ho0 hb
       replace BK114 := qb BK114 hb
       replace BK115 := qb BK115 hb
       replace BK127 := qb BK127 hb
       replace BK128 := qb BK128 hb
       replace BK137 := qb BK137 hb
       replace BK138 := qb BK138 hb
       replace BK144 := qb BK144 hb
       replace BK150 := qb BK150 hb
       replace HB := Aside0.mk (below_step (by repeat with_reducible first|exact HB.out|apply qx|apply qv|apply qw|refine qs ?_ (by assumption)) hb)
       (try clear hb)
       (try clear hb2)
       (try clear hk)
       (try clear hi)
       (try clear ho0)
       obtain ⟨Ao100, co100, eo100⟩ := Kd.R_slice HO156.out
       (first | subst eo100 | (injection eo100 with f1_ f2_ f3_; have f4_ := f1_.symm; have f5_ := f3_.symm; clear f1_ f2_ f3_; subst f4_; subst f5_))
       refine hK.out _ _ ⟨qc BK114 0, qc BK114 1, qc BK115 0, qc BK115 1, qc BK137 0, qc BK137 1, qc BK138 0, qc BK138 1, qc BK144 0, qc BK144 1, qc BK150 0, qc BK150 1⟩ (fun hHeld => ?_)
       clear hK K
       refine norm_ (a' := ?_) ?_ ?_
       rotate_left
       ·show Act.put _ (some 52) _ = _
        simp only [Act.put, zA, zB, zC, i64_w, i32_w]
        rfl
       refine one_ (i := 13) (N := some 53) #[true, true, true, true, true, true, true, true, true, true, true, true, true, true, false, false, false, false, false, false, false, false, false, false, false, false] rfl rfl (one_of HT_.out (by kernel_rfl)) (by decide) (fun K hK => ?_)
       refine goes_ Tryd.func27 (by kernel_rfl) rfl #[.agg #[.bool t139, .slice Ao72 t140.length co72], .int .i64 t143, .agg #[.bool t153, .slice Ao100 t154.length co100]] (by rfl) rfl rfl (by (try simp only [zM, zO, zP]); first|done|rfl) ?_
       with_reducible refine (morainelaw02_is.calls t139 _ _ t140 t143 t153 _ _ t154 true _ ?side1 ?side2 ?side3 ?side4 A90.out).mono ?_
       (case side1 => repeat (first | exact (Kd.R_reads' HO142.out).2.2 | (with_reducible first|refine Kd.C_alloc ?_ _|refine Kd.C_drewN ?_ _|refine Kd.C_drew ?_)))
       (case side2 => exact (Kd.R_reads' HO142.out).2.1)
       (case side3 => repeat (first | exact (Kd.R_reads' HO156.out).2.2 | (with_reducible first|refine Kd.C_alloc ?_ _|refine Kd.C_drewN ?_ _|refine Kd.C_drew ?_)))
       (case side4 => exact (Kd.R_reads' HO156.out).2.1)
       rintro e w101 ⟨rfl, hb⟩
       refine ⟨_, rfl, ?_⟩
       replace HO122 := qr HO122 hb
       replace HO126 := qr HO126 hb
       replace HO132 := qr HO132 hb
       replace HO136 := qr HO136 hb
       replace HO142 := qr HO142 hb
       replace HO148 := qr HO148 hb
       replace HO156 := qr HO156 hb
       replace BK114 := qb BK114 hb
       replace BK115 := qb BK115 hb
       replace BK127 := qb BK127 hb
       replace BK128 := qb BK128 hb
       replace BK137 := qb BK137 hb
       replace BK138 := qb BK138 hb
       replace BK144 := qb BK144 hb
       replace BK150 := qb BK150 hb
       replace HB := Aside0.mk (below_step (by repeat with_reducible first|exact HB.out|apply qx|apply qv|apply qw|refine qs ?_ (by assumption)) hb)
       (try clear hb)
       (try clear hb2)
       (try clear hk)
       (try clear hi)
       refine hK.out _ _ ⟨qc BK114 0, qc BK114 1, qc BK115 0, qc BK115 1, qc BK137 0, qc BK137 1, qc BK138 0, qc BK138 1, qc BK144 0, qc BK144 1, qc BK150 0, qc BK150 1⟩ (fun hHeld => ?_)
       clear hK K
       refine norm_ (a' := ?_) ?_ ?_
       rotate_left
       ·show Act.put _ (some 53) _ = _
        simp only [Act.put, zA, zB, zC, i64_w, i32_w]
        rfl
       refine pure_ (i := 14) (N := some 54) (v := ?_) (a' := ?_) #[true, true, true, true, true, true, true, true, true, true, true, true, true, true, true, false, false, false, false, false, false, false, false, false, false, false] rfl rfl (any_of HT_.out (by kernel_rfl)) (fun _ _ _ h => h) (Or.inl ⟨by rfl, ?_⟩) ?_ ?_
       rotate_left
       ·intro w'
        go_simp
        with_reducible rfl
       rotate_left
       ·simp only [Act.put, zA, zB, zC, i64_w, i32_w]
        rfl
       refine pure_ (i := 15) (N := some 55) (v := ?_) (a' := ?_) #[true, true, true, true, true, true, true, true, true, true, true, true, true, true, true, true, false, false, false, false, false, false, false, false, false, false] rfl rfl (any_of HT_.out (by kernel_rfl)) (fun _ _ _ h => h) (Or.inl ⟨by rfl, ?_⟩) ?_ ?_
       rotate_left
       ·intro w'
        go_simp
        with_reducible rfl
       rotate_left
       ·simp only [Act.put, zA, zB, zC, i64_w, i32_w]
        rfl
       refine pure_ (i := 16) (N := some 56) (v := ?_) (a' := ?_) #[true, true, true, true, true, true, true, true, true, true, true, true, true, true, true, true, true, false, false, false, false, false, false, false, false, false] rfl rfl (any_of HT_.out (by kernel_rfl)) (fun _ _ _ h => h) (Or.inl ⟨by rfl, ?_⟩) ?_ ?_
       rotate_left
       ·intro w'
        go_simp
        with_reducible rfl
       rotate_left
       ·simp only [Act.put, zA, zB, zC, i64_w, i32_w]
        rfl
       refine pure_ (i := 18) (N := some 58) (v := ?_) (a' := ?_) #[true, true, true, true, true, true, true, true, true, true, true, true, true, true, true, true, true, false, true, false, false, false, false, false, false, false] rfl rfl (any_of HT_.out (by kernel_rfl)) (fun _ _ _ h => h) (Or.inl ⟨by rfl, ?_⟩) ?_ ?_
       rotate_left
       ·intro w'
        go_simp
        with_reducible rfl
       rotate_left
       ·simp only [Act.put, zA, zB, zC, i64_w, i32_w]
        rfl
       refine take_ (i := 17) (N := some 57) (v := ?_) (a' := ?_) #[true, true, true, true, true, true, true, true, true, true, true, true, true, true, true, true, true, true, true, false, false, false, false, false, false, false] rfl rfl (take_ofW HT_.out HW_.out (by kernel_rfl)) (fun _ _ _ h => h) (Or.inl ⟨by rfl, ?_⟩) hHeld ?_ ?_
       rotate_left
       ·rintro w' ⟨s0, s1, s2, s3, s4, s5, s6, s7, s8, s9, s10, s11⟩
        go_simp
        with_reducible rfl
       rotate_left
       ·simp only [Act.put, zA, zB, zC, i64_w, i32_w]
        rfl
       refine take_ (i := 19) (N := some 59) (v := ?_) (a' := ?_) #[true, true, true, true, true, true, true, true, true, true, true, true, true, true, true, true, true, true, true, true, false, false, false, false, false, false] rfl rfl (take_ofW HT_.out HW_.out (by kernel_rfl)) (fun _ _ _ h => h) (Or.inl ⟨by rfl, ?_⟩) hHeld ?_ ?_
       rotate_left
       ·rintro w' ⟨s0, s1, s2, s3, s4, s5, s6, s7, s8, s9, s10, s11⟩
        go_simp
        with_reducible rfl
       rotate_left
       ·simp only [Act.put, zA, zB, zC, i64_w, i32_w]
        rfl
       refine take_ (i := 20) (N := some 60) (v := ?_) (a' := ?_) #[true, true, true, true, true, true, true, true, true, true, true, true, true, true, true, true, true, true, true, true, true, false, false, false, false, false] rfl rfl (take_ofW HT_.out HW_.out (by kernel_rfl)) (fun _ _ _ h => h) (Or.inl ⟨by rfl, ?_⟩) hHeld ?_ ?_
       rotate_left
       ·rintro w' ⟨s0, s1, s2, s3, s4, s5, s6, s7, s8, s9, s10, s11⟩
        go_simp
        with_reducible rfl
       rotate_left
       ·simp only [Act.put, zA, zB, zC, i64_w, i32_w]
        rfl
       refine one_ (i := 21) (N := some 61) #[true, true, true, true, true, true, true, true, true, true, true, true, true, true, true, true, true, true, true, true, true, true, false, false, false, false] rfl rfl (one_of HT_.out (by kernel_rfl)) (by decide) (fun K hK => ?_)
       refine goes_ Tryd.func46 (by kernel_rfl) rfl #[.agg #[.bool t133, .slice Ao50 t134.length co50]] (by rfl) rfl rfl (by (try simp only [zM, zO, zP]); first|done|rfl) ?_
       with_reducible refine (moraineref02_Turn.calls t133 (fun k_ => some k_ = (.slice Ao50 t134.length co50 : Value).ownBlock) (.slice Ao50 t134.length co50) t134 t158 t159 w _ ?side1 ?side2 A92.out).mono ?_
       (case side1 => repeat (first | (with_reducible first | exact HB.out | apply qx | apply qv | apply qw | refine qs ?_ (by assumption)) | exact HB.out))
       (case side2 => exact Kd.R_tight rfl HO136.out)
       rintro e w102 ⟨v160, rfl, ho0, hb, hkp⟩
       refine ⟨_, rfl, ?_⟩
       have n0_ := Aside0.mk (blk_kept (by (with_reducible repeat first|refine qN ?_ _|refine qW ?_|refine qA ?_ _); exact BK114.out) hkp (fun hs_ => (fun e_ => (Kd.R_ne HO136.out BK114.out (by decide)) e_) hs_))
       have n1_ := Aside0.mk (blk_kept (by (with_reducible repeat first|refine qN ?_ _|refine qW ?_|refine qA ?_ _); exact BK115.out) hkp (fun hs_ => (fun e_ => (Kd.R_ne HO136.out BK115.out (by decide)) e_) hs_))
       have n2_ := Aside0.mk (Kd.R_mono (ok' := fun k_ => some k_ ≠ (.slice Ao37 t124.length co37 : Value).ownBlock ∧ some k_ ≠ (.slice Ao72 t140.length co72 : Value).ownBlock ∧ some k_ ≠ (.slice Ao85 t146.length co85 : Value).ownBlock) (Kd.R_keptB ((Kd.R_apart' HO122.out (Kd.R_typed HO136.out) (by decide))) hkp (fun k_ hk_ hs_ => (hk_.2) hs_)) (fun k_ hk_ => ⟨hk_.1.1.1, hk_.1.1.2.1, hk_.1.1.2.2⟩))
       have n3_ := Aside0.mk (Kd.R_mono (ok' := fun k_ => some k_ ≠ (.slice Ao34 t120.length co34 : Value).ownBlock ∧ some k_ ≠ (.slice Ao72 t140.length co72 : Value).ownBlock ∧ some k_ ≠ (.slice Ao85 t146.length co85 : Value).ownBlock) (Kd.R_keptB ((Kd.R_apart' HO126.out (Kd.R_typed HO136.out) (by decide))) hkp (fun k_ hk_ hs_ => (hk_.2) hs_)) (fun k_ hk_ => ⟨hk_.1.1.1, hk_.1.1.2.1, hk_.1.1.2.2⟩))
       have n4_ := Aside0.mk (blk_kept (by (with_reducible repeat first|refine qN ?_ _|refine qW ?_|refine qA ?_ _); exact BK127.out) hkp (fun hs_ => (fun e_ => (Kd.R_ne HO136.out BK127.out (by decide)) e_) hs_))
       have n5_ := Aside0.mk (blk_kept (by (with_reducible repeat first|refine qN ?_ _|refine qW ?_|refine qA ?_ _); exact BK128.out) hkp (fun hs_ => (fun e_ => (Kd.R_ne HO136.out BK128.out (by decide)) e_) hs_))
       have n6_ := Aside0.mk (Kd.R_mono (ok' := fun k_ => some k_ ≠ (.slice Ao100 t154.length co100 : Value).ownBlock ∧ some k_ ≠ (v160 : Value).ownBlock) (Kd.R_keptB (HO132.out) hkp (fun k_ hk_ hs_ => (hk_.1) hs_)) (fun k_ hk_ => ⟨hk_.1.2, fun e_ => Or.elim (ho0.1 k_ e_.symm) (fun hs_ => hk_.2.1 hs_) (fun hn_ => Nat.not_le.2 hk_.2.2 hn_)⟩))
       have n7_ := Aside0.mk (blk_kept (by (with_reducible repeat first|refine qN ?_ _|refine qW ?_|refine qA ?_ _); exact BK137.out) hkp (fun hs_ => (fun e_ => (Kd.R_ne HO136.out BK137.out (by decide)) e_) hs_))
       have n8_ := Aside0.mk (blk_kept (by (with_reducible repeat first|refine qN ?_ _|refine qW ?_|refine qA ?_ _); exact BK138.out) hkp (fun hs_ => (fun e_ => (Kd.R_ne HO136.out BK138.out (by decide)) e_) hs_))
       have n9_ := Aside0.mk (Kd.R_mono (ok' := fun k_ => some k_ ≠ (.slice Ao34 t120.length co34 : Value).ownBlock ∧ some k_ ≠ (.slice Ao37 t124.length co37 : Value).ownBlock ∧ some k_ ≠ (.slice Ao85 t146.length co85 : Value).ownBlock) (Kd.R_keptB ((Kd.R_apart' HO142.out (Kd.R_typed HO136.out) (by decide))) hkp (fun k_ hk_ hs_ => (hk_.2) hs_)) (fun k_ hk_ => ⟨hk_.1.1.1, hk_.1.1.2.1, hk_.1.1.2.2⟩))
       have n10_ := Aside0.mk (blk_kept (by (with_reducible repeat first|refine qN ?_ _|refine qW ?_|refine qA ?_ _); exact BK144.out) hkp (fun hs_ => (fun e_ => (Kd.R_ne HO136.out BK144.out (by decide)) e_) hs_))
       have n11_ := Aside0.mk (Kd.R_mono (ok' := fun k_ => some k_ ≠ (.slice Ao34 t120.length co34 : Value).ownBlock ∧ some k_ ≠ (.slice Ao37 t124.length co37 : Value).ownBlock ∧ some k_ ≠ (.slice Ao72 t140.length co72 : Value).ownBlock) (Kd.R_keptB ((Kd.R_apart' HO148.out (Kd.R_typed HO136.out) (by decide))) hkp (fun k_ hk_ hs_ => (hk_.2) hs_)) (fun k_ hk_ => ⟨hk_.1.1.1, hk_.1.1.2.1, hk_.1.1.2.2⟩))
       have n12_ := Aside0.mk (blk_kept (by (with_reducible repeat first|refine qN ?_ _|refine qW ?_|refine qA ?_ _); exact BK150.out) hkp (fun hs_ => (fun e_ => (Kd.R_ne HO136.out BK150.out (by decide)) e_) hs_))
       have n13_ := Aside0.mk (Kd.R_mono (ok' := fun k_ => some k_ ≠ (.slice Ao47 t130.length co47 : Value).ownBlock ∧ some k_ ≠ (v160 : Value).ownBlock) (Kd.R_keptB (HO156.out) hkp (fun k_ hk_ hs_ => (hk_.2) hs_)) (fun k_ hk_ => ⟨hk_.1.1.2, fun e_ => Or.elim (ho0.1 k_ e_.symm) (fun hs_ => hk_.2.1 hs_) (fun hn_ => Nat.not_le.2 hk_.2.2 hn_)⟩))
       have n14_ := Aside0.mk (Kd.R_mono (ok' := fun k_ => some k_ ≠ (.slice Ao47 t130.length co47 : Value).ownBlock ∧ some k_ ≠ (.slice Ao100 t154.length co100 : Value).ownBlock) ho0 (fun k_ hk_ => ⟨Or.elim hk_ (fun hs_ => fun e_ => (((HO132.out).1 k_ e_.symm).1) hs_) (fun hn_ => (Kd.fresh' (ql HO132) k_ hn_)), Or.elim hk_ (fun hs_ => fun e_ => (((HO156.out).1 k_ e_.symm).2) hs_) (fun hn_ => (Kd.fresh' (ql HO156) k_ hn_))⟩))
       have n15_ := Aside0.mk (hb)
       clear BK114
       clear BK115
       clear HO122
       clear HO126
       clear BK127
       clear BK128
       clear HO132
       clear BK137
       clear BK138
       clear HO142
       clear BK144
       clear HO148
       clear BK150
       clear HO156
       clear HB
       clear HO136
       have BK114 := n0_
       have BK115 := n1_
       have HO122 := n2_
       have HO126 := n3_
       have BK127 := n4_
       have BK128 := n5_
       have HO132 := n6_
       have BK137 := n7_
       have BK138 := n8_
       have HO142 := n9_
       have BK144 := n10_
       have HO148 := n11_
       have BK150 := n12_
       have HO156 := n13_
       have HO161 := n14_
       have HB := n15_
       clear n0_ n1_ n2_ n3_ n4_ n5_ n6_ n7_ n8_ n9_ n10_ n11_ n12_ n13_ n14_ n15_
       (try clear hb)
       (try clear hkp)
       (try clear ho0)
       obtain ⟨Ao103, co103, eo103⟩ := Kd.R_slice HO161.out
       (first | subst eo103 | (injection eo103 with f1_ f2_ f3_; have f4_ := f1_.symm; have f5_ := f3_.symm; clear f1_ f2_ f3_; subst f4_; subst f5_))
       refine hK.out _ _ ⟨qc BK114 0, qc BK114 1, qc BK115 0, qc BK115 1, qc BK137 0, qc BK137 1, qc BK138 0, qc BK138 1, qc BK144 0, qc BK144 1, qc BK150 0, qc BK150 1⟩ (fun hHeld => ?_)
       clear hK K
       refine norm_ (a' := ?_) ?_ ?_
       rotate_left
       ·show Act.put _ (some 61) _ = _
        simp only [Act.put, zA, zB, zC, i64_w, i32_w]
        rfl
       refine one_ (i := 22) (N := some 62) #[true, true, true, true, true, true, true, true, true, true, true, true, true, true, true, true, true, true, true, true, true, true, true, false, false, false] rfl rfl (one_of HT_.out (by kernel_rfl)) (by decide) (fun K hK => ?_)
       refine goes_ Tryd.func45 (by kernel_rfl) rfl #[.agg #[.bool t129, .slice Ao47 t130.length co47], .agg #[.bool t158, .slice Ao103 t159.length co103]] (by rfl) rfl rfl (by (try simp only [zM, zO, zP]); first|done|rfl) ?_
       with_reducible refine (moraineref02_Add.calls t129 _ _ t130 t158 _ _ t159 t162 t163 _ ?side1 ?side2 ?side3 ?side4 A93.out).mono ?_
       (case side1 => repeat (first | exact (Kd.R_reads' HO132.out).2.2 | (with_reducible first|refine Kd.C_alloc ?_ _|refine Kd.C_drewN ?_ _|refine Kd.C_drew ?_)))
       (case side2 => exact (Kd.R_reads' HO132.out).2.1)
       (case side3 => repeat (first | exact (Kd.R_reads' HO161.out).2.2 | (with_reducible first|refine Kd.C_alloc ?_ _|refine Kd.C_drewN ?_ _|refine Kd.C_drew ?_)))
       (case side4 => exact (Kd.R_reads' HO161.out).2.1)
       rintro e w104 ⟨v164, rfl, ho0, hb⟩
       refine ⟨_, rfl, ?_⟩
       replace HO122 := qr HO122 hb
       replace HO126 := qr HO126 hb
       replace HO142 := qr HO142 hb
       replace HO148 := qr HO148 hb
       have HO165 := Aside0.mk (Kd.R_lower (Kd.R_new' (Kd.R_new' (Kd.R_new' ho0 (ql HO132)) (ql HO156)) (ql HO161)) (below_size (by repeat with_reducible first|exact HB.out|apply qx|apply qv|apply qw|refine qs ?_ (by assumption))))
       replace HO132 := qe HO132 ho0 hb
       replace HO156 := qe HO156 ho0 hb
       replace HO161 := qe HO161 ho0 hb
       replace BK114 := qb BK114 hb
       replace BK115 := qb BK115 hb
       replace BK127 := qb BK127 hb
       replace BK128 := qb BK128 hb
       replace BK137 := qb BK137 hb
       replace BK138 := qb BK138 hb
       replace BK144 := qb BK144 hb
       replace BK150 := qb BK150 hb
       replace HB := Aside0.mk (below_step (by repeat with_reducible first|exact HB.out|apply qx|apply qv|apply qw|refine qs ?_ (by assumption)) hb)
       (try clear hb)
       (try clear hb2)
       (try clear hk)
       (try clear hi)
       (try clear ho0)
       obtain ⟨Ao105, co105, eo105⟩ := Kd.R_slice HO165.out
       (first | subst eo105 | (injection eo105 with f1_ f2_ f3_; have f4_ := f1_.symm; have f5_ := f3_.symm; clear f1_ f2_ f3_; subst f4_; subst f5_))
       refine hK.out _ _ ⟨qc BK114 0, qc BK114 1, qc BK115 0, qc BK115 1, qc BK137 0, qc BK137 1, qc BK138 0, qc BK138 1, qc BK144 0, qc BK144 1, qc BK150 0, qc BK150 1⟩ (fun hHeld => ?_)
       clear hK K
       refine norm_ (a' := ?_) ?_ ?_
       rotate_left
       ·show Act.put _ (some 62) _ = _
        simp only [Act.put, zA, zB, zC, i64_w, i32_w]
        rfl
       refine one_ (i := 23) (N := some 63) #[true, true, true, true, true, true, true, true, true, true, true, true, true, true, true, true, true, true, true, true, true, true, true, true, false, false] rfl rfl (one_of HT_.out (by kernel_rfl)) (by decide) (fun K hK => ?_)
       refine goes_ Tryd.func27 (by kernel_rfl) rfl #[.agg #[.bool t145, .slice Ao85 t146.length co85], .int .i64 t149, .agg #[.bool t162, .slice Ao105 t163.length co105]] (by rfl) rfl rfl (by (try simp only [zM, zO, zP]); first|done|rfl) ?_
       with_reducible refine (morainelaw02_is.calls t145 _ _ t146 t149 t162 _ _ t163 t166 _ ?side1 ?side2 ?side3 ?side4 A94.out).mono ?_
       (case side1 => repeat (first | exact (Kd.R_reads' HO148.out).2.2 | (with_reducible first|refine Kd.C_alloc ?_ _|refine Kd.C_drewN ?_ _|refine Kd.C_drew ?_)))
       (case side2 => exact (Kd.R_reads' HO148.out).2.1)
       (case side3 => repeat (first | exact (Kd.R_reads' HO165.out).2.2 | (with_reducible first|refine Kd.C_alloc ?_ _|refine Kd.C_drewN ?_ _|refine Kd.C_drew ?_)))
       (case side4 => exact (Kd.R_reads' HO165.out).2.1)
       rintro e w106 ⟨rfl, hb⟩
       refine ⟨_, rfl, ?_⟩
       replace HO122 := qr HO122 hb
       replace HO126 := qr HO126 hb
       replace HO132 := qr HO132 hb
       replace HO142 := qr HO142 hb
       replace HO148 := qr HO148 hb
       replace HO156 := qr HO156 hb
       replace HO161 := qr HO161 hb
       replace HO165 := qr HO165 hb
       replace BK114 := qb BK114 hb
       replace BK115 := qb BK115 hb
       replace BK127 := qb BK127 hb
       replace BK128 := qb BK128 hb
       replace BK137 := qb BK137 hb
       replace BK138 := qb BK138 hb
       replace BK144 := qb BK144 hb
       replace BK150 := qb BK150 hb
       replace HB := Aside0.mk (below_step (by repeat with_reducible first|exact HB.out|apply qx|apply qv|apply qw|refine qs ?_ (by assumption)) hb)
       (try clear hb)
       (try clear hb2)
       (try clear hk)
       (try clear hi)
       refine hK.out _ _ ⟨qc BK114 0, qc BK114 1, qc BK115 0, qc BK115 1, qc BK137 0, qc BK137 1, qc BK138 0, qc BK138 1, qc BK144 0, qc BK144 1, qc BK150 0, qc BK150 1⟩ (fun hHeld => ?_)
       clear hK K
       refine norm_ (a' := ?_) ?_ ?_
       rotate_left
       ·show Act.put _ (some 63) _ = _
        simp only [Act.put, zA, zB, zC, i64_w, i32_w]
        rfl
       refine pure_ (i := 24) (N := some 64) (v := ?_) (a' := ?_) #[true, true, true, true, true, true, true, true, true, true, true, true, true, true, true, true, true, true, true, true, true, true, true, true, true, false] rfl rfl (any_of HT_.out (by kernel_rfl)) (fun _ _ _ h => h) (Or.inl ⟨by rfl, ?_⟩) ?_ ?_
       rotate_left
       ·intro w'
        go_simp
        with_reducible rfl
       rotate_left
       ·simp only [Act.put, zA, zB, zC, i64_w, i32_w]
        rfl
       refine pure_ (i := 25) (N := some 65) (v := ?_) (a' := ?_) #[true, true, true, true, true, true, true, true, true, true, true, true, true, true, true, true, true, true, true, true, true, true, true, true, true, true] rfl rfl (any_of HT_.out (by kernel_rfl)) (fun _ _ _ h => h) (Or.inl ⟨by rfl, ?_⟩) ?_ ?_
       rotate_left
       ·intro w'
        go_simp
        with_reducible rfl
       rotate_left
       ·simp only [Act.put, zA, zB, zC, i64_w, i32_w]
        rfl
       refine done_ (done_of HT_.out (by kernel_rfl)) ?_
       try go_wp2
       go_meet
       case rel => exact ⟨_, (!t166), (by first | rfl | (simp; done) | (simp [*]; done)), H', ⟨by have := HJ2.out; first | omega | exact Nat.le_refl _⟩, ⟨qq HO122⟩, ⟨qq HO126⟩, ⟨by (with_reducible repeat first|apply Kd.R_alloc|apply Kd.R_drewN|apply Kd.R_drew); exact Kd.R_mono HO132.out (fun _ hk => trivial)⟩, ⟨qq HO142⟩, ⟨qq HO148⟩, ⟨qk BK114⟩, ⟨qk BK115⟩, ⟨qk BK127⟩, ⟨qk BK128⟩, ⟨qk BK137⟩, ⟨qk BK144⟩, ⟨qk BK150⟩, ⟨by repeat (first | (with_reducible first | exact HB.out | apply qx | apply qv | apply qw | refine qs ?_ (by assumption)) | exact HB.out)⟩⟩
      ·replace c91 := Bool.eq_false_iff.mpr c91
       subst c91
       have H1 : (morainelaw02_NumAdds.j1 kj2 true a0_0 l0_1 a1_0 l1_1 t119 t120 t123 t124 t139 t140 t145 t146) = some r := by rw [if_neg (show ¬ (false = true) by decide)] at H; exact H
       clear H
       have H := H1
       clear H1
       revert H
       cases kj2 with
       | zero => intro H; exact absurd H (by simp [morainelaw02_NumAdds.j1])
       | succ k_ => intro H; rw [morainelaw02_NumAdds.j1, if_pos rfl] at H; exact absurd ((Option.some.inj H).trans hr) (by decide)
     ·rw [if_neg c88] at H
      have c88b0 : (t151 == t152) = false := beq_eq_false_iff_ne.mpr c88
      have c88b1 : (t151 != t152) = true := bne_iff_ne.mpr c88
      (first | rw [c88b0] | (simp only [i64_w, i32_w]; rw [c88b0]) | skip)
      revert H
      cases kj2 with
      | zero => intro H; exact absurd H (by simp [morainelaw02_NumAdds.j1])
      | succ k_ => intro H; rw [morainelaw02_NumAdds.j1, if_pos rfl] at H; exact absurd ((Option.some.inj H).trans hr) (by decide)
    case rest =>
     clear HC26
     try clear c1
     try clear c2
     try clear p2
     try clear c4
     try clear c8
     try clear c9
     try clear c27
     try clear c44
     try clear c45
     try clear c46
     try clear c88
     try clear c88b0
     try clear c88b1
     try clear c91
     obtain ⟨kq, x65_25, rfl, HA, HJ25, HO_128001, HO_129001, HO_138001, HO_145001, HO_151001, BK114, BK115, BK127, BK128, BK137, BK144, BK150, HB⟩ := hcut
     cases kq with
     | zero => exact absurd HA.out (by simp [morainelaw02_NumAdds.j1])
     | succ kj25 =>
      have H := HA.out
      clear HA
      simp only [morainelaw02_NumAdds.j1] at H
      by_cases c107 : x65_25 = true
      ·subst c107
       have H1 : (some false) = some r := by rw [if_pos rfl] at H; exact H
       clear H
       have H := H1
       clear H1
       exact absurd ((Option.some.inj H).trans hr) (by decide)
      ·replace c107 := Bool.eq_false_iff.mpr c107
       subst c107
       have H1 : ((morainelaw02_spoil.f kj25 t139 t140).bind fun t167 => ((morainelaw02_spoil.f kj25 t145 t146).bind fun t168 => ((moraineref02_Same.f a0_0 l0_1 t119 t120).bind fun t169 => (if t169 = true then ((moraineref02_Same.f a1_0 l1_1 t123 t124).bind fun t170 => (if t170 = true then ((morainelaw02_awake.f).bind fun t171 => (some t171)) else (some false))) else (some false))))) = some r := by rw [if_neg (show ¬ (false = true) by decide)] at H; exact H
       clear H
       have H := H1
       clear H1
       replace H := Option.bind_eq_some_iff.mp H
       obtain ⟨t167, A1080, H⟩ := H
       replace H : ((morainelaw02_spoil.f kj25 t145 t146).bind fun t168 => ((moraineref02_Same.f a0_0 l0_1 t119 t120).bind fun t169 => (if t169 = true then ((moraineref02_Same.f a1_0 l1_1 t123 t124).bind fun t170 => (if t170 = true then ((morainelaw02_awake.f).bind fun t171 => (some t171)) else (some false))) else (some false)))) = some r := H
       have A108 := Aside0.mk A1080
       clear A1080
       replace H := Option.bind_eq_some_iff.mp H
       obtain ⟨t168, A1090, H⟩ := H
       replace H : ((moraineref02_Same.f a0_0 l0_1 t119 t120).bind fun t169 => (if t169 = true then ((moraineref02_Same.f a1_0 l1_1 t123 t124).bind fun t170 => (if t170 = true then ((morainelaw02_awake.f).bind fun t171 => (some t171)) else (some false))) else (some false))) = some r := H
       have A109 := Aside0.mk A1090
       clear A1090
       replace H := Option.bind_eq_some_iff.mp H
       obtain ⟨t169, A1100, H⟩ := H
       replace H : (if t169 = true then ((moraineref02_Same.f a1_0 l1_1 t123 t124).bind fun t170 => (if t170 = true then ((morainelaw02_awake.f).bind fun t171 => (some t171)) else (some false))) else (some false)) = some r := H
       have A110 := Aside0.mk A1100
       clear A1100
       by_cases c111 : t169 = true
       ·subst c111
        have H1 : ((moraineref02_Same.f a1_0 l1_1 t123 t124).bind fun t170 => (if t170 = true then ((morainelaw02_awake.f).bind fun t171 => (some t171)) else (some false))) = some r := by rw [if_pos rfl] at H; exact H
        clear H
        have H := H1
        clear H1
        replace H := Option.bind_eq_some_iff.mp H
        obtain ⟨t170, A1120, H⟩ := H
        replace H : (if t170 = true then ((morainelaw02_awake.f).bind fun t171 => (some t171)) else (some false)) = some r := H
        have A112 := Aside0.mk A1120
        clear A1120
        by_cases c113 : t170 = true
        ·subst c113
         have H1 : ((morainelaw02_awake.f).bind fun t171 => (some t171)) = some r := by rw [if_pos rfl] at H; exact H
         clear H
         have H := H1
         clear H1
         replace H := Option.bind_eq_some_iff.mp H
         obtain ⟨t171, A1140, H⟩ := H
         replace H : (some t171) = some r := H
         have A114 := Aside0.mk A1140
         clear A1140
         obtain rfl := Option.some.inj H
         have hnb115 := NB144_114.out
         have hnc115 := NB114_144.out
         have hnb116 := NB144_115.out
         have hnc116 := NB115_144.out
         have hnb117 := NB144_127.out
         have hnc117 := NB127_144.out
         have hnb118 := NB144_128.out
         have hnc118 := NB128_144.out
         have hnb119 := NB144_137.out
         have hnc119 := NB137_144.out
         have hnb120 := NB144_150.out
         have hnc120 := NB150_144.out
         have hcz121_0 : wc.cell? ⟨gb144, 0, none⟩ = some (.bool t139) := qc BK144 0
         have hcz121_1 : wc.cell? ⟨gb144, 1, none⟩ = some (.slice Ao72 t140.length co72) := qc BK144 1
         have hfz121_0 := blk_frozen BK144.out 0
         have hfz121_1 := blk_frozen BK144.out 1
         go_wp2_with (first | ((with_reducible refine gate_callee (f := 33) rfl ?_); refine goesL_ (some 67) rfl rfl Tryd.func33 (by kernel_rfl) rfl #[.agg #[.bool t139, .slice Ao72 t140.length co72]] rfl (by (try simp only [zM, zO, zP]); first|done|rfl) ?_; (with_reducible refine (morainelaw02_spoil.calls kj25 t139 (fun k_ => some k_ = (.slice Ao72 t140.length co72 : Value).ownBlock) (.slice Ao72 t140.length co72) t140 t167 w _ ?side1 ?side2 A108.out).mono ?_); (case side1 => repeat (first | (with_reducible first | exact HB.out | apply qx | apply qv | apply qw | refine qs ?_ (by assumption)) | exact HB.out)); (case side2 => exact Kd.R_tight rfl HO_145001.out); rintro e w122 ⟨rfl, hy0, hb, hkp⟩; refine ⟨_, rfl, ?_⟩; have n0_ := Aside0.mk (Kd.R_mono (ok' := fun k_ => some k_ ≠ (.slice Ao37 t124.length co37 : Value).ownBlock ∧ some k_ ≠ (.slice Ao72 t140.length co72 : Value).ownBlock ∧ some k_ ≠ (.slice Ao85 t146.length co85 : Value).ownBlock) (Kd.R_keptB (HO_128001.out) hkp (fun k_ hk_ hs_ => (hk_.2.1) hs_)) (fun k_ hk_ => ⟨hk_.1.1, hk_.1.2.1, hk_.1.2.2⟩)); have n1_ := Aside0.mk (Kd.R_mono (ok' := fun k_ => some k_ ≠ (.slice Ao34 t120.length co34 : Value).ownBlock ∧ some k_ ≠ (.slice Ao72 t140.length co72 : Value).ownBlock ∧ some k_ ≠ (.slice Ao85 t146.length co85 : Value).ownBlock) (Kd.R_keptB (HO_129001.out) hkp (fun k_ hk_ hs_ => (hk_.2.1) hs_)) (fun k_ hk_ => ⟨hk_.1.1, hk_.1.2.1, hk_.1.2.2⟩)); have n2_ := Aside0.mk (Kd.R_mono (ok' := fun k_ => True) (Kd.R_keptB ((Kd.R_apart' HO_138001.out (Kd.R_typed HO_145001.out) (by decide))) hkp (fun k_ hk_ hs_ => (hk_.2) hs_)) (fun k_ hk_ => trivial)); have n3_ := Aside0.mk (Kd.R_reok rfl hy0 (fun k_ e_ => HO_145001.out.1 k_ e_)); have n4_ := Aside0.mk (Kd.R_mono (ok' := fun k_ => some k_ ≠ (.slice Ao34 t120.length co34 : Value).ownBlock ∧ some k_ ≠ (.slice Ao37 t124.length co37 : Value).ownBlock ∧ some k_ ≠ (.slice Ao72 t140.length co72 : Value).ownBlock) (Kd.R_keptB (HO_151001.out) hkp (fun k_ hk_ hs_ => (hk_.2.2) hs_)) (fun k_ hk_ => ⟨hk_.1.1, hk_.1.2.1, hk_.1.2.2⟩)); have n5_ := Aside0.mk (blk_kept (by (with_reducible repeat first|refine qN ?_ _|refine qW ?_|refine qA ?_ _); exact BK114.out) hkp (fun hs_ => (fun e_ => (Kd.R_ne HO_145001.out BK114.out (by decide)) e_) hs_)); have n6_ := Aside0.mk (blk_kept (by (with_reducible repeat first|refine qN ?_ _|refine qW ?_|refine qA ?_ _); exact BK115.out) hkp (fun hs_ => (fun e_ => (Kd.R_ne HO_145001.out BK115.out (by decide)) e_) hs_)); have n7_ := Aside0.mk (blk_kept (by (with_reducible repeat first|refine qN ?_ _|refine qW ?_|refine qA ?_ _); exact BK127.out) hkp (fun hs_ => (fun e_ => (Kd.R_ne HO_145001.out BK127.out (by decide)) e_) hs_)); have n8_ := Aside0.mk (blk_kept (by (with_reducible repeat first|refine qN ?_ _|refine qW ?_|refine qA ?_ _); exact BK128.out) hkp (fun hs_ => (fun e_ => (Kd.R_ne HO_145001.out BK128.out (by decide)) e_) hs_)); have n9_ := Aside0.mk (blk_kept (by (with_reducible repeat first|refine qN ?_ _|refine qW ?_|refine qA ?_ _); exact BK137.out) hkp (fun hs_ => (fun e_ => (Kd.R_ne HO_145001.out BK137.out (by decide)) e_) hs_)); have n10_ := Aside0.mk (blk_kept (by (with_reducible repeat first|refine qN ?_ _|refine qW ?_|refine qA ?_ _); exact BK144.out) hkp (fun hs_ => (fun e_ => (Kd.R_ne HO_145001.out BK144.out (by decide)) e_) hs_)); have n11_ := Aside0.mk (blk_kept (by (with_reducible repeat first|refine qN ?_ _|refine qW ?_|refine qA ?_ _); exact BK150.out) hkp (fun hs_ => (fun e_ => (Kd.R_ne HO_145001.out BK150.out (by decide)) e_) hs_)); have n12_ := Aside0.mk (hb); clear HO_128001; clear HO_129001; clear HO_138001; clear HO_145001; clear HO_151001; clear BK114; clear BK115; clear BK127; clear BK128; clear BK137; clear BK144; clear BK150; clear HB; have HO_128001 := n0_; have HO_129001 := n1_; have HO_138001 := n2_; have HO_145001 := n3_; have HO_151001 := n4_; have BK114 := n5_; have BK115 := n6_; have BK127 := n7_; have BK128 := n8_; have BK137 := n9_; have BK144 := n10_; have BK150 := n11_; have HB := n12_; clear n0_ n1_ n2_ n3_ n4_ n5_ n6_ n7_ n8_ n9_ n10_ n11_ n12_; (try clear hb); (try clear hkp); (try clear hy0); have hnb123 := NB150_114.out; have hnc123 := NB114_150.out; have hnb124 := NB150_115.out; have hnc124 := NB115_150.out; have hnb125 := NB150_127.out; have hnc125 := NB127_150.out; have hnb126 := NB150_128.out; have hnc126 := NB128_150.out; have hnb127 := NB150_137.out; have hnc127 := NB137_150.out; have hcz128_0 : w122.cell? ⟨gb150, 0, none⟩ = some (.bool t145) := qc BK150 0; have hcz128_1 : w122.cell? ⟨gb150, 1, none⟩ = some (.slice Ao85 t146.length co85) := qc BK150 1; have hfz128_0 := blk_frozen BK150.out 0; have hfz128_1 := blk_frozen BK150.out 1) | ((with_reducible refine gate_callee (f := 33) rfl ?_); refine goesL_ (some 69) rfl rfl Tryd.func33 (by kernel_rfl) rfl #[.agg #[.bool t145, .slice Ao85 t146.length co85]] rfl (by (try simp only [zM, zO, zP]); first|done|rfl) ?_; (with_reducible refine (morainelaw02_spoil.calls kj25 t145 (fun k_ => some k_ = (.slice Ao85 t146.length co85 : Value).ownBlock) (.slice Ao85 t146.length co85) t146 t168 w _ ?side1 ?side2 A109.out).mono ?_); (case side1 => repeat (first | (with_reducible first | exact HB.out | apply qx | apply qv | apply qw | refine qs ?_ (by assumption)) | exact HB.out)); (case side2 => exact Kd.R_tight rfl HO_151001.out); rintro e w129 ⟨rfl, hy0, hb, hkp⟩; refine ⟨_, rfl, ?_⟩; have n0_ := Aside0.mk (Kd.R_mono (ok' := fun k_ => some k_ ≠ (.slice Ao37 t124.length co37 : Value).ownBlock ∧ some k_ ≠ (.slice Ao72 t140.length co72 : Value).ownBlock ∧ some k_ ≠ (.slice Ao85 t146.length co85 : Value).ownBlock) (Kd.R_keptB (HO_128001.out) hkp (fun k_ hk_ hs_ => (hk_.2.2) hs_)) (fun k_ hk_ => ⟨hk_.1.1, hk_.1.2.1, hk_.1.2.2⟩)); have n1_ := Aside0.mk (Kd.R_mono (ok' := fun k_ => some k_ ≠ (.slice Ao34 t120.length co34 : Value).ownBlock ∧ some k_ ≠ (.slice Ao72 t140.length co72 : Value).ownBlock ∧ some k_ ≠ (.slice Ao85 t146.length co85 : Value).ownBlock) (Kd.R_keptB (HO_129001.out) hkp (fun k_ hk_ hs_ => (hk_.2.2) hs_)) (fun k_ hk_ => ⟨hk_.1.1, hk_.1.2.1, hk_.1.2.2⟩)); have n2_ := Aside0.mk (Kd.R_mono (ok' := fun k_ => True) (Kd.R_keptB ((Kd.R_apart' HO_138001.out (Kd.R_typed HO_151001.out) (by decide))) hkp (fun k_ hk_ hs_ => (hk_.2) hs_)) (fun k_ hk_ => trivial)); have n3_ := Aside0.mk (Kd.R_mono (ok' := fun k_ => some k_ ≠ (.slice Ao34 t120.length co34 : Value).ownBlock ∧ some k_ ≠ (.slice Ao37 t124.length co37 : Value).ownBlock ∧ some k_ ≠ (.slice Ao85 t146.length co85 : Value).ownBlock) (Kd.R_keptB (HO_145001.out) hkp (fun k_ hk_ hs_ => (hk_.2.2) hs_)) (fun k_ hk_ => ⟨hk_.1.1, hk_.1.2.1, hk_.1.2.2⟩)); have n4_ := Aside0.mk (Kd.R_reok rfl hy0 (fun k_ e_ => HO_151001.out.1 k_ e_)); have n5_ := Aside0.mk (blk_kept (by (with_reducible repeat first|refine qN ?_ _|refine qW ?_|refine qA ?_ _); exact BK114.out) hkp (fun hs_ => (fun e_ => (Kd.R_ne HO_151001.out BK114.out (by decide)) e_) hs_)); have n6_ := Aside0.mk (blk_kept (by (with_reducible repeat first|refine qN ?_ _|refine qW ?_|refine qA ?_ _); exact BK115.out) hkp (fun hs_ => (fun e_ => (Kd.R_ne HO_151001.out BK115.out (by decide)) e_) hs_)); have n7_ := Aside0.mk (blk_kept (by (with_reducible repeat first|refine qN ?_ _|refine qW ?_|refine qA ?_ _); exact BK127.out) hkp (fun hs_ => (fun e_ => (Kd.R_ne HO_151001.out BK127.out (by decide)) e_) hs_)); have n8_ := Aside0.mk (blk_kept (by (with_reducible repeat first|refine qN ?_ _|refine qW ?_|refine qA ?_ _); exact BK128.out) hkp (fun hs_ => (fun e_ => (Kd.R_ne HO_151001.out BK128.out (by decide)) e_) hs_)); have n9_ := Aside0.mk (blk_kept (by (with_reducible repeat first|refine qN ?_ _|refine qW ?_|refine qA ?_ _); exact BK137.out) hkp (fun hs_ => (fun e_ => (Kd.R_ne HO_151001.out BK137.out (by decide)) e_) hs_)); have n10_ := Aside0.mk (blk_kept (by (with_reducible repeat first|refine qN ?_ _|refine qW ?_|refine qA ?_ _); exact BK144.out) hkp (fun hs_ => (fun e_ => (Kd.R_ne HO_151001.out BK144.out (by decide)) e_) hs_)); have n11_ := Aside0.mk (blk_kept (by (with_reducible repeat first|refine qN ?_ _|refine qW ?_|refine qA ?_ _); exact BK150.out) hkp (fun hs_ => (fun e_ => (Kd.R_ne HO_151001.out BK150.out (by decide)) e_) hs_)); have n12_ := Aside0.mk (hb); clear HO_128001; clear HO_129001; clear HO_138001; clear HO_145001; clear HO_151001; clear BK114; clear BK115; clear BK127; clear BK128; clear BK137; clear BK144; clear BK150; clear HB; have HO_128001 := n0_; have HO_129001 := n1_; have HO_138001 := n2_; have HO_145001 := n3_; have HO_151001 := n4_; have BK114 := n5_; have BK115 := n6_; have BK127 := n7_; have BK128 := n8_; have BK137 := n9_; have BK144 := n10_; have BK150 := n11_; have HB := n12_; clear n0_ n1_ n2_ n3_ n4_ n5_ n6_ n7_ n8_ n9_ n10_ n11_ n12_; (try clear hb); (try clear hkp); (try clear hy0); have hnb130 := NB114_115.out; have hnc130 := NB115_114.out; have hnb131 := NB114_127.out; have hnc131 := NB127_114.out; have hnb132 := NB114_128.out; have hnc132 := NB128_114.out; have hnb133 := NB114_137.out; have hnc133 := NB137_114.out; have hcz134_0 : w129.cell? ⟨gb114, 0, none⟩ = some (.bool a0_0) := qc BK114 0; have hcz134_1 : w129.cell? ⟨gb114, 1, none⟩ = some (.slice A0_1 l0_1.length c0_1) := qc BK114 1; have hfz134_0 := blk_frozen BK114.out 0; have hfz134_1 := blk_frozen BK114.out 1; have hnb135 := NB127_115.out; have hnc135 := NB115_127.out; have hnb136 := NB127_128.out; have hnc136 := NB128_127.out; have hnb137 := NB127_137.out; have hnc137 := NB137_127.out; have hcz138_0 : w129.cell? ⟨gb127, 0, none⟩ = some (.bool t119) := qc BK127 0; have hcz138_1 : w129.cell? ⟨gb127, 1, none⟩ = some (.slice Ao34 t120.length co34) := qc BK127 1; have hfz138_0 := blk_frozen BK127.out 0; have hfz138_1 := blk_frozen BK127.out 1) | ((with_reducible refine gate_callee (f := 17) rfl ?_); refine goesL_ (some 72) rfl rfl Tryd.func17 (by kernel_rfl) rfl #[.agg #[.bool a0_0, .slice A0_1 l0_1.length c0_1], .agg #[.bool t119, .slice Ao34 t120.length co34]] rfl (by (try simp only [zM, zO, zP]); first|done|rfl) ?_; (with_reducible refine (moraineref02_Same.calls a0_0 _ _ l0_1 t119 _ _ t120 true _ ?side1 ?side2 ?side3 ?side4 A110.out).mono ?_); (case side1 => exact qC HR0_1 HB); (case side2 => exact HC0_1.out); (case side3 => repeat (first | exact (Kd.R_reads' HO_128001.out).2.2 | (with_reducible first|refine Kd.C_alloc ?_ _|refine Kd.C_drewN ?_ _|refine Kd.C_drew ?_))); (case side4 => exact (Kd.R_reads' HO_128001.out).2.1); rintro e w139 ⟨rfl, hb⟩; refine ⟨_, rfl, ?_⟩; replace HO_128001 := qr HO_128001 hb; replace HO_129001 := qr HO_129001 hb; replace HO_138001 := qr HO_138001 hb; replace HO_145001 := qr HO_145001 hb; replace HO_151001 := qr HO_151001 hb; replace BK114 := qb BK114 hb; replace BK115 := qb BK115 hb; replace BK127 := qb BK127 hb; replace BK128 := qb BK128 hb; replace BK137 := qb BK137 hb; replace BK144 := qb BK144 hb; replace BK150 := qb BK150 hb; replace HB := Aside0.mk (below_step (by repeat with_reducible first|exact HB.out|apply qx|apply qv|apply qw|refine qs ?_ (by assumption)) hb); (try clear hb); (try clear hb2); (try clear hk); (try clear hi); have hnb140 := NB115_128.out; have hnc140 := NB128_115.out; have hnb141 := NB115_137.out; have hnc141 := NB137_115.out; have hcz142_0 : w139.cell? ⟨gb115, 0, none⟩ = some (.bool a1_0) := qc BK115 0; have hcz142_1 : w139.cell? ⟨gb115, 1, none⟩ = some (.slice A1_1 l1_1.length c1_1) := qc BK115 1; have hfz142_0 := blk_frozen BK115.out 0; have hfz142_1 := blk_frozen BK115.out 1; have hnb143 := NB128_137.out; have hnc143 := NB137_128.out; have hcz144_0 : w139.cell? ⟨gb128, 0, none⟩ = some (.bool t123) := qc BK128 0; have hcz144_1 : w139.cell? ⟨gb128, 1, none⟩ = some (.slice Ao37 t124.length co37) := qc BK128 1; have hfz144_0 := blk_frozen BK128.out 0; have hfz144_1 := blk_frozen BK128.out 1) | (go_at_call 17; (with_reducible refine (moraineref02_Same.calls a1_0 _ _ l1_1 t123 _ _ t124 true _ ?side1 ?side2 ?side3 ?side4 A112.out).mono ?_); (case side1 => exact qC HR1_1 HB); (case side2 => exact HC1_1.out); (case side3 => repeat (first | exact (Kd.R_reads' HO_129001.out).2.2 | (with_reducible first|refine Kd.C_alloc ?_ _|refine Kd.C_drewN ?_ _|refine Kd.C_drew ?_))); (case side4 => exact (Kd.R_reads' HO_129001.out).2.1); rintro e w145 ⟨rfl, hb⟩; replace HO_128001 := qr HO_128001 hb; replace HO_129001 := qr HO_129001 hb; replace HO_138001 := qr HO_138001 hb; replace HO_145001 := qr HO_145001 hb; replace HO_151001 := qr HO_151001 hb; replace BK114 := qb BK114 hb; replace BK115 := qb BK115 hb; replace BK127 := qb BK127 hb; replace BK128 := qb BK128 hb; replace BK137 := qb BK137 hb; replace BK144 := qb BK144 hb; replace BK150 := qb BK150 hb; replace HB := Aside0.mk (below_step (by repeat with_reducible first|exact HB.out|apply qx|apply qv|apply qw|refine qs ?_ (by assumption)) hb); (try clear hb); (try clear hb2); (try clear hk); (try clear hi)) | (go_at_call 20; (with_reducible refine (morainelaw02_awake.calls  t171 _ A114.out (NumV.Tab.below HT.out (by repeat (first | exact HB.out | apply qx | apply qv | apply qw | refine below_set ?_ (Aside0.out (by assumption)))))).mono ?_); rintro e w146 ⟨rfl, hb⟩; replace HO_128001 := qr HO_128001 hb; replace HO_129001 := qr HO_129001 hb; replace HO_138001 := qr HO_138001 hb; replace HO_145001 := qr HO_145001 hb; replace HO_151001 := qr HO_151001 hb; replace BK114 := qb BK114 hb; replace BK115 := qb BK115 hb; replace BK127 := qb BK127 hb; replace BK128 := qb BK128 hb; replace BK137 := qb BK137 hb; replace BK144 := qb BK144 hb; replace BK150 := qb BK150 hb; replace HB := Aside0.mk (below_step (by repeat with_reducible first|exact HB.out|apply qx|apply qv|apply qw|refine qs ?_ (by assumption)) hb); (try clear hb); (try clear hb2); (try clear hk); (try clear hi)))
         go_ret
         exact ⟨by first | rfl | (simp [errW_none, errW_some] <;> rfl) | (simp [*, errW_none, errW_some] <;> rfl), by repeat (first | (with_reducible first | exact HB.out | apply qx | apply qv | apply qw | refine qs ?_ (by assumption)) | exact HB.out)⟩
        ·replace c113 := Bool.eq_false_iff.mpr c113
         subst c113
         have H1 : (some false) = some r := by rw [if_neg (show ¬ (false = true) by decide)] at H; exact H
         clear H
         have H := H1
         clear H1
         exact absurd ((Option.some.inj H).trans hr) (by decide)
       ·replace c111 := Bool.eq_false_iff.mpr c111
        subst c111
        have H1 : (some false) = some r := by rw [if_neg (show ¬ (false = true) by decide)] at H; exact H
        clear H
        have H := H1
        clear H1
        exact absurd ((Option.some.inj H).trans hr) (by decide)
end Go.Proofs.YthhpnlbeniihhaaDoor.PNumAdds
