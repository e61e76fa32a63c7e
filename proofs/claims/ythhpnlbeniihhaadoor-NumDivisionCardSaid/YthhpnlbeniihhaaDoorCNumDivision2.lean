/- Contracts and plain laws that the row's proof uses (part 2). Conditions: those that each states. -/
import Derived.Test.YthhpnlbeniihhaaDoorCNumDivision1
namespace Go.Proofs.YthhpnlbeniihhaaDoor.NumI
open Go.RowKit Go.Proofs.YthhpnlbeniihhaaDoorW.PrintWords Go.Proofs.YthhpnlbeniihhaaDoorW.PrintLast Go.Proofs.YthhpnlbeniihhaaDoorW.PrintMore Go.Proofs.YthhpnlbeniihhaaDoor.Limb Go.Proofs.YthhpnlbeniihhaaDoor.NumA Go.Proofs.YthhpnlbeniihhaaDoor.NumB Go.Proofs.YthhpnlbeniihhaaDoor.NumC Go.Proofs.YthhpnlbeniihhaaDoor.NumD Go.Proofs.YthhpnlbeniihhaaDoor.NumE Go.Proofs.YthhpnlbeniihhaaDoor.NumF Go.Proofs.YthhpnlbeniihhaaDoor.NumG Go.Proofs.YthhpnlbeniihhaaDoor.NumH
set_option linter.unusedVariables false
set_option linter.unusedSimpArgs false
theorem cmpN_neg {a b : Nat} (h : a < b) : cmpN a b = -1 := by unfold cmpN; rw [if_pos h]
theorem cmpN_nonneg {a b : Nat} (h : ¬ a < b) : 0 ≤ cmpN a b := by unfold cmpN; rw [if_neg h]; split <;> omega
set_option maxRecDepth 100000 in
set_option maxHeartbeats 8000000 in
theorem add_same_true (n1 n2 : Bool) (A B : Option Addr) (c d : Nat) (l m : List Int) (w : World) (hl : Num w A c l) (hm : Num w B d m) (h1 : l.length < 8796093022208) (h2 : m.length < 8796093022208) (hp : belowB n1 l = true) (hq : belowB n2 m = true) (hlt : True) :
    Calls Tryd.prog 41 #[.agg #[.bool n1, .slice A l.length c], .agg #[.bool n2, .slice B m.length d]] w (Res w (mk true (mag l + mag m))) := by
  have HL := Aside0.mk hl
  have HM := Aside0.mk hm
  have H1 := Aside0.mk h1
  have H2 := Aside0.mk h2
  have HLT := Aside0.mk hlt
  have HP := Lib.hid (show ∀ W : World, Lim W A l → Calls Tryd.prog 70 #[.agg #[.bool n1, .slice A l.length c]] W fun e w' => e = .returned (.bool true) ∧ Below W.heap.size W w' from fun W hW => by rw [← hp]; exact below_calls n1 A c l W hW hl.room)
  have HQ := Lib.hid (show ∀ W : World, Lim W B m → Calls Tryd.prog 70 #[.agg #[.bool n2, .slice B m.length d]] W fun e w' => e = .returned (.bool true) ∧ Below W.heap.size W w' from fun W hW => by rw [← hq]; exact below_calls n2 B d m W hW hm.room)
  generalize hr : mk true (mag l + mag m) = r
  have HR := Aside0.mk hr
  obtain ⟨r1, r2, r3⟩ := r
  clear hl hm h1 h2 hr hp hq hlt
  go_enter Tryd.func41, Tryd.ntmps41
  go_wp2
  obtain ⟨b1, b2, b3⟩ := boxes w (.bool n1) (.slice A l.length c) (.bool n2) (.slice B m.length d)
  have HB := Aside0.mk (below_alloc (below_alloc ((Below.refl w.heap.size w).alloc (Nat.le_refl _) (.cells #[.bool n1, .slice A l.length c] 25 (0, 0))) (.cells #[.bool n2, .slice B m.length d] 25 (0, 0))) (.cells #[.bool false, .slice none 0 0] 25 (0, 0)))
  generalize (((w.alloc (.cells #[.bool n1, .slice A l.length c] 25 (0, 0))).alloc (.cells #[.bool n2, .slice B m.length d] 25 (0, 0))).alloc (.cells #[.bool false, .slice none 0 0] 25 (0, 0))) = W at *
  obtain ⟨ha0, ha1⟩ := cell_at b1
  obtain ⟨hb0, hb1⟩ := cell_at b2
  have B3 := Aside0.mk b3
  clear b1 b2 b3
  go_region_held3 (fun w' => w'.cell? ⟨w.heap.size, 0, none⟩ = some (.bool n1) ∧ w'.cell? ⟨w.heap.size, 1, none⟩ = some (.slice A l.length c) ∧ w'.cell? ⟨w.heap.size + 1, 0, none⟩ = some (.bool n2) ∧ w'.cell? ⟨w.heap.size + 1, 1, none⟩ = some (.slice B m.length d))
    (first | exact ⟨by assumption, by assumption, by assumption, by assumption⟩ | exact ⟨by go_keep, by go_keep, by go_keep, by go_keep⟩ | exact ⟨by (rw [World.cell?_setCell_far _ _ _ _ (by dsimp only; omega), World.cell?_setCell_far _ _ _ _ (by dsimp only; omega)]; assumption), by (rw [World.cell?_setCell_far _ _ _ _ (by dsimp only; omega), World.cell?_setCell_far _ _ _ _ (by dsimp only; omega)]; assumption), by (rw [World.cell?_setCell_far _ _ _ _ (by dsimp only; omega), World.cell?_setCell_far _ _ _ _ (by dsimp only; omega)]; assumption), by (rw [World.cell?_setCell_far _ _ _ _ (by dsimp only; omega), World.cell?_setCell_far _ _ _ _ (by dsimp only; omega)]; assumption)⟩)
    (first
      | (go_at_call_of 70 (Value.agg #[.bool n1, .slice A l.length c]); refine (HP.out _ (HL.out.below (by first | exact HB.out | exact below_drew1 HB.out | exact pw_below_drewN HB.out _)).lim).mono ?_; rintro e w1 ⟨rfl, hb⟩; have q0_ := pw_cell_below hb (a := ⟨w.heap.size, 0, none⟩) (v := .bool n1) (by go_keep); have q1_ := pw_cell_below hb (a := ⟨w.heap.size, 1, none⟩) (v := .slice A l.length c) (by go_keep); have q2_ := pw_cell_below hb (a := ⟨w.heap.size + 1, 0, none⟩) (v := .bool n2) (by go_keep); have q3_ := pw_cell_below hb (a := ⟨w.heap.size + 1, 1, none⟩) (v := .slice B m.length d) (by go_keep); have q4_ := Aside0.mk (below_step (by first | exact HB.out | exact below_drew1 HB.out | exact pw_below_drewN HB.out _) hb); have q5_ := Aside0.mk (blk_below (by first | exact B3.out | exact blk_drew B3.out | exact blk_drewN B3.out _) hb); clear ha0 ha1 hb0 hb1 HB B3 hb; have ha0 := q0_; have ha1 := q1_; have hb0 := q2_; have hb1 := q3_; have HB := q4_; have B3 := q5_; clear q0_ q1_ q2_ q3_ q4_ q5_)
      | (go_at_call_of 70 (Value.agg #[.bool n2, .slice B m.length d]); refine (HQ.out _ (HM.out.below (by first | exact HB.out | exact below_drew1 HB.out | exact pw_below_drewN HB.out _)).lim).mono ?_; rintro e w1 ⟨rfl, hb⟩; have q0_ := pw_cell_below hb (a := ⟨w.heap.size, 0, none⟩) (v := .bool n1) (by go_keep); have q1_ := pw_cell_below hb (a := ⟨w.heap.size, 1, none⟩) (v := .slice A l.length c) (by go_keep); have q2_ := pw_cell_below hb (a := ⟨w.heap.size + 1, 0, none⟩) (v := .bool n2) (by go_keep); have q3_ := pw_cell_below hb (a := ⟨w.heap.size + 1, 1, none⟩) (v := .slice B m.length d) (by go_keep); have q4_ := Aside0.mk (below_step (by first | exact HB.out | exact below_drew1 HB.out | exact pw_below_drewN HB.out _) hb); have q5_ := Aside0.mk (blk_below (by first | exact B3.out | exact blk_drew B3.out | exact blk_drewN B3.out _) hb); clear ha0 ha1 hb0 hb1 HB B3 hb; have ha0 := q0_; have ha1 := q1_; have hb0 := q2_; have hb1 := q3_; have HB := q4_; have B3 := q5_; clear q0_ q1_ q2_ q3_ q4_ q5_))
  go_wp2
  go_region_held3 (fun w' => w'.cell? ⟨w.heap.size, 0, none⟩ = some (.bool n1) ∧ w'.cell? ⟨w.heap.size, 1, none⟩ = some (.slice A l.length c) ∧ w'.cell? ⟨w.heap.size + 1, 0, none⟩ = some (.bool n2) ∧ w'.cell? ⟨w.heap.size + 1, 1, none⟩ = some (.slice B m.length d))
    (first | exact ⟨by assumption, by assumption, by assumption, by assumption⟩ | exact ⟨by go_keep, by go_keep, by go_keep, by go_keep⟩ | exact ⟨by (rw [World.cell?_setCell_far _ _ _ _ (by dsimp only; omega), World.cell?_setCell_far _ _ _ _ (by dsimp only; omega)]; assumption), by (rw [World.cell?_setCell_far _ _ _ _ (by dsimp only; omega), World.cell?_setCell_far _ _ _ _ (by dsimp only; omega)]; assumption), by (rw [World.cell?_setCell_far _ _ _ _ (by dsimp only; omega), World.cell?_setCell_far _ _ _ _ (by dsimp only; omega)]; assumption), by (rw [World.cell?_setCell_far _ _ _ _ (by dsimp only; omega), World.cell?_setCell_far _ _ _ _ (by dsimp only; omega)]; assumption)⟩)
    (first
      | (go_at_call_of 70 (Value.agg #[.bool n1, .slice A l.length c]); refine (HP.out _ (HL.out.below (by first | exact HB.out | exact below_drew1 HB.out | exact pw_below_drewN HB.out _)).lim).mono ?_; rintro e w1 ⟨rfl, hb⟩; have q0_ := pw_cell_below hb (a := ⟨w.heap.size, 0, none⟩) (v := .bool n1) (by go_keep); have q1_ := pw_cell_below hb (a := ⟨w.heap.size, 1, none⟩) (v := .slice A l.length c) (by go_keep); have q2_ := pw_cell_below hb (a := ⟨w.heap.size + 1, 0, none⟩) (v := .bool n2) (by go_keep); have q3_ := pw_cell_below hb (a := ⟨w.heap.size + 1, 1, none⟩) (v := .slice B m.length d) (by go_keep); have q4_ := Aside0.mk (below_step (by first | exact HB.out | exact below_drew1 HB.out | exact pw_below_drewN HB.out _) hb); have q5_ := Aside0.mk (blk_below (by first | exact B3.out | exact blk_drew B3.out | exact blk_drewN B3.out _) hb); clear ha0 ha1 hb0 hb1 HB B3 hb; have ha0 := q0_; have ha1 := q1_; have hb0 := q2_; have hb1 := q3_; have HB := q4_; have B3 := q5_; clear q0_ q1_ q2_ q3_ q4_ q5_)
      | (go_at_call_of 70 (Value.agg #[.bool n2, .slice B m.length d]); refine (HQ.out _ (HM.out.below (by first | exact HB.out | exact below_drew1 HB.out | exact pw_below_drewN HB.out _)).lim).mono ?_; rintro e w1 ⟨rfl, hb⟩; have q0_ := pw_cell_below hb (a := ⟨w.heap.size, 0, none⟩) (v := .bool n1) (by go_keep); have q1_ := pw_cell_below hb (a := ⟨w.heap.size, 1, none⟩) (v := .slice A l.length c) (by go_keep); have q2_ := pw_cell_below hb (a := ⟨w.heap.size + 1, 0, none⟩) (v := .bool n2) (by go_keep); have q3_ := pw_cell_below hb (a := ⟨w.heap.size + 1, 1, none⟩) (v := .slice B m.length d) (by go_keep); have q4_ := Aside0.mk (below_step (by first | exact HB.out | exact below_drew1 HB.out | exact pw_below_drewN HB.out _) hb); have q5_ := Aside0.mk (blk_below (by first | exact B3.out | exact blk_drew B3.out | exact blk_drewN B3.out _) hb); clear ha0 ha1 hb0 hb1 HB B3 hb; have ha0 := q0_; have ha1 := q1_; have hb0 := q2_; have hb1 := q3_; have HB := q4_; have B3 := q5_; clear q0_ q1_ q2_ q3_ q4_ q5_)
      | (go_at_call_of 54 (Value.slice A l.length c); refine (trim_calls A c l _ (HL.out.below (by first | exact HB.out | exact below_drew1 HB.out | exact pw_below_drewN HB.out _)).lim HL.out.room).mono ?_; rintro e w1 ⟨rfl, nd, rfl⟩)
      | (go_at_call_of 54 (Value.slice B m.length d); refine (trim_calls B d m _ (HM.out.below (by first | exact HB.out | exact below_drew1 HB.out | exact pw_below_drewN HB.out _)).lim HM.out.room).mono ?_; rintro e w1 ⟨rfl, nd, rfl⟩)
      | (go_at_call 73; refine (plus_calls A B c d (tr l) (tr m) _ (HL.out.below (by first | exact HB.out | exact below_drew1 HB.out | exact pw_below_drewN HB.out _)).tr (HM.out.below (by first | exact HB.out | exact below_drew1 HB.out | exact pw_below_drewN HB.out _)).tr (by have := tr_len_le l; have := H1.out; omega) (by have := tr_len_le m; have := H2.out; omega)).mono ?_; rintro e w1 ⟨v, rfl, hnew, hb⟩; obtain ⟨Av, cv, ev, hcv, hlv⟩ := New.lim hnew; subst ev; have NS := Aside0.mk (show Num w1 Av cv (pre (plusF (tr l) (tr m)) (max (tr l).length (tr m).length + 1)) from ⟨hlv, hcv, pre_ok _ _, by rw [pre_length]; have := tr_len_le l; have := tr_len_le m; have := H1.out; have := H2.out; omega⟩); have VS := Aside0.mk (show mag (pre (plusF (tr l) (tr m)) (max (tr l).length (tr m).length + 1)) = mag l + mag m from by rw [plus_value (ok_tr HL.out.ok) (ok_tr HM.out.ok) (Nat.le_max_left _ _) (Nat.le_max_right _ _), mag_tr, mag_tr]); clear hnew hcv hlv; have q0_ := pw_cell_below hb (a := ⟨w.heap.size, 0, none⟩) (v := .bool n1) (by go_keep); have q1_ := pw_cell_below hb (a := ⟨w.heap.size, 1, none⟩) (v := .slice A l.length c) (by go_keep); have q2_ := pw_cell_below hb (a := ⟨w.heap.size + 1, 0, none⟩) (v := .bool n2) (by go_keep); have q3_ := pw_cell_below hb (a := ⟨w.heap.size + 1, 1, none⟩) (v := .slice B m.length d) (by go_keep); have q4_ := Aside0.mk (below_step (by first | exact HB.out | exact below_drew1 HB.out | exact pw_below_drewN HB.out _) hb); have q5_ := Aside0.mk (blk_below (by first | exact B3.out | exact blk_drew B3.out | exact blk_drewN B3.out _) hb); clear ha0 ha1 hb0 hb1 HB B3 hb; have ha0 := q0_; have ha1 := q1_; have hb0 := q2_; have hb1 := q3_; have HB := q4_; have B3 := q5_; clear q0_ q1_ q2_ q3_ q4_ q5_)
      | (go_at_call 51; refine ((made_calls true Av cv (pre (plusF (tr l) (tr m)) (max (tr l).length (tr m).length + 1)) _ NS.out.lim NS.out.room NS.out.ok NS.out.few).mono ?_); rintro e w1 ⟨v, rfl, hnew, hb⟩; rw [VS.out, HR.out] at hnew; rw [VS.out, HR.out]; obtain ⟨Ar, cr, er, _, _⟩ := New.lim hnew; subst er; have RN := Aside0.mk (New.lower (base' := w.heap.size) hnew (below_size (by first | exact HB.out | exact below_drew1 HB.out | exact pw_below_drewN HB.out _))); clear hnew; have q0_ := pw_cell_below hb (a := ⟨w.heap.size, 0, none⟩) (v := .bool n1) (by go_keep); have q1_ := pw_cell_below hb (a := ⟨w.heap.size, 1, none⟩) (v := .slice A l.length c) (by go_keep); have q2_ := pw_cell_below hb (a := ⟨w.heap.size + 1, 0, none⟩) (v := .bool n2) (by go_keep); have q3_ := pw_cell_below hb (a := ⟨w.heap.size + 1, 1, none⟩) (v := .slice B m.length d) (by go_keep); have q4_ := Aside0.mk (below_step (by first | exact HB.out | exact below_drew1 HB.out | exact pw_below_drewN HB.out _) hb); have q5_ := Aside0.mk (blk_below (by first | exact B3.out | exact blk_drew B3.out | exact blk_drewN B3.out _) hb); clear ha0 ha1 hb0 hb1 HB B3 hb; have ha0 := q0_; have ha1 := q1_; have hb0 := q2_; have hb1 := q3_; have HB := q4_; have B3 := q5_; clear q0_ q1_ q2_ q3_ q4_ q5_; have z0 := (cell_at B3.out).1; have z1 := (cell_at B3.out).2; have f0 := blk_frozen B3.out 0; have f1 := blk_frozen B3.out 1))
  go_wp2
  refine bodyPost_ret (results_ct rfl _ _ (w.heap.size + 1 + 1) 25 #[.bool r1, .slice Ar r2.length cr] (0, 0) _ rfl (blk_put (cs := #[.bool r1, .slice none 0 0]) (blk_put (cs := #[.bool false, .slice none 0 0]) B3.out 0 _ rfl) 1 _ rfl) Tryd.underlying25 rfl (by kernel_rfl)) rfl ?_
  exact ⟨_, rfl, New.set (New.set RN.out B3.out 0 _) (blk_put (cs' := #[.bool r1, .slice none 0 0]) B3.out 0 _ rfl) 1 _, below_set (below_set HB.out (by omega)) (by omega)⟩
set_option maxRecDepth 100000 in
set_option maxHeartbeats 8000000 in
theorem add_lt_true (n1 n2 : Bool) (A B : Option Addr) (c d : Nat) (l m : List Int) (w : World) (hl : Num w A c l) (hm : Num w B d m) (h1 : l.length < 8796093022208) (h2 : m.length < 8796093022208) (hp : belowB n1 l = true) (hq : belowB n2 m = false) (hlt : mag l < mag m) :
    Calls Tryd.prog 41 #[.agg #[.bool n1, .slice A l.length c], .agg #[.bool n2, .slice B m.length d]] w (Res w (mk false (mag m - mag l))) := by
  have o0 : cmpN (mag l) (mag m) = -1 := cmpN_neg hlt
  obtain ⟨ov, hov⟩ : ∃ ov, cmpN (mag l) (mag m) = ov := ⟨_, rfl⟩
  rw [hov] at o0
  have HO := Lib.hid (show ∀ W : World, Lim W A l → Lim W B m → Calls Tryd.prog 74 #[.slice A l.length c, .slice B m.length d] W fun e w' => e = .returned (.int .i64 ov) ∧ Drawn0 W w' from fun W hW hW2 => by rw [← hov]; exact order_calls A B c d l m W hW hW2 hl.room hm.room hl.ok hm.ok)
  clear hov
  have o1 : decide (ov < 0) = true := decide_eq_true (by omega)
  clear o0
  have HL := Aside0.mk hl
  have HM := Aside0.mk hm
  have H1 := Aside0.mk h1
  have H2 := Aside0.mk h2
  have HLT := Aside0.mk hlt
  have HP := Lib.hid (show ∀ W : World, Lim W A l → Calls Tryd.prog 70 #[.agg #[.bool n1, .slice A l.length c]] W fun e w' => e = .returned (.bool true) ∧ Below W.heap.size W w' from fun W hW => by rw [← hp]; exact below_calls n1 A c l W hW hl.room)
  have HQ := Lib.hid (show ∀ W : World, Lim W B m → Calls Tryd.prog 70 #[.agg #[.bool n2, .slice B m.length d]] W fun e w' => e = .returned (.bool false) ∧ Below W.heap.size W w' from fun W hW => by rw [← hq]; exact below_calls n2 B d m W hW hm.room)
  generalize hr : mk false (mag m - mag l) = r
  have HR := Aside0.mk hr
  obtain ⟨r1, r2, r3⟩ := r
  clear hl hm h1 h2 hr hp hq hlt
  go_enter Tryd.func41, Tryd.ntmps41
  go_wp2
  obtain ⟨b1, b2, b3⟩ := boxes w (.bool n1) (.slice A l.length c) (.bool n2) (.slice B m.length d)
  have HB := Aside0.mk (below_alloc (below_alloc ((Below.refl w.heap.size w).alloc (Nat.le_refl _) (.cells #[.bool n1, .slice A l.length c] 25 (0, 0))) (.cells #[.bool n2, .slice B m.length d] 25 (0, 0))) (.cells #[.bool false, .slice none 0 0] 25 (0, 0)))
  generalize (((w.alloc (.cells #[.bool n1, .slice A l.length c] 25 (0, 0))).alloc (.cells #[.bool n2, .slice B m.length d] 25 (0, 0))).alloc (.cells #[.bool false, .slice none 0 0] 25 (0, 0))) = W at *
  obtain ⟨ha0, ha1⟩ := cell_at b1
  obtain ⟨hb0, hb1⟩ := cell_at b2
  have B3 := Aside0.mk b3
  clear b1 b2 b3
  go_region_held3 (fun w' => w'.cell? ⟨w.heap.size, 0, none⟩ = some (.bool n1) ∧ w'.cell? ⟨w.heap.size, 1, none⟩ = some (.slice A l.length c) ∧ w'.cell? ⟨w.heap.size + 1, 0, none⟩ = some (.bool n2) ∧ w'.cell? ⟨w.heap.size + 1, 1, none⟩ = some (.slice B m.length d))
    (first | exact ⟨by assumption, by assumption, by assumption, by assumption⟩ | exact ⟨by go_keep, by go_keep, by go_keep, by go_keep⟩ | exact ⟨by (rw [World.cell?_setCell_far _ _ _ _ (by dsimp only; omega), World.cell?_setCell_far _ _ _ _ (by dsimp only; omega)]; assumption), by (rw [World.cell?_setCell_far _ _ _ _ (by dsimp only; omega), World.cell?_setCell_far _ _ _ _ (by dsimp only; omega)]; assumption), by (rw [World.cell?_setCell_far _ _ _ _ (by dsimp only; omega), World.cell?_setCell_far _ _ _ _ (by dsimp only; omega)]; assumption), by (rw [World.cell?_setCell_far _ _ _ _ (by dsimp only; omega), World.cell?_setCell_far _ _ _ _ (by dsimp only; omega)]; assumption)⟩)
    (first
      | (go_at_call_of 70 (Value.agg #[.bool n1, .slice A l.length c]); refine (HP.out _ (HL.out.below (by first | exact HB.out | exact below_drew1 HB.out | exact pw_below_drewN HB.out _)).lim).mono ?_; rintro e w1 ⟨rfl, hb⟩; have q0_ := pw_cell_below hb (a := ⟨w.heap.size, 0, none⟩) (v := .bool n1) (by go_keep); have q1_ := pw_cell_below hb (a := ⟨w.heap.size, 1, none⟩) (v := .slice A l.length c) (by go_keep); have q2_ := pw_cell_below hb (a := ⟨w.heap.size + 1, 0, none⟩) (v := .bool n2) (by go_keep); have q3_ := pw_cell_below hb (a := ⟨w.heap.size + 1, 1, none⟩) (v := .slice B m.length d) (by go_keep); have q4_ := Aside0.mk (below_step (by first | exact HB.out | exact below_drew1 HB.out | exact pw_below_drewN HB.out _) hb); have q5_ := Aside0.mk (blk_below (by first | exact B3.out | exact blk_drew B3.out | exact blk_drewN B3.out _) hb); clear ha0 ha1 hb0 hb1 HB B3 hb; have ha0 := q0_; have ha1 := q1_; have hb0 := q2_; have hb1 := q3_; have HB := q4_; have B3 := q5_; clear q0_ q1_ q2_ q3_ q4_ q5_)
      | (go_at_call_of 70 (Value.agg #[.bool n2, .slice B m.length d]); refine (HQ.out _ (HM.out.below (by first | exact HB.out | exact below_drew1 HB.out | exact pw_below_drewN HB.out _)).lim).mono ?_; rintro e w1 ⟨rfl, hb⟩; have q0_ := pw_cell_below hb (a := ⟨w.heap.size, 0, none⟩) (v := .bool n1) (by go_keep); have q1_ := pw_cell_below hb (a := ⟨w.heap.size, 1, none⟩) (v := .slice A l.length c) (by go_keep); have q2_ := pw_cell_below hb (a := ⟨w.heap.size + 1, 0, none⟩) (v := .bool n2) (by go_keep); have q3_ := pw_cell_below hb (a := ⟨w.heap.size + 1, 1, none⟩) (v := .slice B m.length d) (by go_keep); have q4_ := Aside0.mk (below_step (by first | exact HB.out | exact below_drew1 HB.out | exact pw_below_drewN HB.out _) hb); have q5_ := Aside0.mk (blk_below (by first | exact B3.out | exact blk_drew B3.out | exact blk_drewN B3.out _) hb); clear ha0 ha1 hb0 hb1 HB B3 hb; have ha0 := q0_; have ha1 := q1_; have hb0 := q2_; have hb1 := q3_; have HB := q4_; have B3 := q5_; clear q0_ q1_ q2_ q3_ q4_ q5_))
  go_wp2_with fail
  refine (HO.out _ (HL.out.below (by first | exact HB.out | exact below_drew1 HB.out | exact pw_below_drewN HB.out _)).lim (HM.out.below (by first | exact HB.out | exact below_drew1 HB.out | exact pw_below_drewN HB.out _)).lim).mono ?_
  rintro e w2 ⟨rfl, nd, rfl⟩
  go_wp2
  go_region_held3 (fun w' => w'.cell? ⟨w.heap.size, 0, none⟩ = some (.bool n1) ∧ w'.cell? ⟨w.heap.size, 1, none⟩ = some (.slice A l.length c) ∧ w'.cell? ⟨w.heap.size + 1, 0, none⟩ = some (.bool n2) ∧ w'.cell? ⟨w.heap.size + 1, 1, none⟩ = some (.slice B m.length d))
    (first | exact ⟨by assumption, by assumption, by assumption, by assumption⟩ | exact ⟨by go_keep, by go_keep, by go_keep, by go_keep⟩ | exact ⟨by (rw [World.cell?_setCell_far _ _ _ _ (by dsimp only; omega), World.cell?_setCell_far _ _ _ _ (by dsimp only; omega)]; assumption), by (rw [World.cell?_setCell_far _ _ _ _ (by dsimp only; omega), World.cell?_setCell_far _ _ _ _ (by dsimp only; omega)]; assumption), by (rw [World.cell?_setCell_far _ _ _ _ (by dsimp only; omega), World.cell?_setCell_far _ _ _ _ (by dsimp only; omega)]; assumption), by (rw [World.cell?_setCell_far _ _ _ _ (by dsimp only; omega), World.cell?_setCell_far _ _ _ _ (by dsimp only; omega)]; assumption)⟩)
    (first
      | (go_at_call_of 70 (Value.agg #[.bool n1, .slice A l.length c]); refine (HP.out _ (HL.out.below (by first | exact HB.out | exact below_drew1 HB.out | exact pw_below_drewN HB.out _)).lim).mono ?_; rintro e w1 ⟨rfl, hb⟩; have q0_ := pw_cell_below hb (a := ⟨w.heap.size, 0, none⟩) (v := .bool n1) (by go_keep); have q1_ := pw_cell_below hb (a := ⟨w.heap.size, 1, none⟩) (v := .slice A l.length c) (by go_keep); have q2_ := pw_cell_below hb (a := ⟨w.heap.size + 1, 0, none⟩) (v := .bool n2) (by go_keep); have q3_ := pw_cell_below hb (a := ⟨w.heap.size + 1, 1, none⟩) (v := .slice B m.length d) (by go_keep); have q4_ := Aside0.mk (below_step (by first | exact HB.out | exact below_drew1 HB.out | exact pw_below_drewN HB.out _) hb); have q5_ := Aside0.mk (blk_below (by first | exact B3.out | exact blk_drew B3.out | exact blk_drewN B3.out _) hb); clear ha0 ha1 hb0 hb1 HB B3 hb; have ha0 := q0_; have ha1 := q1_; have hb0 := q2_; have hb1 := q3_; have HB := q4_; have B3 := q5_; clear q0_ q1_ q2_ q3_ q4_ q5_)
      | (go_at_call_of 70 (Value.agg #[.bool n2, .slice B m.length d]); refine (HQ.out _ (HM.out.below (by first | exact HB.out | exact below_drew1 HB.out | exact pw_below_drewN HB.out _)).lim).mono ?_; rintro e w1 ⟨rfl, hb⟩; have q0_ := pw_cell_below hb (a := ⟨w.heap.size, 0, none⟩) (v := .bool n1) (by go_keep); have q1_ := pw_cell_below hb (a := ⟨w.heap.size, 1, none⟩) (v := .slice A l.length c) (by go_keep); have q2_ := pw_cell_below hb (a := ⟨w.heap.size + 1, 0, none⟩) (v := .bool n2) (by go_keep); have q3_ := pw_cell_below hb (a := ⟨w.heap.size + 1, 1, none⟩) (v := .slice B m.length d) (by go_keep); have q4_ := Aside0.mk (below_step (by first | exact HB.out | exact below_drew1 HB.out | exact pw_below_drewN HB.out _) hb); have q5_ := Aside0.mk (blk_below (by first | exact B3.out | exact blk_drew B3.out | exact blk_drewN B3.out _) hb); clear ha0 ha1 hb0 hb1 HB B3 hb; have ha0 := q0_; have ha1 := q1_; have hb0 := q2_; have hb1 := q3_; have HB := q4_; have B3 := q5_; clear q0_ q1_ q2_ q3_ q4_ q5_)
      | (go_at_call_of 54 (Value.slice A l.length c); refine (trim_calls A c l _ (HL.out.below (by first | exact HB.out | exact below_drew1 HB.out | exact pw_below_drewN HB.out _)).lim HL.out.room).mono ?_; rintro e w1 ⟨rfl, nd, rfl⟩)
      | (go_at_call_of 54 (Value.slice B m.length d); refine (trim_calls B d m _ (HM.out.below (by first | exact HB.out | exact below_drew1 HB.out | exact pw_below_drewN HB.out _)).lim HM.out.room).mono ?_; rintro e w1 ⟨rfl, nd, rfl⟩)
      | (go_at_call 71; refine (less_calls B A d c (tr m) (tr l) _ (HM.out.below (by first | exact HB.out | exact below_drew1 HB.out | exact pw_below_drewN HB.out _)).tr (HL.out.below (by first | exact HB.out | exact below_drew1 HB.out | exact pw_below_drewN HB.out _)).tr).mono ?_; rintro e w1 ⟨v, rfl, hnew, hb⟩; obtain ⟨Av, cv, ev, hcv, hlv⟩ := New.lim hnew; subst ev; have NS := Aside0.mk (show Num w1 Av cv (pre (lessF (tr m) (tr l)) (tr m).length) from ⟨hlv, hcv, pre_ok _ _, by rw [pre_length]; have := tr_len_le l; have := tr_len_le m; have := H1.out; have := H2.out; omega⟩); have VS := Aside0.mk (show mag (pre (lessF (tr m) (tr l)) (tr m).length) = mag m - mag l from by rw [less_value (ok_tr HM.out.ok) (ok_tr HL.out.ok) (by rw [mag_tr, mag_tr]; have := HLT.out; omega), mag_tr, mag_tr]); clear hnew hcv hlv; have q0_ := pw_cell_below hb (a := ⟨w.heap.size, 0, none⟩) (v := .bool n1) (by go_keep); have q1_ := pw_cell_below hb (a := ⟨w.heap.size, 1, none⟩) (v := .slice A l.length c) (by go_keep); have q2_ := pw_cell_below hb (a := ⟨w.heap.size + 1, 0, none⟩) (v := .bool n2) (by go_keep); have q3_ := pw_cell_below hb (a := ⟨w.heap.size + 1, 1, none⟩) (v := .slice B m.length d) (by go_keep); have q4_ := Aside0.mk (below_step (by first | exact HB.out | exact below_drew1 HB.out | exact pw_below_drewN HB.out _) hb); have q5_ := Aside0.mk (blk_below (by first | exact B3.out | exact blk_drew B3.out | exact blk_drewN B3.out _) hb); clear ha0 ha1 hb0 hb1 HB B3 hb; have ha0 := q0_; have ha1 := q1_; have hb0 := q2_; have hb1 := q3_; have HB := q4_; have B3 := q5_; clear q0_ q1_ q2_ q3_ q4_ q5_)
      | (go_at_call 51; refine ((made_calls false Av cv (pre (lessF (tr m) (tr l)) (tr m).length) _ NS.out.lim NS.out.room NS.out.ok NS.out.few).mono ?_); rintro e w1 ⟨v, rfl, hnew, hb⟩; rw [VS.out, HR.out] at hnew; rw [VS.out, HR.out]; obtain ⟨Ar, cr, er, _, _⟩ := New.lim hnew; subst er; have RN := Aside0.mk (New.lower (base' := w.heap.size) hnew (below_size (by first | exact HB.out | exact below_drew1 HB.out | exact pw_below_drewN HB.out _))); clear hnew; have q0_ := pw_cell_below hb (a := ⟨w.heap.size, 0, none⟩) (v := .bool n1) (by go_keep); have q1_ := pw_cell_below hb (a := ⟨w.heap.size, 1, none⟩) (v := .slice A l.length c) (by go_keep); have q2_ := pw_cell_below hb (a := ⟨w.heap.size + 1, 0, none⟩) (v := .bool n2) (by go_keep); have q3_ := pw_cell_below hb (a := ⟨w.heap.size + 1, 1, none⟩) (v := .slice B m.length d) (by go_keep); have q4_ := Aside0.mk (below_step (by first | exact HB.out | exact below_drew1 HB.out | exact pw_below_drewN HB.out _) hb); have q5_ := Aside0.mk (blk_below (by first | exact B3.out | exact blk_drew B3.out | exact blk_drewN B3.out _) hb); clear ha0 ha1 hb0 hb1 HB B3 hb; have ha0 := q0_; have ha1 := q1_; have hb0 := q2_; have hb1 := q3_; have HB := q4_; have B3 := q5_; clear q0_ q1_ q2_ q3_ q4_ q5_; have z0 := (cell_at B3.out).1; have z1 := (cell_at B3.out).2; have f0 := blk_frozen B3.out 0; have f1 := blk_frozen B3.out 1))
  go_wp2
  refine bodyPost_ret (results_ct rfl _ _ (w.heap.size + 1 + 1) 25 #[.bool r1, .slice Ar r2.length cr] (0, 0) _ rfl (blk_put (cs := #[.bool r1, .slice none 0 0]) (blk_put (cs := #[.bool false, .slice none 0 0]) B3.out 0 _ rfl) 1 _ rfl) Tryd.underlying25 rfl (by kernel_rfl)) rfl ?_
  exact ⟨_, rfl, New.set (New.set RN.out B3.out 0 _) (blk_put (cs' := #[.bool r1, .slice none 0 0]) B3.out 0 _ rfl) 1 _, below_set (below_set HB.out (by omega)) (by omega)⟩
set_option maxRecDepth 100000 in
set_option maxHeartbeats 8000000 in
theorem add_ge_true (n1 n2 : Bool) (A B : Option Addr) (c d : Nat) (l m : List Int) (w : World) (hl : Num w A c l) (hm : Num w B d m) (h1 : l.length < 8796093022208) (h2 : m.length < 8796093022208) (hp : belowB n1 l = true) (hq : belowB n2 m = false) (hlt : ¬ mag l < mag m) :
    Calls Tryd.prog 41 #[.agg #[.bool n1, .slice A l.length c], .agg #[.bool n2, .slice B m.length d]] w (Res w (mk true (mag l - mag m))) := by
  have o0 := cmpN_nonneg hlt
  obtain ⟨ov, hov⟩ : ∃ ov, cmpN (mag l) (mag m) = ov := ⟨_, rfl⟩
  rw [hov] at o0
  have HO := Lib.hid (show ∀ W : World, Lim W A l → Lim W B m → Calls Tryd.prog 74 #[.slice A l.length c, .slice B m.length d] W fun e w' => e = .returned (.int .i64 ov) ∧ Drawn0 W w' from fun W hW hW2 => by rw [← hov]; exact order_calls A B c d l m W hW hW2 hl.room hm.room hl.ok hm.ok)
  clear hov
  have o1 : decide (ov < 0) = false := decide_eq_false (by omega)
  clear o0
  have HL := Aside0.mk hl
  have HM := Aside0.mk hm
  have H1 := Aside0.mk h1
  have H2 := Aside0.mk h2
  have HLT := Aside0.mk hlt
  have HP := Lib.hid (show ∀ W : World, Lim W A l → Calls Tryd.prog 70 #[.agg #[.bool n1, .slice A l.length c]] W fun e w' => e = .returned (.bool true) ∧ Below W.heap.size W w' from fun W hW => by rw [← hp]; exact below_calls n1 A c l W hW hl.room)
  have HQ := Lib.hid (show ∀ W : World, Lim W B m → Calls Tryd.prog 70 #[.agg #[.bool n2, .slice B m.length d]] W fun e w' => e = .returned (.bool false) ∧ Below W.heap.size W w' from fun W hW => by rw [← hq]; exact below_calls n2 B d m W hW hm.room)
  generalize hr : mk true (mag l - mag m) = r
  have HR := Aside0.mk hr
  obtain ⟨r1, r2, r3⟩ := r
  clear hl hm h1 h2 hr hp hq hlt
  go_enter Tryd.func41, Tryd.ntmps41
  go_wp2
  obtain ⟨b1, b2, b3⟩ := boxes w (.bool n1) (.slice A l.length c) (.bool n2) (.slice B m.length d)
  have HB := Aside0.mk (below_alloc (below_alloc ((Below.refl w.heap.size w).alloc (Nat.le_refl _) (.cells #[.bool n1, .slice A l.length c] 25 (0, 0))) (.cells #[.bool n2, .slice B m.length d] 25 (0, 0))) (.cells #[.bool false, .slice none 0 0] 25 (0, 0)))
  generalize (((w.alloc (.cells #[.bool n1, .slice A l.length c] 25 (0, 0))).alloc (.cells #[.bool n2, .slice B m.length d] 25 (0, 0))).alloc (.cells #[.bool false, .slice none 0 0] 25 (0, 0))) = W at *
  obtain ⟨ha0, ha1⟩ := cell_at b1
  obtain ⟨hb0, hb1⟩ := cell_at b2
  have B3 := Aside0.mk b3
  clear b1 b2 b3
  go_region_held3 (fun w' => w'.cell? ⟨w.heap.size, 0, none⟩ = some (.bool n1) ∧ w'.cell? ⟨w.heap.size, 1, none⟩ = some (.slice A l.length c) ∧ w'.cell? ⟨w.heap.size + 1, 0, none⟩ = some (.bool n2) ∧ w'.cell? ⟨w.heap.size + 1, 1, none⟩ = some (.slice B m.length d))
    (first | exact ⟨by assumption, by assumption, by assumption, by assumption⟩ | exact ⟨by go_keep, by go_keep, by go_keep, by go_keep⟩ | exact ⟨by (rw [World.cell?_setCell_far _ _ _ _ (by dsimp only; omega), World.cell?_setCell_far _ _ _ _ (by dsimp only; omega)]; assumption), by (rw [World.cell?_setCell_far _ _ _ _ (by dsimp only; omega), World.cell?_setCell_far _ _ _ _ (by dsimp only; omega)]; assumption), by (rw [World.cell?_setCell_far _ _ _ _ (by dsimp only; omega), World.cell?_setCell_far _ _ _ _ (by dsimp only; omega)]; assumption), by (rw [World.cell?_setCell_far _ _ _ _ (by dsimp only; omega), World.cell?_setCell_far _ _ _ _ (by dsimp only; omega)]; assumption)⟩)
    (first
      | (go_at_call_of 70 (Value.agg #[.bool n1, .slice A l.length c]); refine (HP.out _ (HL.out.below (by first | exact HB.out | exact below_drew1 HB.out | exact pw_below_drewN HB.out _)).lim).mono ?_; rintro e w1 ⟨rfl, hb⟩; have q0_ := pw_cell_below hb (a := ⟨w.heap.size, 0, none⟩) (v := .bool n1) (by go_keep); have q1_ := pw_cell_below hb (a := ⟨w.heap.size, 1, none⟩) (v := .slice A l.length c) (by go_keep); have q2_ := pw_cell_below hb (a := ⟨w.heap.size + 1, 0, none⟩) (v := .bool n2) (by go_keep); have q3_ := pw_cell_below hb (a := ⟨w.heap.size + 1, 1, none⟩) (v := .slice B m.length d) (by go_keep); have q4_ := Aside0.mk (below_step (by first | exact HB.out | exact below_drew1 HB.out | exact pw_below_drewN HB.out _) hb); have q5_ := Aside0.mk (blk_below (by first | exact B3.out | exact blk_drew B3.out | exact blk_drewN B3.out _) hb); clear ha0 ha1 hb0 hb1 HB B3 hb; have ha0 := q0_; have ha1 := q1_; have hb0 := q2_; have hb1 := q3_; have HB := q4_; have B3 := q5_; clear q0_ q1_ q2_ q3_ q4_ q5_)
      | (go_at_call_of 70 (Value.agg #[.bool n2, .slice B m.length d]); refine (HQ.out _ (HM.out.below (by first | exact HB.out | exact below_drew1 HB.out | exact pw_below_drewN HB.out _)).lim).mono ?_; rintro e w1 ⟨rfl, hb⟩; have q0_ := pw_cell_below hb (a := ⟨w.heap.size, 0, none⟩) (v := .bool n1) (by go_keep); have q1_ := pw_cell_below hb (a := ⟨w.heap.size, 1, none⟩) (v := .slice A l.length c) (by go_keep); have q2_ := pw_cell_below hb (a := ⟨w.heap.size + 1, 0, none⟩) (v := .bool n2) (by go_keep); have q3_ := pw_cell_below hb (a := ⟨w.heap.size + 1, 1, none⟩) (v := .slice B m.length d) (by go_keep); have q4_ := Aside0.mk (below_step (by first | exact HB.out | exact below_drew1 HB.out | exact pw_below_drewN HB.out _) hb); have q5_ := Aside0.mk (blk_below (by first | exact B3.out | exact blk_drew B3.out | exact blk_drewN B3.out _) hb); clear ha0 ha1 hb0 hb1 HB B3 hb; have ha0 := q0_; have ha1 := q1_; have hb0 := q2_; have hb1 := q3_; have HB := q4_; have B3 := q5_; clear q0_ q1_ q2_ q3_ q4_ q5_))
  go_wp2_with fail
  refine (HO.out _ (HL.out.below (by first | exact HB.out | exact below_drew1 HB.out | exact pw_below_drewN HB.out _)).lim (HM.out.below (by first | exact HB.out | exact below_drew1 HB.out | exact pw_below_drewN HB.out _)).lim).mono ?_
  rintro e w2 ⟨rfl, nd, rfl⟩
  go_wp2
  go_region_held3 (fun w' => w'.cell? ⟨w.heap.size, 0, none⟩ = some (.bool n1) ∧ w'.cell? ⟨w.heap.size, 1, none⟩ = some (.slice A l.length c) ∧ w'.cell? ⟨w.heap.size + 1, 0, none⟩ = some (.bool n2) ∧ w'.cell? ⟨w.heap.size + 1, 1, none⟩ = some (.slice B m.length d))
    (first | exact ⟨by assumption, by assumption, by assumption, by assumption⟩ | exact ⟨by go_keep, by go_keep, by go_keep, by go_keep⟩ | exact ⟨by (rw [World.cell?_setCell_far _ _ _ _ (by dsimp only; omega), World.cell?_setCell_far _ _ _ _ (by dsimp only; omega)]; assumption), by (rw [World.cell?_setCell_far _ _ _ _ (by dsimp only; omega), World.cell?_setCell_far _ _ _ _ (by dsimp only; omega)]; assumption), by (rw [World.cell?_setCell_far _ _ _ _ (by dsimp only; omega), World.cell?_setCell_far _ _ _ _ (by dsimp only; omega)]; assumption), by (rw [World.cell?_setCell_far _ _ _ _ (by dsimp only; omega), World.cell?_setCell_far _ _ _ _ (by dsimp only; omega)]; assumption)⟩)
    (first
      | (go_at_call_of 70 (Value.agg #[.bool n1, .slice A l.length c]); refine (HP.out _ (HL.out.below (by first | exact HB.out | exact below_drew1 HB.out | exact pw_below_drewN HB.out _)).lim).mono ?_; rintro e w1 ⟨rfl, hb⟩; have q0_ := pw_cell_below hb (a := ⟨w.heap.size, 0, none⟩) (v := .bool n1) (by go_keep); have q1_ := pw_cell_below hb (a := ⟨w.heap.size, 1, none⟩) (v := .slice A l.length c) (by go_keep); have q2_ := pw_cell_below hb (a := ⟨w.heap.size + 1, 0, none⟩) (v := .bool n2) (by go_keep); have q3_ := pw_cell_below hb (a := ⟨w.heap.size + 1, 1, none⟩) (v := .slice B m.length d) (by go_keep); have q4_ := Aside0.mk (below_step (by first | exact HB.out | exact below_drew1 HB.out | exact pw_below_drewN HB.out _) hb); have q5_ := Aside0.mk (blk_below (by first | exact B3.out | exact blk_drew B3.out | exact blk_drewN B3.out _) hb); clear ha0 ha1 hb0 hb1 HB B3 hb; have ha0 := q0_; have ha1 := q1_; have hb0 := q2_; have hb1 := q3_; have HB := q4_; have B3 := q5_; clear q0_ q1_ q2_ q3_ q4_ q5_)
      | (go_at_call_of 70 (Value.agg #[.bool n2, .slice B m.length d]); refine (HQ.out _ (HM.out.below (by first | exact HB.out | exact below_drew1 HB.out | exact pw_below_drewN HB.out _)).lim).mono ?_; rintro e w1 ⟨rfl, hb⟩; have q0_ := pw_cell_below hb (a := ⟨w.heap.size, 0, none⟩) (v := .bool n1) (by go_keep); have q1_ := pw_cell_below hb (a := ⟨w.heap.size, 1, none⟩) (v := .slice A l.length c) (by go_keep); have q2_ := pw_cell_below hb (a := ⟨w.heap.size + 1, 0, none⟩) (v := .bool n2) (by go_keep); have q3_ := pw_cell_below hb (a := ⟨w.heap.size + 1, 1, none⟩) (v := .slice B m.length d) (by go_keep); have q4_ := Aside0.mk (below_step (by first | exact HB.out | exact below_drew1 HB.out | exact pw_below_drewN HB.out _) hb); have q5_ := Aside0.mk (blk_below (by first | exact B3.out | exact blk_drew B3.out | exact blk_drewN B3.out _) hb); clear ha0 ha1 hb0 hb1 HB B3 hb; have ha0 := q0_; have ha1 := q1_; have hb0 := q2_; have hb1 := q3_; have HB := q4_; have B3 := q5_; clear q0_ q1_ q2_ q3_ q4_ q5_)
      | (go_at_call_of 54 (Value.slice A l.length c); refine (trim_calls A c l _ (HL.out.below (by first | exact HB.out | exact below_drew1 HB.out | exact pw_below_drewN HB.out _)).lim HL.out.room).mono ?_; rintro e w1 ⟨rfl, nd, rfl⟩)
      | (go_at_call_of 54 (Value.slice B m.length d); refine (trim_calls B d m _ (HM.out.below (by first | exact HB.out | exact below_drew1 HB.out | exact pw_below_drewN HB.out _)).lim HM.out.room).mono ?_; rintro e w1 ⟨rfl, nd, rfl⟩)
      | (go_at_call 71; refine (less_calls A B c d (tr l) (tr m) _ (HL.out.below (by first | exact HB.out | exact below_drew1 HB.out | exact pw_below_drewN HB.out _)).tr (HM.out.below (by first | exact HB.out | exact below_drew1 HB.out | exact pw_below_drewN HB.out _)).tr).mono ?_; rintro e w1 ⟨v, rfl, hnew, hb⟩; obtain ⟨Av, cv, ev, hcv, hlv⟩ := New.lim hnew; subst ev; have NS := Aside0.mk (show Num w1 Av cv (pre (lessF (tr l) (tr m)) (tr l).length) from ⟨hlv, hcv, pre_ok _ _, by rw [pre_length]; have := tr_len_le l; have := tr_len_le m; have := H1.out; have := H2.out; omega⟩); have VS := Aside0.mk (show mag (pre (lessF (tr l) (tr m)) (tr l).length) = mag l - mag m from by rw [less_value (ok_tr HL.out.ok) (ok_tr HM.out.ok) (by rw [mag_tr, mag_tr]; have := HLT.out; omega), mag_tr, mag_tr]); clear hnew hcv hlv; have q0_ := pw_cell_below hb (a := ⟨w.heap.size, 0, none⟩) (v := .bool n1) (by go_keep); have q1_ := pw_cell_below hb (a := ⟨w.heap.size, 1, none⟩) (v := .slice A l.length c) (by go_keep); have q2_ := pw_cell_below hb (a := ⟨w.heap.size + 1, 0, none⟩) (v := .bool n2) (by go_keep); have q3_ := pw_cell_below hb (a := ⟨w.heap.size + 1, 1, none⟩) (v := .slice B m.length d) (by go_keep); have q4_ := Aside0.mk (below_step (by first | exact HB.out | exact below_drew1 HB.out | exact pw_below_drewN HB.out _) hb); have q5_ := Aside0.mk (blk_below (by first | exact B3.out | exact blk_drew B3.out | exact blk_drewN B3.out _) hb); clear ha0 ha1 hb0 hb1 HB B3 hb; have ha0 := q0_; have ha1 := q1_; have hb0 := q2_; have hb1 := q3_; have HB := q4_; have B3 := q5_; clear q0_ q1_ q2_ q3_ q4_ q5_)
      | (go_at_call 51; refine ((made_calls true Av cv (pre (lessF (tr l) (tr m)) (tr l).length) _ NS.out.lim NS.out.room NS.out.ok NS.out.few).mono ?_); rintro e w1 ⟨v, rfl, hnew, hb⟩; rw [VS.out, HR.out] at hnew; rw [VS.out, HR.out]; obtain ⟨Ar, cr, er, _, _⟩ := New.lim hnew; subst er; have RN := Aside0.mk (New.lower (base' := w.heap.size) hnew (below_size (by first | exact HB.out | exact below_drew1 HB.out | exact pw_below_drewN HB.out _))); clear hnew; have q0_ := pw_cell_below hb (a := ⟨w.heap.size, 0, none⟩) (v := .bool n1) (by go_keep); have q1_ := pw_cell_below hb (a := ⟨w.heap.size, 1, none⟩) (v := .slice A l.length c) (by go_keep); have q2_ := pw_cell_below hb (a := ⟨w.heap.size + 1, 0, none⟩) (v := .bool n2) (by go_keep); have q3_ := pw_cell_below hb (a := ⟨w.heap.size + 1, 1, none⟩) (v := .slice B m.length d) (by go_keep); have q4_ := Aside0.mk (below_step (by first | exact HB.out | exact below_drew1 HB.out | exact pw_below_drewN HB.out _) hb); have q5_ := Aside0.mk (blk_below (by first | exact B3.out | exact blk_drew B3.out | exact blk_drewN B3.out _) hb); clear ha0 ha1 hb0 hb1 HB B3 hb; have ha0 := q0_; have ha1 := q1_; have hb0 := q2_; have hb1 := q3_; have HB := q4_; have B3 := q5_; clear q0_ q1_ q2_ q3_ q4_ q5_; have z0 := (cell_at B3.out).1; have z1 := (cell_at B3.out).2; have f0 := blk_frozen B3.out 0; have f1 := blk_frozen B3.out 1))
  go_wp2
  refine bodyPost_ret (results_ct rfl _ _ (w.heap.size + 1 + 1) 25 #[.bool r1, .slice Ar r2.length cr] (0, 0) _ rfl (blk_put (cs := #[.bool r1, .slice none 0 0]) (blk_put (cs := #[.bool false, .slice none 0 0]) B3.out 0 _ rfl) 1 _ rfl) Tryd.underlying25 rfl (by kernel_rfl)) rfl ?_
  exact ⟨_, rfl, New.set (New.set RN.out B3.out 0 _) (blk_put (cs' := #[.bool r1, .slice none 0 0]) B3.out 0 _ rfl) 1 _, below_set (below_set HB.out (by omega)) (by omega)⟩
set_option maxRecDepth 100000 in
set_option maxHeartbeats 8000000 in
theorem add_same_false (n1 n2 : Bool) (A B : Option Addr) (c d : Nat) (l m : List Int) (w : World) (hl : Num w A c l) (hm : Num w B d m) (h1 : l.length < 8796093022208) (h2 : m.length < 8796093022208) (hp : belowB n1 l = false) (hq : belowB n2 m = false) (hlt : True) :
    Calls Tryd.prog 41 #[.agg #[.bool n1, .slice A l.length c], .agg #[.bool n2, .slice B m.length d]] w (Res w (mk false (mag l + mag m))) := by
  have HL := Aside0.mk hl
  have HM := Aside0.mk hm
  have H1 := Aside0.mk h1
  have H2 := Aside0.mk h2
  have HLT := Aside0.mk hlt
  have HP := Lib.hid (show ∀ W : World, Lim W A l → Calls Tryd.prog 70 #[.agg #[.bool n1, .slice A l.length c]] W fun e w' => e = .returned (.bool false) ∧ Below W.heap.size W w' from fun W hW => by rw [← hp]; exact below_calls n1 A c l W hW hl.room)
  have HQ := Lib.hid (show ∀ W : World, Lim W B m → Calls Tryd.prog 70 #[.agg #[.bool n2, .slice B m.length d]] W fun e w' => e = .returned (.bool false) ∧ Below W.heap.size W w' from fun W hW => by rw [← hq]; exact below_calls n2 B d m W hW hm.room)
  generalize hr : mk false (mag l + mag m) = r
  have HR := Aside0.mk hr
  obtain ⟨r1, r2, r3⟩ := r
  clear hl hm h1 h2 hr hp hq hlt
  go_enter Tryd.func41, Tryd.ntmps41
  go_wp2
  obtain ⟨b1, b2, b3⟩ := boxes w (.bool n1) (.slice A l.length c) (.bool n2) (.slice B m.length d)
  have HB := Aside0.mk (below_alloc (below_alloc ((Below.refl w.heap.size w).alloc (Nat.le_refl _) (.cells #[.bool n1, .slice A l.length c] 25 (0, 0))) (.cells #[.bool n2, .slice B m.length d] 25 (0, 0))) (.cells #[.bool false, .slice none 0 0] 25 (0, 0)))
  generalize (((w.alloc (.cells #[.bool n1, .slice A l.length c] 25 (0, 0))).alloc (.cells #[.bool n2, .slice B m.length d] 25 (0, 0))).alloc (.cells #[.bool false, .slice none 0 0] 25 (0, 0))) = W at *
  obtain ⟨ha0, ha1⟩ := cell_at b1
  obtain ⟨hb0, hb1⟩ := cell_at b2
  have B3 := Aside0.mk b3
  clear b1 b2 b3
  go_region_held3 (fun w' => w'.cell? ⟨w.heap.size, 0, none⟩ = some (.bool n1) ∧ w'.cell? ⟨w.heap.size, 1, none⟩ = some (.slice A l.length c) ∧ w'.cell? ⟨w.heap.size + 1, 0, none⟩ = some (.bool n2) ∧ w'.cell? ⟨w.heap.size + 1, 1, none⟩ = some (.slice B m.length d))
    (first | exact ⟨by assumption, by assumption, by assumption, by assumption⟩ | exact ⟨by go_keep, by go_keep, by go_keep, by go_keep⟩ | exact ⟨by (rw [World.cell?_setCell_far _ _ _ _ (by dsimp only; omega), World.cell?_setCell_far _ _ _ _ (by dsimp only; omega)]; assumption), by (rw [World.cell?_setCell_far _ _ _ _ (by dsimp only; omega), World.cell?_setCell_far _ _ _ _ (by dsimp only; omega)]; assumption), by (rw [World.cell?_setCell_far _ _ _ _ (by dsimp only; omega), World.cell?_setCell_far _ _ _ _ (by dsimp only; omega)]; assumption), by (rw [World.cell?_setCell_far _ _ _ _ (by dsimp only; omega), World.cell?_setCell_far _ _ _ _ (by dsimp only; omega)]; assumption)⟩)
    (first
      | (go_at_call_of 70 (Value.agg #[.bool n1, .slice A l.length c]); refine (HP.out _ (HL.out.below (by first | exact HB.out | exact below_drew1 HB.out | exact pw_below_drewN HB.out _)).lim).mono ?_; rintro e w1 ⟨rfl, hb⟩; have q0_ := pw_cell_below hb (a := ⟨w.heap.size, 0, none⟩) (v := .bool n1) (by go_keep); have q1_ := pw_cell_below hb (a := ⟨w.heap.size, 1, none⟩) (v := .slice A l.length c) (by go_keep); have q2_ := pw_cell_below hb (a := ⟨w.heap.size + 1, 0, none⟩) (v := .bool n2) (by go_keep); have q3_ := pw_cell_below hb (a := ⟨w.heap.size + 1, 1, none⟩) (v := .slice B m.length d) (by go_keep); have q4_ := Aside0.mk (below_step (by first | exact HB.out | exact below_drew1 HB.out | exact pw_below_drewN HB.out _) hb); have q5_ := Aside0.mk (blk_below (by first | exact B3.out | exact blk_drew B3.out | exact blk_drewN B3.out _) hb); clear ha0 ha1 hb0 hb1 HB B3 hb; have ha0 := q0_; have ha1 := q1_; have hb0 := q2_; have hb1 := q3_; have HB := q4_; have B3 := q5_; clear q0_ q1_ q2_ q3_ q4_ q5_)
      | (go_at_call_of 70 (Value.agg #[.bool n2, .slice B m.length d]); refine (HQ.out _ (HM.out.below (by first | exact HB.out | exact below_drew1 HB.out | exact pw_below_drewN HB.out _)).lim).mono ?_; rintro e w1 ⟨rfl, hb⟩; have q0_ := pw_cell_below hb (a := ⟨w.heap.size, 0, none⟩) (v := .bool n1) (by go_keep); have q1_ := pw_cell_below hb (a := ⟨w.heap.size, 1, none⟩) (v := .slice A l.length c) (by go_keep); have q2_ := pw_cell_below hb (a := ⟨w.heap.size + 1, 0, none⟩) (v := .bool n2) (by go_keep); have q3_ := pw_cell_below hb (a := ⟨w.heap.size + 1, 1, none⟩) (v := .slice B m.length d) (by go_keep); have q4_ := Aside0.mk (below_step (by first | exact HB.out | exact below_drew1 HB.out | exact pw_below_drewN HB.out _) hb); have q5_ := Aside0.mk (blk_below (by first | exact B3.out | exact blk_drew B3.out | exact blk_drewN B3.out _) hb); clear ha0 ha1 hb0 hb1 HB B3 hb; have ha0 := q0_; have ha1 := q1_; have hb0 := q2_; have hb1 := q3_; have HB := q4_; have B3 := q5_; clear q0_ q1_ q2_ q3_ q4_ q5_))
  go_wp2
  go_region_held3 (fun w' => w'.cell? ⟨w.heap.size, 0, none⟩ = some (.bool n1) ∧ w'.cell? ⟨w.heap.size, 1, none⟩ = some (.slice A l.length c) ∧ w'.cell? ⟨w.heap.size + 1, 0, none⟩ = some (.bool n2) ∧ w'.cell? ⟨w.heap.size + 1, 1, none⟩ = some (.slice B m.length d))
    (first | exact ⟨by assumption, by assumption, by assumption, by assumption⟩ | exact ⟨by go_keep, by go_keep, by go_keep, by go_keep⟩ | exact ⟨by (rw [World.cell?_setCell_far _ _ _ _ (by dsimp only; omega), World.cell?_setCell_far _ _ _ _ (by dsimp only; omega)]; assumption), by (rw [World.cell?_setCell_far _ _ _ _ (by dsimp only; omega), World.cell?_setCell_far _ _ _ _ (by dsimp only; omega)]; assumption), by (rw [World.cell?_setCell_far _ _ _ _ (by dsimp only; omega), World.cell?_setCell_far _ _ _ _ (by dsimp only; omega)]; assumption), by (rw [World.cell?_setCell_far _ _ _ _ (by dsimp only; omega), World.cell?_setCell_far _ _ _ _ (by dsimp only; omega)]; assumption)⟩)
    (first
      | (go_at_call_of 70 (Value.agg #[.bool n1, .slice A l.length c]); refine (HP.out _ (HL.out.below (by first | exact HB.out | exact below_drew1 HB.out | exact pw_below_drewN HB.out _)).lim).mono ?_; rintro e w1 ⟨rfl, hb⟩; have q0_ := pw_cell_below hb (a := ⟨w.heap.size, 0, none⟩) (v := .bool n1) (by go_keep); have q1_ := pw_cell_below hb (a := ⟨w.heap.size, 1, none⟩) (v := .slice A l.length c) (by go_keep); have q2_ := pw_cell_below hb (a := ⟨w.heap.size + 1, 0, none⟩) (v := .bool n2) (by go_keep); have q3_ := pw_cell_below hb (a := ⟨w.heap.size + 1, 1, none⟩) (v := .slice B m.length d) (by go_keep); have q4_ := Aside0.mk (below_step (by first | exact HB.out | exact below_drew1 HB.out | exact pw_below_drewN HB.out _) hb); have q5_ := Aside0.mk (blk_below (by first | exact B3.out | exact blk_drew B3.out | exact blk_drewN B3.out _) hb); clear ha0 ha1 hb0 hb1 HB B3 hb; have ha0 := q0_; have ha1 := q1_; have hb0 := q2_; have hb1 := q3_; have HB := q4_; have B3 := q5_; clear q0_ q1_ q2_ q3_ q4_ q5_)
      | (go_at_call_of 70 (Value.agg #[.bool n2, .slice B m.length d]); refine (HQ.out _ (HM.out.below (by first | exact HB.out | exact below_drew1 HB.out | exact pw_below_drewN HB.out _)).lim).mono ?_; rintro e w1 ⟨rfl, hb⟩; have q0_ := pw_cell_below hb (a := ⟨w.heap.size, 0, none⟩) (v := .bool n1) (by go_keep); have q1_ := pw_cell_below hb (a := ⟨w.heap.size, 1, none⟩) (v := .slice A l.length c) (by go_keep); have q2_ := pw_cell_below hb (a := ⟨w.heap.size + 1, 0, none⟩) (v := .bool n2) (by go_keep); have q3_ := pw_cell_below hb (a := ⟨w.heap.size + 1, 1, none⟩) (v := .slice B m.length d) (by go_keep); have q4_ := Aside0.mk (below_step (by first | exact HB.out | exact below_drew1 HB.out | exact pw_below_drewN HB.out _) hb); have q5_ := Aside0.mk (blk_below (by first | exact B3.out | exact blk_drew B3.out | exact blk_drewN B3.out _) hb); clear ha0 ha1 hb0 hb1 HB B3 hb; have ha0 := q0_; have ha1 := q1_; have hb0 := q2_; have hb1 := q3_; have HB := q4_; have B3 := q5_; clear q0_ q1_ q2_ q3_ q4_ q5_)
      | (go_at_call_of 54 (Value.slice A l.length c); refine (trim_calls A c l _ (HL.out.below (by first | exact HB.out | exact below_drew1 HB.out | exact pw_below_drewN HB.out _)).lim HL.out.room).mono ?_; rintro e w1 ⟨rfl, nd, rfl⟩)
      | (go_at_call_of 54 (Value.slice B m.length d); refine (trim_calls B d m _ (HM.out.below (by first | exact HB.out | exact below_drew1 HB.out | exact pw_below_drewN HB.out _)).lim HM.out.room).mono ?_; rintro e w1 ⟨rfl, nd, rfl⟩)
      | (go_at_call 73; refine (plus_calls A B c d (tr l) (tr m) _ (HL.out.below (by first | exact HB.out | exact below_drew1 HB.out | exact pw_below_drewN HB.out _)).tr (HM.out.below (by first | exact HB.out | exact below_drew1 HB.out | exact pw_below_drewN HB.out _)).tr (by have := tr_len_le l; have := H1.out; omega) (by have := tr_len_le m; have := H2.out; omega)).mono ?_; rintro e w1 ⟨v, rfl, hnew, hb⟩; obtain ⟨Av, cv, ev, hcv, hlv⟩ := New.lim hnew; subst ev; have NS := Aside0.mk (show Num w1 Av cv (pre (plusF (tr l) (tr m)) (max (tr l).length (tr m).length + 1)) from ⟨hlv, hcv, pre_ok _ _, by rw [pre_length]; have := tr_len_le l; have := tr_len_le m; have := H1.out; have := H2.out; omega⟩); have VS := Aside0.mk (show mag (pre (plusF (tr l) (tr m)) (max (tr l).length (tr m).length + 1)) = mag l + mag m from by rw [plus_value (ok_tr HL.out.ok) (ok_tr HM.out.ok) (Nat.le_max_left _ _) (Nat.le_max_right _ _), mag_tr, mag_tr]); clear hnew hcv hlv; have q0_ := pw_cell_below hb (a := ⟨w.heap.size, 0, none⟩) (v := .bool n1) (by go_keep); have q1_ := pw_cell_below hb (a := ⟨w.heap.size, 1, none⟩) (v := .slice A l.length c) (by go_keep); have q2_ := pw_cell_below hb (a := ⟨w.heap.size + 1, 0, none⟩) (v := .bool n2) (by go_keep); have q3_ := pw_cell_below hb (a := ⟨w.heap.size + 1, 1, none⟩) (v := .slice B m.length d) (by go_keep); have q4_ := Aside0.mk (below_step (by first | exact HB.out | exact below_drew1 HB.out | exact pw_below_drewN HB.out _) hb); have q5_ := Aside0.mk (blk_below (by first | exact B3.out | exact blk_drew B3.out | exact blk_drewN B3.out _) hb); clear ha0 ha1 hb0 hb1 HB B3 hb; have ha0 := q0_; have ha1 := q1_; have hb0 := q2_; have hb1 := q3_; have HB := q4_; have B3 := q5_; clear q0_ q1_ q2_ q3_ q4_ q5_)
      | (go_at_call 51; refine ((made_calls false Av cv (pre (plusF (tr l) (tr m)) (max (tr l).length (tr m).length + 1)) _ NS.out.lim NS.out.room NS.out.ok NS.out.few).mono ?_); rintro e w1 ⟨v, rfl, hnew, hb⟩; rw [VS.out, HR.out] at hnew; rw [VS.out, HR.out]; obtain ⟨Ar, cr, er, _, _⟩ := New.lim hnew; subst er; have RN := Aside0.mk (New.lower (base' := w.heap.size) hnew (below_size (by first | exact HB.out | exact below_drew1 HB.out | exact pw_below_drewN HB.out _))); clear hnew; have q0_ := pw_cell_below hb (a := ⟨w.heap.size, 0, none⟩) (v := .bool n1) (by go_keep); have q1_ := pw_cell_below hb (a := ⟨w.heap.size, 1, none⟩) (v := .slice A l.length c) (by go_keep); have q2_ := pw_cell_below hb (a := ⟨w.heap.size + 1, 0, none⟩) (v := .bool n2) (by go_keep); have q3_ := pw_cell_below hb (a := ⟨w.heap.size + 1, 1, none⟩) (v := .slice B m.length d) (by go_keep); have q4_ := Aside0.mk (below_step (by first | exact HB.out | exact below_drew1 HB.out | exact pw_below_drewN HB.out _) hb); have q5_ := Aside0.mk (blk_below (by first | exact B3.out | exact blk_drew B3.out | exact blk_drewN B3.out _) hb); clear ha0 ha1 hb0 hb1 HB B3 hb; have ha0 := q0_; have ha1 := q1_; have hb0 := q2_; have hb1 := q3_; have HB := q4_; have B3 := q5_; clear q0_ q1_ q2_ q3_ q4_ q5_; have z0 := (cell_at B3.out).1; have z1 := (cell_at B3.out).2; have f0 := blk_frozen B3.out 0; have f1 := blk_frozen B3.out 1))
  go_wp2
  refine bodyPost_ret (results_ct rfl _ _ (w.heap.size + 1 + 1) 25 #[.bool r1, .slice Ar r2.length cr] (0, 0) _ rfl (blk_put (cs := #[.bool r1, .slice none 0 0]) (blk_put (cs := #[.bool false, .slice none 0 0]) B3.out 0 _ rfl) 1 _ rfl) Tryd.underlying25 rfl (by kernel_rfl)) rfl ?_
  exact ⟨_, rfl, New.set (New.set RN.out B3.out 0 _) (blk_put (cs' := #[.bool r1, .slice none 0 0]) B3.out 0 _ rfl) 1 _, below_set (below_set HB.out (by omega)) (by omega)⟩
set_option maxRecDepth 100000 in
set_option maxHeartbeats 8000000 in
theorem add_lt_false (n1 n2 : Bool) (A B : Option Addr) (c d : Nat) (l m : List Int) (w : World) (hl : Num w A c l) (hm : Num w B d m) (h1 : l.length < 8796093022208) (h2 : m.length < 8796093022208) (hp : belowB n1 l = false) (hq : belowB n2 m = true) (hlt : mag l < mag m) :
    Calls Tryd.prog 41 #[.agg #[.bool n1, .slice A l.length c], .agg #[.bool n2, .slice B m.length d]] w (Res w (mk true (mag m - mag l))) := by
  have o0 : cmpN (mag l) (mag m) = -1 := cmpN_neg hlt
  obtain ⟨ov, hov⟩ : ∃ ov, cmpN (mag l) (mag m) = ov := ⟨_, rfl⟩
  rw [hov] at o0
  have HO := Lib.hid (show ∀ W : World, Lim W A l → Lim W B m → Calls Tryd.prog 74 #[.slice A l.length c, .slice B m.length d] W fun e w' => e = .returned (.int .i64 ov) ∧ Drawn0 W w' from fun W hW hW2 => by rw [← hov]; exact order_calls A B c d l m W hW hW2 hl.room hm.room hl.ok hm.ok)
  clear hov
  have o1 : decide (ov < 0) = true := decide_eq_true (by omega)
  clear o0
  have HL := Aside0.mk hl
  have HM := Aside0.mk hm
  have H1 := Aside0.mk h1
  have H2 := Aside0.mk h2
  have HLT := Aside0.mk hlt
  have HP := Lib.hid (show ∀ W : World, Lim W A l → Calls Tryd.prog 70 #[.agg #[.bool n1, .slice A l.length c]] W fun e w' => e = .returned (.bool false) ∧ Below W.heap.size W w' from fun W hW => by rw [← hp]; exact below_calls n1 A c l W hW hl.room)
  have HQ := Lib.hid (show ∀ W : World, Lim W B m → Calls Tryd.prog 70 #[.agg #[.bool n2, .slice B m.length d]] W fun e w' => e = .returned (.bool true) ∧ Below W.heap.size W w' from fun W hW => by rw [← hq]; exact below_calls n2 B d m W hW hm.room)
  generalize hr : mk true (mag m - mag l) = r
  have HR := Aside0.mk hr
  obtain ⟨r1, r2, r3⟩ := r
  clear hl hm h1 h2 hr hp hq hlt
  go_enter Tryd.func41, Tryd.ntmps41
  go_wp2
  obtain ⟨b1, b2, b3⟩ := boxes w (.bool n1) (.slice A l.length c) (.bool n2) (.slice B m.length d)
  have HB := Aside0.mk (below_alloc (below_alloc ((Below.refl w.heap.size w).alloc (Nat.le_refl _) (.cells #[.bool n1, .slice A l.length c] 25 (0, 0))) (.cells #[.bool n2, .slice B m.length d] 25 (0, 0))) (.cells #[.bool false, .slice none 0 0] 25 (0, 0)))
  generalize (((w.alloc (.cells #[.bool n1, .slice A l.length c] 25 (0, 0))).alloc (.cells #[.bool n2, .slice B m.length d] 25 (0, 0))).alloc (.cells #[.bool false, .slice none 0 0] 25 (0, 0))) = W at *
  obtain ⟨ha0, ha1⟩ := cell_at b1
  obtain ⟨hb0, hb1⟩ := cell_at b2
  have B3 := Aside0.mk b3
  clear b1 b2 b3
  go_region_held3 (fun w' => w'.cell? ⟨w.heap.size, 0, none⟩ = some (.bool n1) ∧ w'.cell? ⟨w.heap.size, 1, none⟩ = some (.slice A l.length c) ∧ w'.cell? ⟨w.heap.size + 1, 0, none⟩ = some (.bool n2) ∧ w'.cell? ⟨w.heap.size + 1, 1, none⟩ = some (.slice B m.length d))
    (first | exact ⟨by assumption, by assumption, by assumption, by assumption⟩ | exact ⟨by go_keep, by go_keep, by go_keep, by go_keep⟩ | exact ⟨by (rw [World.cell?_setCell_far _ _ _ _ (by dsimp only; omega), World.cell?_setCell_far _ _ _ _ (by dsimp only; omega)]; assumption), by (rw [World.cell?_setCell_far _ _ _ _ (by dsimp only; omega), World.cell?_setCell_far _ _ _ _ (by dsimp only; omega)]; assumption), by (rw [World.cell?_setCell_far _ _ _ _ (by dsimp only; omega), World.cell?_setCell_far _ _ _ _ (by dsimp only; omega)]; assumption), by (rw [World.cell?_setCell_far _ _ _ _ (by dsimp only; omega), World.cell?_setCell_far _ _ _ _ (by dsimp only; omega)]; assumption)⟩)
    (first
      | (go_at_call_of 70 (Value.agg #[.bool n1, .slice A l.length c]); refine (HP.out _ (HL.out.below (by first | exact HB.out | exact below_drew1 HB.out | exact pw_below_drewN HB.out _)).lim).mono ?_; rintro e w1 ⟨rfl, hb⟩; have q0_ := pw_cell_below hb (a := ⟨w.heap.size, 0, none⟩) (v := .bool n1) (by go_keep); have q1_ := pw_cell_below hb (a := ⟨w.heap.size, 1, none⟩) (v := .slice A l.length c) (by go_keep); have q2_ := pw_cell_below hb (a := ⟨w.heap.size + 1, 0, none⟩) (v := .bool n2) (by go_keep); have q3_ := pw_cell_below hb (a := ⟨w.heap.size + 1, 1, none⟩) (v := .slice B m.length d) (by go_keep); have q4_ := Aside0.mk (below_step (by first | exact HB.out | exact below_drew1 HB.out | exact pw_below_drewN HB.out _) hb); have q5_ := Aside0.mk (blk_below (by first | exact B3.out | exact blk_drew B3.out | exact blk_drewN B3.out _) hb); clear ha0 ha1 hb0 hb1 HB B3 hb; have ha0 := q0_; have ha1 := q1_; have hb0 := q2_; have hb1 := q3_; have HB := q4_; have B3 := q5_; clear q0_ q1_ q2_ q3_ q4_ q5_)
      | (go_at_call_of 70 (Value.agg #[.bool n2, .slice B m.length d]); refine (HQ.out _ (HM.out.below (by first | exact HB.out | exact below_drew1 HB.out | exact pw_below_drewN HB.out _)).lim).mono ?_; rintro e w1 ⟨rfl, hb⟩; have q0_ := pw_cell_below hb (a := ⟨w.heap.size, 0, none⟩) (v := .bool n1) (by go_keep); have q1_ := pw_cell_below hb (a := ⟨w.heap.size, 1, none⟩) (v := .slice A l.length c) (by go_keep); have q2_ := pw_cell_below hb (a := ⟨w.heap.size + 1, 0, none⟩) (v := .bool n2) (by go_keep); have q3_ := pw_cell_below hb (a := ⟨w.heap.size + 1, 1, none⟩) (v := .slice B m.length d) (by go_keep); have q4_ := Aside0.mk (below_step (by first | exact HB.out | exact below_drew1 HB.out | exact pw_below_drewN HB.out _) hb); have q5_ := Aside0.mk (blk_below (by first | exact B3.out | exact blk_drew B3.out | exact blk_drewN B3.out _) hb); clear ha0 ha1 hb0 hb1 HB B3 hb; have ha0 := q0_; have ha1 := q1_; have hb0 := q2_; have hb1 := q3_; have HB := q4_; have B3 := q5_; clear q0_ q1_ q2_ q3_ q4_ q5_))
  go_wp2_with fail
  refine (HO.out _ (HL.out.below (by first | exact HB.out | exact below_drew1 HB.out | exact pw_below_drewN HB.out _)).lim (HM.out.below (by first | exact HB.out | exact below_drew1 HB.out | exact pw_below_drewN HB.out _)).lim).mono ?_
  rintro e w2 ⟨rfl, nd, rfl⟩
  go_wp2
  go_region_held3 (fun w' => w'.cell? ⟨w.heap.size, 0, none⟩ = some (.bool n1) ∧ w'.cell? ⟨w.heap.size, 1, none⟩ = some (.slice A l.length c) ∧ w'.cell? ⟨w.heap.size + 1, 0, none⟩ = some (.bool n2) ∧ w'.cell? ⟨w.heap.size + 1, 1, none⟩ = some (.slice B m.length d))
    (first | exact ⟨by assumption, by assumption, by assumption, by assumption⟩ | exact ⟨by go_keep, by go_keep, by go_keep, by go_keep⟩ | exact ⟨by (rw [World.cell?_setCell_far _ _ _ _ (by dsimp only; omega), World.cell?_setCell_far _ _ _ _ (by dsimp only; omega)]; assumption), by (rw [World.cell?_setCell_far _ _ _ _ (by dsimp only; omega), World.cell?_setCell_far _ _ _ _ (by dsimp only; omega)]; assumption), by (rw [World.cell?_setCell_far _ _ _ _ (by dsimp only; omega), World.cell?_setCell_far _ _ _ _ (by dsimp only; omega)]; assumption), by (rw [World.cell?_setCell_far _ _ _ _ (by dsimp only; omega), World.cell?_setCell_far _ _ _ _ (by dsimp only; omega)]; assumption)⟩)
    (first
      | (go_at_call_of 70 (Value.agg #[.bool n1, .slice A l.length c]); refine (HP.out _ (HL.out.below (by first | exact HB.out | exact below_drew1 HB.out | exact pw_below_drewN HB.out _)).lim).mono ?_; rintro e w1 ⟨rfl, hb⟩; have q0_ := pw_cell_below hb (a := ⟨w.heap.size, 0, none⟩) (v := .bool n1) (by go_keep); have q1_ := pw_cell_below hb (a := ⟨w.heap.size, 1, none⟩) (v := .slice A l.length c) (by go_keep); have q2_ := pw_cell_below hb (a := ⟨w.heap.size + 1, 0, none⟩) (v := .bool n2) (by go_keep); have q3_ := pw_cell_below hb (a := ⟨w.heap.size + 1, 1, none⟩) (v := .slice B m.length d) (by go_keep); have q4_ := Aside0.mk (below_step (by first | exact HB.out | exact below_drew1 HB.out | exact pw_below_drewN HB.out _) hb); have q5_ := Aside0.mk (blk_below (by first | exact B3.out | exact blk_drew B3.out | exact blk_drewN B3.out _) hb); clear ha0 ha1 hb0 hb1 HB B3 hb; have ha0 := q0_; have ha1 := q1_; have hb0 := q2_; have hb1 := q3_; have HB := q4_; have B3 := q5_; clear q0_ q1_ q2_ q3_ q4_ q5_)
      | (go_at_call_of 70 (Value.agg #[.bool n2, .slice B m.length d]); refine (HQ.out _ (HM.out.below (by first | exact HB.out | exact below_drew1 HB.out | exact pw_below_drewN HB.out _)).lim).mono ?_; rintro e w1 ⟨rfl, hb⟩; have q0_ := pw_cell_below hb (a := ⟨w.heap.size, 0, none⟩) (v := .bool n1) (by go_keep); have q1_ := pw_cell_below hb (a := ⟨w.heap.size, 1, none⟩) (v := .slice A l.length c) (by go_keep); have q2_ := pw_cell_below hb (a := ⟨w.heap.size + 1, 0, none⟩) (v := .bool n2) (by go_keep); have q3_ := pw_cell_below hb (a := ⟨w.heap.size + 1, 1, none⟩) (v := .slice B m.length d) (by go_keep); have q4_ := Aside0.mk (below_step (by first | exact HB.out | exact below_drew1 HB.out | exact pw_below_drewN HB.out _) hb); have q5_ := Aside0.mk (blk_below (by first | exact B3.out | exact blk_drew B3.out | exact blk_drewN B3.out _) hb); clear ha0 ha1 hb0 hb1 HB B3 hb; have ha0 := q0_; have ha1 := q1_; have hb0 := q2_; have hb1 := q3_; have HB := q4_; have B3 := q5_; clear q0_ q1_ q2_ q3_ q4_ q5_)
      | (go_at_call_of 54 (Value.slice A l.length c); refine (trim_calls A c l _ (HL.out.below (by first | exact HB.out | exact below_drew1 HB.out | exact pw_below_drewN HB.out _)).lim HL.out.room).mono ?_; rintro e w1 ⟨rfl, nd, rfl⟩)
      | (go_at_call_of 54 (Value.slice B m.length d); refine (trim_calls B d m _ (HM.out.below (by first | exact HB.out | exact below_drew1 HB.out | exact pw_below_drewN HB.out _)).lim HM.out.room).mono ?_; rintro e w1 ⟨rfl, nd, rfl⟩)
      | (go_at_call 71; refine (less_calls B A d c (tr m) (tr l) _ (HM.out.below (by first | exact HB.out | exact below_drew1 HB.out | exact pw_below_drewN HB.out _)).tr (HL.out.below (by first | exact HB.out | exact below_drew1 HB.out | exact pw_below_drewN HB.out _)).tr).mono ?_; rintro e w1 ⟨v, rfl, hnew, hb⟩; obtain ⟨Av, cv, ev, hcv, hlv⟩ := New.lim hnew; subst ev; have NS := Aside0.mk (show Num w1 Av cv (pre (lessF (tr m) (tr l)) (tr m).length) from ⟨hlv, hcv, pre_ok _ _, by rw [pre_length]; have := tr_len_le l; have := tr_len_le m; have := H1.out; have := H2.out; omega⟩); have VS := Aside0.mk (show mag (pre (lessF (tr m) (tr l)) (tr m).length) = mag m - mag l from by rw [less_value (ok_tr HM.out.ok) (ok_tr HL.out.ok) (by rw [mag_tr, mag_tr]; have := HLT.out; omega), mag_tr, mag_tr]); clear hnew hcv hlv; have q0_ := pw_cell_below hb (a := ⟨w.heap.size, 0, none⟩) (v := .bool n1) (by go_keep); have q1_ := pw_cell_below hb (a := ⟨w.heap.size, 1, none⟩) (v := .slice A l.length c) (by go_keep); have q2_ := pw_cell_below hb (a := ⟨w.heap.size + 1, 0, none⟩) (v := .bool n2) (by go_keep); have q3_ := pw_cell_below hb (a := ⟨w.heap.size + 1, 1, none⟩) (v := .slice B m.length d) (by go_keep); have q4_ := Aside0.mk (below_step (by first | exact HB.out | exact below_drew1 HB.out | exact pw_below_drewN HB.out _) hb); have q5_ := Aside0.mk (blk_below (by first | exact B3.out | exact blk_drew B3.out | exact blk_drewN B3.out _) hb); clear ha0 ha1 hb0 hb1 HB B3 hb; have ha0 := q0_; have ha1 := q1_; have hb0 := q2_; have hb1 := q3_; have HB := q4_; have B3 := q5_; clear q0_ q1_ q2_ q3_ q4_ q5_)
      | (go_at_call 51; refine ((made_calls true Av cv (pre (lessF (tr m) (tr l)) (tr m).length) _ NS.out.lim NS.out.room NS.out.ok NS.out.few).mono ?_); rintro e w1 ⟨v, rfl, hnew, hb⟩; rw [VS.out, HR.out] at hnew; rw [VS.out, HR.out]; obtain ⟨Ar, cr, er, _, _⟩ := New.lim hnew; subst er; have RN := Aside0.mk (New.lower (base' := w.heap.size) hnew (below_size (by first | exact HB.out | exact below_drew1 HB.out | exact pw_below_drewN HB.out _))); clear hnew; have q0_ := pw_cell_below hb (a := ⟨w.heap.size, 0, none⟩) (v := .bool n1) (by go_keep); have q1_ := pw_cell_below hb (a := ⟨w.heap.size, 1, none⟩) (v := .slice A l.length c) (by go_keep); have q2_ := pw_cell_below hb (a := ⟨w.heap.size + 1, 0, none⟩) (v := .bool n2) (by go_keep); have q3_ := pw_cell_below hb (a := ⟨w.heap.size + 1, 1, none⟩) (v := .slice B m.length d) (by go_keep); have q4_ := Aside0.mk (below_step (by first | exact HB.out | exact below_drew1 HB.out | exact pw_below_drewN HB.out _) hb); have q5_ := Aside0.mk (blk_below (by first | exact B3.out | exact blk_drew B3.out | exact blk_drewN B3.out _) hb); clear ha0 ha1 hb0 hb1 HB B3 hb; have ha0 := q0_; have ha1 := q1_; have hb0 := q2_; have hb1 := q3_; have HB := q4_; have B3 := q5_; clear q0_ q1_ q2_ q3_ q4_ q5_; have z0 := (cell_at B3.out).1; have z1 := (cell_at B3.out).2; have f0 := blk_frozen B3.out 0; have f1 := blk_frozen B3.out 1))
  go_wp2
  refine bodyPost_ret (results_ct rfl _ _ (w.heap.size + 1 + 1) 25 #[.bool r1, .slice Ar r2.length cr] (0, 0) _ rfl (blk_put (cs := #[.bool r1, .slice none 0 0]) (blk_put (cs := #[.bool false, .slice none 0 0]) B3.out 0 _ rfl) 1 _ rfl) Tryd.underlying25 rfl (by kernel_rfl)) rfl ?_
  exact ⟨_, rfl, New.set (New.set RN.out B3.out 0 _) (blk_put (cs' := #[.bool r1, .slice none 0 0]) B3.out 0 _ rfl) 1 _, below_set (below_set HB.out (by omega)) (by omega)⟩
set_option maxRecDepth 100000 in
set_option maxHeartbeats 8000000 in
theorem add_ge_false (n1 n2 : Bool) (A B : Option Addr) (c d : Nat) (l m : List Int) (w : World) (hl : Num w A c l) (hm : Num w B d m) (h1 : l.length < 8796093022208) (h2 : m.length < 8796093022208) (hp : belowB n1 l = false) (hq : belowB n2 m = true) (hlt : ¬ mag l < mag m) :
    Calls Tryd.prog 41 #[.agg #[.bool n1, .slice A l.length c], .agg #[.bool n2, .slice B m.length d]] w (Res w (mk false (mag l - mag m))) := by
  have o0 := cmpN_nonneg hlt
  obtain ⟨ov, hov⟩ : ∃ ov, cmpN (mag l) (mag m) = ov := ⟨_, rfl⟩
  rw [hov] at o0
  have HO := Lib.hid (show ∀ W : World, Lim W A l → Lim W B m → Calls Tryd.prog 74 #[.slice A l.length c, .slice B m.length d] W fun e w' => e = .returned (.int .i64 ov) ∧ Drawn0 W w' from fun W hW hW2 => by rw [← hov]; exact order_calls A B c d l m W hW hW2 hl.room hm.room hl.ok hm.ok)
  clear hov
  have o1 : decide (ov < 0) = false := decide_eq_false (by omega)
  clear o0
  have HL := Aside0.mk hl
  have HM := Aside0.mk hm
  have H1 := Aside0.mk h1
  have H2 := Aside0.mk h2
  have HLT := Aside0.mk hlt
  have HP := Lib.hid (show ∀ W : World, Lim W A l → Calls Tryd.prog 70 #[.agg #[.bool n1, .slice A l.length c]] W fun e w' => e = .returned (.bool false) ∧ Below W.heap.size W w' from fun W hW => by rw [← hp]; exact below_calls n1 A c l W hW hl.room)
  have HQ := Lib.hid (show ∀ W : World, Lim W B m → Calls Tryd.prog 70 #[.agg #[.bool n2, .slice B m.length d]] W fun e w' => e = .returned (.bool true) ∧ Below W.heap.size W w' from fun W hW => by rw [← hq]; exact below_calls n2 B d m W hW hm.room)
  generalize hr : mk false (mag l - mag m) = r
  have HR := Aside0.mk hr
  obtain ⟨r1, r2, r3⟩ := r
  clear hl hm h1 h2 hr hp hq hlt
  go_enter Tryd.func41, Tryd.ntmps41
  go_wp2
  obtain ⟨b1, b2, b3⟩ := boxes w (.bool n1) (.slice A l.length c) (.bool n2) (.slice B m.length d)
  have HB := Aside0.mk (below_alloc (below_alloc ((Below.refl w.heap.size w).alloc (Nat.le_refl _) (.cells #[.bool n1, .slice A l.length c] 25 (0, 0))) (.cells #[.bool n2, .slice B m.length d] 25 (0, 0))) (.cells #[.bool false, .slice none 0 0] 25 (0, 0)))
  generalize (((w.alloc (.cells #[.bool n1, .slice A l.length c] 25 (0, 0))).alloc (.cells #[.bool n2, .slice B m.length d] 25 (0, 0))).alloc (.cells #[.bool false, .slice none 0 0] 25 (0, 0))) = W at *
  obtain ⟨ha0, ha1⟩ := cell_at b1
  obtain ⟨hb0, hb1⟩ := cell_at b2
  have B3 := Aside0.mk b3
  clear b1 b2 b3
  go_region_held3 (fun w' => w'.cell? ⟨w.heap.size, 0, none⟩ = some (.bool n1) ∧ w'.cell? ⟨w.heap.size, 1, none⟩ = some (.slice A l.length c) ∧ w'.cell? ⟨w.heap.size + 1, 0, none⟩ = some (.bool n2) ∧ w'.cell? ⟨w.heap.size + 1, 1, none⟩ = some (.slice B m.length d))
    (first | exact ⟨by assumption, by assumption, by assumption, by assumption⟩ | exact ⟨by go_keep, by go_keep, by go_keep, by go_keep⟩ | exact ⟨by (rw [World.cell?_setCell_far _ _ _ _ (by dsimp only; omega), World.cell?_setCell_far _ _ _ _ (by dsimp only; omega)]; assumption), by (rw [World.cell?_setCell_far _ _ _ _ (by dsimp only; omega), World.cell?_setCell_far _ _ _ _ (by dsimp only; omega)]; assumption), by (rw [World.cell?_setCell_far _ _ _ _ (by dsimp only; omega), World.cell?_setCell_far _ _ _ _ (by dsimp only; omega)]; assumption), by (rw [World.cell?_setCell_far _ _ _ _ (by dsimp only; omega), World.cell?_setCell_far _ _ _ _ (by dsimp only; omega)]; assumption)⟩)
    (first
      | (go_at_call_of 70 (Value.agg #[.bool n1, .slice A l.length c]); refine (HP.out _ (HL.out.below (by first | exact HB.out | exact below_drew1 HB.out | exact pw_below_drewN HB.out _)).lim).mono ?_; rintro e w1 ⟨rfl, hb⟩; have q0_ := pw_cell_below hb (a := ⟨w.heap.size, 0, none⟩) (v := .bool n1) (by go_keep); have q1_ := pw_cell_below hb (a := ⟨w.heap.size, 1, none⟩) (v := .slice A l.length c) (by go_keep); have q2_ := pw_cell_below hb (a := ⟨w.heap.size + 1, 0, none⟩) (v := .bool n2) (by go_keep); have q3_ := pw_cell_below hb (a := ⟨w.heap.size + 1, 1, none⟩) (v := .slice B m.length d) (by go_keep); have q4_ := Aside0.mk (below_step (by first | exact HB.out | exact below_drew1 HB.out | exact pw_below_drewN HB.out _) hb); have q5_ := Aside0.mk (blk_below (by first | exact B3.out | exact blk_drew B3.out | exact blk_drewN B3.out _) hb); clear ha0 ha1 hb0 hb1 HB B3 hb; have ha0 := q0_; have ha1 := q1_; have hb0 := q2_; have hb1 := q3_; have HB := q4_; have B3 := q5_; clear q0_ q1_ q2_ q3_ q4_ q5_)
      | (go_at_call_of 70 (Value.agg #[.bool n2, .slice B m.length d]); refine (HQ.out _ (HM.out.below (by first | exact HB.out | exact below_drew1 HB.out | exact pw_below_drewN HB.out _)).lim).mono ?_; rintro e w1 ⟨rfl, hb⟩; have q0_ := pw_cell_below hb (a := ⟨w.heap.size, 0, none⟩) (v := .bool n1) (by go_keep); have q1_ := pw_cell_below hb (a := ⟨w.heap.size, 1, none⟩) (v := .slice A l.length c) (by go_keep); have q2_ := pw_cell_below hb (a := ⟨w.heap.size + 1, 0, none⟩) (v := .bool n2) (by go_keep); have q3_ := pw_cell_below hb (a := ⟨w.heap.size + 1, 1, none⟩) (v := .slice B m.length d) (by go_keep); have q4_ := Aside0.mk (below_step (by first | exact HB.out | exact below_drew1 HB.out | exact pw_below_drewN HB.out _) hb); have q5_ := Aside0.mk (blk_below (by first | exact B3.out | exact blk_drew B3.out | exact blk_drewN B3.out _) hb); clear ha0 ha1 hb0 hb1 HB B3 hb; have ha0 := q0_; have ha1 := q1_; have hb0 := q2_; have hb1 := q3_; have HB := q4_; have B3 := q5_; clear q0_ q1_ q2_ q3_ q4_ q5_))
  go_wp2_with fail
  refine (HO.out _ (HL.out.below (by first | exact HB.out | exact below_drew1 HB.out | exact pw_below_drewN HB.out _)).lim (HM.out.below (by first | exact HB.out | exact below_drew1 HB.out | exact pw_below_drewN HB.out _)).lim).mono ?_
  rintro e w2 ⟨rfl, nd, rfl⟩
  go_wp2
  go_region_held3 (fun w' => w'.cell? ⟨w.heap.size, 0, none⟩ = some (.bool n1) ∧ w'.cell? ⟨w.heap.size, 1, none⟩ = some (.slice A l.length c) ∧ w'.cell? ⟨w.heap.size + 1, 0, none⟩ = some (.bool n2) ∧ w'.cell? ⟨w.heap.size + 1, 1, none⟩ = some (.slice B m.length d))
    (first | exact ⟨by assumption, by assumption, by assumption, by assumption⟩ | exact ⟨by go_keep, by go_keep, by go_keep, by go_keep⟩ | exact ⟨by (rw [World.cell?_setCell_far _ _ _ _ (by dsimp only; omega), World.cell?_setCell_far _ _ _ _ (by dsimp only; omega)]; assumption), by (rw [World.cell?_setCell_far _ _ _ _ (by dsimp only; omega), World.cell?_setCell_far _ _ _ _ (by dsimp only; omega)]; assumption), by (rw [World.cell?_setCell_far _ _ _ _ (by dsimp only; omega), World.cell?_setCell_far _ _ _ _ (by dsimp only; omega)]; assumption), by (rw [World.cell?_setCell_far _ _ _ _ (by dsimp only; omega), World.cell?_setCell_far _ _ _ _ (by dsimp only; omega)]; assumption)⟩)
    (first
      | (go_at_call_of 70 (Value.agg #[.bool n1, .slice A l.length c]); refine (HP.out _ (HL.out.below (by first | exact HB.out | exact below_drew1 HB.out | exact pw_below_drewN HB.out _)).lim).mono ?_; rintro e w1 ⟨rfl, hb⟩; have q0_ := pw_cell_below hb (a := ⟨w.heap.size, 0, none⟩) (v := .bool n1) (by go_keep); have q1_ := pw_cell_below hb (a := ⟨w.heap.size, 1, none⟩) (v := .slice A l.length c) (by go_keep); have q2_ := pw_cell_below hb (a := ⟨w.heap.size + 1, 0, none⟩) (v := .bool n2) (by go_keep); have q3_ := pw_cell_below hb (a := ⟨w.heap.size + 1, 1, none⟩) (v := .slice B m.length d) (by go_keep); have q4_ := Aside0.mk (below_step (by first | exact HB.out | exact below_drew1 HB.out | exact pw_below_drewN HB.out _) hb); have q5_ := Aside0.mk (blk_below (by first | exact B3.out | exact blk_drew B3.out | exact blk_drewN B3.out _) hb); clear ha0 ha1 hb0 hb1 HB B3 hb; have ha0 := q0_; have ha1 := q1_; have hb0 := q2_; have hb1 := q3_; have HB := q4_; have B3 := q5_; clear q0_ q1_ q2_ q3_ q4_ q5_)
      | (go_at_call_of 70 (Value.agg #[.bool n2, .slice B m.length d]); refine (HQ.out _ (HM.out.below (by first | exact HB.out | exact below_drew1 HB.out | exact pw_below_drewN HB.out _)).lim).mono ?_; rintro e w1 ⟨rfl, hb⟩; have q0_ := pw_cell_below hb (a := ⟨w.heap.size, 0, none⟩) (v := .bool n1) (by go_keep); have q1_ := pw_cell_below hb (a := ⟨w.heap.size, 1, none⟩) (v := .slice A l.length c) (by go_keep); have q2_ := pw_cell_below hb (a := ⟨w.heap.size + 1, 0, none⟩) (v := .bool n2) (by go_keep); have q3_ := pw_cell_below hb (a := ⟨w.heap.size + 1, 1, none⟩) (v := .slice B m.length d) (by go_keep); have q4_ := Aside0.mk (below_step (by first | exact HB.out | exact below_drew1 HB.out | exact pw_below_drewN HB.out _) hb); have q5_ := Aside0.mk (blk_below (by first | exact B3.out | exact blk_drew B3.out | exact blk_drewN B3.out _) hb); clear ha0 ha1 hb0 hb1 HB B3 hb; have ha0 := q0_; have ha1 := q1_; have hb0 := q2_; have hb1 := q3_; have HB := q4_; have B3 := q5_; clear q0_ q1_ q2_ q3_ q4_ q5_)
      | (go_at_call_of 54 (Value.slice A l.length c); refine (trim_calls A c l _ (HL.out.below (by first | exact HB.out | exact below_drew1 HB.out | exact pw_below_drewN HB.out _)).lim HL.out.room).mono ?_; rintro e w1 ⟨rfl, nd, rfl⟩)
      | (go_at_call_of 54 (Value.slice B m.length d); refine (trim_calls B d m _ (HM.out.below (by first | exact HB.out | exact below_drew1 HB.out | exact pw_below_drewN HB.out _)).lim HM.out.room).mono ?_; rintro e w1 ⟨rfl, nd, rfl⟩)
      | (go_at_call 71; refine (less_calls A B c d (tr l) (tr m) _ (HL.out.below (by first | exact HB.out | exact below_drew1 HB.out | exact pw_below_drewN HB.out _)).tr (HM.out.below (by first | exact HB.out | exact below_drew1 HB.out | exact pw_below_drewN HB.out _)).tr).mono ?_; rintro e w1 ⟨v, rfl, hnew, hb⟩; obtain ⟨Av, cv, ev, hcv, hlv⟩ := New.lim hnew; subst ev; have NS := Aside0.mk (show Num w1 Av cv (pre (lessF (tr l) (tr m)) (tr l).length) from ⟨hlv, hcv, pre_ok _ _, by rw [pre_length]; have := tr_len_le l; have := tr_len_le m; have := H1.out; have := H2.out; omega⟩); have VS := Aside0.mk (show mag (pre (lessF (tr l) (tr m)) (tr l).length) = mag l - mag m from by rw [less_value (ok_tr HL.out.ok) (ok_tr HM.out.ok) (by rw [mag_tr, mag_tr]; have := HLT.out; omega), mag_tr, mag_tr]); clear hnew hcv hlv; have q0_ := pw_cell_below hb (a := ⟨w.heap.size, 0, none⟩) (v := .bool n1) (by go_keep); have q1_ := pw_cell_below hb (a := ⟨w.heap.size, 1, none⟩) (v := .slice A l.length c) (by go_keep); have q2_ := pw_cell_below hb (a := ⟨w.heap.size + 1, 0, none⟩) (v := .bool n2) (by go_keep); have q3_ := pw_cell_below hb (a := ⟨w.heap.size + 1, 1, none⟩) (v := .slice B m.length d) (by go_keep); have q4_ := Aside0.mk (below_step (by first | exact HB.out | exact below_drew1 HB.out | exact pw_below_drewN HB.out _) hb); have q5_ := Aside0.mk (blk_below (by first | exact B3.out | exact blk_drew B3.out | exact blk_drewN B3.out _) hb); clear ha0 ha1 hb0 hb1 HB B3 hb; have ha0 := q0_; have ha1 := q1_; have hb0 := q2_; have hb1 := q3_; have HB := q4_; have B3 := q5_; clear q0_ q1_ q2_ q3_ q4_ q5_)
      | (go_at_call 51; refine ((made_calls false Av cv (pre (lessF (tr l) (tr m)) (tr l).length) _ NS.out.lim NS.out.room NS.out.ok NS.out.few).mono ?_); rintro e w1 ⟨v, rfl, hnew, hb⟩; rw [VS.out, HR.out] at hnew; rw [VS.out, HR.out]; obtain ⟨Ar, cr, er, _, _⟩ := New.lim hnew; subst er; have RN := Aside0.mk (New.lower (base' := w.heap.size) hnew (below_size (by first | exact HB.out | exact below_drew1 HB.out | exact pw_below_drewN HB.out _))); clear hnew; have q0_ := pw_cell_below hb (a := ⟨w.heap.size, 0, none⟩) (v := .bool n1) (by go_keep); have q1_ := pw_cell_below hb (a := ⟨w.heap.size, 1, none⟩) (v := .slice A l.length c) (by go_keep); have q2_ := pw_cell_below hb (a := ⟨w.heap.size + 1, 0, none⟩) (v := .bool n2) (by go_keep); have q3_ := pw_cell_below hb (a := ⟨w.heap.size + 1, 1, none⟩) (v := .slice B m.length d) (by go_keep); have q4_ := Aside0.mk (below_step (by first | exact HB.out | exact below_drew1 HB.out | exact pw_below_drewN HB.out _) hb); have q5_ := Aside0.mk (blk_below (by first | exact B3.out | exact blk_drew B3.out | exact blk_drewN B3.out _) hb); clear ha0 ha1 hb0 hb1 HB B3 hb; have ha0 := q0_; have ha1 := q1_; have hb0 := q2_; have hb1 := q3_; have HB := q4_; have B3 := q5_; clear q0_ q1_ q2_ q3_ q4_ q5_; have z0 := (cell_at B3.out).1; have z1 := (cell_at B3.out).2; have f0 := blk_frozen B3.out 0; have f1 := blk_frozen B3.out 1))
  go_wp2
  refine bodyPost_ret (results_ct rfl _ _ (w.heap.size + 1 + 1) 25 #[.bool r1, .slice Ar r2.length cr] (0, 0) _ rfl (blk_put (cs := #[.bool r1, .slice none 0 0]) (blk_put (cs := #[.bool false, .slice none 0 0]) B3.out 0 _ rfl) 1 _ rfl) Tryd.underlying25 rfl (by kernel_rfl)) rfl ?_
  exact ⟨_, rfl, New.set (New.set RN.out B3.out 0 _) (blk_put (cs' := #[.bool r1, .slice none 0 0]) B3.out 0 _ rfl) 1 _, below_set (below_set HB.out (by omega)) (by omega)⟩
end Go.Proofs.YthhpnlbeniihhaaDoor.NumI
namespace Go.Proofs.YthhpnlbeniihhaaDoor.NumJ
open Go.RowKit Go.Proofs.YthhpnlbeniihhaaDoorW.PrintWords Go.Proofs.YthhpnlbeniihhaaDoorW.PrintLast Go.Proofs.YthhpnlbeniihhaaDoorW.PrintMore Go.Proofs.YthhpnlbeniihhaaDoor.Limb Go.Proofs.YthhpnlbeniihhaaDoor.NumA Go.Proofs.YthhpnlbeniihhaaDoor.NumB Go.Proofs.YthhpnlbeniihhaaDoor.NumC Go.Proofs.YthhpnlbeniihhaaDoor.NumD Go.Proofs.YthhpnlbeniihhaaDoor.NumE Go.Proofs.YthhpnlbeniihhaaDoor.NumF Go.Proofs.YthhpnlbeniihhaaDoor.NumG Go.Proofs.YthhpnlbeniihhaaDoor.NumH Go.Proofs.YthhpnlbeniihhaaDoor.NumI
set_option linter.unusedVariables false
set_option linter.unusedSimpArgs false
/-- A number's value. -/
def val (neg : Bool) (l : List Int) : Int := if neg then -(mag l : Int) else (mag l : Int)
/-- The answer of a value: a number, or 'too big'. -/
def mkI (z : Int) : Bool × List Int × Int := mk (decide (z < 0)) z.natAbs
theorem mk_true (v : Nat) : mk true v = mkI (-(v : Int)) := by
  unfold mkI mk
  rw [show (-(v : Int)).natAbs = v by omega]
  by_cases h : v = 0
  · subst h; rfl
  · rw [show decide (-(v : Int) < 0) = true by simp; omega]
theorem mk_false (v : Nat) : mk false v = mkI (v : Int) := by
  unfold mkI mk
  rw [show ((v : Int)).natAbs = v by omega, show decide ((v : Int) < 0) = false by simp]
theorem val_below {neg : Bool} {l : List Int} (ok : OkL l) : val neg l = if belowB neg l then -(mag l : Int) else (mag l : Int) := by
  rw [belowB_eq ok]
  unfold val
  cases neg with
  | false => simp
  | true =>
    by_cases h : mag l = 0
    · simp [h]
    · simp [h]
theorem mk_neg (neg : Bool) (v : Nat) : mk neg v = mkI (if neg then -(v : Int) else (v : Int)) := by
  cases neg with
  | true => exact mk_true v
  | false => exact mk_false v
theorem mk_val (neg : Bool) (l : List Int) : mk neg (mag l) = mkI (val neg l) := mk_neg neg (mag l)
theorem add_calls (n1 n2 : Bool) (A B : Option Addr) (c d : Nat) (l m : List Int) (w : World) (hl : Num w A c l) (hm : Num w B d m) (h1 : l.length < 8796093022208) (h2 : m.length < 8796093022208) :
    Calls Tryd.prog 41 #[.agg #[.bool n1, .slice A l.length c], .agg #[.bool n2, .slice B m.length d]] w (Res w (mkI (val n1 l + val n2 m))) := by
  rw [val_below hl.ok, val_below hm.ok]
  cases hp : belowB n1 l with
  | true =>
    cases hq : belowB n2 m with
    | true =>
      have h := add_same_true n1 n2 A B c d l m w hl hm h1 h2 hp hq trivial
      rw [mk_true] at h
      rw [show (if true = true then -(mag l : Int) else (mag l : Int)) + (if true = true then -(mag m : Int) else (mag m : Int)) = -((mag l + mag m : Nat) : Int) by simp; omega]
      exact h
    | false =>
      by_cases hlt : mag l < mag m
      · have h := add_lt_true n1 n2 A B c d l m w hl hm h1 h2 hp hq hlt
        rw [mk_false] at h
        rw [show (if true = true then -(mag l : Int) else (mag l : Int)) + (if false = true then -(mag m : Int) else (mag m : Int)) = ((mag m - mag l : Nat) : Int) by simp; omega]
        exact h
      · have h := add_ge_true n1 n2 A B c d l m w hl hm h1 h2 hp hq hlt
        rw [mk_true] at h
        rw [show (if true = true then -(mag l : Int) else (mag l : Int)) + (if false = true then -(mag m : Int) else (mag m : Int)) = -((mag l - mag m : Nat) : Int) by simp; omega]
        exact h
  | false =>
    cases hq : belowB n2 m with
    | true =>
      by_cases hlt : mag l < mag m
      · have h := add_lt_false n1 n2 A B c d l m w hl hm h1 h2 hp hq hlt
        rw [mk_true] at h
        rw [show (if false = true then -(mag l : Int) else (mag l : Int)) + (if true = true then -(mag m : Int) else (mag m : Int)) = -((mag m - mag l : Nat) : Int) by simp; omega]
        exact h
      · have h := add_ge_false n1 n2 A B c d l m w hl hm h1 h2 hp hq hlt
        rw [mk_false] at h
        rw [show (if false = true then -(mag l : Int) else (mag l : Int)) + (if true = true then -(mag m : Int) else (mag m : Int)) = ((mag l - mag m : Nat) : Int) by simp; omega]
        exact h
    | false =>
      have h := add_same_false n1 n2 A B c d l m w hl hm h1 h2 hp hq trivial
      rw [mk_false] at h
      rw [show (if false = true then -(mag l : Int) else (mag l : Int)) + (if false = true then -(mag m : Int) else (mag m : Int)) = ((mag l + mag m : Nat) : Int) by simp]
      exact h
theorem mul_val (n1 n2 : Bool) (A B : Option Addr) (c d : Nat) (l m : List Int) (w : World) (hl : Num w A c l) (hm : Num w B d m) (h1 : l.length < 8796093022208) (h2 : m.length < 8796093022208) :
    Calls Tryd.prog 36 #[.agg #[.bool n1, .slice A l.length c], .agg #[.bool n2, .slice B m.length d]] w (Res w (mkI (val n1 l * val n2 m))) := by
  have h := mul_calls n1 n2 A B c d l m w hl hm h1 h2
  rw [mk_neg] at h
  rw [val_below hl.ok, val_below hm.ok]
  generalize belowB n1 l = p at *
  generalize belowB n2 m = q at *
  have e : (if p = true then -(mag l : Int) else (mag l : Int)) * (if q = true then -(mag m : Int) else (mag m : Int)) = (if (p != q) = true then -((mag l * mag m : Nat) : Int) else ((mag l * mag m : Nat) : Int)) := by
    cases p <;> cases q <;> simp [Int.neg_mul, Int.mul_neg, Int.natCast_mul]
  rw [e]
  exact h
set_option maxRecDepth 100000 in
set_option maxHeartbeats 4000000 in
theorem turned_calls (neg : Bool) (A : Option Addr) (c n : Nat) (w : World) :
    Calls Tryd.prog 75 #[.agg #[.bool neg, .slice A n c]] w fun e w' => e = .returned (.agg #[.bool (!neg), .slice A n c]) ∧ Below w.heap.size w w' := by
  go_enter Tryd.func75, Tryd.ntmps75
  go_wp2
  have bk := blk_new (w.alloc (.cells #[.bool neg, .slice A n c] 25 (0, 0))) (.cells #[.bool (!neg), .slice A n c] 25 (0, 0))
  rw [World.size_alloc] at bk
  refine bodyPost_ret (results_cell_row rfl _ _ (w.heap.size + 1) 25 #[.bool (!neg), .slice A n c] (0, 0) _ rfl bk Tryd.underlying25 rfl (by kernel_rfl)) rfl ?_
  exact ⟨rfl, below_alloc ((Below.refl _ _).alloc (Nat.le_refl _) _) _⟩
end Go.Proofs.YthhpnlbeniihhaaDoor.NumJ
namespace Go.Proofs.YthhpnlbeniihhaaDoor.NumK
open Go.RowKit Go.Proofs.YthhpnlbeniihhaaDoorW.PrintWords Go.Proofs.YthhpnlbeniihhaaDoorW.PrintLast Go.Proofs.YthhpnlbeniihhaaDoorW.PrintMore Go.Proofs.YthhpnlbeniihhaaDoor.Limb Go.Proofs.YthhpnlbeniihhaaDoor.NumA Go.Proofs.YthhpnlbeniihhaaDoor.NumB Go.Proofs.YthhpnlbeniihhaaDoor.NumC Go.Proofs.YthhpnlbeniihhaaDoor.NumD Go.Proofs.YthhpnlbeniihhaaDoor.NumE Go.Proofs.YthhpnlbeniihhaaDoor.NumF Go.Proofs.YthhpnlbeniihhaaDoor.NumG Go.Proofs.YthhpnlbeniihhaaDoor.NumH Go.Proofs.YthhpnlbeniihhaaDoor.NumI Go.Proofs.YthhpnlbeniihhaaDoor.NumJ
set_option linter.unusedVariables false
set_option linter.unusedSimpArgs false
theorem val_not (neg : Bool) (l : List Int) : val (!neg) l = -val neg l := by
  unfold val
  cases neg <;> simp
set_option maxRecDepth 100000 in
set_option maxHeartbeats 8000000 in
theorem sub_calls (n1 n2 : Bool) (A B : Option Addr) (c d : Nat) (l m : List Int) (w : World) (hl : Num w A c l) (hm : Num w B d m) (h1 : l.length < 8796093022208) (h2 : m.length < 8796093022208) :
    Calls Tryd.prog 42 #[.agg #[.bool n1, .slice A l.length c], .agg #[.bool n2, .slice B m.length d]] w (Res w (mkI (val n1 l - val n2 m))) := by
  have HL := Aside0.mk hl
  have HM := Aside0.mk hm
  have H1 := Aside0.mk h1
  have H2 := Aside0.mk h2
  have ev : val n1 l - val n2 m = val n1 l + val (!n2) m := by rw [val_not]; omega
  rw [ev]
  generalize hr : mkI (val n1 l + val (!n2) m) = r
  have HR := Aside0.mk hr
  obtain ⟨r1, r2, r3⟩ := r
  clear hl hm h1 h2 hr ev
  go_enter Tryd.func42, Tryd.ntmps42
  go_wp2
  obtain ⟨b1, b2, b3⟩ := boxes w (.bool n1) (.slice A l.length c) (.bool n2) (.slice B m.length d)
  have HB := Aside0.mk (below_alloc (below_alloc ((Below.refl w.heap.size w).alloc (Nat.le_refl _) (.cells #[.bool n1, .slice A l.length c] 25 (0, 0))) (.cells #[.bool n2, .slice B m.length d] 25 (0, 0))) (.cells #[.bool false, .slice none 0 0] 25 (0, 0)))
  generalize (((w.alloc (.cells #[.bool n1, .slice A l.length c] 25 (0, 0))).alloc (.cells #[.bool n2, .slice B m.length d] 25 (0, 0))).alloc (.cells #[.bool false, .slice none 0 0] 25 (0, 0))) = W at *
  obtain ⟨ha0, ha1⟩ := cell_at b1
  obtain ⟨hb0, hb1⟩ := cell_at b2
  have B3 := Aside0.mk b3
  clear b1 b2 b3
  go_region_held3 (fun w' => w'.cell? ⟨w.heap.size, 0, none⟩ = some (.bool n1) ∧ w'.cell? ⟨w.heap.size, 1, none⟩ = some (.slice A l.length c) ∧ w'.cell? ⟨w.heap.size + 1, 0, none⟩ = some (.bool n2) ∧ w'.cell? ⟨w.heap.size + 1, 1, none⟩ = some (.slice B m.length d))
    (first | exact ⟨by assumption, by assumption, by assumption, by assumption⟩ | exact ⟨by go_keep, by go_keep, by go_keep, by go_keep⟩ | exact ⟨by (rw [World.cell?_setCell_far _ _ _ _ (by dsimp only; omega), World.cell?_setCell_far _ _ _ _ (by dsimp only; omega)]; assumption), by (rw [World.cell?_setCell_far _ _ _ _ (by dsimp only; omega), World.cell?_setCell_far _ _ _ _ (by dsimp only; omega)]; assumption), by (rw [World.cell?_setCell_far _ _ _ _ (by dsimp only; omega), World.cell?_setCell_far _ _ _ _ (by dsimp only; omega)]; assumption), by (rw [World.cell?_setCell_far _ _ _ _ (by dsimp only; omega), World.cell?_setCell_far _ _ _ _ (by dsimp only; omega)]; assumption)⟩)
    (first
      | (go_at_call 75; refine (turned_calls n2 B d m.length _).mono ?_; rintro e w1 ⟨rfl, hb⟩; have q0_ := pw_cell_below hb (a := ⟨w.heap.size, 0, none⟩) (v := .bool n1) (by go_keep); have q1_ := pw_cell_below hb (a := ⟨w.heap.size, 1, none⟩) (v := .slice A l.length c) (by go_keep); have q2_ := pw_cell_below hb (a := ⟨w.heap.size + 1, 0, none⟩) (v := .bool n2) (by go_keep); have q3_ := pw_cell_below hb (a := ⟨w.heap.size + 1, 1, none⟩) (v := .slice B m.length d) (by go_keep); have q4_ := Aside0.mk (below_step (by first | exact HB.out | exact below_drew1 HB.out | exact pw_below_drewN HB.out _) hb); have q5_ := Aside0.mk (blk_below (by first | exact B3.out | exact blk_drew B3.out | exact blk_drewN B3.out _) hb); clear ha0 ha1 hb0 hb1 HB B3 hb; have ha0 := q0_; have ha1 := q1_; have hb0 := q2_; have hb1 := q3_; have HB := q4_; have B3 := q5_; clear q0_ q1_ q2_ q3_ q4_ q5_)
      | (go_at_call 41; refine ((add_calls n1 (!n2) A B c d l m _ (HL.out.below (by first | exact HB.out | exact below_drew1 HB.out | exact pw_below_drewN HB.out _)) (HM.out.below (by first | exact HB.out | exact below_drew1 HB.out | exact pw_below_drewN HB.out _)) H1.out H2.out).mono ?_); rintro e w1 ⟨v, rfl, hnew, hb⟩; rw [HR.out] at hnew; rw [HR.out]; obtain ⟨Ar, cr, er, _, _⟩ := New.lim hnew; subst er; have RN := Aside0.mk (New.lower (base' := w.heap.size) hnew (below_size (by first | exact HB.out | exact below_drew1 HB.out | exact pw_below_drewN HB.out _))); clear hnew; have q0_ := pw_cell_below hb (a := ⟨w.heap.size, 0, none⟩) (v := .bool n1) (by go_keep); have q1_ := pw_cell_below hb (a := ⟨w.heap.size, 1, none⟩) (v := .slice A l.length c) (by go_keep); have q2_ := pw_cell_below hb (a := ⟨w.heap.size + 1, 0, none⟩) (v := .bool n2) (by go_keep); have q3_ := pw_cell_below hb (a := ⟨w.heap.size + 1, 1, none⟩) (v := .slice B m.length d) (by go_keep); have q4_ := Aside0.mk (below_step (by first | exact HB.out | exact below_drew1 HB.out | exact pw_below_drewN HB.out _) hb); have q5_ := Aside0.mk (blk_below (by first | exact B3.out | exact blk_drew B3.out | exact blk_drewN B3.out _) hb); clear ha0 ha1 hb0 hb1 HB B3 hb; have ha0 := q0_; have ha1 := q1_; have hb0 := q2_; have hb1 := q3_; have HB := q4_; have B3 := q5_; clear q0_ q1_ q2_ q3_ q4_ q5_; have z0 := (cell_at B3.out).1; have z1 := (cell_at B3.out).2; have f0 := blk_frozen B3.out 0; have f1 := blk_frozen B3.out 1))
  go_wp2
  refine bodyPost_ret (results_ct rfl _ _ (w.heap.size + 1 + 1) 25 #[.bool r1, .slice Ar r2.length cr] (0, 0) _ rfl (blk_put (cs := #[.bool r1, .slice none 0 0]) (blk_put (cs := #[.bool false, .slice none 0 0]) B3.out 0 _ rfl) 1 _ rfl) Tryd.underlying25 rfl (by kernel_rfl)) rfl ?_
  exact ⟨_, rfl, New.set (New.set RN.out B3.out 0 _) (blk_put (cs' := #[.bool r1, .slice none 0 0]) B3.out 0 _ rfl) 1 _, below_set (below_set HB.out (by omega)) (by omega)⟩
end Go.Proofs.YthhpnlbeniihhaaDoor.NumK
namespace Go.Proofs.YthhpnlbeniihhaaDoor.NumL
open Go.RowKit Go.Proofs.YthhpnlbeniihhaaDoorW.PrintWords Go.Proofs.YthhpnlbeniihhaaDoorW.PrintLast Go.Proofs.YthhpnlbeniihhaaDoorW.PrintMore Go.Proofs.YthhpnlbeniihhaaDoor.Limb Go.Proofs.YthhpnlbeniihhaaDoor.NumA Go.Proofs.YthhpnlbeniihhaaDoor.NumB Go.Proofs.YthhpnlbeniihhaaDoor.NumC Go.Proofs.YthhpnlbeniihhaaDoor.NumD Go.Proofs.YthhpnlbeniihhaaDoor.NumE Go.Proofs.YthhpnlbeniihhaaDoor.NumF Go.Proofs.YthhpnlbeniihhaaDoor.NumG Go.Proofs.YthhpnlbeniihhaaDoor.NumH Go.Proofs.YthhpnlbeniihhaaDoor.NumI Go.Proofs.YthhpnlbeniihhaaDoor.NumJ
set_option linter.unusedVariables false
set_option linter.unusedSimpArgs false
theorem boxes2 (w : World) (x y z t : Value) :
    ((w.alloc (.cells #[x, y] 25 (0, 0))).alloc (.cells #[z, t] 25 (0, 0))).heap[w.heap.size]? = some (.cells #[x, y] 25 (0, 0)) ∧
    ((w.alloc (.cells #[x, y] 25 (0, 0))).alloc (.cells #[z, t] 25 (0, 0))).heap[w.heap.size + 1]? = some (.cells #[z, t] 25 (0, 0)) := by
  have h1 := blk_new w (.cells #[x, y] 25 (0, 0))
  have h2 := blk_new (w.alloc (.cells #[x, y] 25 (0, 0))) (.cells #[z, t] 25 (0, 0))
  rw [World.size_alloc] at h2
  exact ⟨blk_alloc h1 _, h2⟩
theorem sgn_val (neg : Bool) (l : List Int) : sgn neg l = cmpI (val neg l) 0 := by
  unfold sgn val cmpI
  cases neg with
  | true =>
    by_cases h : mag l = 0
    · simp [h]
    · rw [if_neg h, if_pos rfl, if_pos rfl, if_pos (by omega)]
  | false =>
    by_cases h : mag l = 0
    · simp [h]
    · rw [if_neg h, if_neg (show ¬ (false = true) by decide)]; simp only [Bool.false_eq_true, if_false]; rw [if_neg (by omega), if_pos (by omega)]
theorem cmp_sgn {x y : Int} (h : cmpI x 0 ≠ cmpI y 0) : cmpI (cmpI x 0) (cmpI y 0) = cmpI x y := by
  unfold cmpI at *
  repeat' split
  all_goals first | rfl | omega
theorem cmp_down {n1 n2 : Bool} {l m : List Int} (ol : OkL l) (h : sgn n1 l = sgn n2 m) (hb : belowB n1 l = true) : cmpN (mag m) (mag l) = cmpI (val n1 l) (val n2 m) := by
  rw [belowB_eq ol] at hb
  simp only [Bool.and_eq_true, decide_eq_true_eq] at hb
  obtain ⟨h1, h2⟩ := hb
  subst h1
  unfold sgn at h
  rw [if_neg h2, if_pos rfl] at h
  by_cases m0 : mag m = 0
  · rw [if_pos m0] at h; omega
  · rw [if_neg m0] at h
    cases n2 with
    | false => simp at h
    | true =>
      unfold cmpN cmpI val
      simp only [if_true]
      repeat' split
      all_goals first | rfl | omega
theorem cmp_up {n1 n2 : Bool} {l m : List Int} (ol : OkL l) (h : sgn n1 l = sgn n2 m) (hb : belowB n1 l = false) : cmpN (mag l) (mag m) = cmpI (val n1 l) (val n2 m) := by
  rw [belowB_eq ol] at hb
  unfold sgn at h
  by_cases l0 : mag l = 0
  · rw [if_pos l0] at h
    have m0 : mag m = 0 := by
      by_cases m0 : mag m = 0
      · exact m0
      · rw [if_neg m0] at h; split at h <;> omega
    unfold cmpN cmpI val
    simp [l0, m0]
  · have hn : n1 = false := by
      cases n1 with
      | false => rfl
      | true => simp [l0] at hb
    subst hn
    rw [if_neg l0, if_neg (by decide)] at h
    have hn2 : n2 = false := by
      cases n2 with
      | false => rfl
      | true => exfalso; split at h <;> simp at h
    subst hn2
    unfold cmpN cmpI val
    simp only [if_false, Bool.false_eq_true]
    repeat' split
    all_goals first | rfl | omega
set_option maxRecDepth 100000 in
set_option maxHeartbeats 8000000 in
theorem cmp_differ (n1 n2 : Bool) (A B : Option Addr) (c d : Nat) (l m : List Int) (w : World) (hl : Num w A c l) (hm : Num w B d m) (hne : sgn n1 l ≠ sgn n2 m) :
    Calls Tryd.prog 43 #[.agg #[.bool n1, .slice A l.length c], .agg #[.bool n2, .slice B m.length d]] w fun e w' => e = .returned (.int .i64 (cmpI (val n1 l) (val n2 m))) ∧ Below w.heap.size w w' := by
  have HL := Aside0.mk hl
  have HM := Aside0.mk hm
  have HRES := Aside0.mk (show cmpI (sgn n1 l) (sgn n2 m) = cmpI (val n1 l) (val n2 m) by rw [sgn_val, sgn_val] at *; exact cmp_sgn hne)
  obtain ⟨s1, hs1⟩ : ∃ s, sgn n1 l = s := ⟨_, rfl⟩
  obtain ⟨s2, hs2⟩ : ∃ s, sgn n2 m = s := ⟨_, rfl⟩
  have HP := Lib.hid (show ∀ W : World, Num W A c l → Calls Tryd.prog 39 #[.agg #[.bool n1, .slice A l.length c]] W fun e w' => e = .returned (.int .i64 s1) ∧ Below W.heap.size W w' from fun W hW => by rw [← hs1]; exact sign_calls n1 A c l W hW)
  have HQ := Lib.hid (show ∀ W : World, Num W B d m → Calls Tryd.prog 39 #[.agg #[.bool n2, .slice B m.length d]] W fun e w' => e = .returned (.int .i64 s2) ∧ Below W.heap.size W w' from fun W hW => by rw [← hs2]; exact sign_calls n2 B d m W hW)
  rw [hs1, hs2] at hne HRES
  have t0 : (s1 != s2) = true := by simp [hne]
  have t1 : (s1 == s2) = false := by simp [hne]
  rw [← HRES.out]
  clear hl hm hne hs1 hs2 HRES
  go_enter Tryd.func43, Tryd.ntmps43
  go_wp2
  obtain ⟨b1, b2⟩ := boxes2 w (.bool n1) (.slice A l.length c) (.bool n2) (.slice B m.length d)
  have HB := Aside0.mk (below_alloc ((Below.refl w.heap.size w).alloc (Nat.le_refl _) (.cells #[.bool n1, .slice A l.length c] 25 (0, 0))) (.cells #[.bool n2, .slice B m.length d] 25 (0, 0)))
  generalize ((w.alloc (.cells #[.bool n1, .slice A l.length c] 25 (0, 0))).alloc (.cells #[.bool n2, .slice B m.length d] 25 (0, 0))) = W at *
  obtain ⟨ha0, ha1⟩ := cell_at b1
  obtain ⟨hb0, hb1⟩ := cell_at b2
  clear b1 b2
  go_region_held3 (fun w' => w'.cell? ⟨w.heap.size, 0, none⟩ = some (.bool n1) ∧ w'.cell? ⟨w.heap.size, 1, none⟩ = some (.slice A l.length c) ∧ w'.cell? ⟨w.heap.size + 1, 0, none⟩ = some (.bool n2) ∧ w'.cell? ⟨w.heap.size + 1, 1, none⟩ = some (.slice B m.length d))
    (first | exact ⟨by assumption, by assumption, by assumption, by assumption⟩ | exact ⟨by go_keep, by go_keep, by go_keep, by go_keep⟩)
    (first
      | (go_at_call_of 39 (Value.agg #[.bool n1, .slice A l.length c]); refine (HP.out _ (HL.out.below (by first | exact HB.out | exact below_drew1 HB.out | exact pw_below_drewN HB.out _))).mono ?_; rintro e w1 ⟨rfl, hb⟩; have q0_ := pw_cell_below hb (a := ⟨w.heap.size, 0, none⟩) (v := .bool n1) (by go_keep); have q1_ := pw_cell_below hb (a := ⟨w.heap.size, 1, none⟩) (v := .slice A l.length c) (by go_keep); have q2_ := pw_cell_below hb (a := ⟨w.heap.size + 1, 0, none⟩) (v := .bool n2) (by go_keep); have q3_ := pw_cell_below hb (a := ⟨w.heap.size + 1, 1, none⟩) (v := .slice B m.length d) (by go_keep); have q4_ := Aside0.mk (below_step (by first | exact HB.out | exact below_drew1 HB.out | exact pw_below_drewN HB.out _) hb); clear ha0 ha1 hb0 hb1 HB hb; have ha0 := q0_; have ha1 := q1_; have hb0 := q2_; have hb1 := q3_; have HB := q4_; clear q0_ q1_ q2_ q3_ q4_)
      | (go_at_call_of 39 (Value.agg #[.bool n2, .slice B m.length d]); refine (HQ.out _ (HM.out.below (by first | exact HB.out | exact below_drew1 HB.out | exact pw_below_drewN HB.out _))).mono ?_; rintro e w1 ⟨rfl, hb⟩; have q0_ := pw_cell_below hb (a := ⟨w.heap.size, 0, none⟩) (v := .bool n1) (by go_keep); have q1_ := pw_cell_below hb (a := ⟨w.heap.size, 1, none⟩) (v := .slice A l.length c) (by go_keep); have q2_ := pw_cell_below hb (a := ⟨w.heap.size + 1, 0, none⟩) (v := .bool n2) (by go_keep); have q3_ := pw_cell_below hb (a := ⟨w.heap.size + 1, 1, none⟩) (v := .slice B m.length d) (by go_keep); have q4_ := Aside0.mk (below_step (by first | exact HB.out | exact below_drew1 HB.out | exact pw_below_drewN HB.out _) hb); clear ha0 ha1 hb0 hb1 HB hb; have ha0 := q0_; have ha1 := q1_; have hb0 := q2_; have hb1 := q3_; have HB := q4_; clear q0_ q1_ q2_ q3_ q4_))
  go_wp2
  go_region_held3 (fun w' => w'.cell? ⟨w.heap.size, 0, none⟩ = some (.bool n1) ∧ w'.cell? ⟨w.heap.size, 1, none⟩ = some (.slice A l.length c) ∧ w'.cell? ⟨w.heap.size + 1, 0, none⟩ = some (.bool n2) ∧ w'.cell? ⟨w.heap.size + 1, 1, none⟩ = some (.slice B m.length d))
    (first | exact ⟨by assumption, by assumption, by assumption, by assumption⟩ | exact ⟨by go_keep, by go_keep, by go_keep, by go_keep⟩)
    (first
      | (go_at_call_of 39 (Value.agg #[.bool n1, .slice A l.length c]); refine (HP.out _ (HL.out.below (by first | exact HB.out | exact below_drew1 HB.out | exact pw_below_drewN HB.out _))).mono ?_; rintro e w1 ⟨rfl, hb⟩; have q0_ := pw_cell_below hb (a := ⟨w.heap.size, 0, none⟩) (v := .bool n1) (by go_keep); have q1_ := pw_cell_below hb (a := ⟨w.heap.size, 1, none⟩) (v := .slice A l.length c) (by go_keep); have q2_ := pw_cell_below hb (a := ⟨w.heap.size + 1, 0, none⟩) (v := .bool n2) (by go_keep); have q3_ := pw_cell_below hb (a := ⟨w.heap.size + 1, 1, none⟩) (v := .slice B m.length d) (by go_keep); have q4_ := Aside0.mk (below_step (by first | exact HB.out | exact below_drew1 HB.out | exact pw_below_drewN HB.out _) hb); clear ha0 ha1 hb0 hb1 HB hb; have ha0 := q0_; have ha1 := q1_; have hb0 := q2_; have hb1 := q3_; have HB := q4_; clear q0_ q1_ q2_ q3_ q4_)
      | (go_at_call_of 39 (Value.agg #[.bool n2, .slice B m.length d]); refine (HQ.out _ (HM.out.below (by first | exact HB.out | exact below_drew1 HB.out | exact pw_below_drewN HB.out _))).mono ?_; rintro e w1 ⟨rfl, hb⟩; have q0_ := pw_cell_below hb (a := ⟨w.heap.size, 0, none⟩) (v := .bool n1) (by go_keep); have q1_ := pw_cell_below hb (a := ⟨w.heap.size, 1, none⟩) (v := .slice A l.length c) (by go_keep); have q2_ := pw_cell_below hb (a := ⟨w.heap.size + 1, 0, none⟩) (v := .bool n2) (by go_keep); have q3_ := pw_cell_below hb (a := ⟨w.heap.size + 1, 1, none⟩) (v := .slice B m.length d) (by go_keep); have q4_ := Aside0.mk (below_step (by first | exact HB.out | exact below_drew1 HB.out | exact pw_below_drewN HB.out _) hb); clear ha0 ha1 hb0 hb1 HB hb; have ha0 := q0_; have ha1 := q1_; have hb0 := q2_; have hb1 := q3_; have HB := q4_; clear q0_ q1_ q2_ q3_ q4_)
      | (go_at_call 76; refine (compare_calls _ _ _).mono ?_; rintro e w1 ⟨rfl, nd, rfl⟩))
  go_wp2
  go_ret
  exact ⟨rfl, (by first | exact HB.out | exact below_drew1 HB.out | exact pw_below_drewN HB.out _)⟩
set_option maxRecDepth 100000 in
set_option maxHeartbeats 8000000 in
theorem cmp_same_down (n1 n2 : Bool) (A B : Option Addr) (c d : Nat) (l m : List Int) (w : World) (hl : Num w A c l) (hm : Num w B d m) (he : sgn n1 l = sgn n2 m) (hbl : belowB n1 l = true) :
    Calls Tryd.prog 43 #[.agg #[.bool n1, .slice A l.length c], .agg #[.bool n2, .slice B m.length d]] w fun e w' => e = .returned (.int .i64 (cmpI (val n1 l) (val n2 m))) ∧ Below w.heap.size w w' := by
  have HL := Aside0.mk hl
  have HM := Aside0.mk hm
  have HRES := Aside0.mk (show cmpN (mag m) (mag l) = cmpI (val n1 l) (val n2 m) from cmp_down hl.ok he hbl)
  obtain ⟨s1, hs1⟩ : ∃ s, sgn n1 l = s := ⟨_, rfl⟩
  obtain ⟨s2, hs2⟩ : ∃ s, sgn n2 m = s := ⟨_, rfl⟩
  have HP := Lib.hid (show ∀ W : World, Num W A c l → Calls Tryd.prog 39 #[.agg #[.bool n1, .slice A l.length c]] W fun e w' => e = .returned (.int .i64 s1) ∧ Below W.heap.size W w' from fun W hW => by rw [← hs1]; exact sign_calls n1 A c l W hW)
  have HQ := Lib.hid (show ∀ W : World, Num W B d m → Calls Tryd.prog 39 #[.agg #[.bool n2, .slice B m.length d]] W fun e w' => e = .returned (.int .i64 s2) ∧ Below W.heap.size W w' from fun W hW => by rw [← hs2]; exact sign_calls n2 B d m W hW)
  have HBL := Lib.hid (show ∀ W : World, Lim W A l → Calls Tryd.prog 70 #[.agg #[.bool n1, .slice A l.length c]] W fun e w' => e = .returned (.bool true) ∧ Below W.heap.size W w' from fun W hW => by rw [← hbl]; exact below_calls n1 A c l W hW hl.room)
  rw [hs1, hs2] at he
  have t0 : (s1 != s2) = false := by simp [he]
  have t1 : (s1 == s2) = true := by simp [he]
  rw [← HRES.out]
  clear hl hm he hs1 hs2 hbl HRES
  go_enter Tryd.func43, Tryd.ntmps43
  go_wp2
  obtain ⟨b1, b2⟩ := boxes2 w (.bool n1) (.slice A l.length c) (.bool n2) (.slice B m.length d)
  have HB := Aside0.mk (below_alloc ((Below.refl w.heap.size w).alloc (Nat.le_refl _) (.cells #[.bool n1, .slice A l.length c] 25 (0, 0))) (.cells #[.bool n2, .slice B m.length d] 25 (0, 0)))
  generalize ((w.alloc (.cells #[.bool n1, .slice A l.length c] 25 (0, 0))).alloc (.cells #[.bool n2, .slice B m.length d] 25 (0, 0))) = W at *
  obtain ⟨ha0, ha1⟩ := cell_at b1
  obtain ⟨hb0, hb1⟩ := cell_at b2
  clear b1 b2
  go_region_held3 (fun w' => w'.cell? ⟨w.heap.size, 0, none⟩ = some (.bool n1) ∧ w'.cell? ⟨w.heap.size, 1, none⟩ = some (.slice A l.length c) ∧ w'.cell? ⟨w.heap.size + 1, 0, none⟩ = some (.bool n2) ∧ w'.cell? ⟨w.heap.size + 1, 1, none⟩ = some (.slice B m.length d))
    (first | exact ⟨by assumption, by assumption, by assumption, by assumption⟩ | exact ⟨by go_keep, by go_keep, by go_keep, by go_keep⟩)
    (first
      | (go_at_call_of 39 (Value.agg #[.bool n1, .slice A l.length c]); refine (HP.out _ (HL.out.below (by first | exact HB.out | exact below_drew1 HB.out | exact pw_below_drewN HB.out _))).mono ?_; rintro e w1 ⟨rfl, hb⟩; have q0_ := pw_cell_below hb (a := ⟨w.heap.size, 0, none⟩) (v := .bool n1) (by go_keep); have q1_ := pw_cell_below hb (a := ⟨w.heap.size, 1, none⟩) (v := .slice A l.length c) (by go_keep); have q2_ := pw_cell_below hb (a := ⟨w.heap.size + 1, 0, none⟩) (v := .bool n2) (by go_keep); have q3_ := pw_cell_below hb (a := ⟨w.heap.size + 1, 1, none⟩) (v := .slice B m.length d) (by go_keep); have q4_ := Aside0.mk (below_step (by first | exact HB.out | exact below_drew1 HB.out | exact pw_below_drewN HB.out _) hb); clear ha0 ha1 hb0 hb1 HB hb; have ha0 := q0_; have ha1 := q1_; have hb0 := q2_; have hb1 := q3_; have HB := q4_; clear q0_ q1_ q2_ q3_ q4_)
      | (go_at_call_of 39 (Value.agg #[.bool n2, .slice B m.length d]); refine (HQ.out _ (HM.out.below (by first | exact HB.out | exact below_drew1 HB.out | exact pw_below_drewN HB.out _))).mono ?_; rintro e w1 ⟨rfl, hb⟩; have q0_ := pw_cell_below hb (a := ⟨w.heap.size, 0, none⟩) (v := .bool n1) (by go_keep); have q1_ := pw_cell_below hb (a := ⟨w.heap.size, 1, none⟩) (v := .slice A l.length c) (by go_keep); have q2_ := pw_cell_below hb (a := ⟨w.heap.size + 1, 0, none⟩) (v := .bool n2) (by go_keep); have q3_ := pw_cell_below hb (a := ⟨w.heap.size + 1, 1, none⟩) (v := .slice B m.length d) (by go_keep); have q4_ := Aside0.mk (below_step (by first | exact HB.out | exact below_drew1 HB.out | exact pw_below_drewN HB.out _) hb); clear ha0 ha1 hb0 hb1 HB hb; have ha0 := q0_; have ha1 := q1_; have hb0 := q2_; have hb1 := q3_; have HB := q4_; clear q0_ q1_ q2_ q3_ q4_))
  go_wp2_with fail
  refine (HBL.out _ (HL.out.below (by first | exact HB.out | exact below_drew1 HB.out | exact pw_below_drewN HB.out _)).lim).mono ?_
  rintro e w1 ⟨rfl, hb⟩
  have q0_ := pw_cell_below hb (a := ⟨w.heap.size, 0, none⟩) (v := .bool n1) (by go_keep); have q1_ := pw_cell_below hb (a := ⟨w.heap.size, 1, none⟩) (v := .slice A l.length c) (by go_keep); have q2_ := pw_cell_below hb (a := ⟨w.heap.size + 1, 0, none⟩) (v := .bool n2) (by go_keep); have q3_ := pw_cell_below hb (a := ⟨w.heap.size + 1, 1, none⟩) (v := .slice B m.length d) (by go_keep); have q4_ := Aside0.mk (below_step (by first | exact HB.out | exact below_drew1 HB.out | exact pw_below_drewN HB.out _) hb); clear ha0 ha1 hb0 hb1 HB hb; have ha0 := q0_; have ha1 := q1_; have hb0 := q2_; have hb1 := q3_; have HB := q4_; clear q0_ q1_ q2_ q3_ q4_
  go_wp2_with fail
  refine (order_calls B A d c m l _ (HM.out.below (by first | exact HB.out | exact below_drew1 HB.out | exact pw_below_drewN HB.out _)).lim (HL.out.below (by first | exact HB.out | exact below_drew1 HB.out | exact pw_below_drewN HB.out _)).lim HM.out.room HL.out.room HM.out.ok HL.out.ok).mono ?_
  rintro e w2 ⟨rfl, nd, rfl⟩
  go_wp2
  go_ret
  exact ⟨rfl, (by first | exact HB.out | exact below_drew1 HB.out | exact pw_below_drewN HB.out _)⟩
set_option maxRecDepth 100000 in
set_option maxHeartbeats 8000000 in
theorem cmp_same_up (n1 n2 : Bool) (A B : Option Addr) (c d : Nat) (l m : List Int) (w : World) (hl : Num w A c l) (hm : Num w B d m) (he : sgn n1 l = sgn n2 m) (hbl : belowB n1 l = false) :
    Calls Tryd.prog 43 #[.agg #[.bool n1, .slice A l.length c], .agg #[.bool n2, .slice B m.length d]] w fun e w' => e = .returned (.int .i64 (cmpI (val n1 l) (val n2 m))) ∧ Below w.heap.size w w' := by
  have HL := Aside0.mk hl
  have HM := Aside0.mk hm
  have HRES := Aside0.mk (show cmpN (mag l) (mag m) = cmpI (val n1 l) (val n2 m) from cmp_up hl.ok he hbl)
  obtain ⟨s1, hs1⟩ : ∃ s, sgn n1 l = s := ⟨_, rfl⟩
  obtain ⟨s2, hs2⟩ : ∃ s, sgn n2 m = s := ⟨_, rfl⟩
  have HP := Lib.hid (show ∀ W : World, Num W A c l → Calls Tryd.prog 39 #[.agg #[.bool n1, .slice A l.length c]] W fun e w' => e = .returned (.int .i64 s1) ∧ Below W.heap.size W w' from fun W hW => by rw [← hs1]; exact sign_calls n1 A c l W hW)
  have HQ := Lib.hid (show ∀ W : World, Num W B d m → Calls Tryd.prog 39 #[.agg #[.bool n2, .slice B m.length d]] W fun e w' => e = .returned (.int .i64 s2) ∧ Below W.heap.size W w' from fun W hW => by rw [← hs2]; exact sign_calls n2 B d m W hW)
  have HBL := Lib.hid (show ∀ W : World, Lim W A l → Calls Tryd.prog 70 #[.agg #[.bool n1, .slice A l.length c]] W fun e w' => e = .returned (.bool false) ∧ Below W.heap.size W w' from fun W hW => by rw [← hbl]; exact below_calls n1 A c l W hW hl.room)
  rw [hs1, hs2] at he
  have t0 : (s1 != s2) = false := by simp [he]
  have t1 : (s1 == s2) = true := by simp [he]
  rw [← HRES.out]
  clear hl hm he hs1 hs2 hbl HRES
  go_enter Tryd.func43, Tryd.ntmps43
  go_wp2
  obtain ⟨b1, b2⟩ := boxes2 w (.bool n1) (.slice A l.length c) (.bool n2) (.slice B m.length d)
  have HB := Aside0.mk (below_alloc ((Below.refl w.heap.size w).alloc (Nat.le_refl _) (.cells #[.bool n1, .slice A l.length c] 25 (0, 0))) (.cells #[.bool n2, .slice B m.length d] 25 (0, 0)))
  generalize ((w.alloc (.cells #[.bool n1, .slice A l.length c] 25 (0, 0))).alloc (.cells #[.bool n2, .slice B m.length d] 25 (0, 0))) = W at *
  obtain ⟨ha0, ha1⟩ := cell_at b1
  obtain ⟨hb0, hb1⟩ := cell_at b2
  clear b1 b2
  go_region_held3 (fun w' => w'.cell? ⟨w.heap.size, 0, none⟩ = some (.bool n1) ∧ w'.cell? ⟨w.heap.size, 1, none⟩ = some (.slice A l.length c) ∧ w'.cell? ⟨w.heap.size + 1, 0, none⟩ = some (.bool n2) ∧ w'.cell? ⟨w.heap.size + 1, 1, none⟩ = some (.slice B m.length d))
    (first | exact ⟨by assumption, by assumption, by assumption, by assumption⟩ | exact ⟨by go_keep, by go_keep, by go_keep, by go_keep⟩)
    (first
      | (go_at_call_of 39 (Value.agg #[.bool n1, .slice A l.length c]); refine (HP.out _ (HL.out.below (by first | exact HB.out | exact below_drew1 HB.out | exact pw_below_drewN HB.out _))).mono ?_; rintro e w1 ⟨rfl, hb⟩; have q0_ := pw_cell_below hb (a := ⟨w.heap.size, 0, none⟩) (v := .bool n1) (by go_keep); have q1_ := pw_cell_below hb (a := ⟨w.heap.size, 1, none⟩) (v := .slice A l.length c) (by go_keep); have q2_ := pw_cell_below hb (a := ⟨w.heap.size + 1, 0, none⟩) (v := .bool n2) (by go_keep); have q3_ := pw_cell_below hb (a := ⟨w.heap.size + 1, 1, none⟩) (v := .slice B m.length d) (by go_keep); have q4_ := Aside0.mk (below_step (by first | exact HB.out | exact below_drew1 HB.out | exact pw_below_drewN HB.out _) hb); clear ha0 ha1 hb0 hb1 HB hb; have ha0 := q0_; have ha1 := q1_; have hb0 := q2_; have hb1 := q3_; have HB := q4_; clear q0_ q1_ q2_ q3_ q4_)
      | (go_at_call_of 39 (Value.agg #[.bool n2, .slice B m.length d]); refine (HQ.out _ (HM.out.below (by first | exact HB.out | exact below_drew1 HB.out | exact pw_below_drewN HB.out _))).mono ?_; rintro e w1 ⟨rfl, hb⟩; have q0_ := pw_cell_below hb (a := ⟨w.heap.size, 0, none⟩) (v := .bool n1) (by go_keep); have q1_ := pw_cell_below hb (a := ⟨w.heap.size, 1, none⟩) (v := .slice A l.length c) (by go_keep); have q2_ := pw_cell_below hb (a := ⟨w.heap.size + 1, 0, none⟩) (v := .bool n2) (by go_keep); have q3_ := pw_cell_below hb (a := ⟨w.heap.size + 1, 1, none⟩) (v := .slice B m.length d) (by go_keep); have q4_ := Aside0.mk (below_step (by first | exact HB.out | exact below_drew1 HB.out | exact pw_below_drewN HB.out _) hb); clear ha0 ha1 hb0 hb1 HB hb; have ha0 := q0_; have ha1 := q1_; have hb0 := q2_; have hb1 := q3_; have HB := q4_; clear q0_ q1_ q2_ q3_ q4_))
  go_wp2_with fail
  refine (HBL.out _ (HL.out.below (by first | exact HB.out | exact below_drew1 HB.out | exact pw_below_drewN HB.out _)).lim).mono ?_
  rintro e w1 ⟨rfl, hb⟩
  have q0_ := pw_cell_below hb (a := ⟨w.heap.size, 0, none⟩) (v := .bool n1) (by go_keep); have q1_ := pw_cell_below hb (a := ⟨w.heap.size, 1, none⟩) (v := .slice A l.length c) (by go_keep); have q2_ := pw_cell_below hb (a := ⟨w.heap.size + 1, 0, none⟩) (v := .bool n2) (by go_keep); have q3_ := pw_cell_below hb (a := ⟨w.heap.size + 1, 1, none⟩) (v := .slice B m.length d) (by go_keep); have q4_ := Aside0.mk (below_step (by first | exact HB.out | exact below_drew1 HB.out | exact pw_below_drewN HB.out _) hb); clear ha0 ha1 hb0 hb1 HB hb; have ha0 := q0_; have ha1 := q1_; have hb0 := q2_; have hb1 := q3_; have HB := q4_; clear q0_ q1_ q2_ q3_ q4_
  go_wp2_with fail
  refine (order_calls A B c d l m _ (HL.out.below (by first | exact HB.out | exact below_drew1 HB.out | exact pw_below_drewN HB.out _)).lim (HM.out.below (by first | exact HB.out | exact below_drew1 HB.out | exact pw_below_drewN HB.out _)).lim HL.out.room HM.out.room HL.out.ok HM.out.ok).mono ?_
  rintro e w2 ⟨rfl, nd, rfl⟩
  go_wp2
  go_ret
  exact ⟨rfl, (by first | exact HB.out | exact below_drew1 HB.out | exact pw_below_drewN HB.out _)⟩
theorem cmp_calls (n1 n2 : Bool) (A B : Option Addr) (c d : Nat) (l m : List Int) (w : World) (hl : Num w A c l) (hm : Num w B d m) :
    Calls Tryd.prog 43 #[.agg #[.bool n1, .slice A l.length c], .agg #[.bool n2, .slice B m.length d]] w fun e w' => e = .returned (.int .i64 (cmpI (val n1 l) (val n2 m))) ∧ Below w.heap.size w w' := by
  by_cases he : sgn n1 l = sgn n2 m
  · cases hbl : belowB n1 l with
    | true => exact cmp_same_down n1 n2 A B c d l m w hl hm he hbl
    | false => exact cmp_same_up n1 n2 A B c d l m w hl hm he hbl
  · exact cmp_differ n1 n2 A B c d l m w hl hm he
end Go.Proofs.YthhpnlbeniihhaaDoor.NumL
namespace Go.Proofs.YthhpnlbeniihhaaDoor.NumM
open Go.RowKit Go.Proofs.YthhpnlbeniihhaaDoorW.PrintWords Go.Proofs.YthhpnlbeniihhaaDoorW.PrintLast Go.Proofs.YthhpnlbeniihhaaDoorW.PrintMore Go.Proofs.YthhpnlbeniihhaaDoor.Limb Go.Proofs.YthhpnlbeniihhaaDoor.NumA Go.Proofs.YthhpnlbeniihhaaDoor.NumB Go.Proofs.YthhpnlbeniihhaaDoor.NumC Go.Proofs.YthhpnlbeniihhaaDoor.NumD Go.Proofs.YthhpnlbeniihhaaDoor.NumE Go.Proofs.YthhpnlbeniihhaaDoor.NumF Go.Proofs.YthhpnlbeniihhaaDoor.NumG Go.Proofs.YthhpnlbeniihhaaDoor.NumH Go.Proofs.YthhpnlbeniihhaaDoor.NumI Go.Proofs.YthhpnlbeniihhaaDoor.NumJ
set_option linter.unusedVariables false
set_option linter.unusedSimpArgs false
/-- A literal of two limbs. -/
theorem New.pair (w : World) (x y : Int) : New (w.alloc (.cells #[.int .u32 x, .int .u32 y] 63 (0, 0))) w.heap.size (.slice (some ⟨w.heap.size, 0, none⟩) 2 2) [x, y] := by
  refine New.of_own ⟨rfl, .inr ⟨w.heap.size, 2, #[.int .u32 x, .int .u32 y], rfl, Nat.le_refl _, ?_, Nat.le_refl _, by decide, rfl, rfl⟩⟩
  exact blk_new w _
theorem pair_ok (a : Int) : OkL [a % 4294967296, a / 4294967296 % 4294967296] := by
  intro y hy
  simp only [List.mem_cons, List.not_mem_nil, or_false] at hy
  rcases hy with rfl | rfl <;> omega
theorem pair_mag (a : Int) (h0 : 0 ≤ a) (h1 : a < 18446744073709551616) : mag [a % 4294967296, a / 4294967296 % 4294967296] = a.natAbs := by
  unfold mag
  unfold mag
  unfold mag
  omega
theorem wrap64 (n : Int) : IntKind.u64.wrap n = n % 18446744073709551616 := rfl
set_option maxRecDepth 100000 in
set_option maxHeartbeats 4000000 in
theorem of_neg (x : Int) (w : World) (hx : -9223372036854775808 ≤ x ∧ x < 9223372036854775808) (hn : x < 0) :
    Calls Tryd.prog 18 #[.int .i64 x] w fun e w' => ∃ v, e = .returned (.agg #[.bool (mkI x).1, v]) ∧ New w' w.heap.size v (mkI x).2.1 ∧ Below w.heap.size w w' := by
  have hd : decide (x < 0) = true := by simp; omega
  have ha : IntKind.u64.wrap (-IntKind.u64.wrap x) = (x.natAbs : Int) := by rw [wrap64, wrap64]; omega
  have hmk : mk true x.natAbs = mkI x := by unfold mkI; rw [hd]
  have hlt : (x.natAbs : Int) < 18446744073709551616 := by omega
  have hm := pair_mag (x.natAbs : Int) (by omega) hlt
  have hok := pair_ok (x.natAbs : Int)
  rw [Int.natAbs_natCast] at hm
  generalize (x.natAbs : Int) = a at ha hm hok
  generalize hr : mkI x = r at hmk
  have HA := Aside0.mk ha
  have HM := Aside0.mk hm
  have HO := Aside0.mk hok
  have HK := Aside0.mk hmk
  have HN := Aside0.mk hn
  clear hx ha hm hok hmk hr hd hlt
  obtain ⟨r1, r2, r3⟩ := r
  go_enter Tryd.func18, Tryd.ntmps18
  go_wp2_with fail
  rw [HA.out]
  have hp := New.pair (w.alloc (.cells #[.bool false, .slice none 0 0] 25 (0, 0))) (a % 4294967296) (a / 4294967296 % 4294967296)
  obtain ⟨A, c, e1, e2, e3⟩ := New.lim hp
  rw [World.size_alloc] at e1
  obtain ⟨rfl, rfl⟩ : A = some ⟨w.heap.size + 1, 0, none⟩ ∧ c = 2 := by
    injection e1 with q1 _ q2
    exact ⟨q1.symm, q2.symm⟩
  have K := made_calls true _ 2 _ _ e3 e2 HO.out (by simp only [List.length_cons, List.length_nil]; omega)
  rw [HM.out, HK.out] at K
  refine K.mono ?_
  clear K e1 e2 e3 hp
  rintro e w1 ⟨v, rfl, hnew, hb⟩
  obtain ⟨Av, cv, ev, _⟩ := New.lim hnew
  subst ev
  have bk := blk_below (blk_alloc (blk_new w (.cells #[.bool false, .slice none 0 0] 25 (0, 0))) (.cells #[.int .u32 (a % 4294967296), .int .u32 (a / 4294967296 % 4294967296)] 63 (0, 0))) hb
  have HB := Aside0.mk (below_step (below_alloc ((Below.refl _ _).alloc (Nat.le_refl _) _) _) hb)
  have HNEW := Aside0.mk (New.lower (base' := w.heap.size) hnew (by simp; omega))
  clear hnew hb
  have bk2 := blk_alloc bk (.cells #[.bool r1, .slice Av r2.length cv] 25 (0, 0))
  have BK := Aside0.mk bk2
  obtain ⟨hc0, hc1⟩ := cell_at bk2
  have hf0 := blk_frozen bk2 0
  have hf1 := blk_frozen bk2 1
  clear bk bk2 hn
  go_wp2
  refine bodyPost_ret (results_cell_row rfl _ _ w.heap.size 25 #[.bool r1, .slice Av r2.length cv] (0, 0) _ rfl (blk_put (cs := #[.bool r1, .slice none 0 0]) (blk_put (cs := #[.bool false, .slice none 0 0]) BK.out 0 _ rfl) 1 _ rfl) Tryd.underlying25 rfl (by kernel_rfl)) rfl ?_
  have HN2 := HNEW.out.below (below_alloc (Below.refl w1.heap.size w1) (.cells #[.bool r1, .slice Av r2.length cv] 25 (0, 0)))
  exact ⟨_, rfl, New.set (New.set HN2 BK.out 0 _) (blk_put (cs' := #[.bool r1, .slice none 0 0]) BK.out 0 _ rfl) 1 _, below_set (below_set (below_alloc HB.out _) (by omega)) (by omega)⟩
set_option maxRecDepth 100000 in
set_option maxHeartbeats 4000000 in
theorem of_pos (x : Int) (w : World) (hx : -9223372036854775808 ≤ x ∧ x < 9223372036854775808) (hn : ¬ x < 0) :
    Calls Tryd.prog 18 #[.int .i64 x] w fun e w' => ∃ v, e = .returned (.agg #[.bool (mkI x).1, v]) ∧ New w' w.heap.size v (mkI x).2.1 ∧ Below w.heap.size w w' := by
  have hd : decide (x < 0) = false := by simp; omega
  have ha : IntKind.u64.wrap x = (x.natAbs : Int) := by rw [wrap64]; omega
  have hmk : mk false x.natAbs = mkI x := by unfold mkI; rw [hd]
  have hlt : (x.natAbs : Int) < 18446744073709551616 := by omega
  have hm := pair_mag (x.natAbs : Int) (by omega) hlt
  have hok := pair_ok (x.natAbs : Int)
  rw [Int.natAbs_natCast] at hm
  generalize (x.natAbs : Int) = a at ha hm hok
  generalize hr : mkI x = r at hmk
  have HA := Aside0.mk ha
  have HM := Aside0.mk hm
  have HO := Aside0.mk hok
  have HK := Aside0.mk hmk
  have HN := Aside0.mk hn
  clear hx ha hm hok hmk hr hd hlt
  obtain ⟨r1, r2, r3⟩ := r
  go_enter Tryd.func18, Tryd.ntmps18
  go_wp2_with fail
  rw [HA.out]
  have hp := New.pair (w.alloc (.cells #[.bool false, .slice none 0 0] 25 (0, 0))) (a % 4294967296) (a / 4294967296 % 4294967296)
  obtain ⟨A, c, e1, e2, e3⟩ := New.lim hp
  rw [World.size_alloc] at e1
  obtain ⟨rfl, rfl⟩ : A = some ⟨w.heap.size + 1, 0, none⟩ ∧ c = 2 := by
    injection e1 with q1 _ q2
    exact ⟨q1.symm, q2.symm⟩
  have K := made_calls false _ 2 _ _ e3 e2 HO.out (by simp only [List.length_cons, List.length_nil]; omega)
  rw [HM.out, HK.out] at K
  refine K.mono ?_
  clear K e1 e2 e3 hp
  rintro e w1 ⟨v, rfl, hnew, hb⟩
  obtain ⟨Av, cv, ev, _⟩ := New.lim hnew
  subst ev
  have bk := blk_below (blk_alloc (blk_new w (.cells #[.bool false, .slice none 0 0] 25 (0, 0))) (.cells #[.int .u32 (a % 4294967296), .int .u32 (a / 4294967296 % 4294967296)] 63 (0, 0))) hb
  have HB := Aside0.mk (below_step (below_alloc ((Below.refl _ _).alloc (Nat.le_refl _) _) _) hb)
  have HNEW := Aside0.mk (New.lower (base' := w.heap.size) hnew (by simp; omega))
  clear hnew hb
  have bk2 := blk_alloc bk (.cells #[.bool r1, .slice Av r2.length cv] 25 (0, 0))
  have BK := Aside0.mk bk2
  obtain ⟨hc0, hc1⟩ := cell_at bk2
  have hf0 := blk_frozen bk2 0
  have hf1 := blk_frozen bk2 1
  clear bk bk2 hn
  go_wp2
  refine bodyPost_ret (results_cell_row rfl _ _ w.heap.size 25 #[.bool r1, .slice Av r2.length cv] (0, 0) _ rfl (blk_put (cs := #[.bool r1, .slice none 0 0]) (blk_put (cs := #[.bool false, .slice none 0 0]) BK.out 0 _ rfl) 1 _ rfl) Tryd.underlying25 rfl (by kernel_rfl)) rfl ?_
  have HN2 := HNEW.out.below (below_alloc (Below.refl w1.heap.size w1) (.cells #[.bool r1, .slice Av r2.length cv] 25 (0, 0)))
  exact ⟨_, rfl, New.set (New.set HN2 BK.out 0 _) (blk_put (cs' := #[.bool r1, .slice none 0 0]) BK.out 0 _ rfl) 1 _, below_set (below_set (below_alloc HB.out _) (by omega)) (by omega)⟩
theorem of_calls (x : Int) (w : World) (hx : -9223372036854775808 ≤ x ∧ x < 9223372036854775808) :
    Calls Tryd.prog 18 #[.int .i64 x] w fun e w' => ∃ v, e = .returned (.agg #[.bool (mkI x).1, v]) ∧ New w' w.heap.size v (mkI x).2.1 ∧ Below w.heap.size w w' := by
  by_cases hn : x < 0
  · exact of_neg x w hx hn
  · exact of_pos x w hx hn
end Go.Proofs.YthhpnlbeniihhaaDoor.NumM
namespace Go.Proofs.YthhpnlbeniihhaaDoor.NumN
open Go.RowKit Go.Proofs.YthhpnlbeniihhaaDoorW.PrintWords Go.Proofs.YthhpnlbeniihhaaDoorW.PrintLast Go.Proofs.YthhpnlbeniihhaaDoorW.PrintMore Go.Proofs.YthhpnlbeniihhaaDoor.Limb Go.Proofs.YthhpnlbeniihhaaDoor.NumA Go.Proofs.YthhpnlbeniihhaaDoor.NumB Go.Proofs.YthhpnlbeniihhaaDoor.NumC Go.Proofs.YthhpnlbeniihhaaDoor.NumD Go.Proofs.YthhpnlbeniihhaaDoor.NumE Go.Proofs.YthhpnlbeniihhaaDoor.NumF Go.Proofs.YthhpnlbeniihhaaDoor.NumG Go.Proofs.YthhpnlbeniihhaaDoor.NumH Go.Proofs.YthhpnlbeniihhaaDoor.NumI Go.Proofs.YthhpnlbeniihhaaDoor.NumJ
set_option linter.unusedVariables false
set_option linter.unusedSimpArgs false
/-- The rest, twice, and a bit: one limb's step. -/
def dblF (l : List Int) (bit : Nat) (i c : Nat) : Nat := (2 * nl l i) ||| (if i = 0 then bit else c)
theorem or_nat (x y : Nat) (hx : 2 * x < 18446744073709551616) (hy : y < 18446744073709551616) : Go.bits .or .u64 (2 * (x : Int)) (y : Int) = ((2 * x ||| y : Nat) : Int) := by
  rw [u64_or _ _ (by omega) (by omega) (by omega) (by omega), show (2 * (x : Int)).toNat = 2 * x by omega, Int.toNat_natCast]
set_option maxRecDepth 100000 in
set_option maxHeartbeats 4000000 in
theorem parted1_calls (pa pb : Addr) (A : Option Addr) (c : Nat) (l : List Int) (bit i k : Nat) (w : World) (ha : w.cell? pa = some (.int .u32 bit)) (hb : w.cell? pb = some (.slice A l.length c))
    (hl : Lim w A l) (ol : OkL l) (hi : i < l.length) (hlen : l.length < 35184372088832) (hk : k < 4294967296) (hbit : bit < 2) :
    Calls Tryd.prog 94 #[.int .i64 i, .int .u64 k, .pointer (some pa), .pointer (some pb)] w fun e w' => e = .returned (.int .u64 (dblF l bit i k : Nat)) ∧ Below w.heap.size w w' := by
  have HL := Aside0.mk hl
  have OL := Aside0.mk ol
  have i0 : (0 : Int) ≤ (i : Int) := by omega
  have i1 : (i : Int) < (l.length : Int) := by omega
  obtain ⟨ad, rfl, hat⟩ := hl.at_ (i : Int) i0 i1
  rw [Int.toNat_natCast] at hat
  rw [← nl_cast ol] at hat
  have hx := nl_lt ol i
  unfold dblF
  generalize nl l i = x at *
  have p0 := eq_true i0
  have q0 := eq_true i1
  have w0 : IntKind.u64.wrap ((x : Int) * 2) = 2 * (x : Int) := by rw [IntKind.wrap_u64]; omega
  have wx : IntKind.u64.wrap (x : Int) = (x : Int) := by rw [IntKind.wrap_u64]; omega
  clear hl ol
  by_cases h0 : i = 0
  · have d0 : ((i : Int) == 0) = true := by rw [h0]; rfl
    have hor := or_nat x bit (by omega) (by omega)
    have w1 : IntKind.u64.wrap (bit : Int) = (bit : Int) := by rw [IntKind.wrap_u64]; omega
    rw [if_pos h0, ← hor]
    clear i0 i1 hi hlen hk hbit h0 hor hx
    go_enter Tryd.func94, Tryd.ntmps94
    go_wp2
    go_ret
    exact ⟨rfl, Below.refl _ _⟩
  · have d0 : ((i : Int) == 0) = false := by simp; omega
    have hor := or_nat x k (by omega) (by omega)
    rw [if_neg h0, ← hor]
    clear i0 i1 hi hlen hk hbit h0 hor hx
    go_enter Tryd.func94, Tryd.ntmps94
    go_wp2
    go_ret
    exact ⟨rfl, Below.refl _ _⟩
end Go.Proofs.YthhpnlbeniihhaaDoor.NumN
namespace Go.Proofs.YthhpnlbeniihhaaDoor.Quo
open Go.RowKit Go.Proofs.YthhpnlbeniihhaaDoor.NumG Go.Proofs.YthhpnlbeniihhaaDoorW.PrintWords Go.Proofs.YthhpnlbeniihhaaDoorW.PrintLast Go.Proofs.YthhpnlbeniihhaaDoorW.PrintMore Go.Proofs.YthhpnlbeniihhaaDoor.Limb Go.Proofs.YthhpnlbeniihhaaDoor.NumA Go.Proofs.YthhpnlbeniihhaaDoor.NumB Go.Proofs.YthhpnlbeniihhaaDoor.NumC Go.Proofs.YthhpnlbeniihhaaDoor.NumD Go.Proofs.YthhpnlbeniihhaaDoor.NumE Go.Proofs.YthhpnlbeniihhaaDoor.NumN
set_option linter.unusedVariables false
set_option linter.unusedSimpArgs false
theorem split_bit (a j : Nat) : a / 2 ^ j = 2 * (a / 2 ^ (j + 1)) + a / 2 ^ j % 2 := by
  rw [Nat.pow_succ, ← Nat.div_div_eq_div_mul]
  omega
theorem step_ge {x b q r t : Nat} (hb : 0 < b) (hq : q = x / b) (hr : r = x % b) (ht : t < 2) (h : b ≤ 2 * r + t) : (2 * x + t) / b = 2 * q + 1 ∧ (2 * x + t) % b = 2 * r + t - b := by
  have e := Nat.div_add_mod x b
  have l := Nat.mod_lt x hb
  rw [← hq, ← hr] at e
  rw [← hr] at l
  have e2 : 2 * x + t = (2 * r + t - b) + b * (2 * q + 1) := by
    rw [Nat.mul_add, Nat.mul_one, Nat.mul_left_comm]
    omega
  have lt : 2 * r + t - b < b := by omega
  rw [e2, Nat.add_mul_div_left _ _ hb, Nat.add_mul_mod_self_left, Nat.mod_eq_of_lt lt, Nat.div_eq_of_lt lt]
  omega
theorem step_lt {x b q r t : Nat} (hb : 0 < b) (hq : q = x / b) (hr : r = x % b) (h : 2 * r + t < b) : (2 * x + t) / b = 2 * q ∧ (2 * x + t) % b = 2 * r + t := by
  have e := Nat.div_add_mod x b
  rw [← hq, ← hr] at e
  have e2 : 2 * x + t = (2 * r + t) + b * (2 * q) := by
    rw [Nat.mul_left_comm]
    omega
  rw [e2, Nat.add_mul_div_left _ _ hb, Nat.add_mul_mod_self_left, Nat.mod_eq_of_lt h, Nat.div_eq_of_lt h]
  omega
theorem or_bit (x t : Nat) (ht : t < 2) : (2 * x) ||| t = 2 * x + t := by
  have := nat_join 1 (2 * x) t (by omega) (by omega)
  exact this
/-- The carries behind the first place are 0 or 1. -/
theorem dbl_carry {l : List Int} (ok : OkL l) {bit : Nat} (hb : bit < 2) (i : Nat) : carry (dblF l bit) i < 2 := by
  induction i with
  | zero => show (0 : Nat) < 2; omega
  | succ i ih =>
    show dblF l bit i (carry (dblF l bit) i) / 4294967296 < 2
    have hx := nl_lt ok i
    generalize carry (dblF l bit) i = k at *
    unfold dblF
    generalize nl l i = x at *
    by_cases h : i = 0
    · rw [if_pos h, or_bit _ _ hb]; omega
    · rw [if_neg h, or_bit _ _ ih]; omega
theorem dbl_inv {l : List Int} (ok : OkL l) {bit : Nat} (hb : bit < 2) (i : Nat) :
    mag (pre (dblF l bit) (i + 1)) + 4294967296 ^ (i + 1) * carry (dblF l bit) (i + 1) = 2 * mag (l.take (i + 1)) + bit := by
  induction i with
  | zero =>
    rw [mag_pre_succ, mag_take_next]
    show mag (pre (dblF l bit) 0) + _ + 4294967296 ^ (0 + 1) * (dblF l bit 0 (carry (dblF l bit) 0) / 4294967296) = _
    have hx : dblF l bit 0 (carry (dblF l bit) 0) = 2 * nl l 0 + bit := by unfold dblF; rw [if_pos rfl, or_bit _ _ hb]
    rw [hx]
    have h0 : mag (pre (dblF l bit) 0) = 0 := rfl
    have h1 : mag (l.take 0) = 0 := rfl
    rw [h0, h1, Nat.pow_zero, Nat.pow_one, Nat.one_mul, Nat.one_mul]
    omega
  | succ i ih =>
    rw [mag_pre_succ, mag_take_next]
    have hc := dbl_carry ok hb (i + 1)
    show _ + 4294967296 ^ (i + 1 + 1) * (dblF l bit (i + 1) (carry (dblF l bit) (i + 1)) / 4294967296) = _
    have hx : dblF l bit (i + 1) (carry (dblF l bit) (i + 1)) = 2 * nl l (i + 1) + carry (dblF l bit) (i + 1) := by
      unfold dblF
      rw [if_neg (by omega)]
      exact or_bit _ _ hc
    rw [hx]
    generalize carry (dblF l bit) (i + 1) = k at *
    generalize nl l (i + 1) = x at *
    rw [Nat.pow_succ 4294967296 (i + 1)]
    generalize 4294967296 ^ (i + 1) = K at *
    generalize mag (pre (dblF l bit) (i + 1)) = P at *
    generalize mag (l.take (i + 1)) = T at *
    have hd := Nat.div_add_mod (2 * x + k) 4294967296
    generalize (2 * x + k) / 4294967296 = D at *
    generalize (2 * x + k) % 4294967296 = M at *
    have e : K * (2 * x + k) = K * (4294967296 * D + M) := by rw [hd]
    rw [Nat.mul_add, Nat.mul_add, Nat.mul_left_comm K 2 x] at e
    rw [Nat.mul_assoc K, Nat.mul_add 2]
    omega
theorem dbl_value {l : List Int} (ok : OkL l) {bit : Nat} (hb : bit < 2) (h0 : 0 < l.length) (h : 2 * mag l + bit < 4294967296 ^ l.length) : mag (pre (dblF l bit) l.length) = 2 * mag l + bit := by
  obtain ⟨n, hn⟩ : ∃ n, l.length = n + 1 := ⟨l.length - 1, by omega⟩
  have inv := dbl_inv ok hb n
  rw [← hn, List.take_length] at inv
  have hc : carry (dblF l bit) l.length = 0 := by
    rcases Nat.eq_zero_or_pos (carry (dblF l bit) l.length) with e | e
    · exact e
    · exfalso
      have := Nat.le_mul_of_pos_right (4294967296 ^ l.length) e
      omega
  rw [hc, Nat.mul_zero] at inv
  omega
/-- A limb, out of the value. -/
theorem mag_limb {l : List Int} (ok : OkL l) (k : Nat) : mag l / 4294967296 ^ k % 4294967296 = nl l k := by
  have hs : mag l = mag (l.take k) + 4294967296 ^ k * (nl l k + 4294967296 * mag (l.drop (k + 1))) := by
    have h1 := mag_take_next l k
    have h2 : mag l = mag (l.take (k + 1)) + 4294967296 ^ (l.take (k + 1)).length * mag (l.drop (k + 1)) := by rw [← mag_append, List.take_append_drop]
    by_cases hk : k + 1 ≤ l.length
    · rw [List.length_take, Nat.min_eq_left hk, Nat.pow_succ, Nat.mul_assoc] at h2
      rw [h2, h1, Nat.mul_add]
      omega
    · have e : mag (l.drop (k + 1)) = 0 := by rw [List.drop_of_length_le (by omega)]; rfl
      rw [e, Nat.mul_zero] at h2
      rw [e, h2, h1]
      rfl
  have lt : mag (l.take k) < 4294967296 ^ k := by
    have := mag_lt (l := l.take k) (fun x hx => ok x (List.mem_of_mem_take hx))
    refine Nat.lt_of_lt_of_le this (Nat.pow_le_pow_right (by decide) (by rw [List.length_take]; omega))
  have hx := nl_lt ok k
  rw [hs, Nat.add_mul_div_left _ _ (Nat.pow_pos (by decide)), Nat.div_eq_of_lt lt, Nat.zero_add]
  omega
theorem pow_split (i : Nat) : 2 ^ i = 4294967296 ^ (i / 32) * 2 ^ (i % 32) := by
  have e : (4294967296 : Nat) = 2 ^ 32 := rfl
  rw [e, ← Nat.pow_mul, ← Nat.pow_add]
  congr 1
  omega
theorem low_bit (X t : Nat) (ht : t < 32) : X % 4294967296 / 2 ^ t % 2 = X / 2 ^ t % 2 := by
  have e : (4294967296 : Nat) = 2 ^ t * (2 * 2 ^ (31 - t)) := by
    rw [← Nat.mul_assoc, ← Nat.pow_succ, ← Nat.pow_add, show t + 1 + (31 - t) = 32 by omega]
  rw [e, Nat.mod_mul_right_div_self, Nat.mod_mul_right_mod]
/-- A bit of the value. -/
theorem bit_limb {l : List Int} (ok : OkL l) (i : Nat) : mag l / 2 ^ i % 2 = nl l (i / 32) / 2 ^ (i % 32) % 2 := by
  rw [pow_split, ← Nat.div_div_eq_div_mul, ← mag_limb ok (i / 32), low_bit _ _ (Nat.mod_lt _ (by decide))]
/-- A bit set where there are noughts, and below. -/
theorem set_bit_limb {l : List Int} (ok : OkL l) (i y : Nat) (h : mag l = 2 ^ (i + 1) * y) : nl l (i / 32) % 2 ^ (i % 32 + 1) = 0 := by
  have ht : i % 32 < 32 := Nat.mod_lt _ (by decide)
  rw [← mag_limb ok (i / 32)]
  have e : mag l / 4294967296 ^ (i / 32) = 2 ^ (i % 32 + 1) * y := by
    rw [h, Nat.pow_succ, pow_split, Nat.pow_succ]
    rw [Nat.mul_assoc, Nat.mul_assoc, Nat.mul_div_cancel_left _ (Nat.pow_pos (by decide)), Nat.mul_assoc]
  rw [e]
  have e2 : (4294967296 : Nat) = 2 ^ (i % 32 + 1) * 2 ^ (31 - i % 32) := by
    rw [← Nat.pow_add, show i % 32 + 1 + (31 - i % 32) = 32 by omega]
  rw [e2, Nat.mul_mod_mul_left, Nat.mul_mod_right]
theorem or_set (x t : Nat) (h : x % 2 ^ (t + 1) = 0) : x ||| 2 ^ t = x + 2 ^ t := nat_join (t + 1) x (2 ^ t) h (Nat.pow_lt_pow_right (by decide) (by omega))
theorem set_bit_lt {l : List Int} (ok : OkL l) (i y : Nat) (h : mag l = 2 ^ (i + 1) * y) : nl l (i / 32) + 2 ^ (i % 32) < 4294967296 := by
  have hz := set_bit_limb ok i y h
  have ht : i % 32 < 32 := Nat.mod_lt _ (by decide)
  have hx := nl_lt ok (i / 32)
  have e2 : (4294967296 : Nat) = 2 ^ (i % 32 + 1) * 2 ^ (31 - i % 32) := by
    rw [← Nat.pow_add, show i % 32 + 1 + (31 - i % 32) = 32 by omega]
  have hd := Nat.div_add_mod (nl l (i / 32)) (2 ^ (i % 32 + 1))
  rw [hz, Nat.add_zero] at hd
  have hq : nl l (i / 32) / 2 ^ (i % 32 + 1) < 2 ^ (31 - i % 32) := by
    apply Nat.div_lt_of_lt_mul
    rw [← e2]
    exact hx
  have hm := Nat.mul_le_mul_left (2 ^ (i % 32 + 1)) (Nat.succ_le_of_lt hq)
  rw [Nat.mul_succ, hd, ← e2] at hm
  have hp : 2 ^ (i % 32 + 1) = 2 * 2 ^ (i % 32) := by rw [Nat.pow_succ, Nat.mul_comm]
  have := Nat.pow_pos (n := i % 32) (show 0 < 2 by decide)
  omega
theorem mag_set_bit {l : List Int} (ok : OkL l) (i y : Nat) (h : mag l = 2 ^ (i + 1) * y) (hi : i / 32 < l.length) : mag (l.set (i / 32) ((nl l (i / 32) ||| 2 ^ (i % 32) : Nat) : Int)) = 2 ^ i * (2 * y + 1) := by
  have hs := mag_set l (i / 32) ((nl l (i / 32) ||| 2 ^ (i % 32) : Nat) : Int) hi
  rw [or_set _ _ (set_bit_limb ok i y h), Int.toNat_natCast, Nat.mul_add] at hs
  rw [or_set _ _ (set_bit_limb ok i y h)]
  have e : 2 ^ i * (2 * y + 1) = mag l + 2 ^ i := by rw [h, Nat.mul_add, Nat.mul_one, Nat.pow_succ, Nat.mul_assoc]
  rw [e, pow_split i]
  omega
end Go.Proofs.YthhpnlbeniihhaaDoor.Quo
namespace Go.Proofs.YthhpnlbeniihhaaDoor.NumO
open Go.RowKit Go.Proofs.YthhpnlbeniihhaaDoorW.PrintWords Go.Proofs.YthhpnlbeniihhaaDoorW.PrintLast Go.Proofs.YthhpnlbeniihhaaDoorW.PrintMore Go.Proofs.YthhpnlbeniihhaaDoor.Limb Go.Proofs.YthhpnlbeniihhaaDoor.NumA Go.Proofs.YthhpnlbeniihhaaDoor.NumB Go.Proofs.YthhpnlbeniihhaaDoor.NumC Go.Proofs.YthhpnlbeniihhaaDoor.NumD Go.Proofs.YthhpnlbeniihhaaDoor.NumE Go.Proofs.YthhpnlbeniihhaaDoor.NumF Go.Proofs.YthhpnlbeniihhaaDoor.NumG Go.Proofs.YthhpnlbeniihhaaDoor.NumH Go.Proofs.YthhpnlbeniihhaaDoor.NumI Go.Proofs.YthhpnlbeniihhaaDoor.NumJ Go.Proofs.YthhpnlbeniihhaaDoor.NumN Go.Proofs.YthhpnlbeniihhaaDoor.Quo
set_option linter.unusedVariables false
set_option linter.unusedSimpArgs false
/-- The rows that parted answers. -/
def Parts (w : World) (a b : Nat) (la lb : Nat) (e : Ending) (w' : World) : Prop :=
  ∃ q r Q R, e = .returned (.tuple #[q, r]) ∧ New w' w.heap.size q Q ∧ New w' w.heap.size r R ∧ OkL Q ∧ OkL R ∧ mag Q = a / b ∧ mag R = a % b ∧ Q.length ≤ la ∧ R.length ≤ lb + 1 ∧ Below w.heap.size w w'
theorem make_run (n : Nat) (h : n < 35184372088832) : ∀ W : World, Sem.run Tryd.prog (Instr.makeSlice 23 (.int .i64 (n : Int)) (.int .i64 (n : Int))) W = .ok (.slice (some ⟨W.heap.size, 0, none⟩) n n) (W.alloc (.cells (madeCells (Value.int .u32 0).cells n) 63 (0, 0))) := by
  intro W
  obtain ⟨i0, hi, hzz⟩ := Option.map_eq_some_iff.1 info32
  simp only [Prod.mk.injEq] at hzz
  obtain ⟨hz0, hz1, hz2⟩ := hzz
  have hr := run_make (P := Tryd.prog) W 23 63 i0 (.int .u32 0) Tryd.underlying23 hi hz0 .i64 .i64 (n : Int) (n : Int) (by omega) (by omega) (by rw [hz2]; omega) (by omega)
  rw [hz1, Nat.mul_one, Int.toNat_natCast] at hr
  exact hr
/-- The world at the loop's head. -/
theorem start_world (w : World) (k : Nat) (v : Value) (X Y : Array Value) :
    ((((((w.alloc (.cells #[.slice none 0 0] 23 (0, 0))).drewN k).setCell ⟨w.heap.size, 0, none⟩ v).alloc (.cells X 63 (0, 0))).alloc (.cells Y 63 (0, 0))).heap[w.heap.size]? = some (.cells #[v] 23 (0, 0)) ∧
    (((((w.alloc (.cells #[.slice none 0 0] 23 (0, 0))).drewN k).setCell ⟨w.heap.size, 0, none⟩ v).alloc (.cells X 63 (0, 0))).alloc (.cells Y 63 (0, 0))).heap[w.heap.size + 1]? = some (.cells X 63 (0, 0)) ∧
    (((((w.alloc (.cells #[.slice none 0 0] 23 (0, 0))).drewN k).setCell ⟨w.heap.size, 0, none⟩ v).alloc (.cells X 63 (0, 0))).alloc (.cells Y 63 (0, 0))).heap[w.heap.size + 1 + 1]? = some (.cells Y 63 (0, 0))) ∧
    Below w.heap.size w (((((w.alloc (.cells #[.slice none 0 0] 23 (0, 0))).drewN k).setCell ⟨w.heap.size, 0, none⟩ v).alloc (.cells X 63 (0, 0))).alloc (.cells Y 63 (0, 0))) := by
  have h0 := blk_new w (.cells #[.slice none 0 0] 23 (0, 0))
  have hs : (((w.alloc (.cells #[.slice none 0 0] 23 (0, 0))).drewN k).setCell ⟨w.heap.size, 0, none⟩ v).heap.size = w.heap.size + 1 := by simp [World.setCell]
  have h1 : (((w.alloc (.cells #[.slice none 0 0] 23 (0, 0))).drewN k).setCell ⟨w.heap.size, 0, none⟩ v).heap[w.heap.size]? = some (.cells #[v] 23 (0, 0)) := blk_put (w := (w.alloc (.cells #[.slice none 0 0] 23 (0, 0))).drewN k) h0 0 v rfl
  have hb : Below w.heap.size w (((w.alloc (.cells #[.slice none 0 0] 23 (0, 0))).drewN k).setCell ⟨w.heap.size, 0, none⟩ v) := below_set (pw_below_drewN (below_alloc (Below.refl w.heap.size w) _) _) (by omega)
  generalize ((w.alloc (.cells #[.slice none 0 0] 23 (0, 0))).drewN k).setCell ⟨w.heap.size, 0, none⟩ v = W at *
  have h2 := blk_new W (.cells X 63 (0, 0))
  have h3 := blk_new (W.alloc (.cells X 63 (0, 0))) (.cells Y 63 (0, 0))
  rw [World.size_alloc] at h3
  rw [hs] at h2 h3
  exact ⟨⟨blk_alloc (blk_alloc h1 _) _, blk_alloc h2 _, h3⟩, below_alloc (below_alloc hb _) _⟩
theorem w64_of {x y : Int} (h : x = y) (h0 : -9223372036854775808 ≤ y) (h1 : y ≤ 9223372036854775807) : wrap64 x = y := by subst h; unfold wrap64; omega
theorem i64_of {x y : Int} (h : x = y) (h0 : -9223372036854775808 ≤ y) (h1 : y ≤ 9223372036854775807) : IntKind.i64.wrap x = y := by subst h; rw [IntKind.wrap_i64]; omega
/-- A row of limbs of the call's own, in no block bq. -/
def NewB (w : World) (base bq : Nat) (v : Value) (l : List Int) : Prop := Kd.R (Kd.int .u32) 63 w base (fun k => k ≠ bq) v l
theorem NewB.of {w : World} {base base' bq : Nat} {v : Value} {l : List Int} (h : New w base v l) (hb : bq < base) (hl : base' ≤ base) : NewB w base' bq v l :=
  Kd.R_lower (Kd.R_mono (Kd.R_bound h) (fun k hk => by have := hk.2.1; omega)) hl
theorem NewB.new {w : World} {base bq : Nat} {v : Value} {l : List Int} (h : NewB w base bq v l) : New w base v l := Kd.R_mono h (fun _ _ => trivial)
theorem NewB.below {w w1 : World} {base bq : Nat} {v : Value} {l : List Int} (h : NewB w base bq v l) (hb : Below w.heap.size w w1) : NewB w1 base bq v l := Kd.R_below h hb
theorem NewB.far {w : World} {base bq : Nat} {v : Value} {l : List Int} (h : NewB w base bq v l) (j : Nat) (u : Value) : NewB (w.setCell ⟨bq, j, none⟩ u) base bq v l := Kd.R_far (p := ⟨bq, j, none⟩) h (fun _ hk => hk) u
theorem NewB.set {w : World} {base bq : Nat} {v : Value} {l : List Int} (h : NewB w base bq v l) {g : Nat} {cells : Array Value} (hb : w.heap[g]? = some (.cells cells 23 (0, 0))) (j : Nat) (u : Value) : NewB (w.setCell ⟨g, j, none⟩ u) base bq v l :=
  Kd.R_set h hb (fun q hq => by
    have : q = 63 := by simpa [Kd.int, Kd.scalar] using hq
    subst this
    decide) j u
/-- The row's cells, as a block. -/
def cellsL (l : List Int) : Array Value := (l.map (Value.int .u32)).toArray
theorem cellsL_set (l : List Int) (i : Nat) (x : Int) : cellsL (l.set i x) = (cellsL l).setIfInBounds i (.int .u32 x) := by
  unfold cellsL
  simp [List.map_set]
theorem cellsL_get (l : List Int) (i : Nat) (h : i < l.length) : (cellsL l)[i]? = some (.int .u32 l[i]) := by
  unfold cellsL
  simp [h]
theorem cellsL_zeros (n : Nat) : madeCells #[.int .u32 0] n = cellsL (List.replicate n 0) := by
  unfold cellsL madeCells
  apply Array.ext'
  apply List.ext_getElem
  · simp
  · intro i h1 h2
    simp [Nat.mod_one]
theorem dblF64 (l : List Int) (ol : OkL l) (bit i c : Nat) (hb : bit < 2) (hc : c < 4294967296) : dblF l bit i c < 18446744073709551616 := by
  have h1 : 2 * nl l i < 2 ^ 64 := by have := nl_lt ol i; omega
  have h2 : (if i = 0 then bit else c) < 2 ^ 64 := by split <;> omega
  exact Nat.or_lt_two_pow h1 h2
theorem enter_parted1 (p q x y : Value) (W : World) : Sem.run Tryd.prog (callFunc 94 #[x, y, p, q]) W = .ok (.enter 94 #[x, y, p, q]) W := by kernel_rfl
theorem row_part (pa pb : Addr) (A : Option Addr) (c : Nat) (l : List Int) (bit : Nat) (w : World) (ha : w.cell? pa = some (.int .u32 bit)) (hb : w.cell? pb = some (.slice A l.length c))
    (hl : Lim w A l) (ol : OkL l) (hlen : l.length < 35184372088832) (hbit : bit < 2) :
    Calls Tryd.prog 65 #[.int .i64 l.length, .func (.func 94) #[] #[.pointer (some pa), .pointer (some pb)]] w fun e w' => ∃ v, e = .returned v ∧ New w' w.heap.size v (pre (dblF l bit) l.length) ∧ Below w.heap.size w w' := by
  refine row_calls 94 (.pointer (some pa)) (.pointer (some pb)) l.length (dblF l bit) w hlen (enter_parted1 _ _) ?_ ?_
  · intro i k hi hk
    exact dblF64 l ol bit i k hbit hk
  · intro i k w1 hi hk hb1
    exact parted1_calls pa pb A c l bit i k w1 (pw_cell_below hb1 ha) (pw_cell_below hb1 hb) (hl.below hb1) ol hi hlen hk hbit
theorem bit_and (x t : Nat) (hx : x < 4294967296) : Go.bits .and .u32 ((x : Int) / 2 ^ t) 1 = ((x / 2 ^ t % 2 : Nat) : Int) := by
  have e : (x : Int) / 2 ^ t = ((x / 2 ^ t : Nat) : Int) := by
    rw [Int.natCast_ediv, Int.natCast_pow]
    rfl
  rw [e]
  have h1 : x / 2 ^ t < 4294967296 := Nat.lt_of_le_of_lt (Nat.div_le_self _ _) hx
  generalize x / 2 ^ t = y at *
  have h2 := u32_and_nat y 1 h1 (by decide)
  rw [nat_mask1] at h2
  exact h2
/-- How things stand at the head of the loop, j bits still to come. -/
def PInv (B : Nat) (a b : List Int) (bq br j : Nat) (w : World) : Prop :=
  j ≤ 32 * a.length ∧ (∃ Q : List Int, w.heap[bq]? = some (.cells (cellsL Q) 63 (0, 0)) ∧ OkL Q ∧ Q.length = a.length ∧ mag Q = 2 ^ j * (mag a / 2 ^ j / mag b)) ∧
    ∃ (v : Value) (R : List Int), w.heap[br]? = some (.cells #[v] 23 (0, 0)) ∧ NewB w B bq v R ∧ OkL R ∧ R.length = b.length + 1 ∧ mag R = mag a / 2 ^ j % mag b
theorem pow32 (n : Nat) : 2 ^ (32 * n) = 4294967296 ^ n := by rw [Nat.pow_mul]
theorem start_inv (B : Nat) (a b : List Int) (oa : OkL a) (bq br bw n2 : Nat) (W : World) (hn : b.length + 1 = n2) (hm : n2 ≤ maxLen) (hne : bw ≠ bq) (hB : B ≤ bw)
    (hq : W.heap[bq]? = some (.cells (madeCells #[.int .u32 0] a.length) 63 (0, 0))) (hR : W.heap[bw]? = some (.cells (madeCells #[.int .u32 0] n2) 63 (0, 0)))
    (hr : W.heap[br]? = some (.cells #[.slice (some ⟨bw, 0, none⟩) n2 n2] 23 (0, 0))) : PInv B a b bq br (32 * a.length) W := by
  rw [cellsL_zeros] at hq hR
  have z : mag a / 2 ^ (32 * a.length) = 0 := by rw [pow32]; exact Nat.div_eq_of_lt (mag_lt oa)
  refine ⟨Nat.le_refl _, ⟨_, hq, zeros_ok _, List.length_replicate, ?_⟩, _, List.replicate n2 0, hr, ?_, zeros_ok _, by rw [List.length_replicate, hn], ?_⟩
  · rw [z, mag_zeros, Nat.zero_div, Nat.mul_zero]
  · have hl : (List.replicate n2 (0 : Int)).length = n2 := List.length_replicate
    refine Kd.R_of_own (enc := Value.int .u32) (h1 := fun _ => rfl) (ok := fun k => k ≠ bq) ?_ (fun k hk => by
      have e : bw = k := by simpa [Value.ownBlock] using hk
      exact e ▸ hne)
    rw [hl]
    refine ⟨by simp [encs], .inr ⟨bw, n2, _, rfl, hB, hR, Nat.le_refl _, hm, by unfold cellsL; simp, ?_⟩⟩
    unfold cellsL
    rw [Nat.mul_one, List.take_of_length_le (by simp)]
    rfl
  · rw [z, mag_zeros, Nat.zero_mod]
set_option maxRecDepth 100000 in
set_option maxHeartbeats 4000000 in
theorem parted_calls (A B : Option Addr) (c d : Nat) (l m : List Int) (w : World) 
    (hl : Lim w A l) (hm : Lim w B m) (ol : OkL l) (om : OkL m) (hc : l.length ≤ c) (hd : m.length ≤ d) (hl2 : l.length < 1099511627776) (hm2 : m.length < 1099511627776) (h0 : mag m ≠ 0) :
    Calls Tryd.prog 69 #[.slice A l.length c, .slice B m.length d] w (Parts w (mag l) (mag m) l.length (tr m).length) := by
  have HL := Aside0.mk hl
  have HM := Aside0.mk hm
  have HC := Aside0.mk hc
  have HD := Aside0.mk hd
  have T1 := Lib.hid (show ∀ W : World, Lim W A l → Calls Tryd.prog 54 #[.slice A l.length c] W _ from fun W hW => trim_calls A c l W hW hc)
  have T2 := Lib.hid (show ∀ W : World, Lim W B m → Calls Tryd.prog 54 #[.slice B m.length d] W _ from fun W hW => trim_calls B d m W hW hd)
  have k1 : (tr l).length < 35184372088832 := by have := tr_len_le l; omega
  have k2 : (tr m).length + 1 < 35184372088832 := by have := tr_len_le m; omega
  have r1 := make_run _ k1
  obtain ⟨n2, hn2⟩ : ∃ n2, (tr m).length + 1 = n2 := ⟨_, rfl⟩
  have HN2 := Aside0.mk hn2
  have r2 := make_run n2 (by omega)
  have wl : wrap64 (((tr m).length : Int) + 1) = (n2 : Int) := by unfold wrap64; omega
  have HWL := Aside0.mk wl
  have HL2 := Aside0.mk hl2
  have HM2 := Aside0.mk hm2
  have OA := Aside0.mk (ok_tr ol)
  have OB := Aside0.mk (ok_tr om)
  have HM0 := Aside0.mk h0
  clear hn2
  clear hl hm hc hd ol om hl2 hm2 h0 k1 k2
  go_enter Tryd.func69, Tryd.ntmps69
  go_wp2_with (first | (go_at_call_of 54 (Value.slice A l.length c); (refine (T1.out _ (HL.out.alloc _)).mono ?_); rintro e w' ⟨rfl, ⟨nd, rfl⟩⟩) | (go_at_call_of 54 (Value.slice B m.length d); (refine (T2.out _ ((HM.out.alloc _).drewN _)).mono ?_); rintro e w' ⟨rfl, ⟨nd2, rfl⟩⟩))
  go_region
  all_goals (clear r1 r2 wl; go_wp2)
  all_goals first
   | (obtain ⟨⟨hr, hq, hR⟩, hb⟩ := start_world w (nd + nd2 + 1) (.slice (some ⟨w.heap.size + 1 + 1, 0, none⟩) n2 n2) (madeCells #[.int .u32 0] (tr l).length) (madeCells #[.int .u32 0] n2)
      obtain ⟨W, hW⟩ : ∃ W, (((((w.alloc (.cells #[.slice none 0 0] 23 (0, 0))).drewN (nd + nd2 + 1)).setCell ⟨w.heap.size, 0, none⟩ (.slice (some ⟨w.heap.size + 1 + 1, 0, none⟩) n2 n2)).alloc (.cells (madeCells #[.int .u32 0] (tr l).length) 63 (0, 0))).alloc (.cells (madeCells #[.int .u32 0] n2) 63 (0, 0))) = W := ⟨_, rfl⟩
      rw [hW] at hr hq hR hb
      rw [hW]
      clear hW
      have hI := start_inv w.heap.size (tr l) (tr m) OA.out (w.heap.size + 1) w.heap.size (w.heap.size + 1 + 1) n2 W HN2.out (by have := HN2.out; have := HM2.out; have := tr_len_le m; unfold maxLen; omega) (by omega) (by omega) hq hR hr
      obtain ⟨bq, hbq⟩ : ∃ bq, w.heap.size + 1 = bq := ⟨_, rfl⟩
      have hbq0 : w.heap.size < bq := by omega
      rw [hbq] at hI
      rw [hbq]
      have HBQ := Aside0.mk hbq0
      clear hbq hbq0)
   | (obtain ⟨⟨hr, hR, hq⟩, hb⟩ := start_world w (nd + nd2 + 1) (.slice (some ⟨w.heap.size + 1, 0, none⟩) n2 n2) (madeCells #[.int .u32 0] n2) (madeCells #[.int .u32 0] (tr l).length)
      obtain ⟨W, hW⟩ : ∃ W, (((((w.alloc (.cells #[.slice none 0 0] 23 (0, 0))).drewN (nd + nd2 + 1)).setCell ⟨w.heap.size, 0, none⟩ (.slice (some ⟨w.heap.size + 1, 0, none⟩) n2 n2)).alloc (.cells (madeCells #[.int .u32 0] n2) 63 (0, 0))).alloc (.cells (madeCells #[.int .u32 0] (tr l).length) 63 (0, 0))) = W := ⟨_, rfl⟩
      rw [hW] at hr hq hR hb
      rw [hW]
      clear hW
      have hI := start_inv w.heap.size (tr l) (tr m) OA.out (w.heap.size + 1 + 1) w.heap.size (w.heap.size + 1) n2 W HN2.out (by have := HN2.out; have := HM2.out; have := tr_len_le m; unfold maxLen; omega) (by omega) (by omega) hq hR hr
      obtain ⟨bq, hbq⟩ : ∃ bq, w.heap.size + 1 + 1 = bq := ⟨_, rfl⟩
      have hbq0 : w.heap.size < bq := by omega
      rw [hbq] at hI
      rw [hbq]
      have HBQ := Aside0.mk hbq0
      clear hbq hbq0)
  all_goals
    have HI := Aside0.mk hI
    have HB := Aside0.mk hb
    clear hI hr hq hR hb
    obtain ⟨x0, hx0⟩ : ∃ x0 : Int, wrap64 (wrap64 (32 * ((tr l).length : Int)) - 1) = x0 := ⟨_, rfl⟩
    rw [hx0]
    have hxe : x0 = 32 * ((tr l).length : Int) - 1 := by
      have h1 := HL2.out
      have h2 := tr_len_le l
      rw [← hx0]
      have e1 : wrap64 (32 * ((tr l).length : Int)) = 32 * ((tr l).length : Int) := by unfold wrap64; omega
      rw [e1]
      unfold wrap64
      omega
    have HXE := Aside0.mk hxe
    clear hxe hx0
    go_loopw [6] (fun v6 w' => ∃ x : Int, v6 = .int .i64 x ∧ Aside0 (-1 ≤ x ∧ PInv w.heap.size (tr l) (tr m) bq w.heap.size (x + 1).toNat w') ∧ Aside0 (Below w.heap.size w w')) (fun v6 _ => (intOf v6 + 1).toNat)
    case atStart => exact ⟨x0, rfl, ⟨by have := HXE.out; omega, by have := HXE.out; rw [show (x0 + 1).toNat = 32 * (tr l).length by omega]; exact HI.out⟩, HB⟩
    case round =>
      clear HI HB HXE
      obtain ⟨x, rfl, HI, HB⟩ := hrel
      by_cases h0 : x = -1
      · subst h0
        obtain ⟨hj, ⟨Q, hQ, okQ, lenQ, magQ⟩, rv, R, hR, hN, okR, lenR, magR⟩ := HI.out.2
        obtain ⟨Ar, cr, rfl, hcr, hlR⟩ := New.lim hN.new
        have HQ := Aside0.mk hQ
        have HQ' := Aside0.mk (And.intro okQ (And.intro lenQ magQ))
        have HR := Aside0.mk hR
        have HN := Aside0.mk hN
        have HR' := Aside0.mk (And.intro okR (And.intro lenR magR))
        have hcr0 := (blk_cell hR 0)
        have hfr0 := blk_frozen hR 0
        clear hj hQ okQ lenQ magQ hR hN okR lenR magR hcr hlR HI
        go_wp2
        go_region
        go_wp2
        obtain ⟨We, hWe⟩ : ∃ We, (wr.setCell ⟨w.heap.size, 0, none⟩ (.slice Ar R.length cr)).drew = We := ⟨_, rfl⟩
        have hsz := blk_lt HQ.out
        have hcw : We.cell? ⟨w.heap.size, 0, none⟩ = some (.slice Ar R.length cr) := by
          rw [← hWe]
          exact (blk_cell (blk_drew (blk_put HR.out 0 _ rfl)) 0).trans rfl
        have hqw : We.heap[bq]? = some (.cells (cellsL Q) 63 (0, 0)) := by
          rw [← hWe]
          exact blk_drew (blk_far HQ.out (by dsimp only; have := HBQ.out; omega) _)
        have hnw : New We w.heap.size (.slice Ar R.length cr) R := by
          rw [← hWe]
          exact (HN.out.set HR.out 0 _).new
        have hbw : Below w.heap.size w We := by
          rw [← hWe]
          exact below_drew (below_set HB.out (Nat.le_refl _))
        rw [hWe]
        have HQW := Aside0.mk hqw
        have HNW := Aside0.mk hnw
        have HBW := Aside0.mk hbw
        clear hWe hqw hnw hbw hsz
        have hlq : Q.length = (tr l).length := HQ'.out.2.1
        have hnq : New We w.heap.size (.slice (some ⟨bq, 0, none⟩) (tr l).length (tr l).length) Q := by
          rw [← hlq]
          exact New.of_block (Nat.le_of_lt HBQ.out) HQW.out (Nat.le_refl _) (by rw [hlq]; have := HL2.out; have := tr_len_le l; unfold maxLen; omega) (by unfold cellsL; simp) (by unfold cellsL; rw [List.take_of_length_le (by simp)])
        have HNQ := Aside0.mk hnq
        clear hnq hlq
        refine bodyPost_ret (v := .tuple #[.slice (some ⟨bq, 0, none⟩) (tr l).length (tr l).length, .slice Ar R.length cr]) (by simp [results, Tryd.results69, go_sem, hcw]) rfl ?_
        refine ⟨_, _, Q, R, rfl, HNQ.out, HNW.out, HQ'.out.1, HR'.out.1, ?_, ?_, by rw [HQ'.out.2.1]; exact tr_len_le l, by rw [HR'.out.2.1]; exact Nat.le_refl _, HBW.out⟩
        · rw [HQ'.out.2.2]
          simp [mag_tr]
        · rw [HR'.out.2.2]
          simp [mag_tr]
      · obtain ⟨i, rfl⟩ := Int.eq_ofNat_of_zero_le (show 0 ≤ x by have := HI.out.1; omega)
        obtain ⟨hj, ⟨Q, hQ, okQ, lenQ, magQ⟩, rv, R, hR, hN, okR, lenR, magR⟩ := HI.out.2
        rw [show ((i : Int) + 1).toNat = i + 1 by omega] at hj magQ magR
        obtain ⟨Ar, cr, rfl, hcr, hlR⟩ := New.lim hN.new
        have HQ := Aside0.mk hQ
        have OQ := Aside0.mk okQ
        have LQ := Aside0.mk lenQ
        have MQ := Aside0.mk magQ
        have HR := Aside0.mk hR
        have HN := Aside0.mk hN
        have OR := Aside0.mk okR
        have LR := Aside0.mk lenR
        have MR := Aside0.mk magR
        have HLR := Aside0.mk hlR
        have HCR := Aside0.mk hcr
        have i0 : (0 : Int) ≤ (i : Int) := by omega
        obtain ⟨xi, hxi⟩ : ∃ xi : Int, (i : Int) - 1 = xi := ⟨_, rfl⟩
        have hil : i < 32 * (tr l).length := by omega
        have hll := HL2.out
        have htl := tr_len_le l
        obtain ⟨dn, hdn⟩ : ∃ dn : Nat, i / 32 = dn := ⟨_, rfl⟩
        obtain ⟨d', hd'⟩ : ∃ d' : Int, (dn : Int) = d' := ⟨_, rfl⟩
        have hA := ((HL.out.take (tr_len_le l)).below HB.out)
        rw [tr_take] at hA
        have d0 : (0 : Int) ≤ d' := by omega
        have d1 : d' < ((tr l).length : Int) := by omega
        obtain ⟨ad, e0, hcell⟩ := hA.at_ d' d0 d1
        have hbit := bit_and (nl (tr l) dn) (i % 32) (nl_lt OA.out dn)
        rw [nl_cast OA.out, hd'] at hbit
        have hbe := bit_limb OA.out i
        rw [hdn] at hbe
        rw [← hbe] at hbit
        obtain ⟨bit, hbt⟩ : ∃ bit, mag (tr l) / 2 ^ i % 2 = bit := ⟨_, rfl⟩
        rw [hbt] at hbit
        have HBT := Aside0.mk hbt
        have hb2 : bit < 2 := by rw [← hbt]; exact Nat.mod_lt _ (by decide)
        have HB2 := Aside0.mk hb2
        have HIL := Aside0.mk hil
        have HDN := Aside0.mk hdn
        have HD' := Aside0.mk hd'
        have p0 := eq_true d0
        have q0 := eq_true d1
        have wd0 : (i : Int) / 32 = d' := by omega
        have wd4 : -9223372036854775808 ≤ d' := by omega
        have wd3 : d' ≤ 9223372036854775807 := by omega
        have hi63 : (i : Int) < 9223372036854775807 := by omega
        have HXI := Aside0.mk hxi
        have xb0 : -9223372036854775808 ≤ xi := by omega
        have xb1 : xi ≤ 9223372036854775807 := by omega
        have wx1 : wrap64 ((i : Int) - 1) = xi := w64_of hxi xb0 xb1
        have wx2 : IntKind.i64.wrap ((i : Int) - 1) = xi := i64_of hxi xb0 xb1
        clear xb0 xb1
        clear hxi hi63
        have wd : wrap64 ((i : Int) / 32) = d' := w64_of wd0 wd4 wd3
        have wd2 : IntKind.i64.wrap ((i : Int) / 32) = d' := i64_of wd0 wd4 wd3
        cases e0
        -- the world in which row is called
        have hr0 : (wr.alloc (.cells #[.int .u32 (bit : Int)] 63 (0, 0))).cell? ⟨w.heap.size, 0, none⟩ = some (.slice Ar R.length cr) := (blk_cell (blk_alloc hR _) 0).trans rfl
        have hb0 : (wr.alloc (.cells #[.int .u32 (bit : Int)] 63 (0, 0))).cell? ⟨wr.heap.size, 0, none⟩ = some (.int .u32 (bit : Int)) := (blk_cell (blk_new wr _) 0).trans rfl
        have CALL := Lib.hid (row_part ⟨wr.heap.size, 0, none⟩ ⟨w.heap.size, 0, none⟩ Ar cr R bit (wr.alloc (.cells #[.int .u32 (bit : Int)] 63 (0, 0))) hb0 hr0 (hlR.alloc _) okR (by have := HM2.out; have := tr_len_le m; omega) hb2)
        clear hb0 wd0 wd3 wd4
        clear hj hQ okQ lenQ magQ hR hN okR lenR magR HI h0 hil hdn hd' hA d0 d1 hll htl hbe hbt hb2 hlR hcr
        go_wp2_with fail
        refine CALL.out.mono ?_
        clear CALL
        rintro e w1 ⟨v1, rfl, hn1, hb1⟩
        obtain ⟨R1, hR1⟩ : ∃ R1, pre (dblF R bit) R.length = R1 := ⟨_, rfl⟩
        have okR1 : OkL R1 := by rw [← hR1]; exact pre_ok _ _
        have lenR1 : R1.length = R.length := by rw [← hR1]; exact pre_length _ _
        have hbm : 0 < mag (tr m) := by rw [mag_tr]; exact Nat.pos_of_ne_zero HM0.out
        have magR1 : mag R1 = 2 * mag R + bit := by
          rw [← hR1]
          refine dbl_value OR.out HB2.out (by rw [LR.out]; omega) ?_
          have h1 : mag R < mag (tr m) := by rw [MR.out]; exact Nat.mod_lt _ hbm
          have h2 := mag_lt OB.out
          have h3 := HB2.out
          rw [LR.out, Nat.pow_succ]
          omega
        rw [hR1] at hn1
        obtain ⟨A1, c1, rfl, hc1, _⟩ := New.lim hn1
        have hbk := blk_below (blk_alloc HR.out (.cells #[.int .u32 (bit : Int)] 63 (0, 0))) hb1
        have hqk := blk_below (blk_alloc HQ.out (.cells #[.int .u32 (bit : Int)] 63 (0, 0))) hb1
        have hB1 := below_step (below_alloc HB.out (.cells #[.int .u32 (bit : Int)] 63 (0, 0))) hb1
        have hlt := blk_lt HQ.out
        have hnb : NewB w1 w.heap.size bq (.slice A1 R1.length c1) R1 := NewB.of hn1 (by rw [World.size_alloc]; omega) (by rw [World.size_alloc]; have := HBQ.out; omega)
        have hcr1 := (blk_cell hbk 0)
        have hfr1 := blk_frozen hbk 0
        have hB1s := below_set (j := 0) (v := .slice A1 R1.length c1) hB1 (Nat.le_refl _)
        have hNs := hnb.set hbk 0 (.slice A1 R1.length c1)
        have hRs := blk_put hbk 0 (.slice A1 R1.length c1) rfl
        have hQs := blk_far hqk (p := ⟨w.heap.size, 0, none⟩) (by dsimp only; have := HBQ.out; omega) (.slice A1 R1.length c1)
        have hMs := ((HM.out.take (tr_len_le m)).below hB1s)
        rw [tr_take] at hMs
        obtain ⟨_, _, e1, _, hl1⟩ := New.lim hNs.new
        obtain ⟨rfl, _, rfl⟩ : _ = A1 ∧ _ ∧ _ = c1 := by injection e1 with h1 h2 h3; exact ⟨h1.symm, trivial, h3.symm⟩
        have hdm : (tr m).length ≤ d := Nat.le_trans (tr_len_le m) HD.out
        have hord := order_calls _ B _ d R1 (tr m) _ hl1 hMs hc1 hdm okR1 OB.out
        have hsp := split_bit (mag (tr l)) i
        rw [HBT.out] at hsp
        have OR1 := Aside0.mk okR1
        have LR1 := Aside0.mk lenR1
        have HB1S := Aside0.mk hB1s
        have HNS := Aside0.mk hNs
        have HRS := Aside0.mk hRs
        have HQS := Aside0.mk hQs
        have HMS := Aside0.mk hMs
        have HL1 := Aside0.mk hl1
        have HC1 := Aside0.mk hc1
        have HDM := Aside0.mk hdm
        have HSP := Aside0.mk hsp
        have HLT := Aside0.mk hlt
        have HBM := Aside0.mk hbm
        by_cases hge : mag (tr m) ≤ 2 * mag R + bit
        · have hst := step_ge hbm rfl MR.out HB2.out hge
          rw [← HSP.out] at hst
          have hmr : mag R1 = 2 * mag R + bit := magR1
          obtain ⟨cv, hcv⟩ : ∃ cv, cmpN (mag R1) (mag (tr m)) = cv := ⟨_, rfl⟩
          have hcv0 : 0 ≤ cv := by
            rw [← hcv, magR1]; unfold cmpN
            rw [if_neg (by omega)]
            split <;> decide
          rw [hcv] at hord
          have HORD := Lib.hid hord
          have t0 : decide (0 ≤ cv) = true := decide_eq_true hcv0
          have HMR := Aside0.mk hmr
          have HST := Aside0.mk hst
          have HGE := Aside0.mk hge
          clear hR1 okR1 lenR1 magR1 hbm hn1 hb1 hbk hqk hB1 hlt hnb hB1s hNs hRs hQs hMs hl1 hc1 hdm hord hsp hge hst hmr hcv hcv0 e1
          go_wp2_with fail
          refine HORD.out.mono ?_
          rintro e w2 ⟨rfl, ⟨nd3, rfl⟩⟩
          clear HORD
          go_wp2_with fail
          have HNum1 : Num _ _ _ R1 := ⟨HL1.out.drewN nd3, HC1.out, OR1.out, by have := LR1.out; have := LR.out; have := HM2.out; have := tr_len_le m; omega⟩
          have HNum2 : Num _ B d (tr m) := ⟨HMS.out.drewN nd3, HDM.out, OB.out, by have := HM2.out; have := tr_len_le m; omega⟩
          refine (less_calls _ _ _ _ R1 (tr m) _ HNum1 HNum2).mono ?_
          clear HNum1 HNum2
          rintro e w3 ⟨v3, rfl, hn3, hb3⟩
          obtain ⟨R3, hR3⟩ : ∃ R3, pre (lessF R1 (tr m)) R1.length = R3 := ⟨_, rfl⟩
          have okR3 : OkL R3 := by rw [← hR3]; exact pre_ok _ _
          have lenR3 : R3.length = R1.length := by rw [← hR3]; exact pre_length _ _
          have magR3 : mag R3 = 2 * mag R + bit - mag (tr m) := by
            rw [← hR3, less_value OR1.out OB.out (by rw [HMR.out]; exact HGE.out), HMR.out]
          rw [hR3] at hn3
          obtain ⟨A3, c3, rfl, _, _⟩ := New.lim hn3
          have hrk := blk_below (blk_drewN HRS.out nd3) hb3
          have hqk := blk_below (blk_drewN HQS.out nd3) hb3
          have hB3 := below_step (pw_below_drewN HB1S.out nd3) hb3
          have hlt := blk_lt HQS.out
          have hnb : NewB w3 w.heap.size bq (.slice A3 R3.length c3) R3 := NewB.of hn3 hlt (Nat.le_of_lt (Nat.lt_trans HBQ.out hlt))
          have hB3s := below_set (j := 0) (v := .slice A3 R3.length c3) hB3 (Nat.le_refl _)
          have hNs := hnb.set hrk 0 (.slice A3 R3.length c3)
          have hRs := blk_put hrk 0 (.slice A3 R3.length c3) rfl
          have hQs := blk_far hqk (p := ⟨w.heap.size, 0, none⟩) (by dsimp only; have := HBQ.out; omega) (.slice A3 R3.length c3)
          have hcr3 := (blk_cell hrk 0)
          have hfr3 := blk_frozen hrk 0
          have HB3S := Aside0.mk hB3s
          have HN3 := Aside0.mk hNs
          have HR3 := Aside0.mk hRs
          have HQ3 := Aside0.mk hQs
          have OR3 := Aside0.mk okR3
          have LR3 := Aside0.mk lenR3
          have MR3 := Aside0.mk magR3
          clear hR3 okR3 lenR3 magR3 hn3 hb3 hrk hqk hB3 hlt hnb hB3s hNs hRs hQs
          go_wp2_with fail
          have hlq : dn < Q.length := by have := LQ.out; have := HIL.out; have := HDN.out; omega
          have hcq := (blk_cell HQ3.out dn).trans (cellsL_get Q dn hlq)
          have hfq := blk_frozen HQ3.out dn
          have hdt : d'.toNat = dn := by have := HD'.out; omega
          have hqn : Q[dn] = ((nl Q dn : Nat) : Int) := by rw [nl_cast OQ.out, rd_nat Q dn hlq]
          rw [hqn] at hcq
          have hcq : (w3.setCell ⟨w.heap.size, 0, none⟩ (.slice A3 R3.length c3)).cell? ⟨bq, d'.toNat, none⟩ = some (.int .u32 ((nl Q dn : Nat) : Int)) := by rw [hdt]; exact hcq
          have hfq : (w3.setCell ⟨w.heap.size, 0, none⟩ (.slice A3 R3.length c3)).frozen? ⟨bq, d'.toNat, none⟩ = false := by rw [hdt]; exact hfq
          obtain ⟨W3, hW3⟩ : ∃ W3, w3.setCell ⟨w.heap.size, 0, none⟩ (.slice A3 R3.length c3) = W3 := ⟨_, rfl⟩
          rw [hW3] at HB3S HN3 HR3 HQ3 hcq hfq
          rw [hW3]
          clear hcr3 hfr3 hcell hr0 hcr1 hfr1
          have HDT := Aside0.mk hdt
          have HLQ := Aside0.mk hlq
          clear hW3 hdt hlq hqn
          obtain ⟨en, hen⟩ : ∃ en : Nat, i % 32 = en := ⟨_, rfl⟩
          have htm : (i : Int).tmod 32 = (en : Int) := by rw [Int.tmod_eq_emod_of_nonneg (by omega)]; omega
          have hen0 : (0 : Int) ≤ (en : Int) := by omega
          have hen1 : (en : Int) < 32 := by omega
          have hen2 : en < 32 := by omega
          have HEN := Aside0.mk hen
          clear hen
          have hor : Go.bits .or .u32 ((nl Q dn : Nat) : Int) (2 ^ en % 4294967296) = ((nl Q (i / 32) ||| 2 ^ (i % 32) : Nat) : Int) := by
            have hp : (2 : Nat) ^ en < 4294967296 := Nat.pow_lt_pow_right (m := en) (n := 32) (by decide) hen2
            have e1 : (2 : Int) ^ en % 4294967296 = ((2 ^ en : Nat) : Int) := by
              have h3 : (2 : Int) ^ en = ((2 ^ en : Nat) : Int) := (Int.natCast_pow 2 en).symm
              rw [h3]
              generalize 2 ^ en = z at hp ⊢
              omega
            rw [e1, HDN.out, HEN.out]
            exact u32_or_nat _ _ (nl_lt OQ.out dn) hp
          have HOR := Aside0.mk hor
          clear hor
          go_region
          rw [HOR.out]
          go_wp2
          go_roundw
          case rel =>
            have hlt2 := set_bit_lt OQ.out i _ MQ.out
            have hos := or_set _ _ (set_bit_limb OQ.out i _ MQ.out)
            have hms := mag_set_bit OQ.out i _ MQ.out (by rw [HDN.out]; exact HLQ.out)
            have hsize := blk_lt HQ3.out
            refine ⟨xi, rfl, ⟨by have := HXI.out; omega, by have := HIL.out; have := HXI.out; omega, ?_, ?_⟩, ⟨below_drew (below_set HB3S.out (by have := HBQ.out; omega))⟩⟩
            · refine ⟨Q.set (i / 32) ((nl Q (i / 32) ||| 2 ^ (i % 32) : Nat) : Int), blk_drew (blk_put HQ3.out d'.toNat _ (by rw [HDT.out, ← HDN.out, cellsL_set])), ok_set OQ.out _ _ (by rw [hos]; omega), by rw [List.length_set]; exact LQ.out, ?_⟩
              rw [show (xi + 1).toNat = i by have := HXI.out; omega, hms, HST.out.1]
            · refine ⟨.slice A3 R3.length c3, R3, blk_drew (blk_far HR3.out (by dsimp only; have := HBQ.out; omega) _), HN3.out.far _ _, OR3.out, by rw [LR3.out, LR1.out, LR.out], ?_⟩
              rw [show (xi + 1).toNat = i by have := HXI.out; omega, MR3.out, HST.out.2]
          case measure => have := HXI.out; simp [intOf]; omega
        · have hlt2 : 2 * mag R + bit < mag (tr m) := Nat.lt_of_not_le hge
          have hst := step_lt hbm rfl MR.out hlt2
          rw [← HSP.out] at hst
          have hcv : cmpN (mag R1) (mag (tr m)) = -1 := by
            rw [magR1]; unfold cmpN
            rw [if_pos hlt2]
          rw [hcv] at hord
          have HORD := Lib.hid hord
          have HMR := Aside0.mk magR1
          have HST := Aside0.mk hst
          clear hR1 okR1 lenR1 magR1 hbm hn1 hb1 hbk hqk hB1 hlt hnb hB1s hNs hRs hQs hMs hl1 hc1 hdm hord hsp hge hst hcv hlt2 e1
          go_wp2_with fail
          refine HORD.out.mono ?_
          rintro e w2 ⟨rfl, ⟨nd3, rfl⟩⟩
          clear HORD
          go_wp2
          go_roundw
          case rel =>
            refine ⟨xi, rfl, ⟨by have := HXI.out; omega, by have := HIL.out; have := HXI.out; omega, ?_, ?_⟩, ⟨pw_below_drewN HB1S.out _⟩⟩
            · refine ⟨Q, blk_drewN HQS.out _, OQ.out, LQ.out, ?_⟩
              rw [show (xi + 1).toNat = i by have := HXI.out; omega, HST.out.1, MQ.out, Nat.pow_succ, Nat.mul_assoc]
            · refine ⟨_, R1, blk_drewN HRS.out _, HNS.out, OR1.out, by rw [LR1.out, LR.out], ?_⟩
              rw [show (xi + 1).toNat = i by have := HXI.out; omega, HMR.out, HST.out.2]
          case measure => have := HXI.out; simp [intOf]; omega
end Go.Proofs.YthhpnlbeniihhaaDoor.NumO
namespace Go.Proofs.YthhpnlbeniihhaaDoor.NumP
open Go.RowKit Go.Proofs.YthhpnlbeniihhaaDoorW.PrintWords Go.Proofs.YthhpnlbeniihhaaDoorW.PrintLast Go.Proofs.YthhpnlbeniihhaaDoorW.PrintMore Go.Proofs.YthhpnlbeniihhaaDoor.Limb Go.Proofs.YthhpnlbeniihhaaDoor.NumA Go.Proofs.YthhpnlbeniihhaaDoor.NumB Go.Proofs.YthhpnlbeniihhaaDoor.NumC Go.Proofs.YthhpnlbeniihhaaDoor.NumD Go.Proofs.YthhpnlbeniihhaaDoor.NumE Go.Proofs.YthhpnlbeniihhaaDoor.NumF Go.Proofs.YthhpnlbeniihhaaDoor.NumG Go.Proofs.YthhpnlbeniihhaaDoor.NumH Go.Proofs.YthhpnlbeniihhaaDoor.NumI Go.Proofs.YthhpnlbeniihhaaDoor.NumJ Go.Proofs.YthhpnlbeniihhaaDoor.NumO
set_option linter.unusedVariables false
set_option linter.unusedSimpArgs false
theorem sgn_zero (neg : Bool) (l : List Int) : (sgn neg l == 0) = decide (mag l = 0) := by
  unfold sgn
  by_cases h : mag l = 0
  · simp [h]
  · cases neg <;> simp [h]
theorem _root_.Go.Proofs.YthhpnlbeniihhaaDoor.NumC.Num.drew1 {w : World} {A : Option Addr} {c : Nat} {l : List Int} (h : Num w A c l) : Num w.drew A c l := ⟨h.lim, h.room, h.ok, h.few⟩
set_option maxRecDepth 100000 in
set_option maxHeartbeats 8000000 in
theorem quo_calls (n1 n2 : Bool) (A B : Option Addr) (c d : Nat) (l m : List Int) (w : World) (hl : Num w A c l) (hm : Num w B d m) (h1 : l.length < 1099511627776) (h2 : m.length < 1099511627776) :
    Calls Tryd.prog 29 #[.agg #[.bool n1, .slice A l.length c], .agg #[.bool n2, .slice B m.length d]] w (Res w (if mag m = 0 then (false, [], 13) else mk (belowB n1 l != belowB n2 m) (mag l / mag m))) := by
  have HL := Aside0.mk hl
  have HM := Aside0.mk hm
  have H1 := Aside0.mk h1
  have H2 := Aside0.mk h2
  have hz := sgn_zero n2 m
  generalize hr : (if mag m = 0 then (false, [], 13) else mk (belowB n1 l != belowB n2 m) (mag l / mag m)) = r
  clear hl hm h1 h2
  go_enter Tryd.func29, Tryd.ntmps29
  go_wp2_with fail
  obtain ⟨b1, b2, b3⟩ := boxes w (.bool n1) (.slice A l.length c) (.bool n2) (.slice B m.length d)
  have HB := Aside0.mk (below_alloc (below_alloc ((Below.refl w.heap.size w).alloc (Nat.le_refl _) (.cells #[.bool n1, .slice A l.length c] 25 (0, 0))) (.cells #[.bool n2, .slice B m.length d] 25 (0, 0))) (.cells #[.bool false, .slice none 0 0] 25 (0, 0)))
  generalize (((w.alloc (.cells #[.bool n1, .slice A l.length c] 25 (0, 0))).alloc (.cells #[.bool n2, .slice B m.length d] 25 (0, 0))).alloc (.cells #[.bool false, .slice none 0 0] 25 (0, 0))) = W at *
  obtain ⟨ha0, ha1⟩ := cell_at b1
  obtain ⟨hb0, hb1⟩ := cell_at b2
  have B3 := Aside0.mk b3
  clear b1 b2 b3
  refine (sign_calls n2 B d m _ (HM.out.below (by first | exact HB.out | exact below_drew1 HB.out | exact pw_below_drewN HB.out _))).mono ?_
  rintro e w1 ⟨rfl, hb⟩
  have q0_ := pw_cell_below hb (a := ⟨w.heap.size, 0, none⟩) (v := .bool n1) (by go_keep); have q1_ := pw_cell_below hb (a := ⟨w.heap.size, 1, none⟩) (v := .slice A l.length c) (by go_keep); have q2_ := pw_cell_below hb (a := ⟨w.heap.size + 1, 0, none⟩) (v := .bool n2) (by go_keep); have q3_ := pw_cell_below hb (a := ⟨w.heap.size + 1, 1, none⟩) (v := .slice B m.length d) (by go_keep); have q4_ := Aside0.mk (below_step (by first | exact HB.out | exact below_drew1 HB.out | exact pw_below_drewN HB.out _) hb); have q5_ := Aside0.mk (blk_below (by first | exact B3.out | exact blk_drew B3.out | exact blk_drewN B3.out _) hb); clear ha0 ha1 hb0 hb1 HB B3 hb; have ha0 := q0_; have ha1 := q1_; have hb0 := q2_; have hb1 := q3_; have HB := q4_; have B3 := q5_; clear q0_ q1_ q2_ q3_ q4_ q5_
  have z0 := (cell_at B3.out).1
  have z1 := (cell_at B3.out).2
  have f0 := blk_frozen B3.out 0
  have f1 := blk_frozen B3.out 1
  by_cases h0 : mag m = 0
  · rw [if_pos h0] at hr
    obtain rfl : (false, [], 13) = r := hr
    have t0 : (sgn n2 m == 0) = true := by rw [hz]; simp [h0]
    clear h0 hz
    go_wp2
    refine bodyPost_ret (results_ct rfl _ _ (w.heap.size + 1 + 1) 25 #[.bool false, .slice none 0 0] (0, 0) _ rfl (blk_put (cs := #[.bool false, .slice none 0 0]) (blk_put (cs := #[.bool false, .slice none 0 0]) B3.out 0 _ rfl) 1 _ rfl) Tryd.underlying25 rfl (by kernel_rfl)) rfl ?_
    exact ⟨.slice none 0 0, rfl, New.nil _ _, below_set (below_set HB.out (by omega)) (by omega)⟩
  · rw [if_neg h0] at hr
    have HR := Aside0.mk hr
    obtain ⟨r1, r2, r3⟩ := r
    have t0 : (sgn n2 m == 0) = false := by rw [hz]; simp [h0]
    have HZ := Aside0.mk h0
    clear h0 hz hr
    go_wp2_with fail
    refine (parted_calls A B c d l m _ (HL.out.below (by first | exact HB.out | exact below_drew1 HB.out | exact pw_below_drewN HB.out _)).lim (HM.out.below (by first | exact HB.out | exact below_drew1 HB.out | exact pw_below_drewN HB.out _)).lim HL.out.ok HM.out.ok HL.out.room HM.out.room H1.out H2.out HZ.out).mono ?_
    rintro e w1 ⟨vq, vr, Q, R, rfl, hq, hR, oq, or', magq, magr, lq, lr, hb⟩
    obtain ⟨Aq, cq, rfl, hcq, hlq⟩ := New.lim hq
    obtain ⟨Ar_, cr_, rfl, hcr, hlr⟩ := New.lim hR
    clear z0 z1 f0 f1
    have NQ := Aside0.mk (show Num w1 Aq cq Q from ⟨hlq, hcq, oq, by have := H1.out; have := H2.out; have := tr_len_le m; omega⟩)
    have VQ := Aside0.mk magq
    clear hq hR oq or' magq magr lq lr hcq hlq hcr hlr
    have q0_ := pw_cell_below hb (a := ⟨w.heap.size, 0, none⟩) (v := .bool n1) (by go_keep); have q1_ := pw_cell_below hb (a := ⟨w.heap.size, 1, none⟩) (v := .slice A l.length c) (by go_keep); have q2_ := pw_cell_below hb (a := ⟨w.heap.size + 1, 0, none⟩) (v := .bool n2) (by go_keep); have q3_ := pw_cell_below hb (a := ⟨w.heap.size + 1, 1, none⟩) (v := .slice B m.length d) (by go_keep); have q4_ := Aside0.mk (below_step (by first | exact HB.out | exact below_drew1 HB.out | exact pw_below_drewN HB.out _) hb); have q5_ := Aside0.mk (blk_below (by first | exact B3.out | exact blk_drew B3.out | exact blk_drewN B3.out _) hb); clear ha0 ha1 hb0 hb1 HB B3 hb; have ha0 := q0_; have ha1 := q1_; have hb0 := q2_; have hb1 := q3_; have HB := q4_; have B3 := q5_; clear q0_ q1_ q2_ q3_ q4_ q5_
    go_wp2
    go_region_held3 (fun w' => w'.cell? ⟨w.heap.size, 0, none⟩ = some (.bool n1) ∧ w'.cell? ⟨w.heap.size, 1, none⟩ = some (.slice A l.length c) ∧ w'.cell? ⟨w.heap.size + 1, 0, none⟩ = some (.bool n2) ∧ w'.cell? ⟨w.heap.size + 1, 1, none⟩ = some (.slice B m.length d))
      (first | exact ⟨by assumption, by assumption, by assumption, by assumption⟩ | exact ⟨by (rw [World.cell?_setCell_far _ _ _ _ (by dsimp only; omega), World.cell?_setCell_far _ _ _ _ (by dsimp only; omega)]; assumption), by (rw [World.cell?_setCell_far _ _ _ _ (by dsimp only; omega), World.cell?_setCell_far _ _ _ _ (by dsimp only; omega)]; assumption), by (rw [World.cell?_setCell_far _ _ _ _ (by dsimp only; omega), World.cell?_setCell_far _ _ _ _ (by dsimp only; omega)]; assumption), by (rw [World.cell?_setCell_far _ _ _ _ (by dsimp only; omega), World.cell?_setCell_far _ _ _ _ (by dsimp only; omega)]; assumption)⟩)
      (first
        | (go_at_call_of 70 (Value.agg #[.bool n1, .slice A l.length c]); refine (below_calls n1 A c l _ (HL.out.below (by first | exact HB.out | exact below_drew1 HB.out | exact pw_below_drewN HB.out _)).lim HL.out.room).mono ?_; rintro e w1 ⟨rfl, hb⟩; have q0_ := pw_cell_below hb (a := ⟨w.heap.size, 0, none⟩) (v := .bool n1) (by go_keep); have q1_ := pw_cell_below hb (a := ⟨w.heap.size, 1, none⟩) (v := .slice A l.length c) (by go_keep); have q2_ := pw_cell_below hb (a := ⟨w.heap.size + 1, 0, none⟩) (v := .bool n2) (by go_keep); have q3_ := pw_cell_below hb (a := ⟨w.heap.size + 1, 1, none⟩) (v := .slice B m.length d) (by go_keep); have q4_ := Aside0.mk (below_step (by first | exact HB.out | exact below_drew1 HB.out | exact pw_below_drewN HB.out _) hb); have q5_ := Aside0.mk (blk_below (by first | exact B3.out | exact blk_drew B3.out | exact blk_drewN B3.out _) hb); have e0_ := Aside0.mk (Num.below (by first | exact NQ.out | exact NQ.out.drew1 | exact NQ.out.drewN _) hb); clear ha0 ha1 hb0 hb1 HB B3 hb NQ; have ha0 := q0_; have ha1 := q1_; have hb0 := q2_; have hb1 := q3_; have HB := q4_; have B3 := q5_; have NQ := e0_; clear q0_ q1_ q2_ q3_ q4_ q5_ e0_)
        | (go_at_call_of 70 (Value.agg #[.bool n2, .slice B m.length d]); refine (below_calls n2 B d m _ (HM.out.below (by first | exact HB.out | exact below_drew1 HB.out | exact pw_below_drewN HB.out _)).lim HM.out.room).mono ?_; rintro e w1 ⟨rfl, hb⟩; have q0_ := pw_cell_below hb (a := ⟨w.heap.size, 0, none⟩) (v := .bool n1) (by go_keep); have q1_ := pw_cell_below hb (a := ⟨w.heap.size, 1, none⟩) (v := .slice A l.length c) (by go_keep); have q2_ := pw_cell_below hb (a := ⟨w.heap.size + 1, 0, none⟩) (v := .bool n2) (by go_keep); have q3_ := pw_cell_below hb (a := ⟨w.heap.size + 1, 1, none⟩) (v := .slice B m.length d) (by go_keep); have q4_ := Aside0.mk (below_step (by first | exact HB.out | exact below_drew1 HB.out | exact pw_below_drewN HB.out _) hb); have q5_ := Aside0.mk (blk_below (by first | exact B3.out | exact blk_drew B3.out | exact blk_drewN B3.out _) hb); have e0_ := Aside0.mk (Num.below (by first | exact NQ.out | exact NQ.out.drew1 | exact NQ.out.drewN _) hb); clear ha0 ha1 hb0 hb1 HB B3 hb NQ; have ha0 := q0_; have ha1 := q1_; have hb0 := q2_; have hb1 := q3_; have HB := q4_; have B3 := q5_; have NQ := e0_; clear q0_ q1_ q2_ q3_ q4_ q5_ e0_)
        | (go_at_call 51; refine ((made_calls (belowB n1 l != belowB n2 m) Aq cq Q _ ((by first | exact NQ.out | exact NQ.out.drew1 | exact NQ.out.drewN _) : Num _ Aq cq Q).lim NQ.out.room NQ.out.ok NQ.out.few).mono ?_); rintro e w1 ⟨v, rfl, hnew, hb⟩; rw [VQ.out, HR.out] at hnew; rw [VQ.out, HR.out]; obtain ⟨Ar, cr, er, _, _⟩ := New.lim hnew; subst er; have RN := Aside0.mk (New.lower (base' := w.heap.size) hnew (below_size (by first | exact HB.out | exact below_drew1 HB.out | exact pw_below_drewN HB.out _))); clear hnew; have q0_ := pw_cell_below hb (a := ⟨w.heap.size, 0, none⟩) (v := .bool n1) (by go_keep); have q1_ := pw_cell_below hb (a := ⟨w.heap.size, 1, none⟩) (v := .slice A l.length c) (by go_keep); have q2_ := pw_cell_below hb (a := ⟨w.heap.size + 1, 0, none⟩) (v := .bool n2) (by go_keep); have q3_ := pw_cell_below hb (a := ⟨w.heap.size + 1, 1, none⟩) (v := .slice B m.length d) (by go_keep); have q4_ := Aside0.mk (below_step (by first | exact HB.out | exact below_drew1 HB.out | exact pw_below_drewN HB.out _) hb); have q5_ := Aside0.mk (blk_below (by first | exact B3.out | exact blk_drew B3.out | exact blk_drewN B3.out _) hb); clear ha0 ha1 hb0 hb1 HB B3 hb; have ha0 := q0_; have ha1 := q1_; have hb0 := q2_; have hb1 := q3_; have HB := q4_; have B3 := q5_; clear q0_ q1_ q2_ q3_ q4_ q5_; have z0 := (cell_at B3.out).1; have z1 := (cell_at B3.out).2; have f0 := blk_frozen B3.out 0; have f1 := blk_frozen B3.out 1))
    go_wp2
    refine bodyPost_ret (results_ct rfl _ _ (w.heap.size + 1 + 1) 25 #[.bool r1, .slice Ar r2.length cr] (0, 0) _ rfl (blk_put (cs := #[.bool r1, .slice none 0 0]) (blk_put (cs := #[.bool false, .slice none 0 0]) B3.out 0 _ rfl) 1 _ rfl) Tryd.underlying25 rfl (by kernel_rfl)) rfl ?_
    exact ⟨_, rfl, New.set (New.set RN.out B3.out 0 _) (blk_put (cs' := #[.bool r1, .slice none 0 0]) B3.out 0 _ rfl) 1 _, below_set (below_set HB.out (by omega)) (by omega)⟩
set_option maxRecDepth 100000 in
set_option maxHeartbeats 8000000 in
theorem rem_calls (n1 n2 : Bool) (A B : Option Addr) (c d : Nat) (l m : List Int) (w : World) (hl : Num w A c l) (hm : Num w B d m) (h1 : l.length < 1099511627776) (h2 : m.length < 1099511627776) :
    Calls Tryd.prog 30 #[.agg #[.bool n1, .slice A l.length c], .agg #[.bool n2, .slice B m.length d]] w (Res w (if mag m = 0 then (false, [], 13) else mk (belowB n1 l) (mag l % mag m))) := by
  have HL := Aside0.mk hl
  have HM := Aside0.mk hm
  have H1 := Aside0.mk h1
  have H2 := Aside0.mk h2
  have hz := sgn_zero n2 m
  generalize hr : (if mag m = 0 then (false, [], 13) else mk (belowB n1 l) (mag l % mag m)) = r
  clear hl hm h1 h2
  go_enter Tryd.func30, Tryd.ntmps30
  go_wp2_with fail
  obtain ⟨b1, b2, b3⟩ := boxes w (.bool n1) (.slice A l.length c) (.bool n2) (.slice B m.length d)
  have HB := Aside0.mk (below_alloc (below_alloc ((Below.refl w.heap.size w).alloc (Nat.le_refl _) (.cells #[.bool n1, .slice A l.length c] 25 (0, 0))) (.cells #[.bool n2, .slice B m.length d] 25 (0, 0))) (.cells #[.bool false, .slice none 0 0] 25 (0, 0)))
  generalize (((w.alloc (.cells #[.bool n1, .slice A l.length c] 25 (0, 0))).alloc (.cells #[.bool n2, .slice B m.length d] 25 (0, 0))).alloc (.cells #[.bool false, .slice none 0 0] 25 (0, 0))) = W at *
  obtain ⟨ha0, ha1⟩ := cell_at b1
  obtain ⟨hb0, hb1⟩ := cell_at b2
  have B3 := Aside0.mk b3
  clear b1 b2 b3
  refine (sign_calls n2 B d m _ (HM.out.below (by first | exact HB.out | exact below_drew1 HB.out | exact pw_below_drewN HB.out _))).mono ?_
  rintro e w1 ⟨rfl, hb⟩
  have q0_ := pw_cell_below hb (a := ⟨w.heap.size, 0, none⟩) (v := .bool n1) (by go_keep); have q1_ := pw_cell_below hb (a := ⟨w.heap.size, 1, none⟩) (v := .slice A l.length c) (by go_keep); have q2_ := pw_cell_below hb (a := ⟨w.heap.size + 1, 0, none⟩) (v := .bool n2) (by go_keep); have q3_ := pw_cell_below hb (a := ⟨w.heap.size + 1, 1, none⟩) (v := .slice B m.length d) (by go_keep); have q4_ := Aside0.mk (below_step (by first | exact HB.out | exact below_drew1 HB.out | exact pw_below_drewN HB.out _) hb); have q5_ := Aside0.mk (blk_below (by first | exact B3.out | exact blk_drew B3.out | exact blk_drewN B3.out _) hb); clear ha0 ha1 hb0 hb1 HB B3 hb; have ha0 := q0_; have ha1 := q1_; have hb0 := q2_; have hb1 := q3_; have HB := q4_; have B3 := q5_; clear q0_ q1_ q2_ q3_ q4_ q5_
  have z0 := (cell_at B3.out).1
  have z1 := (cell_at B3.out).2
  have f0 := blk_frozen B3.out 0
  have f1 := blk_frozen B3.out 1
  by_cases h0 : mag m = 0
  · rw [if_pos h0] at hr
    obtain rfl : (false, [], 13) = r := hr
    have t0 : (sgn n2 m == 0) = true := by rw [hz]; simp [h0]
    clear h0 hz
    go_wp2
    refine bodyPost_ret (results_ct rfl _ _ (w.heap.size + 1 + 1) 25 #[.bool false, .slice none 0 0] (0, 0) _ rfl (blk_put (cs := #[.bool false, .slice none 0 0]) (blk_put (cs := #[.bool false, .slice none 0 0]) B3.out 0 _ rfl) 1 _ rfl) Tryd.underlying25 rfl (by kernel_rfl)) rfl ?_
    exact ⟨.slice none 0 0, rfl, New.nil _ _, below_set (below_set HB.out (by omega)) (by omega)⟩
  · rw [if_neg h0] at hr
    have HR := Aside0.mk hr
    obtain ⟨r1, r2, r3⟩ := r
    have t0 : (sgn n2 m == 0) = false := by rw [hz]; simp [h0]
    have HZ := Aside0.mk h0
    clear h0 hz hr
    go_wp2_with fail
    refine (parted_calls A B c d l m _ (HL.out.below (by first | exact HB.out | exact below_drew1 HB.out | exact pw_below_drewN HB.out _)).lim (HM.out.below (by first | exact HB.out | exact below_drew1 HB.out | exact pw_below_drewN HB.out _)).lim HL.out.ok HM.out.ok HL.out.room HM.out.room H1.out H2.out HZ.out).mono ?_
    rintro e w1 ⟨vq, vr, Q, R, rfl, hq, hR, oq, or', magq, magr, lq, lr, hb⟩
    obtain ⟨Aq, cq, rfl, hcq, hlq⟩ := New.lim hq
    obtain ⟨Ar_, cr_, rfl, hcr, hlr⟩ := New.lim hR
    clear z0 z1 f0 f1
    have NQ := Aside0.mk (show Num w1 Ar_ cr_ R from ⟨hlr, hcr, or', by have := H1.out; have := H2.out; have := tr_len_le m; omega⟩)
    have VQ := Aside0.mk magr
    clear hq hR oq or' magq magr lq lr hcq hlq hcr hlr
    have q0_ := pw_cell_below hb (a := ⟨w.heap.size, 0, none⟩) (v := .bool n1) (by go_keep); have q1_ := pw_cell_below hb (a := ⟨w.heap.size, 1, none⟩) (v := .slice A l.length c) (by go_keep); have q2_ := pw_cell_below hb (a := ⟨w.heap.size + 1, 0, none⟩) (v := .bool n2) (by go_keep); have q3_ := pw_cell_below hb (a := ⟨w.heap.size + 1, 1, none⟩) (v := .slice B m.length d) (by go_keep); have q4_ := Aside0.mk (below_step (by first | exact HB.out | exact below_drew1 HB.out | exact pw_below_drewN HB.out _) hb); have q5_ := Aside0.mk (blk_below (by first | exact B3.out | exact blk_drew B3.out | exact blk_drewN B3.out _) hb); clear ha0 ha1 hb0 hb1 HB B3 hb; have ha0 := q0_; have ha1 := q1_; have hb0 := q2_; have hb1 := q3_; have HB := q4_; have B3 := q5_; clear q0_ q1_ q2_ q3_ q4_ q5_
    go_wp2_with fail
    refine (below_calls n1 A c l _ (HL.out.below (by first | exact HB.out | exact below_drew1 HB.out | exact pw_below_drewN HB.out _)).lim HL.out.room).mono ?_
    rintro e w1 ⟨rfl, hb⟩
    have q0_ := pw_cell_below hb (a := ⟨w.heap.size, 0, none⟩) (v := .bool n1) (by go_keep); have q1_ := pw_cell_below hb (a := ⟨w.heap.size, 1, none⟩) (v := .slice A l.length c) (by go_keep); have q2_ := pw_cell_below hb (a := ⟨w.heap.size + 1, 0, none⟩) (v := .bool n2) (by go_keep); have q3_ := pw_cell_below hb (a := ⟨w.heap.size + 1, 1, none⟩) (v := .slice B m.length d) (by go_keep); have q4_ := Aside0.mk (below_step (by first | exact HB.out | exact below_drew1 HB.out | exact pw_below_drewN HB.out _) hb); have q5_ := Aside0.mk (blk_below (by first | exact B3.out | exact blk_drew B3.out | exact blk_drewN B3.out _) hb); have e0_ := Aside0.mk (Num.below (by first | exact NQ.out | exact NQ.out.drew1 | exact NQ.out.drewN _) hb); clear ha0 ha1 hb0 hb1 HB B3 hb NQ; have ha0 := q0_; have ha1 := q1_; have hb0 := q2_; have hb1 := q3_; have HB := q4_; have B3 := q5_; have NQ := e0_; clear q0_ q1_ q2_ q3_ q4_ q5_ e0_
    go_wp2_with fail
    refine ((made_calls (belowB n1 l) Ar_ cr_ R _ ((by first | exact NQ.out | exact NQ.out.drew1 | exact NQ.out.drewN _) : Num _ Ar_ cr_ R).lim NQ.out.room NQ.out.ok NQ.out.few).mono ?_)
    rintro e w1 ⟨v, rfl, hnew, hb⟩
    rw [VQ.out, HR.out] at hnew
    rw [VQ.out, HR.out]
    obtain ⟨Ar, cr, er, _, _⟩ := New.lim hnew
    subst er
    have RN := Aside0.mk (New.lower (base' := w.heap.size) hnew (below_size (by first | exact HB.out | exact below_drew1 HB.out | exact pw_below_drewN HB.out _)))
    clear hnew
    have q0_ := pw_cell_below hb (a := ⟨w.heap.size, 0, none⟩) (v := .bool n1) (by go_keep); have q1_ := pw_cell_below hb (a := ⟨w.heap.size, 1, none⟩) (v := .slice A l.length c) (by go_keep); have q2_ := pw_cell_below hb (a := ⟨w.heap.size + 1, 0, none⟩) (v := .bool n2) (by go_keep); have q3_ := pw_cell_below hb (a := ⟨w.heap.size + 1, 1, none⟩) (v := .slice B m.length d) (by go_keep); have q4_ := Aside0.mk (below_step (by first | exact HB.out | exact below_drew1 HB.out | exact pw_below_drewN HB.out _) hb); have q5_ := Aside0.mk (blk_below (by first | exact B3.out | exact blk_drew B3.out | exact blk_drewN B3.out _) hb); clear ha0 ha1 hb0 hb1 HB B3 hb; have ha0 := q0_; have ha1 := q1_; have hb0 := q2_; have hb1 := q3_; have HB := q4_; have B3 := q5_; clear q0_ q1_ q2_ q3_ q4_ q5_
    have z0 := (cell_at B3.out).1
    have z1 := (cell_at B3.out).2
    have f0 := blk_frozen B3.out 0
    have f1 := blk_frozen B3.out 1
    go_wp2
    refine bodyPost_ret (results_ct rfl _ _ (w.heap.size + 1 + 1) 25 #[.bool r1, .slice Ar r2.length cr] (0, 0) _ rfl (blk_put (cs := #[.bool r1, .slice none 0 0]) (blk_put (cs := #[.bool false, .slice none 0 0]) B3.out 0 _ rfl) 1 _ rfl) Tryd.underlying25 rfl (by kernel_rfl)) rfl ?_
    exact ⟨_, rfl, New.set (New.set RN.out B3.out 0 _) (blk_put (cs' := #[.bool r1, .slice none 0 0]) B3.out 0 _ rfl) 1 _, below_set (below_set HB.out (by omega)) (by omega)⟩
set_option maxRecDepth 100000 in
set_option maxHeartbeats 8000000 in
theorem mod_calls (n1 n2 : Bool) (A B : Option Addr) (c d : Nat) (l m : List Int) (w : World) (hl : Num w A c l) (hm : Num w B d m) (h1 : l.length < 1099511627776) (h2 : m.length < 1099511627776) :
    Calls Tryd.prog 31 #[.agg #[.bool n1, .slice A l.length c], .agg #[.bool n2, .slice B m.length d]] w (Res w (if mag m = 0 then (false, [], 13) else mk (belowB n2 m) (if (belowB n1 l != belowB n2 m) = true ∧ mag l % mag m ≠ 0 then mag m - mag l % mag m else mag l % mag m))) := by
  have HL := Aside0.mk hl
  have HM := Aside0.mk hm
  have H1 := Aside0.mk h1
  have H2 := Aside0.mk h2
  have hz := sgn_zero n2 m
  generalize hr : (if mag m = 0 then (false, [], 13) else mk (belowB n2 m) (if (belowB n1 l != belowB n2 m) = true ∧ mag l % mag m ≠ 0 then mag m - mag l % mag m else mag l % mag m)) = r
  clear hl hm h1 h2
  go_enter Tryd.func31, Tryd.ntmps31
  go_wp2_with fail
  obtain ⟨b1, b2, b3⟩ := boxes w (.bool n1) (.slice A l.length c) (.bool n2) (.slice B m.length d)
  have HB := Aside0.mk (below_alloc (below_alloc ((Below.refl w.heap.size w).alloc (Nat.le_refl _) (.cells #[.bool n1, .slice A l.length c] 25 (0, 0))) (.cells #[.bool n2, .slice B m.length d] 25 (0, 0))) (.cells #[.bool false, .slice none 0 0] 25 (0, 0)))
  generalize (((w.alloc (.cells #[.bool n1, .slice A l.length c] 25 (0, 0))).alloc (.cells #[.bool n2, .slice B m.length d] 25 (0, 0))).alloc (.cells #[.bool false, .slice none 0 0] 25 (0, 0))) = W at *
  obtain ⟨ha0, ha1⟩ := cell_at b1
  obtain ⟨hb0, hb1⟩ := cell_at b2
  have B3 := Aside0.mk b3
  clear b1 b2 b3
  refine (sign_calls n2 B d m _ (HM.out.below (by first | exact HB.out | exact below_drew1 HB.out | exact pw_below_drewN HB.out _))).mono ?_
  rintro e w1 ⟨rfl, hb⟩
  have q0_ := pw_cell_below hb (a := ⟨w.heap.size, 0, none⟩) (v := .bool n1) (by go_keep); have q1_ := pw_cell_below hb (a := ⟨w.heap.size, 1, none⟩) (v := .slice A l.length c) (by go_keep); have q2_ := pw_cell_below hb (a := ⟨w.heap.size + 1, 0, none⟩) (v := .bool n2) (by go_keep); have q3_ := pw_cell_below hb (a := ⟨w.heap.size + 1, 1, none⟩) (v := .slice B m.length d) (by go_keep); have q4_ := Aside0.mk (below_step (by first | exact HB.out | exact below_drew1 HB.out | exact pw_below_drewN HB.out _) hb); have q5_ := Aside0.mk (blk_below (by first | exact B3.out | exact blk_drew B3.out | exact blk_drewN B3.out _) hb); clear ha0 ha1 hb0 hb1 HB B3 hb; have ha0 := q0_; have ha1 := q1_; have hb0 := q2_; have hb1 := q3_; have HB := q4_; have B3 := q5_; clear q0_ q1_ q2_ q3_ q4_ q5_
  have z0 := (cell_at B3.out).1
  have z1 := (cell_at B3.out).2
  have f0 := blk_frozen B3.out 0
  have f1 := blk_frozen B3.out 1
  by_cases h0 : mag m = 0
  · rw [if_pos h0] at hr
    obtain rfl : (false, [], 13) = r := hr
    have t0 : (sgn n2 m == 0) = true := by rw [hz]; simp [h0]
    clear h0 hz
    go_wp2
    refine bodyPost_ret (results_ct rfl _ _ (w.heap.size + 1 + 1) 25 #[.bool false, .slice none 0 0] (0, 0) _ rfl (blk_put (cs := #[.bool false, .slice none 0 0]) (blk_put (cs := #[.bool false, .slice none 0 0]) B3.out 0 _ rfl) 1 _ rfl) Tryd.underlying25 rfl (by kernel_rfl)) rfl ?_
    exact ⟨.slice none 0 0, rfl, New.nil _ _, below_set (below_set HB.out (by omega)) (by omega)⟩
  · rw [if_neg h0] at hr
    have HR := Aside0.mk hr
    obtain ⟨r1, r2, r3⟩ := r
    have t0 : (sgn n2 m == 0) = false := by rw [hz]; simp [h0]
    have HZ := Aside0.mk h0
    clear h0 hz hr
    go_wp2_with fail
    refine (parted_calls A B c d l m _ (HL.out.below (by first | exact HB.out | exact below_drew1 HB.out | exact pw_below_drewN HB.out _)).lim (HM.out.below (by first | exact HB.out | exact below_drew1 HB.out | exact pw_below_drewN HB.out _)).lim HL.out.ok HM.out.ok HL.out.room HM.out.room H1.out H2.out HZ.out).mono ?_
    rintro e w1 ⟨vq, vr, Q, R, rfl, hq, hR, oq, or', magq, magr, lq, lr, hb⟩
    obtain ⟨Aq, cq, rfl, hcq, hlq⟩ := New.lim hq
    obtain ⟨Ar_, cr_, rfl, hcr, hlr⟩ := New.lim hR
    clear z0 z1 f0 f1
    have NQ := Aside0.mk (show Num w1 Ar_ cr_ R from ⟨hlr, hcr, or', by have := H1.out; have := H2.out; have := tr_len_le m; omega⟩)
    have VQ := Aside0.mk magr
    clear hq hR oq or' magq magr lq lr hcq hlq hcr hlr
    have q0_ := pw_cell_below hb (a := ⟨w.heap.size, 0, none⟩) (v := .bool n1) (by go_keep); have q1_ := pw_cell_below hb (a := ⟨w.heap.size, 1, none⟩) (v := .slice A l.length c) (by go_keep); have q2_ := pw_cell_below hb (a := ⟨w.heap.size + 1, 0, none⟩) (v := .bool n2) (by go_keep); have q3_ := pw_cell_below hb (a := ⟨w.heap.size + 1, 1, none⟩) (v := .slice B m.length d) (by go_keep); have q4_ := Aside0.mk (below_step (by first | exact HB.out | exact below_drew1 HB.out | exact pw_below_drewN HB.out _) hb); have q5_ := Aside0.mk (blk_below (by first | exact B3.out | exact blk_drew B3.out | exact blk_drewN B3.out _) hb); clear ha0 ha1 hb0 hb1 HB B3 hb; have ha0 := q0_; have ha1 := q1_; have hb0 := q2_; have hb1 := q3_; have HB := q4_; have B3 := q5_; clear q0_ q1_ q2_ q3_ q4_ q5_
    obtain ⟨b1, hbb1⟩ : ∃ b, belowB n1 l = b := ⟨_, rfl⟩
    have CB1 := Lib.hid (show ∀ W : World, Num W A c l → Calls Tryd.prog 70 #[.agg #[.bool n1, .slice A l.length c]] W fun e w' => e = .returned (.bool b1) ∧ Below W.heap.size W w' by intro W h; rw [← hbb1]; exact below_calls n1 A c l W h.lim h.room)
    obtain ⟨b2, hbb2⟩ : ∃ b, belowB n2 m = b := ⟨_, rfl⟩
    have CB2 := Lib.hid (show ∀ W : World, Num W B d m → Calls Tryd.prog 70 #[.agg #[.bool n2, .slice B m.length d]] W fun e w' => e = .returned (.bool b2) ∧ Below W.heap.size W w' by intro W h; rw [← hbb2]; exact below_calls n2 B d m W h.lim h.room)
    have hv := HR.out
    rw [hbb1, hbb2, ← VQ.out] at hv
    have tp := tr_len_pos NQ.out.ok
    clear HR hbb1 hbb2
    cases b1 <;> cases b2
    · -- both signs alike
      have HR : Aside0 (mk false (mag R) = (r1, r2, r3)) := ⟨by rw [← hv, if_neg (by simp)]⟩
      clear hv tp
      go_wp2
      refine start_ (n := 11) (S := fun w' => w'.cell? ⟨w.heap.size, 0, none⟩ = some (.bool n1) ∧ w'.cell? ⟨w.heap.size, 1, none⟩ = some (.slice A l.length c) ∧ w'.cell? ⟨w.heap.size + 1, 0, none⟩ = some (.bool n2) ∧ w'.cell? ⟨w.heap.size + 1, 1, none⟩ = some (.slice B m.length d)) (ds := []) #[false, false, false, false, false, false, false, false, false, false, false] (by kernel_rfl) rfl rfl ⟨ha0, ha1, hb0, hb1⟩ (fun hHeld => ?_)
      refine take_ (i := 0) (N := some 20) (v := ?_) (a' := ?_) #[true, false, false, false, false, false, false, false, false, false, false] rfl rfl (by kernel_rfl) (fun _ _ _ h => h) (Or.inl ⟨by rfl, ?_⟩) hHeld ?_ ?_
      rotate_left
      · rintro w' ⟨s0, s1, s2, s3⟩
        go_simp
        with_reducible rfl
      rotate_left
      · simp only [Act.put, List.setIfInBounds_toArray, List.set_cons_zero, List.set_cons_succ, i64_w, i32_w]
        rfl
      refine take_ (i := 2) (N := some 22) (v := ?_) (a' := ?_) #[true, false, true, false, false, false, false, false, false, false, false] rfl rfl (by kernel_rfl) (fun _ _ _ h => h) (Or.inl ⟨by rfl, ?_⟩) hHeld ?_ ?_
      rotate_left
      · rintro w' ⟨s0, s1, s2, s3⟩
        go_simp
        with_reducible rfl
      rotate_left
      · simp only [Act.put, List.setIfInBounds_toArray, List.set_cons_zero, List.set_cons_succ, i64_w, i32_w]
        rfl
      refine one_ (i := 1) (N := some 21) #[true, true, true, false, false, false, false, false, false, false, false] rfl rfl (by kernel_rfl) (by decide) (fun K hK => ?_)
      refine goes_ Tryd.func70 (by kernel_rfl) rfl #[.agg #[.bool n1, .slice A l.length c]] (by rfl) rfl rfl (by simp only [List.map_toArray, List.map_cons, List.map_nil]; rfl) ?_
      with_reducible refine (CB1.out _ (HL.out.below (by first | exact HB.out | exact below_drew1 HB.out | exact pw_below_drewN HB.out _))).mono ?_
      rintro e w1 ⟨rfl, hb⟩
      refine ⟨_, rfl, ?_⟩
      have q0_ := pw_cell_below hb (a := ⟨w.heap.size, 0, none⟩) (v := .bool n1) (by assumption)
      have q1_ := pw_cell_below hb (a := ⟨w.heap.size, 1, none⟩) (v := .slice A l.length c) (by assumption)
      have q2_ := pw_cell_below hb (a := ⟨w.heap.size + 1, 0, none⟩) (v := .bool n2) (by assumption)
      have q3_ := pw_cell_below hb (a := ⟨w.heap.size + 1, 1, none⟩) (v := .slice B m.length d) (by assumption)
      have q4_ := Aside0.mk (below_step (by first | exact HB.out | exact below_drew1 HB.out | exact pw_below_drewN HB.out _) hb)
      have q5_ := Aside0.mk (blk_below (by first | exact B3.out | exact blk_drew B3.out | exact blk_drewN B3.out _) hb)
      have e0_ := Aside0.mk (Num.below (by first | exact NQ.out | exact NQ.out.drew1 | exact NQ.out.drewN _) hb)
      clear ha0 ha1 hb0 hb1 HB B3 hb NQ
      have ha0 := q0_
      have ha1 := q1_
      have hb0 := q2_
      have hb1 := q3_
      have HB := q4_
      have B3 := q5_
      have NQ := e0_
      clear q0_ q1_ q2_ q3_ q4_ q5_ e0_
      refine hK.out _ _ ⟨ha0, ha1, hb0, hb1⟩ (fun hHeld => ?_)
      clear hK K
      refine norm_ (a' := ?_) ?_ ?_
      rotate_left
      · show Act.put _ (some 21) _ = _
        simp only [Act.put, List.setIfInBounds_toArray, List.set_cons_zero, List.set_cons_succ, i64_w, i32_w]
        rfl
      refine one_ (i := 3) (N := some 23) #[true, true, true, true, false, false, false, false, false, false, false] rfl rfl (by kernel_rfl) (by decide) (fun K hK => ?_)
      refine goes_ Tryd.func70 (by kernel_rfl) rfl #[.agg #[.bool n2, .slice B m.length d]] (by rfl) rfl rfl (by simp only [List.map_toArray, List.map_cons, List.map_nil]; rfl) ?_
      with_reducible refine (CB2.out _ (HM.out.below (by first | exact HB.out | exact below_drew1 HB.out | exact pw_below_drewN HB.out _))).mono ?_
      rintro e w1 ⟨rfl, hb⟩
      refine ⟨_, rfl, ?_⟩
      have q0_ := pw_cell_below hb (a := ⟨w.heap.size, 0, none⟩) (v := .bool n1) (by assumption)
      have q1_ := pw_cell_below hb (a := ⟨w.heap.size, 1, none⟩) (v := .slice A l.length c) (by assumption)
      have q2_ := pw_cell_below hb (a := ⟨w.heap.size + 1, 0, none⟩) (v := .bool n2) (by assumption)
      have q3_ := pw_cell_below hb (a := ⟨w.heap.size + 1, 1, none⟩) (v := .slice B m.length d) (by assumption)
      have q4_ := Aside0.mk (below_step (by first | exact HB.out | exact below_drew1 HB.out | exact pw_below_drewN HB.out _) hb)
      have q5_ := Aside0.mk (blk_below (by first | exact B3.out | exact blk_drew B3.out | exact blk_drewN B3.out _) hb)
      have e0_ := Aside0.mk (Num.below (by first | exact NQ.out | exact NQ.out.drew1 | exact NQ.out.drewN _) hb)
      clear ha0 ha1 hb0 hb1 HB B3 hb NQ
      have ha0 := q0_
      have ha1 := q1_
      have hb0 := q2_
      have hb1 := q3_
      have HB := q4_
      have B3 := q5_
      have NQ := e0_
      clear q0_ q1_ q2_ q3_ q4_ q5_ e0_
      refine hK.out _ _ ⟨ha0, ha1, hb0, hb1⟩ (fun hHeld => ?_)
      clear hK K
      refine norm_ (a' := ?_) ?_ ?_
      rotate_left
      · show Act.put _ (some 23) _ = _
        simp only [Act.put, List.setIfInBounds_toArray, List.set_cons_zero, List.set_cons_succ, i64_w, i32_w]
        rfl
      refine pure_ (i := 4) (N := some 24) (v := ?_) (a' := ?_) #[true, true, true, true, true, false, false, false, false, false, false] rfl rfl (by kernel_rfl) (fun _ _ _ h => h) (Or.inl ⟨by rfl, ?_⟩) ?_ ?_
      rotate_left
      · intro w'
        go_simp
        with_reducible rfl
      rotate_left
      · simp only [Act.put, List.setIfInBounds_toArray, List.set_cons_zero, List.set_cons_succ, i64_w, i32_w]
        rfl
      refine pure_ (i := 5) (N := some 25) (v := ?_) (a' := ?_) #[true, true, true, true, true, true, false, false, false, false, false] rfl rfl (by kernel_rfl) (fun _ _ _ h => h) (Or.inl ⟨by rfl, ?_⟩) ?_ ?_
      rotate_left
      · intro w'
        go_simp
        with_reducible rfl
      rotate_left
      · simp only [Act.put, List.setIfInBounds_toArray, List.set_cons_zero, List.set_cons_succ, i64_w, i32_w]
        rfl
      refine pure_ (i := 6) (N := some 26) (v := undef) (a' := ?_) #[true, true, true, true, true, true, true, false, false, false, false] rfl rfl (by kernel_rfl) (fun _ _ _ h => h) (Or.inr ⟨by rfl, rfl⟩) ?_ ?_
      rotate_left
      · simp only [Act.put, List.setIfInBounds_toArray, List.set_cons_zero, List.set_cons_succ, i64_w, i32_w]
        rfl
      refine pure_ (i := 7) (N := some 27) (v := undef) (a' := ?_) #[true, true, true, true, true, true, true, true, false, false, false] rfl rfl (by kernel_rfl) (fun _ _ _ h => h) (Or.inr ⟨by rfl, rfl⟩) ?_ ?_
      rotate_left
      · simp only [Act.put, List.setIfInBounds_toArray, List.set_cons_zero, List.set_cons_succ, i64_w, i32_w]
        rfl
      refine pure_ (i := 8) (N := some 28) (v := undef) (a' := ?_) #[true, true, true, true, true, true, true, true, true, false, false] rfl rfl (by kernel_rfl) (fun _ _ _ h => h) (Or.inr ⟨by rfl, rfl⟩) ?_ ?_
      rotate_left
      · simp only [Act.put, List.setIfInBounds_toArray, List.set_cons_zero, List.set_cons_succ, i64_w, i32_w]
        rfl
      refine pure_ (i := 9) (N := some 29) (v := undef) (a' := ?_) #[true, true, true, true, true, true, true, true, true, true, false] rfl rfl (by kernel_rfl) (fun _ _ _ h => h) (Or.inr ⟨by rfl, rfl⟩) ?_ ?_
      rotate_left
      · simp only [Act.put, List.setIfInBounds_toArray, List.set_cons_zero, List.set_cons_succ, i64_w, i32_w]
        rfl
      refine pure_ (i := 10) (N := some 30) (v := ?_) (a' := ?_) #[true, true, true, true, true, true, true, true, true, true, true] rfl rfl (by kernel_rfl) (fun _ _ _ h => h) (Or.inl ⟨by rfl, ?_⟩) ?_ ?_
      rotate_left
      · intro w'
        go_simp
        with_reducible rfl
      rotate_left
      · simp only [Act.put, List.setIfInBounds_toArray, List.set_cons_zero, List.set_cons_succ, i64_w, i32_w]
        rfl
      refine done_ (by kernel_rfl) ?_
      go_wp2_with fail
      refine (CB2.out _ (HM.out.below (by first | exact HB.out | exact below_drew1 HB.out | exact pw_below_drewN HB.out _))).mono ?_
      rintro e w1 ⟨rfl, hb⟩
      have q0_ := pw_cell_below hb (a := ⟨w.heap.size, 0, none⟩) (v := .bool n1) (by go_keep); have q1_ := pw_cell_below hb (a := ⟨w.heap.size, 1, none⟩) (v := .slice A l.length c) (by go_keep); have q2_ := pw_cell_below hb (a := ⟨w.heap.size + 1, 0, none⟩) (v := .bool n2) (by go_keep); have q3_ := pw_cell_below hb (a := ⟨w.heap.size + 1, 1, none⟩) (v := .slice B m.length d) (by go_keep); have q4_ := Aside0.mk (below_step (by first | exact HB.out | exact below_drew1 HB.out | exact pw_below_drewN HB.out _) hb); have q5_ := Aside0.mk (blk_below (by first | exact B3.out | exact blk_drew B3.out | exact blk_drewN B3.out _) hb); have e0_ := Aside0.mk (Num.below (by first | exact NQ.out | exact NQ.out.drew1 | exact NQ.out.drewN _) hb); clear ha0 ha1 hb0 hb1 HB B3 hb NQ; have ha0 := q0_; have ha1 := q1_; have hb0 := q2_; have hb1 := q3_; have HB := q4_; have B3 := q5_; have NQ := e0_; clear q0_ q1_ q2_ q3_ q4_ q5_ e0_
      go_wp2_with fail
      refine ((made_calls _ Ar_ cr_ R _ ((by first | exact NQ.out | exact NQ.out.drew1 | exact NQ.out.drewN _) : Num _ Ar_ cr_ R).lim NQ.out.room NQ.out.ok NQ.out.few).mono ?_)
      rintro e w1 ⟨v, rfl, hnew, hb⟩
      rw [HR.out] at hnew
      rw [HR.out]
      obtain ⟨Ar, cr, er, _, _⟩ := New.lim hnew
      subst er
      have RN := Aside0.mk (New.lower (base' := w.heap.size) hnew (below_size (by first | exact HB.out | exact below_drew1 HB.out | exact pw_below_drewN HB.out _)))
      clear hnew
      have q0_ := pw_cell_below hb (a := ⟨w.heap.size, 0, none⟩) (v := .bool n1) (by go_keep); have q1_ := pw_cell_below hb (a := ⟨w.heap.size, 1, none⟩) (v := .slice A l.length c) (by go_keep); have q2_ := pw_cell_below hb (a := ⟨w.heap.size + 1, 0, none⟩) (v := .bool n2) (by go_keep); have q3_ := pw_cell_below hb (a := ⟨w.heap.size + 1, 1, none⟩) (v := .slice B m.length d) (by go_keep); have q4_ := Aside0.mk (below_step (by first | exact HB.out | exact below_drew1 HB.out | exact pw_below_drewN HB.out _) hb); have q5_ := Aside0.mk (blk_below (by first | exact B3.out | exact blk_drew B3.out | exact blk_drewN B3.out _) hb); clear ha0 ha1 hb0 hb1 HB B3 hb; have ha0 := q0_; have ha1 := q1_; have hb0 := q2_; have hb1 := q3_; have HB := q4_; have B3 := q5_; clear q0_ q1_ q2_ q3_ q4_ q5_
      have z0 := (cell_at B3.out).1
      have z1 := (cell_at B3.out).2
      have f0 := blk_frozen B3.out 0
      have f1 := blk_frozen B3.out 1
      go_wp2
      refine bodyPost_ret (results_ct rfl _ _ (w.heap.size + 1 + 1) 25 #[.bool r1, .slice Ar r2.length cr] (0, 0) _ rfl (blk_put (cs := #[.bool r1, .slice none 0 0]) (blk_put (cs := #[.bool false, .slice none 0 0]) B3.out 0 _ rfl) 1 _ rfl) Tryd.underlying25 rfl (by kernel_rfl)) rfl ?_
      exact ⟨_, rfl, New.set (New.set RN.out B3.out 0 _) (blk_put (cs' := #[.bool r1, .slice none 0 0]) B3.out 0 _ rfl) 1 _, below_set (below_set HB.out (by omega)) (by omega)⟩
    · by_cases hz : mag R = 0
      · have HR : Aside0 (mk true (mag R) = (r1, r2, r3)) := ⟨by rw [← hv, if_neg (by simp [hz])]⟩
        have t1 : decide (0 < (tr R).length) = false := by rw [tp]; simp [hz]
        clear hv tp hz
        go_wp2; go_region_held3 (fun w' => w'.cell? ⟨w.heap.size, 0, none⟩ = some (.bool n1) ∧ w'.cell? ⟨w.heap.size, 1, none⟩ = some (.slice A l.length c) ∧ w'.cell? ⟨w.heap.size + 1, 0, none⟩ = some (.bool n2) ∧ w'.cell? ⟨w.heap.size + 1, 1, none⟩ = some (.slice B m.length d)) (first | exact ⟨by assumption, by assumption, by assumption, by assumption⟩ | exact ⟨by (rw [World.cell?_setCell_far _ _ _ _ (by dsimp only; omega), World.cell?_setCell_far _ _ _ _ (by dsimp only; omega)]; assumption), by (rw [World.cell?_setCell_far _ _ _ _ (by dsimp only; omega), World.cell?_setCell_far _ _ _ _ (by dsimp only; omega)]; assumption), by (rw [World.cell?_setCell_far _ _ _ _ (by dsimp only; omega), World.cell?_setCell_far _ _ _ _ (by dsimp only; omega)]; assumption), by (rw [World.cell?_setCell_far _ _ _ _ (by dsimp only; omega), World.cell?_setCell_far _ _ _ _ (by dsimp only; omega)]; assumption)⟩) (first | (go_at_call_of 70 (Value.agg #[.bool n1, .slice A l.length c]); refine (CB1.out _ (HL.out.below (by first | exact HB.out | exact below_drew1 HB.out | exact pw_below_drewN HB.out _))).mono ?_; rintro e w1 ⟨rfl, hb⟩; have q0_ := pw_cell_below hb (a := ⟨w.heap.size, 0, none⟩) (v := .bool n1) (by go_keep); have q1_ := pw_cell_below hb (a := ⟨w.heap.size, 1, none⟩) (v := .slice A l.length c) (by go_keep); have q2_ := pw_cell_below hb (a := ⟨w.heap.size + 1, 0, none⟩) (v := .bool n2) (by go_keep); have q3_ := pw_cell_below hb (a := ⟨w.heap.size + 1, 1, none⟩) (v := .slice B m.length d) (by go_keep); have q4_ := Aside0.mk (below_step (by first | exact HB.out | exact below_drew1 HB.out | exact pw_below_drewN HB.out _) hb); have q5_ := Aside0.mk (blk_below (by first | exact B3.out | exact blk_drew B3.out | exact blk_drewN B3.out _) hb); have e0_ := Aside0.mk (Num.below (by first | exact NQ.out | exact NQ.out.drew1 | exact NQ.out.drewN _) hb); clear ha0 ha1 hb0 hb1 HB B3 hb NQ; have ha0 := q0_; have ha1 := q1_; have hb0 := q2_; have hb1 := q3_; have HB := q4_; have B3 := q5_; have NQ := e0_; clear q0_ q1_ q2_ q3_ q4_ q5_ e0_) | (go_at_call_of 70 (Value.agg #[.bool n2, .slice B m.length d]); refine (CB2.out _ (HM.out.below (by first | exact HB.out | exact below_drew1 HB.out | exact pw_below_drewN HB.out _))).mono ?_; rintro e w1 ⟨rfl, hb⟩; have q0_ := pw_cell_below hb (a := ⟨w.heap.size, 0, none⟩) (v := .bool n1) (by go_keep); have q1_ := pw_cell_below hb (a := ⟨w.heap.size, 1, none⟩) (v := .slice A l.length c) (by go_keep); have q2_ := pw_cell_below hb (a := ⟨w.heap.size + 1, 0, none⟩) (v := .bool n2) (by go_keep); have q3_ := pw_cell_below hb (a := ⟨w.heap.size + 1, 1, none⟩) (v := .slice B m.length d) (by go_keep); have q4_ := Aside0.mk (below_step (by first | exact HB.out | exact below_drew1 HB.out | exact pw_below_drewN HB.out _) hb); have q5_ := Aside0.mk (blk_below (by first | exact B3.out | exact blk_drew B3.out | exact blk_drewN B3.out _) hb); have e0_ := Aside0.mk (Num.below (by first | exact NQ.out | exact NQ.out.drew1 | exact NQ.out.drewN _) hb); clear ha0 ha1 hb0 hb1 HB B3 hb NQ; have ha0 := q0_; have ha1 := q1_; have hb0 := q2_; have hb1 := q3_; have HB := q4_; have B3 := q5_; have NQ := e0_; clear q0_ q1_ q2_ q3_ q4_ q5_ e0_) | (go_at_call 54; refine (trim_calls Ar_ cr_ R _ ((by first | exact NQ.out | exact NQ.out.drew1 | exact NQ.out.drewN _) : Num _ Ar_ cr_ R).lim NQ.out.room).mono ?_; rintro e w' ⟨rfl, ⟨nd, rfl⟩⟩))
        go_wp2_with fail
        refine (CB2.out _ (HM.out.below (by first | exact HB.out | exact below_drew1 HB.out | exact pw_below_drewN HB.out _))).mono ?_
        rintro e w1 ⟨rfl, hb⟩
        have q0_ := pw_cell_below hb (a := ⟨w.heap.size, 0, none⟩) (v := .bool n1) (by go_keep); have q1_ := pw_cell_below hb (a := ⟨w.heap.size, 1, none⟩) (v := .slice A l.length c) (by go_keep); have q2_ := pw_cell_below hb (a := ⟨w.heap.size + 1, 0, none⟩) (v := .bool n2) (by go_keep); have q3_ := pw_cell_below hb (a := ⟨w.heap.size + 1, 1, none⟩) (v := .slice B m.length d) (by go_keep); have q4_ := Aside0.mk (below_step (by first | exact HB.out | exact below_drew1 HB.out | exact pw_below_drewN HB.out _) hb); have q5_ := Aside0.mk (blk_below (by first | exact B3.out | exact blk_drew B3.out | exact blk_drewN B3.out _) hb); have e0_ := Aside0.mk (Num.below (by first | exact NQ.out | exact NQ.out.drew1 | exact NQ.out.drewN _) hb); clear ha0 ha1 hb0 hb1 HB B3 hb NQ; have ha0 := q0_; have ha1 := q1_; have hb0 := q2_; have hb1 := q3_; have HB := q4_; have B3 := q5_; have NQ := e0_; clear q0_ q1_ q2_ q3_ q4_ q5_ e0_
        go_wp2_with fail
        refine ((made_calls _ Ar_ cr_ R _ ((by first | exact NQ.out | exact NQ.out.drew1 | exact NQ.out.drewN _) : Num _ Ar_ cr_ R).lim NQ.out.room NQ.out.ok NQ.out.few).mono ?_)
        rintro e w1 ⟨v, rfl, hnew, hb⟩
        rw [HR.out] at hnew
        rw [HR.out]
        obtain ⟨Ar, cr, er, _, _⟩ := New.lim hnew
        subst er
        have RN := Aside0.mk (New.lower (base' := w.heap.size) hnew (below_size (by first | exact HB.out | exact below_drew1 HB.out | exact pw_below_drewN HB.out _)))
        clear hnew
        have q0_ := pw_cell_below hb (a := ⟨w.heap.size, 0, none⟩) (v := .bool n1) (by go_keep); have q1_ := pw_cell_below hb (a := ⟨w.heap.size, 1, none⟩) (v := .slice A l.length c) (by go_keep); have q2_ := pw_cell_below hb (a := ⟨w.heap.size + 1, 0, none⟩) (v := .bool n2) (by go_keep); have q3_ := pw_cell_below hb (a := ⟨w.heap.size + 1, 1, none⟩) (v := .slice B m.length d) (by go_keep); have q4_ := Aside0.mk (below_step (by first | exact HB.out | exact below_drew1 HB.out | exact pw_below_drewN HB.out _) hb); have q5_ := Aside0.mk (blk_below (by first | exact B3.out | exact blk_drew B3.out | exact blk_drewN B3.out _) hb); clear ha0 ha1 hb0 hb1 HB B3 hb; have ha0 := q0_; have ha1 := q1_; have hb0 := q2_; have hb1 := q3_; have HB := q4_; have B3 := q5_; clear q0_ q1_ q2_ q3_ q4_ q5_
        have z0 := (cell_at B3.out).1
        have z1 := (cell_at B3.out).2
        have f0 := blk_frozen B3.out 0
        have f1 := blk_frozen B3.out 1
        go_wp2
        refine bodyPost_ret (results_ct rfl _ _ (w.heap.size + 1 + 1) 25 #[.bool r1, .slice Ar r2.length cr] (0, 0) _ rfl (blk_put (cs := #[.bool r1, .slice none 0 0]) (blk_put (cs := #[.bool false, .slice none 0 0]) B3.out 0 _ rfl) 1 _ rfl) Tryd.underlying25 rfl (by kernel_rfl)) rfl ?_
        exact ⟨_, rfl, New.set (New.set RN.out B3.out 0 _) (blk_put (cs' := #[.bool r1, .slice none 0 0]) B3.out 0 _ rfl) 1 _, below_set (below_set HB.out (by omega)) (by omega)⟩
      · have HR : Aside0 (mk true (mag m - mag R) = (r1, r2, r3)) := ⟨by rw [← hv, if_pos (by simp [hz])]⟩
        have t1 : decide (0 < (tr R).length) = true := by rw [tp]; simp [hz]
        have hlt : mag R ≤ mag (tr m) := by rw [mag_tr, VQ.out]; exact Nat.le_of_lt (Nat.mod_lt _ (Nat.pos_of_ne_zero HZ.out))
        have HLT := Aside0.mk hlt
        clear hv tp hz hlt
        go_wp2; go_region_held3 (fun w' => w'.cell? ⟨w.heap.size, 0, none⟩ = some (.bool n1) ∧ w'.cell? ⟨w.heap.size, 1, none⟩ = some (.slice A l.length c) ∧ w'.cell? ⟨w.heap.size + 1, 0, none⟩ = some (.bool n2) ∧ w'.cell? ⟨w.heap.size + 1, 1, none⟩ = some (.slice B m.length d)) (first | exact ⟨by assumption, by assumption, by assumption, by assumption⟩ | exact ⟨by (rw [World.cell?_setCell_far _ _ _ _ (by dsimp only; omega), World.cell?_setCell_far _ _ _ _ (by dsimp only; omega)]; assumption), by (rw [World.cell?_setCell_far _ _ _ _ (by dsimp only; omega), World.cell?_setCell_far _ _ _ _ (by dsimp only; omega)]; assumption), by (rw [World.cell?_setCell_far _ _ _ _ (by dsimp only; omega), World.cell?_setCell_far _ _ _ _ (by dsimp only; omega)]; assumption), by (rw [World.cell?_setCell_far _ _ _ _ (by dsimp only; omega), World.cell?_setCell_far _ _ _ _ (by dsimp only; omega)]; assumption)⟩) (first | (go_at_call_of 70 (Value.agg #[.bool n1, .slice A l.length c]); refine (CB1.out _ (HL.out.below (by first | exact HB.out | exact below_drew1 HB.out | exact pw_below_drewN HB.out _))).mono ?_; rintro e w1 ⟨rfl, hb⟩; have q0_ := pw_cell_below hb (a := ⟨w.heap.size, 0, none⟩) (v := .bool n1) (by go_keep); have q1_ := pw_cell_below hb (a := ⟨w.heap.size, 1, none⟩) (v := .slice A l.length c) (by go_keep); have q2_ := pw_cell_below hb (a := ⟨w.heap.size + 1, 0, none⟩) (v := .bool n2) (by go_keep); have q3_ := pw_cell_below hb (a := ⟨w.heap.size + 1, 1, none⟩) (v := .slice B m.length d) (by go_keep); have q4_ := Aside0.mk (below_step (by first | exact HB.out | exact below_drew1 HB.out | exact pw_below_drewN HB.out _) hb); have q5_ := Aside0.mk (blk_below (by first | exact B3.out | exact blk_drew B3.out | exact blk_drewN B3.out _) hb); have e0_ := Aside0.mk (Num.below (by first | exact NQ.out | exact NQ.out.drew1 | exact NQ.out.drewN _) hb); clear ha0 ha1 hb0 hb1 HB B3 hb NQ; have ha0 := q0_; have ha1 := q1_; have hb0 := q2_; have hb1 := q3_; have HB := q4_; have B3 := q5_; have NQ := e0_; clear q0_ q1_ q2_ q3_ q4_ q5_ e0_) | (go_at_call_of 70 (Value.agg #[.bool n2, .slice B m.length d]); refine (CB2.out _ (HM.out.below (by first | exact HB.out | exact below_drew1 HB.out | exact pw_below_drewN HB.out _))).mono ?_; rintro e w1 ⟨rfl, hb⟩; have q0_ := pw_cell_below hb (a := ⟨w.heap.size, 0, none⟩) (v := .bool n1) (by go_keep); have q1_ := pw_cell_below hb (a := ⟨w.heap.size, 1, none⟩) (v := .slice A l.length c) (by go_keep); have q2_ := pw_cell_below hb (a := ⟨w.heap.size + 1, 0, none⟩) (v := .bool n2) (by go_keep); have q3_ := pw_cell_below hb (a := ⟨w.heap.size + 1, 1, none⟩) (v := .slice B m.length d) (by go_keep); have q4_ := Aside0.mk (below_step (by first | exact HB.out | exact below_drew1 HB.out | exact pw_below_drewN HB.out _) hb); have q5_ := Aside0.mk (blk_below (by first | exact B3.out | exact blk_drew B3.out | exact blk_drewN B3.out _) hb); have e0_ := Aside0.mk (Num.below (by first | exact NQ.out | exact NQ.out.drew1 | exact NQ.out.drewN _) hb); clear ha0 ha1 hb0 hb1 HB B3 hb NQ; have ha0 := q0_; have ha1 := q1_; have hb0 := q2_; have hb1 := q3_; have HB := q4_; have B3 := q5_; have NQ := e0_; clear q0_ q1_ q2_ q3_ q4_ q5_ e0_) | (go_at_call 54; refine (trim_calls Ar_ cr_ R _ ((by first | exact NQ.out | exact NQ.out.drew1 | exact NQ.out.drewN _) : Num _ Ar_ cr_ R).lim NQ.out.room).mono ?_; rintro e w' ⟨rfl, ⟨nd, rfl⟩⟩))
        go_wp2_with fail
        refine (trim_calls B d m _ (HM.out.below (by first | exact HB.out | exact below_drew1 HB.out | exact pw_below_drewN HB.out _)).lim HM.out.room).mono ?_
        rintro e w' ⟨rfl, ⟨nd2, rfl⟩⟩
        go_wp2_with fail
        refine (less_calls B Ar_ d cr_ (tr m) R _ (HM.out.below (by first | exact HB.out | exact below_drew1 HB.out | exact pw_below_drewN HB.out _)).tr ((by first | exact NQ.out | exact NQ.out.drew1 | exact NQ.out.drewN _) : Num _ Ar_ cr_ R)).mono ?_
        rintro e w1 ⟨v5, rfl, hn5, hb⟩
        obtain ⟨A5, c5, rfl, hc5, hl5⟩ := New.lim hn5
        have hm5 := less_value (HM.out.ok |> ok_tr) NQ.out.ok HLT.out
        have hk5 := pre_ok (lessF (tr m) R) (tr m).length
        have he5 := pre_length (lessF (tr m) R) (tr m).length
        generalize pre (lessF (tr m) R) (tr m).length = R5 at *
        rw [mag_tr] at hm5
        have HR5 : Aside0 (mk true (mag R5) = (r1, r2, r3)) := ⟨by rw [hm5]; exact HR.out⟩
        have NQ5 := Aside0.mk (show Num w1 A5 c5 R5 from ⟨hl5, hc5, hk5, by have := tr_len_le m; have := H2.out; omega⟩)
        clear NQ VQ HR hm5 hk5 he5 hn5 hc5 hl5
        have NQ := NQ5
        have HR := HR5
        clear NQ5 HR5
        have q0_ := pw_cell_below hb (a := ⟨w.heap.size, 0, none⟩) (v := .bool n1) (by go_keep); have q1_ := pw_cell_below hb (a := ⟨w.heap.size, 1, none⟩) (v := .slice A l.length c) (by go_keep); have q2_ := pw_cell_below hb (a := ⟨w.heap.size + 1, 0, none⟩) (v := .bool n2) (by go_keep); have q3_ := pw_cell_below hb (a := ⟨w.heap.size + 1, 1, none⟩) (v := .slice B m.length d) (by go_keep); have q4_ := Aside0.mk (below_step (by first | exact HB.out | exact below_drew1 HB.out | exact pw_below_drewN HB.out _) hb); have q5_ := Aside0.mk (blk_below (by first | exact B3.out | exact blk_drew B3.out | exact blk_drewN B3.out _) hb); clear ha0 ha1 hb0 hb1 HB B3 hb; have ha0 := q0_; have ha1 := q1_; have hb0 := q2_; have hb1 := q3_; have HB := q4_; have B3 := q5_; clear q0_ q1_ q2_ q3_ q4_ q5_
        go_wp2_with fail
        refine (CB2.out _ (HM.out.below (by first | exact HB.out | exact below_drew1 HB.out | exact pw_below_drewN HB.out _))).mono ?_
        rintro e w1 ⟨rfl, hb⟩
        have q0_ := pw_cell_below hb (a := ⟨w.heap.size, 0, none⟩) (v := .bool n1) (by go_keep); have q1_ := pw_cell_below hb (a := ⟨w.heap.size, 1, none⟩) (v := .slice A l.length c) (by go_keep); have q2_ := pw_cell_below hb (a := ⟨w.heap.size + 1, 0, none⟩) (v := .bool n2) (by go_keep); have q3_ := pw_cell_below hb (a := ⟨w.heap.size + 1, 1, none⟩) (v := .slice B m.length d) (by go_keep); have q4_ := Aside0.mk (below_step (by first | exact HB.out | exact below_drew1 HB.out | exact pw_below_drewN HB.out _) hb); have q5_ := Aside0.mk (blk_below (by first | exact B3.out | exact blk_drew B3.out | exact blk_drewN B3.out _) hb); have e0_ := Aside0.mk (Num.below (by first | exact NQ.out | exact NQ.out.drew1 | exact NQ.out.drewN _) hb); clear ha0 ha1 hb0 hb1 HB B3 hb NQ; have ha0 := q0_; have ha1 := q1_; have hb0 := q2_; have hb1 := q3_; have HB := q4_; have B3 := q5_; have NQ := e0_; clear q0_ q1_ q2_ q3_ q4_ q5_ e0_
        go_wp2_with fail
        refine ((made_calls _ A5 c5 R5 _ ((by first | exact NQ.out | exact NQ.out.drew1 | exact NQ.out.drewN _) : Num _ A5 c5 R5).lim NQ.out.room NQ.out.ok NQ.out.few).mono ?_)
        rintro e w1 ⟨v, rfl, hnew, hb⟩
        rw [HR.out] at hnew
        rw [HR.out]
        obtain ⟨Ar, cr, er, _, _⟩ := New.lim hnew
        subst er
        have RN := Aside0.mk (New.lower (base' := w.heap.size) hnew (below_size (by first | exact HB.out | exact below_drew1 HB.out | exact pw_below_drewN HB.out _)))
        clear hnew
        have q0_ := pw_cell_below hb (a := ⟨w.heap.size, 0, none⟩) (v := .bool n1) (by go_keep); have q1_ := pw_cell_below hb (a := ⟨w.heap.size, 1, none⟩) (v := .slice A l.length c) (by go_keep); have q2_ := pw_cell_below hb (a := ⟨w.heap.size + 1, 0, none⟩) (v := .bool n2) (by go_keep); have q3_ := pw_cell_below hb (a := ⟨w.heap.size + 1, 1, none⟩) (v := .slice B m.length d) (by go_keep); have q4_ := Aside0.mk (below_step (by first | exact HB.out | exact below_drew1 HB.out | exact pw_below_drewN HB.out _) hb); have q5_ := Aside0.mk (blk_below (by first | exact B3.out | exact blk_drew B3.out | exact blk_drewN B3.out _) hb); clear ha0 ha1 hb0 hb1 HB B3 hb; have ha0 := q0_; have ha1 := q1_; have hb0 := q2_; have hb1 := q3_; have HB := q4_; have B3 := q5_; clear q0_ q1_ q2_ q3_ q4_ q5_
        have z0 := (cell_at B3.out).1
        have z1 := (cell_at B3.out).2
        have f0 := blk_frozen B3.out 0
        have f1 := blk_frozen B3.out 1
        go_wp2
        refine bodyPost_ret (results_ct rfl _ _ (w.heap.size + 1 + 1) 25 #[.bool r1, .slice Ar r2.length cr] (0, 0) _ rfl (blk_put (cs := #[.bool r1, .slice none 0 0]) (blk_put (cs := #[.bool false, .slice none 0 0]) B3.out 0 _ rfl) 1 _ rfl) Tryd.underlying25 rfl (by kernel_rfl)) rfl ?_
        exact ⟨_, rfl, New.set (New.set RN.out B3.out 0 _) (blk_put (cs' := #[.bool r1, .slice none 0 0]) B3.out 0 _ rfl) 1 _, below_set (below_set HB.out (by omega)) (by omega)⟩
    · by_cases hz : mag R = 0
      · have HR : Aside0 (mk false (mag R) = (r1, r2, r3)) := ⟨by rw [← hv, if_neg (by simp [hz])]⟩
        have t1 : decide (0 < (tr R).length) = false := by rw [tp]; simp [hz]
        clear hv tp hz
        go_wp2; go_region_held3 (fun w' => w'.cell? ⟨w.heap.size, 0, none⟩ = some (.bool n1) ∧ w'.cell? ⟨w.heap.size, 1, none⟩ = some (.slice A l.length c) ∧ w'.cell? ⟨w.heap.size + 1, 0, none⟩ = some (.bool n2) ∧ w'.cell? ⟨w.heap.size + 1, 1, none⟩ = some (.slice B m.length d)) (first | exact ⟨by assumption, by assumption, by assumption, by assumption⟩ | exact ⟨by (rw [World.cell?_setCell_far _ _ _ _ (by dsimp only; omega), World.cell?_setCell_far _ _ _ _ (by dsimp only; omega)]; assumption), by (rw [World.cell?_setCell_far _ _ _ _ (by dsimp only; omega), World.cell?_setCell_far _ _ _ _ (by dsimp only; omega)]; assumption), by (rw [World.cell?_setCell_far _ _ _ _ (by dsimp only; omega), World.cell?_setCell_far _ _ _ _ (by dsimp only; omega)]; assumption), by (rw [World.cell?_setCell_far _ _ _ _ (by dsimp only; omega), World.cell?_setCell_far _ _ _ _ (by dsimp only; omega)]; assumption)⟩) (first | (go_at_call_of 70 (Value.agg #[.bool n1, .slice A l.length c]); refine (CB1.out _ (HL.out.below (by first | exact HB.out | exact below_drew1 HB.out | exact pw_below_drewN HB.out _))).mono ?_; rintro e w1 ⟨rfl, hb⟩; have q0_ := pw_cell_below hb (a := ⟨w.heap.size, 0, none⟩) (v := .bool n1) (by go_keep); have q1_ := pw_cell_below hb (a := ⟨w.heap.size, 1, none⟩) (v := .slice A l.length c) (by go_keep); have q2_ := pw_cell_below hb (a := ⟨w.heap.size + 1, 0, none⟩) (v := .bool n2) (by go_keep); have q3_ := pw_cell_below hb (a := ⟨w.heap.size + 1, 1, none⟩) (v := .slice B m.length d) (by go_keep); have q4_ := Aside0.mk (below_step (by first | exact HB.out | exact below_drew1 HB.out | exact pw_below_drewN HB.out _) hb); have q5_ := Aside0.mk (blk_below (by first | exact B3.out | exact blk_drew B3.out | exact blk_drewN B3.out _) hb); have e0_ := Aside0.mk (Num.below (by first | exact NQ.out | exact NQ.out.drew1 | exact NQ.out.drewN _) hb); clear ha0 ha1 hb0 hb1 HB B3 hb NQ; have ha0 := q0_; have ha1 := q1_; have hb0 := q2_; have hb1 := q3_; have HB := q4_; have B3 := q5_; have NQ := e0_; clear q0_ q1_ q2_ q3_ q4_ q5_ e0_) | (go_at_call_of 70 (Value.agg #[.bool n2, .slice B m.length d]); refine (CB2.out _ (HM.out.below (by first | exact HB.out | exact below_drew1 HB.out | exact pw_below_drewN HB.out _))).mono ?_; rintro e w1 ⟨rfl, hb⟩; have q0_ := pw_cell_below hb (a := ⟨w.heap.size, 0, none⟩) (v := .bool n1) (by go_keep); have q1_ := pw_cell_below hb (a := ⟨w.heap.size, 1, none⟩) (v := .slice A l.length c) (by go_keep); have q2_ := pw_cell_below hb (a := ⟨w.heap.size + 1, 0, none⟩) (v := .bool n2) (by go_keep); have q3_ := pw_cell_below hb (a := ⟨w.heap.size + 1, 1, none⟩) (v := .slice B m.length d) (by go_keep); have q4_ := Aside0.mk (below_step (by first | exact HB.out | exact below_drew1 HB.out | exact pw_below_drewN HB.out _) hb); have q5_ := Aside0.mk (blk_below (by first | exact B3.out | exact blk_drew B3.out | exact blk_drewN B3.out _) hb); have e0_ := Aside0.mk (Num.below (by first | exact NQ.out | exact NQ.out.drew1 | exact NQ.out.drewN _) hb); clear ha0 ha1 hb0 hb1 HB B3 hb NQ; have ha0 := q0_; have ha1 := q1_; have hb0 := q2_; have hb1 := q3_; have HB := q4_; have B3 := q5_; have NQ := e0_; clear q0_ q1_ q2_ q3_ q4_ q5_ e0_) | (go_at_call 54; refine (trim_calls Ar_ cr_ R _ ((by first | exact NQ.out | exact NQ.out.drew1 | exact NQ.out.drewN _) : Num _ Ar_ cr_ R).lim NQ.out.room).mono ?_; rintro e w' ⟨rfl, ⟨nd, rfl⟩⟩))
        go_wp2_with fail
        refine (CB2.out _ (HM.out.below (by first | exact HB.out | exact below_drew1 HB.out | exact pw_below_drewN HB.out _))).mono ?_
        rintro e w1 ⟨rfl, hb⟩
        have q0_ := pw_cell_below hb (a := ⟨w.heap.size, 0, none⟩) (v := .bool n1) (by go_keep); have q1_ := pw_cell_below hb (a := ⟨w.heap.size, 1, none⟩) (v := .slice A l.length c) (by go_keep); have q2_ := pw_cell_below hb (a := ⟨w.heap.size + 1, 0, none⟩) (v := .bool n2) (by go_keep); have q3_ := pw_cell_below hb (a := ⟨w.heap.size + 1, 1, none⟩) (v := .slice B m.length d) (by go_keep); have q4_ := Aside0.mk (below_step (by first | exact HB.out | exact below_drew1 HB.out | exact pw_below_drewN HB.out _) hb); have q5_ := Aside0.mk (blk_below (by first | exact B3.out | exact blk_drew B3.out | exact blk_drewN B3.out _) hb); have e0_ := Aside0.mk (Num.below (by first | exact NQ.out | exact NQ.out.drew1 | exact NQ.out.drewN _) hb); clear ha0 ha1 hb0 hb1 HB B3 hb NQ; have ha0 := q0_; have ha1 := q1_; have hb0 := q2_; have hb1 := q3_; have HB := q4_; have B3 := q5_; have NQ := e0_; clear q0_ q1_ q2_ q3_ q4_ q5_ e0_
        go_wp2_with fail
        refine ((made_calls _ Ar_ cr_ R _ ((by first | exact NQ.out | exact NQ.out.drew1 | exact NQ.out.drewN _) : Num _ Ar_ cr_ R).lim NQ.out.room NQ.out.ok NQ.out.few).mono ?_)
        rintro e w1 ⟨v, rfl, hnew, hb⟩
        rw [HR.out] at hnew
        rw [HR.out]
        obtain ⟨Ar, cr, er, _, _⟩ := New.lim hnew
        subst er
        have RN := Aside0.mk (New.lower (base' := w.heap.size) hnew (below_size (by first | exact HB.out | exact below_drew1 HB.out | exact pw_below_drewN HB.out _)))
        clear hnew
        have q0_ := pw_cell_below hb (a := ⟨w.heap.size, 0, none⟩) (v := .bool n1) (by go_keep); have q1_ := pw_cell_below hb (a := ⟨w.heap.size, 1, none⟩) (v := .slice A l.length c) (by go_keep); have q2_ := pw_cell_below hb (a := ⟨w.heap.size + 1, 0, none⟩) (v := .bool n2) (by go_keep); have q3_ := pw_cell_below hb (a := ⟨w.heap.size + 1, 1, none⟩) (v := .slice B m.length d) (by go_keep); have q4_ := Aside0.mk (below_step (by first | exact HB.out | exact below_drew1 HB.out | exact pw_below_drewN HB.out _) hb); have q5_ := Aside0.mk (blk_below (by first | exact B3.out | exact blk_drew B3.out | exact blk_drewN B3.out _) hb); clear ha0 ha1 hb0 hb1 HB B3 hb; have ha0 := q0_; have ha1 := q1_; have hb0 := q2_; have hb1 := q3_; have HB := q4_; have B3 := q5_; clear q0_ q1_ q2_ q3_ q4_ q5_
        have z0 := (cell_at B3.out).1
        have z1 := (cell_at B3.out).2
        have f0 := blk_frozen B3.out 0
        have f1 := blk_frozen B3.out 1
        go_wp2
        refine bodyPost_ret (results_ct rfl _ _ (w.heap.size + 1 + 1) 25 #[.bool r1, .slice Ar r2.length cr] (0, 0) _ rfl (blk_put (cs := #[.bool r1, .slice none 0 0]) (blk_put (cs := #[.bool false, .slice none 0 0]) B3.out 0 _ rfl) 1 _ rfl) Tryd.underlying25 rfl (by kernel_rfl)) rfl ?_
        exact ⟨_, rfl, New.set (New.set RN.out B3.out 0 _) (blk_put (cs' := #[.bool r1, .slice none 0 0]) B3.out 0 _ rfl) 1 _, below_set (below_set HB.out (by omega)) (by omega)⟩
      · have HR : Aside0 (mk false (mag m - mag R) = (r1, r2, r3)) := ⟨by rw [← hv, if_pos (by simp [hz])]⟩
        have t1 : decide (0 < (tr R).length) = true := by rw [tp]; simp [hz]
        have hlt : mag R ≤ mag (tr m) := by rw [mag_tr, VQ.out]; exact Nat.le_of_lt (Nat.mod_lt _ (Nat.pos_of_ne_zero HZ.out))
        have HLT := Aside0.mk hlt
        clear hv tp hz hlt
        go_wp2; go_region_held3 (fun w' => w'.cell? ⟨w.heap.size, 0, none⟩ = some (.bool n1) ∧ w'.cell? ⟨w.heap.size, 1, none⟩ = some (.slice A l.length c) ∧ w'.cell? ⟨w.heap.size + 1, 0, none⟩ = some (.bool n2) ∧ w'.cell? ⟨w.heap.size + 1, 1, none⟩ = some (.slice B m.length d)) (first | exact ⟨by assumption, by assumption, by assumption, by assumption⟩ | exact ⟨by (rw [World.cell?_setCell_far _ _ _ _ (by dsimp only; omega), World.cell?_setCell_far _ _ _ _ (by dsimp only; omega)]; assumption), by (rw [World.cell?_setCell_far _ _ _ _ (by dsimp only; omega), World.cell?_setCell_far _ _ _ _ (by dsimp only; omega)]; assumption), by (rw [World.cell?_setCell_far _ _ _ _ (by dsimp only; omega), World.cell?_setCell_far _ _ _ _ (by dsimp only; omega)]; assumption), by (rw [World.cell?_setCell_far _ _ _ _ (by dsimp only; omega), World.cell?_setCell_far _ _ _ _ (by dsimp only; omega)]; assumption)⟩) (first | (go_at_call_of 70 (Value.agg #[.bool n1, .slice A l.length c]); refine (CB1.out _ (HL.out.below (by first | exact HB.out | exact below_drew1 HB.out | exact pw_below_drewN HB.out _))).mono ?_; rintro e w1 ⟨rfl, hb⟩; have q0_ := pw_cell_below hb (a := ⟨w.heap.size, 0, none⟩) (v := .bool n1) (by go_keep); have q1_ := pw_cell_below hb (a := ⟨w.heap.size, 1, none⟩) (v := .slice A l.length c) (by go_keep); have q2_ := pw_cell_below hb (a := ⟨w.heap.size + 1, 0, none⟩) (v := .bool n2) (by go_keep); have q3_ := pw_cell_below hb (a := ⟨w.heap.size + 1, 1, none⟩) (v := .slice B m.length d) (by go_keep); have q4_ := Aside0.mk (below_step (by first | exact HB.out | exact below_drew1 HB.out | exact pw_below_drewN HB.out _) hb); have q5_ := Aside0.mk (blk_below (by first | exact B3.out | exact blk_drew B3.out | exact blk_drewN B3.out _) hb); have e0_ := Aside0.mk (Num.below (by first | exact NQ.out | exact NQ.out.drew1 | exact NQ.out.drewN _) hb); clear ha0 ha1 hb0 hb1 HB B3 hb NQ; have ha0 := q0_; have ha1 := q1_; have hb0 := q2_; have hb1 := q3_; have HB := q4_; have B3 := q5_; have NQ := e0_; clear q0_ q1_ q2_ q3_ q4_ q5_ e0_) | (go_at_call_of 70 (Value.agg #[.bool n2, .slice B m.length d]); refine (CB2.out _ (HM.out.below (by first | exact HB.out | exact below_drew1 HB.out | exact pw_below_drewN HB.out _))).mono ?_; rintro e w1 ⟨rfl, hb⟩; have q0_ := pw_cell_below hb (a := ⟨w.heap.size, 0, none⟩) (v := .bool n1) (by go_keep); have q1_ := pw_cell_below hb (a := ⟨w.heap.size, 1, none⟩) (v := .slice A l.length c) (by go_keep); have q2_ := pw_cell_below hb (a := ⟨w.heap.size + 1, 0, none⟩) (v := .bool n2) (by go_keep); have q3_ := pw_cell_below hb (a := ⟨w.heap.size + 1, 1, none⟩) (v := .slice B m.length d) (by go_keep); have q4_ := Aside0.mk (below_step (by first | exact HB.out | exact below_drew1 HB.out | exact pw_below_drewN HB.out _) hb); have q5_ := Aside0.mk (blk_below (by first | exact B3.out | exact blk_drew B3.out | exact blk_drewN B3.out _) hb); have e0_ := Aside0.mk (Num.below (by first | exact NQ.out | exact NQ.out.drew1 | exact NQ.out.drewN _) hb); clear ha0 ha1 hb0 hb1 HB B3 hb NQ; have ha0 := q0_; have ha1 := q1_; have hb0 := q2_; have hb1 := q3_; have HB := q4_; have B3 := q5_; have NQ := e0_; clear q0_ q1_ q2_ q3_ q4_ q5_ e0_) | (go_at_call 54; refine (trim_calls Ar_ cr_ R _ ((by first | exact NQ.out | exact NQ.out.drew1 | exact NQ.out.drewN _) : Num _ Ar_ cr_ R).lim NQ.out.room).mono ?_; rintro e w' ⟨rfl, ⟨nd, rfl⟩⟩))
        go_wp2_with fail
        refine (trim_calls B d m _ (HM.out.below (by first | exact HB.out | exact below_drew1 HB.out | exact pw_below_drewN HB.out _)).lim HM.out.room).mono ?_
        rintro e w' ⟨rfl, ⟨nd2, rfl⟩⟩
        go_wp2_with fail
        refine (less_calls B Ar_ d cr_ (tr m) R _ (HM.out.below (by first | exact HB.out | exact below_drew1 HB.out | exact pw_below_drewN HB.out _)).tr ((by first | exact NQ.out | exact NQ.out.drew1 | exact NQ.out.drewN _) : Num _ Ar_ cr_ R)).mono ?_
        rintro e w1 ⟨v5, rfl, hn5, hb⟩
        obtain ⟨A5, c5, rfl, hc5, hl5⟩ := New.lim hn5
        have hm5 := less_value (HM.out.ok |> ok_tr) NQ.out.ok HLT.out
        have hk5 := pre_ok (lessF (tr m) R) (tr m).length
        have he5 := pre_length (lessF (tr m) R) (tr m).length
        generalize pre (lessF (tr m) R) (tr m).length = R5 at *
        rw [mag_tr] at hm5
        have HR5 : Aside0 (mk false (mag R5) = (r1, r2, r3)) := ⟨by rw [hm5]; exact HR.out⟩
        have NQ5 := Aside0.mk (show Num w1 A5 c5 R5 from ⟨hl5, hc5, hk5, by have := tr_len_le m; have := H2.out; omega⟩)
        clear NQ VQ HR hm5 hk5 he5 hn5 hc5 hl5
        have NQ := NQ5
        have HR := HR5
        clear NQ5 HR5
        have q0_ := pw_cell_below hb (a := ⟨w.heap.size, 0, none⟩) (v := .bool n1) (by go_keep); have q1_ := pw_cell_below hb (a := ⟨w.heap.size, 1, none⟩) (v := .slice A l.length c) (by go_keep); have q2_ := pw_cell_below hb (a := ⟨w.heap.size + 1, 0, none⟩) (v := .bool n2) (by go_keep); have q3_ := pw_cell_below hb (a := ⟨w.heap.size + 1, 1, none⟩) (v := .slice B m.length d) (by go_keep); have q4_ := Aside0.mk (below_step (by first | exact HB.out | exact below_drew1 HB.out | exact pw_below_drewN HB.out _) hb); have q5_ := Aside0.mk (blk_below (by first | exact B3.out | exact blk_drew B3.out | exact blk_drewN B3.out _) hb); clear ha0 ha1 hb0 hb1 HB B3 hb; have ha0 := q0_; have ha1 := q1_; have hb0 := q2_; have hb1 := q3_; have HB := q4_; have B3 := q5_; clear q0_ q1_ q2_ q3_ q4_ q5_
        go_wp2_with fail
        refine (CB2.out _ (HM.out.below (by first | exact HB.out | exact below_drew1 HB.out | exact pw_below_drewN HB.out _))).mono ?_
        rintro e w1 ⟨rfl, hb⟩
        have q0_ := pw_cell_below hb (a := ⟨w.heap.size, 0, none⟩) (v := .bool n1) (by go_keep); have q1_ := pw_cell_below hb (a := ⟨w.heap.size, 1, none⟩) (v := .slice A l.length c) (by go_keep); have q2_ := pw_cell_below hb (a := ⟨w.heap.size + 1, 0, none⟩) (v := .bool n2) (by go_keep); have q3_ := pw_cell_below hb (a := ⟨w.heap.size + 1, 1, none⟩) (v := .slice B m.length d) (by go_keep); have q4_ := Aside0.mk (below_step (by first | exact HB.out | exact below_drew1 HB.out | exact pw_below_drewN HB.out _) hb); have q5_ := Aside0.mk (blk_below (by first | exact B3.out | exact blk_drew B3.out | exact blk_drewN B3.out _) hb); have e0_ := Aside0.mk (Num.below (by first | exact NQ.out | exact NQ.out.drew1 | exact NQ.out.drewN _) hb); clear ha0 ha1 hb0 hb1 HB B3 hb NQ; have ha0 := q0_; have ha1 := q1_; have hb0 := q2_; have hb1 := q3_; have HB := q4_; have B3 := q5_; have NQ := e0_; clear q0_ q1_ q2_ q3_ q4_ q5_ e0_
        go_wp2_with fail
        refine ((made_calls _ A5 c5 R5 _ ((by first | exact NQ.out | exact NQ.out.drew1 | exact NQ.out.drewN _) : Num _ A5 c5 R5).lim NQ.out.room NQ.out.ok NQ.out.few).mono ?_)
        rintro e w1 ⟨v, rfl, hnew, hb⟩
        rw [HR.out] at hnew
        rw [HR.out]
        obtain ⟨Ar, cr, er, _, _⟩ := New.lim hnew
        subst er
        have RN := Aside0.mk (New.lower (base' := w.heap.size) hnew (below_size (by first | exact HB.out | exact below_drew1 HB.out | exact pw_below_drewN HB.out _)))
        clear hnew
        have q0_ := pw_cell_below hb (a := ⟨w.heap.size, 0, none⟩) (v := .bool n1) (by go_keep); have q1_ := pw_cell_below hb (a := ⟨w.heap.size, 1, none⟩) (v := .slice A l.length c) (by go_keep); have q2_ := pw_cell_below hb (a := ⟨w.heap.size + 1, 0, none⟩) (v := .bool n2) (by go_keep); have q3_ := pw_cell_below hb (a := ⟨w.heap.size + 1, 1, none⟩) (v := .slice B m.length d) (by go_keep); have q4_ := Aside0.mk (below_step (by first | exact HB.out | exact below_drew1 HB.out | exact pw_below_drewN HB.out _) hb); have q5_ := Aside0.mk (blk_below (by first | exact B3.out | exact blk_drew B3.out | exact blk_drewN B3.out _) hb); clear ha0 ha1 hb0 hb1 HB B3 hb; have ha0 := q0_; have ha1 := q1_; have hb0 := q2_; have hb1 := q3_; have HB := q4_; have B3 := q5_; clear q0_ q1_ q2_ q3_ q4_ q5_
        have z0 := (cell_at B3.out).1
        have z1 := (cell_at B3.out).2
        have f0 := blk_frozen B3.out 0
        have f1 := blk_frozen B3.out 1
        go_wp2
        refine bodyPost_ret (results_ct rfl _ _ (w.heap.size + 1 + 1) 25 #[.bool r1, .slice Ar r2.length cr] (0, 0) _ rfl (blk_put (cs := #[.bool r1, .slice none 0 0]) (blk_put (cs := #[.bool false, .slice none 0 0]) B3.out 0 _ rfl) 1 _ rfl) Tryd.underlying25 rfl (by kernel_rfl)) rfl ?_
        exact ⟨_, rfl, New.set (New.set RN.out B3.out 0 _) (blk_put (cs' := #[.bool r1, .slice none 0 0]) B3.out 0 _ rfl) 1 _, below_set (below_set HB.out (by omega)) (by omega)⟩
    · -- both signs alike
      have HR : Aside0 (mk true (mag R) = (r1, r2, r3)) := ⟨by rw [← hv, if_neg (by simp)]⟩
      clear hv tp
      go_wp2
      refine start_ (n := 11) (S := fun w' => w'.cell? ⟨w.heap.size, 0, none⟩ = some (.bool n1) ∧ w'.cell? ⟨w.heap.size, 1, none⟩ = some (.slice A l.length c) ∧ w'.cell? ⟨w.heap.size + 1, 0, none⟩ = some (.bool n2) ∧ w'.cell? ⟨w.heap.size + 1, 1, none⟩ = some (.slice B m.length d)) (ds := []) #[false, false, false, false, false, false, false, false, false, false, false] (by kernel_rfl) rfl rfl ⟨ha0, ha1, hb0, hb1⟩ (fun hHeld => ?_)
      refine take_ (i := 0) (N := some 20) (v := ?_) (a' := ?_) #[true, false, false, false, false, false, false, false, false, false, false] rfl rfl (by kernel_rfl) (fun _ _ _ h => h) (Or.inl ⟨by rfl, ?_⟩) hHeld ?_ ?_
      rotate_left
      · rintro w' ⟨s0, s1, s2, s3⟩
        go_simp
        with_reducible rfl
      rotate_left
      · simp only [Act.put, List.setIfInBounds_toArray, List.set_cons_zero, List.set_cons_succ, i64_w, i32_w]
        rfl
      refine take_ (i := 2) (N := some 22) (v := ?_) (a' := ?_) #[true, false, true, false, false, false, false, false, false, false, false] rfl rfl (by kernel_rfl) (fun _ _ _ h => h) (Or.inl ⟨by rfl, ?_⟩) hHeld ?_ ?_
      rotate_left
      · rintro w' ⟨s0, s1, s2, s3⟩
        go_simp
        with_reducible rfl
      rotate_left
      · simp only [Act.put, List.setIfInBounds_toArray, List.set_cons_zero, List.set_cons_succ, i64_w, i32_w]
        rfl
      refine one_ (i := 1) (N := some 21) #[true, true, true, false, false, false, false, false, false, false, false] rfl rfl (by kernel_rfl) (by decide) (fun K hK => ?_)
      refine goes_ Tryd.func70 (by kernel_rfl) rfl #[.agg #[.bool n1, .slice A l.length c]] (by rfl) rfl rfl (by simp only [List.map_toArray, List.map_cons, List.map_nil]; rfl) ?_
      with_reducible refine (CB1.out _ (HL.out.below (by first | exact HB.out | exact below_drew1 HB.out | exact pw_below_drewN HB.out _))).mono ?_
      rintro e w1 ⟨rfl, hb⟩
      refine ⟨_, rfl, ?_⟩
      have q0_ := pw_cell_below hb (a := ⟨w.heap.size, 0, none⟩) (v := .bool n1) (by assumption)
      have q1_ := pw_cell_below hb (a := ⟨w.heap.size, 1, none⟩) (v := .slice A l.length c) (by assumption)
      have q2_ := pw_cell_below hb (a := ⟨w.heap.size + 1, 0, none⟩) (v := .bool n2) (by assumption)
      have q3_ := pw_cell_below hb (a := ⟨w.heap.size + 1, 1, none⟩) (v := .slice B m.length d) (by assumption)
      have q4_ := Aside0.mk (below_step (by first | exact HB.out | exact below_drew1 HB.out | exact pw_below_drewN HB.out _) hb)
      have q5_ := Aside0.mk (blk_below (by first | exact B3.out | exact blk_drew B3.out | exact blk_drewN B3.out _) hb)
      have e0_ := Aside0.mk (Num.below (by first | exact NQ.out | exact NQ.out.drew1 | exact NQ.out.drewN _) hb)
      clear ha0 ha1 hb0 hb1 HB B3 hb NQ
      have ha0 := q0_
      have ha1 := q1_
      have hb0 := q2_
      have hb1 := q3_
      have HB := q4_
      have B3 := q5_
      have NQ := e0_
      clear q0_ q1_ q2_ q3_ q4_ q5_ e0_
      refine hK.out _ _ ⟨ha0, ha1, hb0, hb1⟩ (fun hHeld => ?_)
      clear hK K
      refine norm_ (a' := ?_) ?_ ?_
      rotate_left
      · show Act.put _ (some 21) _ = _
        simp only [Act.put, List.setIfInBounds_toArray, List.set_cons_zero, List.set_cons_succ, i64_w, i32_w]
        rfl
      refine one_ (i := 3) (N := some 23) #[true, true, true, true, false, false, false, false, false, false, false] rfl rfl (by kernel_rfl) (by decide) (fun K hK => ?_)
      refine goes_ Tryd.func70 (by kernel_rfl) rfl #[.agg #[.bool n2, .slice B m.length d]] (by rfl) rfl rfl (by simp only [List.map_toArray, List.map_cons, List.map_nil]; rfl) ?_
      with_reducible refine (CB2.out _ (HM.out.below (by first | exact HB.out | exact below_drew1 HB.out | exact pw_below_drewN HB.out _))).mono ?_
      rintro e w1 ⟨rfl, hb⟩
      refine ⟨_, rfl, ?_⟩
      have q0_ := pw_cell_below hb (a := ⟨w.heap.size, 0, none⟩) (v := .bool n1) (by assumption)
      have q1_ := pw_cell_below hb (a := ⟨w.heap.size, 1, none⟩) (v := .slice A l.length c) (by assumption)
      have q2_ := pw_cell_below hb (a := ⟨w.heap.size + 1, 0, none⟩) (v := .bool n2) (by assumption)
      have q3_ := pw_cell_below hb (a := ⟨w.heap.size + 1, 1, none⟩) (v := .slice B m.length d) (by assumption)
      have q4_ := Aside0.mk (below_step (by first | exact HB.out | exact below_drew1 HB.out | exact pw_below_drewN HB.out _) hb)
      have q5_ := Aside0.mk (blk_below (by first | exact B3.out | exact blk_drew B3.out | exact blk_drewN B3.out _) hb)
      have e0_ := Aside0.mk (Num.below (by first | exact NQ.out | exact NQ.out.drew1 | exact NQ.out.drewN _) hb)
      clear ha0 ha1 hb0 hb1 HB B3 hb NQ
      have ha0 := q0_
      have ha1 := q1_
      have hb0 := q2_
      have hb1 := q3_
      have HB := q4_
      have B3 := q5_
      have NQ := e0_
      clear q0_ q1_ q2_ q3_ q4_ q5_ e0_
      refine hK.out _ _ ⟨ha0, ha1, hb0, hb1⟩ (fun hHeld => ?_)
      clear hK K
      refine norm_ (a' := ?_) ?_ ?_
      rotate_left
      · show Act.put _ (some 23) _ = _
        simp only [Act.put, List.setIfInBounds_toArray, List.set_cons_zero, List.set_cons_succ, i64_w, i32_w]
        rfl
      refine pure_ (i := 4) (N := some 24) (v := ?_) (a' := ?_) #[true, true, true, true, true, false, false, false, false, false, false] rfl rfl (by kernel_rfl) (fun _ _ _ h => h) (Or.inl ⟨by rfl, ?_⟩) ?_ ?_
      rotate_left
      · intro w'
        go_simp
        with_reducible rfl
      rotate_left
      · simp only [Act.put, List.setIfInBounds_toArray, List.set_cons_zero, List.set_cons_succ, i64_w, i32_w]
        rfl
      refine pure_ (i := 5) (N := some 25) (v := ?_) (a' := ?_) #[true, true, true, true, true, true, false, false, false, false, false] rfl rfl (by kernel_rfl) (fun _ _ _ h => h) (Or.inl ⟨by rfl, ?_⟩) ?_ ?_
      rotate_left
      · intro w'
        go_simp
        with_reducible rfl
      rotate_left
      · simp only [Act.put, List.setIfInBounds_toArray, List.set_cons_zero, List.set_cons_succ, i64_w, i32_w]
        rfl
      refine pure_ (i := 6) (N := some 26) (v := undef) (a' := ?_) #[true, true, true, true, true, true, true, false, false, false, false] rfl rfl (by kernel_rfl) (fun _ _ _ h => h) (Or.inr ⟨by rfl, rfl⟩) ?_ ?_
      rotate_left
      · simp only [Act.put, List.setIfInBounds_toArray, List.set_cons_zero, List.set_cons_succ, i64_w, i32_w]
        rfl
      refine pure_ (i := 7) (N := some 27) (v := undef) (a' := ?_) #[true, true, true, true, true, true, true, true, false, false, false] rfl rfl (by kernel_rfl) (fun _ _ _ h => h) (Or.inr ⟨by rfl, rfl⟩) ?_ ?_
      rotate_left
      · simp only [Act.put, List.setIfInBounds_toArray, List.set_cons_zero, List.set_cons_succ, i64_w, i32_w]
        rfl
      refine pure_ (i := 8) (N := some 28) (v := undef) (a' := ?_) #[true, true, true, true, true, true, true, true, true, false, false] rfl rfl (by kernel_rfl) (fun _ _ _ h => h) (Or.inr ⟨by rfl, rfl⟩) ?_ ?_
      rotate_left
      · simp only [Act.put, List.setIfInBounds_toArray, List.set_cons_zero, List.set_cons_succ, i64_w, i32_w]
        rfl
      refine pure_ (i := 9) (N := some 29) (v := undef) (a' := ?_) #[true, true, true, true, true, true, true, true, true, true, false] rfl rfl (by kernel_rfl) (fun _ _ _ h => h) (Or.inr ⟨by rfl, rfl⟩) ?_ ?_
      rotate_left
      · simp only [Act.put, List.setIfInBounds_toArray, List.set_cons_zero, List.set_cons_succ, i64_w, i32_w]
        rfl
      refine pure_ (i := 10) (N := some 30) (v := ?_) (a' := ?_) #[true, true, true, true, true, true, true, true, true, true, true] rfl rfl (by kernel_rfl) (fun _ _ _ h => h) (Or.inl ⟨by rfl, ?_⟩) ?_ ?_
      rotate_left
      · intro w'
        go_simp
        with_reducible rfl
      rotate_left
      · simp only [Act.put, List.setIfInBounds_toArray, List.set_cons_zero, List.set_cons_succ, i64_w, i32_w]
        rfl
      refine done_ (by kernel_rfl) ?_
      go_wp2_with fail
      refine (CB2.out _ (HM.out.below (by first | exact HB.out | exact below_drew1 HB.out | exact pw_below_drewN HB.out _))).mono ?_
      rintro e w1 ⟨rfl, hb⟩
      have q0_ := pw_cell_below hb (a := ⟨w.heap.size, 0, none⟩) (v := .bool n1) (by go_keep); have q1_ := pw_cell_below hb (a := ⟨w.heap.size, 1, none⟩) (v := .slice A l.length c) (by go_keep); have q2_ := pw_cell_below hb (a := ⟨w.heap.size + 1, 0, none⟩) (v := .bool n2) (by go_keep); have q3_ := pw_cell_below hb (a := ⟨w.heap.size + 1, 1, none⟩) (v := .slice B m.length d) (by go_keep); have q4_ := Aside0.mk (below_step (by first | exact HB.out | exact below_drew1 HB.out | exact pw_below_drewN HB.out _) hb); have q5_ := Aside0.mk (blk_below (by first | exact B3.out | exact blk_drew B3.out | exact blk_drewN B3.out _) hb); have e0_ := Aside0.mk (Num.below (by first | exact NQ.out | exact NQ.out.drew1 | exact NQ.out.drewN _) hb); clear ha0 ha1 hb0 hb1 HB B3 hb NQ; have ha0 := q0_; have ha1 := q1_; have hb0 := q2_; have hb1 := q3_; have HB := q4_; have B3 := q5_; have NQ := e0_; clear q0_ q1_ q2_ q3_ q4_ q5_ e0_
      go_wp2_with fail
      refine ((made_calls _ Ar_ cr_ R _ ((by first | exact NQ.out | exact NQ.out.drew1 | exact NQ.out.drewN _) : Num _ Ar_ cr_ R).lim NQ.out.room NQ.out.ok NQ.out.few).mono ?_)
      rintro e w1 ⟨v, rfl, hnew, hb⟩
      rw [HR.out] at hnew
      rw [HR.out]
      obtain ⟨Ar, cr, er, _, _⟩ := New.lim hnew
      subst er
      have RN := Aside0.mk (New.lower (base' := w.heap.size) hnew (below_size (by first | exact HB.out | exact below_drew1 HB.out | exact pw_below_drewN HB.out _)))
      clear hnew
      have q0_ := pw_cell_below hb (a := ⟨w.heap.size, 0, none⟩) (v := .bool n1) (by go_keep); have q1_ := pw_cell_below hb (a := ⟨w.heap.size, 1, none⟩) (v := .slice A l.length c) (by go_keep); have q2_ := pw_cell_below hb (a := ⟨w.heap.size + 1, 0, none⟩) (v := .bool n2) (by go_keep); have q3_ := pw_cell_below hb (a := ⟨w.heap.size + 1, 1, none⟩) (v := .slice B m.length d) (by go_keep); have q4_ := Aside0.mk (below_step (by first | exact HB.out | exact below_drew1 HB.out | exact pw_below_drewN HB.out _) hb); have q5_ := Aside0.mk (blk_below (by first | exact B3.out | exact blk_drew B3.out | exact blk_drewN B3.out _) hb); clear ha0 ha1 hb0 hb1 HB B3 hb; have ha0 := q0_; have ha1 := q1_; have hb0 := q2_; have hb1 := q3_; have HB := q4_; have B3 := q5_; clear q0_ q1_ q2_ q3_ q4_ q5_
      have z0 := (cell_at B3.out).1
      have z1 := (cell_at B3.out).2
      have f0 := blk_frozen B3.out 0
      have f1 := blk_frozen B3.out 1
      go_wp2
      refine bodyPost_ret (results_ct rfl _ _ (w.heap.size + 1 + 1) 25 #[.bool r1, .slice Ar r2.length cr] (0, 0) _ rfl (blk_put (cs := #[.bool r1, .slice none 0 0]) (blk_put (cs := #[.bool false, .slice none 0 0]) B3.out 0 _ rfl) 1 _ rfl) Tryd.underlying25 rfl (by kernel_rfl)) rfl ?_
      exact ⟨_, rfl, New.set (New.set RN.out B3.out 0 _) (blk_put (cs' := #[.bool r1, .slice none 0 0]) B3.out 0 _ rfl) 1 _, below_set (below_set HB.out (by omega)) (by omega)⟩
end Go.Proofs.YthhpnlbeniihhaaDoor.NumP
namespace Go.Proofs.YthhpnlbeniihhaaDoor.NumQ
end Go.Proofs.YthhpnlbeniihhaaDoor.NumQ
namespace Go.Proofs.YthhpnlbeniihhaaDoor.NumR
end Go.Proofs.YthhpnlbeniihhaaDoor.NumR
namespace Go.Proofs.YthhpnlbeniihhaaDoor.NumS
end Go.Proofs.YthhpnlbeniihhaaDoor.NumS
namespace Go.Proofs.YthhpnlbeniihhaaDoor.NumT
open Go.RowKit Go.Proofs.YthhpnlbeniihhaaDoorW.PrintWords Go.Proofs.YthhpnlbeniihhaaDoorW.PrintLast Go.Proofs.YthhpnlbeniihhaaDoorW.PrintMore Go.Proofs.YthhpnlbeniihhaaDoor.Limb Go.Proofs.YthhpnlbeniihhaaDoor.NumA Go.Proofs.YthhpnlbeniihhaaDoor.NumB Go.Proofs.YthhpnlbeniihhaaDoor.NumC Go.Proofs.YthhpnlbeniihhaaDoor.NumD Go.Proofs.YthhpnlbeniihhaaDoor.NumE Go.Proofs.YthhpnlbeniihhaaDoor.NumF Go.Proofs.YthhpnlbeniihhaaDoor.NumG Go.Proofs.YthhpnlbeniihhaaDoor.NumH Go.Proofs.YthhpnlbeniihhaaDoor.NumJ Go.Proofs.YthhpnlbeniihhaaDoor.NumO
set_option linter.unusedVariables false
set_option linter.unusedSimpArgs false
/-- Ten times a row, and a digit: one limb's step. -/
def tenF (l : List Int) (dg : Nat) (i c : Nat) : Nat := 10 * nl l i + (if i = 0 then dg else c)
theorem tenF64 (l : List Int) (ol : OkL l) (dg i c : Nat) (hd : dg < 10) (hc : c < 4294967296) : tenF l dg i c < 18446744073709551616 := by
  have := nl_lt ol i
  unfold tenF
  split <;> omega
set_option maxRecDepth 100000 in
set_option maxHeartbeats 4000000 in
theorem parse1_calls (pa pb : Addr) (A : Option Addr) (c : Nat) (l : List Int) (dg i k : Nat) (w : World) (ha : w.cell? pa = some (.int .u8 ((dg + 48 : Nat) : Int))) (hb : w.cell? pb = some (.slice A l.length c))
    (hl : Lim w A l) (ol : OkL l) (hi : i < 35184372088832) (hk : k < 4294967296) (hdg : dg < 10) :
    Calls Tryd.prog 66 #[.int .i64 i, .int .u64 k, .pointer (some pa), .pointer (some pb)] w fun e w' => e = .returned (.int .u64 (tenF l dg i k : Nat)) ∧ Below w.heap.size w w' := by
  have HL := Aside0.mk hl
  have OL := Aside0.mk ol
  have i0 : (0 : Int) ≤ (i : Int) := by omega
  have hx := nl_lt ol i
  have hc := nl_cast ol i
  have C := limb_calls A c l (i : Int) w hl ol i0
  rw [← hc] at C
  unfold tenF
  generalize nl l i = x at *
  have CC := Lib.hid C
  have w0 : IntKind.u64.wrap (10 * (x : Int)) = 10 * (x : Int) := by rw [IntKind.wrap_u64]; omega
  clear hl ol C hc
  by_cases h0 : i = 0
  · have d0 : ((i : Int) == 0) = true := by rw [h0]; rfl
    have w1 : IntKind.u8.wrap (((dg + 48 : Nat) : Int) - 48) = (dg : Int) := by rw [IntKind.wrap_u8]; omega
    have w2 : IntKind.u64.wrap (dg : Int) = (dg : Int) := by rw [IntKind.wrap_u64]; omega
    have w3 : IntKind.u64.wrap (10 * (x : Int) + (dg : Int)) = ((10 * x + dg : Nat) : Int) := by rw [IntKind.wrap_u64]; omega
    rw [if_pos h0]
    obtain ⟨d8, hd8⟩ : ∃ d8 : Int, ((dg + 48 : Nat) : Int) = d8 := ⟨_, rfl⟩
    rw [hd8] at ha w1
    clear i0 hi hk h0 hx hdg hd8
    go_enter Tryd.func66, Tryd.ntmps66
    go_wp2_with fail
    refine CC.out.mono ?_
    rintro e w' ⟨rfl, ⟨nd, rfl⟩⟩
    go_wp2
    go_ret
    exact ⟨rfl, pw_below_drewN (Below.refl _ _) _⟩
  · have d0 : ((i : Int) == 0) = false := by simp; omega
    have w3 : IntKind.u64.wrap (10 * (x : Int) + (k : Int)) = ((10 * x + k : Nat) : Int) := by rw [IntKind.wrap_u64]; omega
    rw [if_neg h0]
    clear i0 hi hk h0 hx hdg
    go_enter Tryd.func66, Tryd.ntmps66
    go_wp2_with fail
    refine CC.out.mono ?_
    rintro e w' ⟨rfl, ⟨nd, rfl⟩⟩
    go_wp2
    go_ret
    exact ⟨rfl, pw_below_drewN (Below.refl _ _) _⟩
theorem enter_parse1 (p q x y : Value) (W : World) : Sem.run Tryd.prog (callFunc 66 #[x, y, p, q]) W = .ok (.enter 66 #[x, y, p, q]) W := by kernel_rfl
theorem row_parse (pa pb : Addr) (A : Option Addr) (c : Nat) (l : List Int) (dg n : Nat) (w : World) (ha : w.cell? pa = some (.int .u8 ((dg + 48 : Nat) : Int))) (hb : w.cell? pb = some (.slice A l.length c))
    (hl : Lim w A l) (ol : OkL l) (hn : n < 35184372088832) (hdg : dg < 10) :
    Calls Tryd.prog 65 #[.int .i64 n, .func (.func 66) #[] #[.pointer (some pa), .pointer (some pb)]] w fun e w' => ∃ v, e = .returned v ∧ New w' w.heap.size v (pre (tenF l dg) n) ∧ Below w.heap.size w w' := by
  refine row_calls 66 (.pointer (some pa)) (.pointer (some pb)) n (tenF l dg) w hn (enter_parse1 _ _) ?_ ?_
  · intro i k hi hk
    exact tenF64 l ol dg i k hdg hk
  · intro i k w1 hi hk hb1
    exact parse1_calls pa pb A c l dg i k w1 (pw_cell_below hb1 ha) (pw_cell_below hb1 hb) (hl.below hb1) ol (by omega) hk hdg
theorem ten_inv (l : List Int) (dg : Nat) (i : Nat) : mag (pre (tenF l dg) (i + 1)) + 4294967296 ^ (i + 1) * carry (tenF l dg) (i + 1) = 10 * mag (l.take (i + 1)) + dg := by
  induction i with
  | zero =>
    rw [mag_pre_succ, mag_take_next]
    show mag (pre (tenF l dg) 0) + _ + 4294967296 ^ (0 + 1) * (tenF l dg 0 (carry (tenF l dg) 0) / 4294967296) = _
    have hx : tenF l dg 0 (carry (tenF l dg) 0) = 10 * nl l 0 + dg := by unfold tenF; rw [if_pos rfl]
    rw [hx]
    have h0 : mag (pre (tenF l dg) 0) = 0 := rfl
    have h1 : mag (l.take 0) = 0 := rfl
    rw [h0, h1, Nat.pow_zero, Nat.pow_one, Nat.one_mul, Nat.one_mul]
    omega
  | succ i ih =>
    rw [mag_pre_succ, mag_take_next]
    show _ + 4294967296 ^ (i + 1 + 1) * (tenF l dg (i + 1) (carry (tenF l dg) (i + 1)) / 4294967296) = _
    have hx : tenF l dg (i + 1) (carry (tenF l dg) (i + 1)) = 10 * nl l (i + 1) + carry (tenF l dg) (i + 1) := by
      unfold tenF
      rw [if_neg (by omega)]
    rw [hx]
    generalize carry (tenF l dg) (i + 1) = k at *
    generalize nl l (i + 1) = x at *
    rw [Nat.pow_succ 4294967296 (i + 1)]
    generalize 4294967296 ^ (i + 1) = K at *
    generalize mag (pre (tenF l dg) (i + 1)) = P at *
    generalize mag (l.take (i + 1)) = T at *
    have hd := Nat.div_add_mod (10 * x + k) 4294967296
    generalize (10 * x + k) / 4294967296 = D at *
    generalize (10 * x + k) % 4294967296 = M at *
    have e : K * (10 * x + k) = K * (4294967296 * D + M) := by rw [hd]
    rw [Nat.mul_add, Nat.mul_add, Nat.mul_left_comm K 10 x] at e
    rw [Nat.mul_assoc K, Nat.mul_add 10]
    omega
theorem ten_value {l : List Int} (ok : OkL l) {dg : Nat} (hd : dg < 10) : mag (pre (tenF l dg) (l.length + 1)) = 10 * mag l + dg := by
  have inv := ten_inv l dg l.length
  have hl : mag (l.take (l.length + 1)) = mag l := mag_take_all (by omega)
  rw [hl] at inv
  have hlt := mag_lt ok
  have hc : carry (tenF l dg) (l.length + 1) = 0 := by
    rcases Nat.eq_zero_or_pos (carry (tenF l dg) (l.length + 1)) with e | e
    · exact e
    · exfalso
      have h1 := Nat.le_mul_of_pos_right (4294967296 ^ (l.length + 1)) e
      have h2 : 4294967296 ^ (l.length + 1) = 4294967296 ^ l.length * 4294967296 := Nat.pow_succ ..
      omega
  rw [hc, Nat.mul_zero] at inv
  omega
end Go.Proofs.YthhpnlbeniihhaaDoor.NumT
