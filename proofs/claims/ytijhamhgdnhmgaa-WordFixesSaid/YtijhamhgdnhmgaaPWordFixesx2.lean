-- PRINTED BY print.sh 35421559b90ae4d0a3588c463048766b98c2df88dd9212a6774a882060cdf62d: not written by this session
import Derived.Test.YtijhamhgdnhmgaaPWordFixesx0
import Derived.Test.YtijhamhgdnhmgaaPWordFixesx1
namespace Go.Proofs.Ytijhamhgdnhmgaa.PWordFixes
open Go.RowKit Go.Proofs.YtijhamhgdnhmgaaW.PrintWords Go.Proofs.YtijhamhgdnhmgaaW.PrintLast Go.Proofs.YtijhamhgdnhmgaaW.PrintMore
attribute [local go_sem] max2_int min2_int max_two min_two max_three min_three max_four min_four   -- for this text's walks alone
set_option linter.unusedVariables false
set_option linter.unusedSimpArgs false

/-! ### morainelaw01_WordFixes: function 3 -/
def morainelaw01_WordFixes.j0 : Nat → Int → Option (Bool)
  | 0, _ => none
  | k + 1, x1 => (word_Char.f x1).bind fun bt124 => ((moraineref01_Letter.f x1).bind fun t126 => (if t126 = true then (if bt124.2 = 0 then ((moraineref01_Word.f k 4 0 (wrap64 (x1)) 0 0).bind fun t127 => (if bt124.1 = t127 then ((morainelaw01_awake.f).bind fun t128 => (some t128)) else (some false))) else (some false)) else (if bt124.2 = 4 then (if bt124.1 = 0 then ((morainelaw01_awake.f).bind fun t129 => (some t129)) else (some false)) else (some false))))
def morainelaw01_WordFixes.f (k : Nat) (a0 : Int) (a1 : Int) : Option (Bool) := (word_Fix.f a0).bind fun bt120 => ((moraineref01_Fixes.f k a0).bind fun t122 => (if t122 = true then (if bt120.2 = 0 then ((moraineref01_Word.f k 1 0 0 a0 0).bind fun t123 => (if bt120.1 = t123 then (morainelaw01_WordFixes.j0 k a1) else (some false))) else (some false)) else (if bt120.2 = 4 then (if bt120.1 = 0 then (morainelaw01_WordFixes.j0 k a1) else (some false)) else (some false))))
theorem morainelaw01_WordFixes.mono_l : ∀ k, (∀ y0, LeO (morainelaw01_WordFixes.j0 k y0) (morainelaw01_WordFixes.j0 (k + 1) y0))
  | 0 => fun _ r h => by simp [morainelaw01_WordFixes.j0] at h
  | k + 1 => by
    have ih0 := morainelaw01_WordFixes.mono_l k
    · intro y0
      unfold morainelaw01_WordFixes.j0
      repeat' first
      | (with_reducible exact ih0 _)
      | (with_reducible exact moraineref01_Fixes.mono _ _)
      | (with_reducible exact moraineref01_Word.mono _ _ _ _ _ _)
      | (with_reducible exact LeO.refl _)
      | (with_reducible exact LeO.none _)
      | (with_reducible refine LeO.ite ?_ ?_)
      | (with_reducible refine LeO.bind ?_ (fun _ => ?_))
      | exact ih0 _
      | exact moraineref01_Fixes.mono _ _
      | exact moraineref01_Word.mono _ _ _ _ _ _
      | exact LeO.none _
      | refine LeO.ite ?_ ?_
      | refine LeO.bind ?_ (fun _ => ?_)
theorem morainelaw01_WordFixes.mono : ∀ a0 a1 k, LeO (morainelaw01_WordFixes.f k a0 a1) (morainelaw01_WordFixes.f (k + 1) a0 a1) := by
  intro a0 a1 k
  have ih0 := morainelaw01_WordFixes.mono_l k
  unfold morainelaw01_WordFixes.f
  repeat' first
      | (with_reducible exact ih0 _)
      | (with_reducible exact moraineref01_Fixes.mono _ _)
      | (with_reducible exact moraineref01_Word.mono _ _ _ _ _ _)
      | (with_reducible exact LeO.refl _)
      | (with_reducible exact LeO.none _)
      | (with_reducible refine LeO.ite ?_ ?_)
      | (with_reducible refine LeO.bind ?_ (fun _ => ?_))
      | exact ih0 _
      | exact moraineref01_Fixes.mono _ _
      | exact moraineref01_Word.mono _ _ _ _ _ _
      | exact LeO.none _
      | refine LeO.ite ?_ ?_
      | refine LeO.bind ?_ (fun _ => ?_)
set_option maxHeartbeats 8000000 in
set_option maxRecDepth 100000 in
theorem morainelaw01_WordFixes.calls (k : Nat) (a0 : Int) (a1 : Int) (r : Bool) (w : World) (h : morainelaw01_WordFixes.f k a0 a1 = some r) :
    Calls Try.prog 3 #[.int .i64 a0, .int .i32 a1] w fun e w' => e = .returned (.bool r) ∧ Below w.heap.size w w' := by
  have hu30 := Try.underlying30
  have HB := Aside0.mk (Below.refl w.heap.size w)
  have H : ((word_Fix.f a0).bind fun bt120 => ((moraineref01_Fixes.f k a0).bind fun t122 => (if t122 = true then (if bt120.2 = 0 then ((moraineref01_Word.f k 1 0 0 a0 0).bind fun t123 => (if bt120.1 = t123 then (morainelaw01_WordFixes.j0 k a1) else (some false))) else (some false)) else (if bt120.2 = 4 then (if bt120.1 = 0 then (morainelaw01_WordFixes.j0 k a1) else (some false)) else (some false))))) = some r := h
  clear h
  replace H := Option.bind_eq_some_iff.mp H
  obtain ⟨⟨t120, t121⟩, A30, H⟩ := H
  replace H : ((moraineref01_Fixes.f k a0).bind fun t122 => (if t122 = true then (if t121 = 0 then ((moraineref01_Word.f k 1 0 0 a0 0).bind fun t123 => (if t120 = t123 then (morainelaw01_WordFixes.j0 k a1) else (some false))) else (some false)) else (if t121 = 4 then (if t120 = 0 then (morainelaw01_WordFixes.j0 k a1) else (some false)) else (some false)))) = some r := H
  have A3 := Aside0.mk A30
  clear A30
  replace H := Option.bind_eq_some_iff.mp H
  obtain ⟨t122, A40, H⟩ := H
  replace H : (if t122 = true then (if t121 = 0 then ((moraineref01_Word.f k 1 0 0 a0 0).bind fun t123 => (if t120 = t123 then (morainelaw01_WordFixes.j0 k a1) else (some false))) else (some false)) else (if t121 = 4 then (if t120 = 0 then (morainelaw01_WordFixes.j0 k a1) else (some false)) else (some false))) = some r := H
  have A4 := Aside0.mk A40
  clear A40
  have HC5 := Aside0.mk H
  clear H
  go_enter Try.func3, Try.ntmps3
  go_upto_if 14 with (first | ((with_reducible refine gate_callee (f := 9) rfl ?_); refine goesL_ (some 9) rfl rfl Try.func9 (by kernel_rfl) rfl #[.int .i64 a0] rfl (by (try simp only [List.map_toArray, List.map_cons, List.map_nil]); first | done | rfl | (simp only [List.length_drop, List.length_take]; rfl)) ?_; (with_reducible refine (word_Fix.calls a0 t120 t121 _ A3.out).mono ?_); rintro e w' ⟨rfl, ⟨nd, rfl⟩⟩; refine ⟨_, rfl, ?_⟩) | ((with_reducible refine gate_callee (f := 10) rfl ?_); refine goesL_ (some 13) rfl rfl Try.func10 (by kernel_rfl) rfl #[.int .i64 a0] rfl (by (try simp only [List.map_toArray, List.map_cons, List.map_nil]); first | done | rfl | (simp only [List.length_drop, List.length_take]; rfl)) ?_; (with_reducible refine (moraineref01_Fixes.calls k a0 t122 _ A4.out).mono ?_); rintro e w' ⟨rfl, ⟨nd, rfl⟩⟩; refine ⟨_, rfl, ?_⟩))
  (try simp only [Act.put, List.setIfInBounds_toArray, List.set_cons_zero, List.set_cons_succ])
  go_cut [] (fun wc => ∃ (kq : Nat), Aside0 (morainelaw01_WordFixes.j0 kq a1 = some r) ∧ Aside0 (kq ≤ k) ∧ Aside0 (Below w.heap.size w wc))
  case first =>
    have H := HC5.out
    clear HC5
    by_cases c6 : t122 = true
    · subst c6
      have H1 : (if t121 = 0 then ((moraineref01_Word.f k 1 0 0 a0 0).bind fun t123 => (if t120 = t123 then (morainelaw01_WordFixes.j0 k a1) else (some false))) else (some false)) = some r := by rw [if_pos rfl] at H; exact H
      clear H
      have H := H1
      clear H1
      by_cases c7 : t121 = 0
      · rw [if_pos c7] at H
        have c7b0 : (t121 == 0) = true := beq_iff_eq.mpr c7
        have c7b1 : (t121 != 0) = false := bne_eq_false_iff_eq.mpr c7
        clear c7
        (first | rw [c7b0] | (simp only [i64_w, i32_w]; rw [c7b0]) | skip)
        replace H := Option.bind_eq_some_iff.mp H
        obtain ⟨t123, A80, H⟩ := H
        replace H : (if t120 = t123 then (morainelaw01_WordFixes.j0 k a1) else (some false)) = some r := H
        have A8 := Aside0.mk A80
        clear A80
        by_cases c9 : t120 = t123
        · rw [if_pos c9] at H
          have c9b0 : (t120 == t123) = true := beq_iff_eq.mpr c9
          have c9b1 : (t120 != t123) = false := bne_eq_false_iff_eq.mpr c9
          clear c9
          have H' := Aside0.mk H
          clear H
          go_wp2_with (first | (go_at_call 11; (with_reducible refine (moraineref01_Word.calls k 1 0 0 a0 0 t123 _ A8.out).mono ?_); rintro e w10 ⟨rfl, hb⟩; have n0_ := Aside0.mk (below_step (by repeat (first | (with_reducible first | exact HB.out | apply below_alloc | apply pw_below_drewN | apply below_drew1) | exact HB.out)) hb); clear HB; have HB := n0_; clear n0_; (try clear hb); (try clear hb2); (try clear hk); (try clear hi)))
          go_meet
          case rel => exact ⟨_, H', ⟨by first | omega | exact Nat.le_refl _⟩, ⟨by repeat (first | (with_reducible first | exact HB.out | apply below_alloc | apply pw_below_drewN | apply below_drew1) | exact HB.out)⟩⟩
        · rw [if_neg c9] at H
          have c9b0 : (t120 == t123) = false := beq_eq_false_iff_ne.mpr c9
          have c9b1 : (t120 != t123) = true := bne_iff_ne.mpr c9
          obtain rfl := Option.some.inj H
          go_wp2_with (first | (go_at_call 11; (with_reducible refine (moraineref01_Word.calls k 1 0 0 a0 0 t123 _ A8.out).mono ?_); rintro e w11 ⟨rfl, hb⟩; have n0_ := Aside0.mk (below_step (by repeat (first | (with_reducible first | exact HB.out | apply below_alloc | apply pw_below_drewN | apply below_drew1) | exact HB.out)) hb); clear HB; have HB := n0_; clear n0_; (try clear hb); (try clear hb2); (try clear hk); (try clear hi)))
          go_ret
          exact ⟨by first | rfl | (simp [errW_none, errW_some] <;> rfl) | (simp [*, errW_none, errW_some] <;> rfl), by repeat (first | (with_reducible first | exact HB.out | apply below_alloc | apply pw_below_drewN | apply below_drew1) | exact HB.out)⟩
      · rw [if_neg c7] at H
        have c7b0 : (t121 == 0) = false := beq_eq_false_iff_ne.mpr c7
        have c7b1 : (t121 != 0) = true := bne_iff_ne.mpr c7
        (first | rw [c7b0] | (simp only [i64_w, i32_w]; rw [c7b0]) | skip)
        obtain rfl := Option.some.inj H
        go_wp2
        go_ret
        exact ⟨by first | rfl | (simp [errW_none, errW_some] <;> rfl) | (simp [*, errW_none, errW_some] <;> rfl), by repeat (first | (with_reducible first | exact HB.out | apply below_alloc | apply pw_below_drewN | apply below_drew1) | exact HB.out)⟩
    · replace c6 := Bool.eq_false_iff.mpr c6
      subst c6
      have H1 : (if t121 = 4 then (if t120 = 0 then (morainelaw01_WordFixes.j0 k a1) else (some false)) else (some false)) = some r := by rw [if_neg (show ¬ (false = true) by decide)] at H; exact H
      clear H
      have H := H1
      clear H1
      by_cases c12 : t121 = 4
      · rw [if_pos c12] at H
        have c12b0 : (t121 == 4) = true := beq_iff_eq.mpr c12
        have c12b1 : (t121 != 4) = false := bne_eq_false_iff_eq.mpr c12
        clear c12
        by_cases c13 : t120 = 0
        · rw [if_pos c13] at H
          have c13b0 : (t120 == 0) = true := beq_iff_eq.mpr c13
          have c13b1 : (t120 != 0) = false := bne_eq_false_iff_eq.mpr c13
          clear c13
          have H' := Aside0.mk H
          clear H
          go_wp2
          go_meet
          case rel => exact ⟨_, H', ⟨by first | omega | exact Nat.le_refl _⟩, ⟨by repeat (first | (with_reducible first | exact HB.out | apply below_alloc | apply pw_below_drewN | apply below_drew1) | exact HB.out)⟩⟩
        · rw [if_neg c13] at H
          have c13b0 : (t120 == 0) = false := beq_eq_false_iff_ne.mpr c13
          have c13b1 : (t120 != 0) = true := bne_iff_ne.mpr c13
          obtain rfl := Option.some.inj H
          go_wp2
          go_ret
          exact ⟨by first | rfl | (simp [errW_none, errW_some] <;> rfl) | (simp [*, errW_none, errW_some] <;> rfl), by repeat (first | (with_reducible first | exact HB.out | apply below_alloc | apply pw_below_drewN | apply below_drew1) | exact HB.out)⟩
      · rw [if_neg c12] at H
        have c12b0 : (t121 == 4) = false := beq_eq_false_iff_ne.mpr c12
        have c12b1 : (t121 != 4) = true := bne_iff_ne.mpr c12
        obtain rfl := Option.some.inj H
        go_wp2
        go_ret
        exact ⟨by first | rfl | (simp [errW_none, errW_some] <;> rfl) | (simp [*, errW_none, errW_some] <;> rfl), by repeat (first | (with_reducible first | exact HB.out | apply below_alloc | apply pw_below_drewN | apply below_drew1) | exact HB.out)⟩
  case rest =>
    clear HC5
    try clear c1
    try clear p2
    try clear c3
    try clear c6
    try clear c7
    try clear c7b0
    try clear c7b1
    try clear c9
    try clear c9b0
    try clear c9b1
    try clear c10
    try clear c12
    try clear c12b0
    try clear c12b1
    try clear c13
    try clear c13b0
    try clear c13b1
    obtain ⟨kq, HA, HJ4, HB⟩ := hcut
    cases kq with
    | zero => exact absurd HA.out (by simp [morainelaw01_WordFixes.j0])
    | succ kj4 =>
      have H := HA.out
      clear HA
      simp only [morainelaw01_WordFixes.j0] at H
      replace H := Option.bind_eq_some_iff.mp H
      obtain ⟨⟨t124, t125⟩, A140, H⟩ := H
      replace H : ((moraineref01_Letter.f a1).bind fun t126 => (if t126 = true then (if t125 = 0 then ((moraineref01_Word.f kj4 4 0 (wrap64 (a1)) 0 0).bind fun t127 => (if t124 = t127 then ((morainelaw01_awake.f).bind fun t128 => (some t128)) else (some false))) else (some false)) else (if t125 = 4 then (if t124 = 0 then ((morainelaw01_awake.f).bind fun t129 => (some t129)) else (some false)) else (some false)))) = some r := H
      have A14 := Aside0.mk A140
      clear A140
      replace H := Option.bind_eq_some_iff.mp H
      obtain ⟨t126, A150, H⟩ := H
      replace H : (if t126 = true then (if t125 = 0 then ((moraineref01_Word.f kj4 4 0 (wrap64 (a1)) 0 0).bind fun t127 => (if t124 = t127 then ((morainelaw01_awake.f).bind fun t128 => (some t128)) else (some false))) else (some false)) else (if t125 = 4 then (if t124 = 0 then ((morainelaw01_awake.f).bind fun t129 => (some t129)) else (some false)) else (some false))) = some r := H
      have A15 := Aside0.mk A150
      clear A150
      by_cases c16 : t126 = true
      · subst c16
        have H1 : (if t125 = 0 then ((moraineref01_Word.f kj4 4 0 (wrap64 (a1)) 0 0).bind fun t127 => (if t124 = t127 then ((morainelaw01_awake.f).bind fun t128 => (some t128)) else (some false))) else (some false)) = some r := by rw [if_pos rfl] at H; exact H
        clear H
        have H := H1
        clear H1
        by_cases c17 : t125 = 0
        · rw [if_pos c17] at H
          have c17b0 : (t125 == 0) = true := beq_iff_eq.mpr c17
          have c17b1 : (t125 != 0) = false := bne_eq_false_iff_eq.mpr c17
          clear c17
          replace H := Option.bind_eq_some_iff.mp H
          obtain ⟨t127, A180, H⟩ := H
          replace H : (if t124 = t127 then ((morainelaw01_awake.f).bind fun t128 => (some t128)) else (some false)) = some r := H
          have A18 := Aside0.mk A180
          clear A180
          by_cases c19 : t124 = t127
          · rw [if_pos c19] at H
            have c19b0 : (t124 == t127) = true := beq_iff_eq.mpr c19
            have c19b1 : (t124 != t127) = false := bne_eq_false_iff_eq.mpr c19
            clear c19
            replace H := Option.bind_eq_some_iff.mp H
            obtain ⟨t128, A200, H⟩ := H
            replace H : (some t128) = some r := H
            have A20 := Aside0.mk A200
            clear A200
            obtain rfl := Option.some.inj H
            go_wp2_with (first | ((with_reducible refine gate_callee (f := 12) rfl ?_); refine goesL_ (some 32) rfl rfl Try.func12 (by kernel_rfl) rfl #[.int .i32 a1] rfl (by (try simp only [List.map_toArray, List.map_cons, List.map_nil]); first | done | rfl | (simp only [List.length_drop, List.length_take]; rfl)) ?_; (with_reducible refine (word_Char.calls a1 t124 t125 _ A14.out).mono ?_); rintro e w' ⟨rfl, ⟨nd, rfl⟩⟩; refine ⟨_, rfl, ?_⟩) | ((with_reducible refine gate_callee (f := 13) rfl ?_); refine goesL_ (some 36) rfl rfl Try.func13 (by kernel_rfl) rfl #[.int .i32 a1] rfl (by (try simp only [List.map_toArray, List.map_cons, List.map_nil]); first | done | rfl | (simp only [List.length_drop, List.length_take]; rfl)) ?_; (with_reducible refine (moraineref01_Letter.calls a1 true _ A15.out).mono ?_); rintro e w' ⟨rfl, ⟨nd, rfl⟩⟩; refine ⟨_, rfl, ?_⟩) | (go_at_call 11; (with_reducible refine (moraineref01_Word.calls kj4 4 0 (wrap64 (a1)) 0 0 t127 _ A18.out).mono ?_); rintro e w21 ⟨rfl, hb⟩; have n0_ := Aside0.mk (below_step (by repeat (first | (with_reducible first | exact HB.out | apply below_alloc | apply pw_below_drewN | apply below_drew1) | exact HB.out)) hb); clear HB; have HB := n0_; clear n0_; (try clear hb); (try clear hb2); (try clear hk); (try clear hi)) | (go_at_call 14; (with_reducible refine (morainelaw01_awake.calls  t128 _ A20.out).mono ?_); rintro e w' ⟨rfl, ⟨nd, rfl⟩⟩))
            go_ret
            exact ⟨by first | rfl | (simp [errW_none, errW_some] <;> rfl) | (simp [*, errW_none, errW_some] <;> rfl), by repeat (first | (with_reducible first | exact HB.out | apply below_alloc | apply pw_below_drewN | apply below_drew1) | exact HB.out)⟩
          · rw [if_neg c19] at H
            have c19b0 : (t124 == t127) = false := beq_eq_false_iff_ne.mpr c19
            have c19b1 : (t124 != t127) = true := bne_iff_ne.mpr c19
            obtain rfl := Option.some.inj H
            go_wp2_with (first | ((with_reducible refine gate_callee (f := 12) rfl ?_); refine goesL_ (some 32) rfl rfl Try.func12 (by kernel_rfl) rfl #[.int .i32 a1] rfl (by (try simp only [List.map_toArray, List.map_cons, List.map_nil]); first | done | rfl | (simp only [List.length_drop, List.length_take]; rfl)) ?_; (with_reducible refine (word_Char.calls a1 t124 t125 _ A14.out).mono ?_); rintro e w' ⟨rfl, ⟨nd, rfl⟩⟩; refine ⟨_, rfl, ?_⟩) | ((with_reducible refine gate_callee (f := 13) rfl ?_); refine goesL_ (some 36) rfl rfl Try.func13 (by kernel_rfl) rfl #[.int .i32 a1] rfl (by (try simp only [List.map_toArray, List.map_cons, List.map_nil]); first | done | rfl | (simp only [List.length_drop, List.length_take]; rfl)) ?_; (with_reducible refine (moraineref01_Letter.calls a1 true _ A15.out).mono ?_); rintro e w' ⟨rfl, ⟨nd, rfl⟩⟩; refine ⟨_, rfl, ?_⟩) | (go_at_call 11; (with_reducible refine (moraineref01_Word.calls kj4 4 0 (wrap64 (a1)) 0 0 t127 _ A18.out).mono ?_); rintro e w22 ⟨rfl, hb⟩; have n0_ := Aside0.mk (below_step (by repeat (first | (with_reducible first | exact HB.out | apply below_alloc | apply pw_below_drewN | apply below_drew1) | exact HB.out)) hb); clear HB; have HB := n0_; clear n0_; (try clear hb); (try clear hb2); (try clear hk); (try clear hi)))
            go_ret
            exact ⟨by first | rfl | (simp [errW_none, errW_some] <;> rfl) | (simp [*, errW_none, errW_some] <;> rfl), by repeat (first | (with_reducible first | exact HB.out | apply below_alloc | apply pw_below_drewN | apply below_drew1) | exact HB.out)⟩
        · rw [if_neg c17] at H
          have c17b0 : (t125 == 0) = false := beq_eq_false_iff_ne.mpr c17
          have c17b1 : (t125 != 0) = true := bne_iff_ne.mpr c17
          obtain rfl := Option.some.inj H
          go_wp2_with (first | ((with_reducible refine gate_callee (f := 12) rfl ?_); refine goesL_ (some 32) rfl rfl Try.func12 (by kernel_rfl) rfl #[.int .i32 a1] rfl (by (try simp only [List.map_toArray, List.map_cons, List.map_nil]); first | done | rfl | (simp only [List.length_drop, List.length_take]; rfl)) ?_; (with_reducible refine (word_Char.calls a1 t124 t125 _ A14.out).mono ?_); rintro e w' ⟨rfl, ⟨nd, rfl⟩⟩; refine ⟨_, rfl, ?_⟩) | ((with_reducible refine gate_callee (f := 13) rfl ?_); refine goesL_ (some 36) rfl rfl Try.func13 (by kernel_rfl) rfl #[.int .i32 a1] rfl (by (try simp only [List.map_toArray, List.map_cons, List.map_nil]); first | done | rfl | (simp only [List.length_drop, List.length_take]; rfl)) ?_; (with_reducible refine (moraineref01_Letter.calls a1 true _ A15.out).mono ?_); rintro e w' ⟨rfl, ⟨nd, rfl⟩⟩; refine ⟨_, rfl, ?_⟩))
          go_ret
          exact ⟨by first | rfl | (simp [errW_none, errW_some] <;> rfl) | (simp [*, errW_none, errW_some] <;> rfl), by repeat (first | (with_reducible first | exact HB.out | apply below_alloc | apply pw_below_drewN | apply below_drew1) | exact HB.out)⟩
      · replace c16 := Bool.eq_false_iff.mpr c16
        subst c16
        have H1 : (if t125 = 4 then (if t124 = 0 then ((morainelaw01_awake.f).bind fun t129 => (some t129)) else (some false)) else (some false)) = some r := by rw [if_neg (show ¬ (false = true) by decide)] at H; exact H
        clear H
        have H := H1
        clear H1
        by_cases c23 : t125 = 4
        · rw [if_pos c23] at H
          have c23b0 : (t125 == 4) = true := beq_iff_eq.mpr c23
          have c23b1 : (t125 != 4) = false := bne_eq_false_iff_eq.mpr c23
          clear c23
          by_cases c24 : t124 = 0
          · rw [if_pos c24] at H
            have c24b0 : (t124 == 0) = true := beq_iff_eq.mpr c24
            have c24b1 : (t124 != 0) = false := bne_eq_false_iff_eq.mpr c24
            clear c24
            replace H := Option.bind_eq_some_iff.mp H
            obtain ⟨t129, A250, H⟩ := H
            replace H : (some t129) = some r := H
            have A25 := Aside0.mk A250
            clear A250
            obtain rfl := Option.some.inj H
            go_wp2_with (first | ((with_reducible refine gate_callee (f := 12) rfl ?_); refine goesL_ (some 32) rfl rfl Try.func12 (by kernel_rfl) rfl #[.int .i32 a1] rfl (by (try simp only [List.map_toArray, List.map_cons, List.map_nil]); first | done | rfl | (simp only [List.length_drop, List.length_take]; rfl)) ?_; (with_reducible refine (word_Char.calls a1 t124 t125 _ A14.out).mono ?_); rintro e w' ⟨rfl, ⟨nd, rfl⟩⟩; refine ⟨_, rfl, ?_⟩) | ((with_reducible refine gate_callee (f := 13) rfl ?_); refine goesL_ (some 36) rfl rfl Try.func13 (by kernel_rfl) rfl #[.int .i32 a1] rfl (by (try simp only [List.map_toArray, List.map_cons, List.map_nil]); first | done | rfl | (simp only [List.length_drop, List.length_take]; rfl)) ?_; (with_reducible refine (moraineref01_Letter.calls a1 false _ A15.out).mono ?_); rintro e w' ⟨rfl, ⟨nd, rfl⟩⟩; refine ⟨_, rfl, ?_⟩) | (go_at_call 14; (with_reducible refine (morainelaw01_awake.calls  t129 _ A25.out).mono ?_); rintro e w' ⟨rfl, ⟨nd, rfl⟩⟩))
            go_ret
            exact ⟨by first | rfl | (simp [errW_none, errW_some] <;> rfl) | (simp [*, errW_none, errW_some] <;> rfl), by repeat (first | (with_reducible first | exact HB.out | apply below_alloc | apply pw_below_drewN | apply below_drew1) | exact HB.out)⟩
          · rw [if_neg c24] at H
            have c24b0 : (t124 == 0) = false := beq_eq_false_iff_ne.mpr c24
            have c24b1 : (t124 != 0) = true := bne_iff_ne.mpr c24
            obtain rfl := Option.some.inj H
            go_wp2_with (first | ((with_reducible refine gate_callee (f := 12) rfl ?_); refine goesL_ (some 32) rfl rfl Try.func12 (by kernel_rfl) rfl #[.int .i32 a1] rfl (by (try simp only [List.map_toArray, List.map_cons, List.map_nil]); first | done | rfl | (simp only [List.length_drop, List.length_take]; rfl)) ?_; (with_reducible refine (word_Char.calls a1 t124 t125 _ A14.out).mono ?_); rintro e w' ⟨rfl, ⟨nd, rfl⟩⟩; refine ⟨_, rfl, ?_⟩) | ((with_reducible refine gate_callee (f := 13) rfl ?_); refine goesL_ (some 36) rfl rfl Try.func13 (by kernel_rfl) rfl #[.int .i32 a1] rfl (by (try simp only [List.map_toArray, List.map_cons, List.map_nil]); first | done | rfl | (simp only [List.length_drop, List.length_take]; rfl)) ?_; (with_reducible refine (moraineref01_Letter.calls a1 false _ A15.out).mono ?_); rintro e w' ⟨rfl, ⟨nd, rfl⟩⟩; refine ⟨_, rfl, ?_⟩))
            go_ret
            exact ⟨by first | rfl | (simp [errW_none, errW_some] <;> rfl) | (simp [*, errW_none, errW_some] <;> rfl), by repeat (first | (with_reducible first | exact HB.out | apply below_alloc | apply pw_below_drewN | apply below_drew1) | exact HB.out)⟩
        · rw [if_neg c23] at H
          have c23b0 : (t125 == 4) = false := beq_eq_false_iff_ne.mpr c23
          have c23b1 : (t125 != 4) = true := bne_iff_ne.mpr c23
          obtain rfl := Option.some.inj H
          go_wp2_with (first | ((with_reducible refine gate_callee (f := 12) rfl ?_); refine goesL_ (some 32) rfl rfl Try.func12 (by kernel_rfl) rfl #[.int .i32 a1] rfl (by (try simp only [List.map_toArray, List.map_cons, List.map_nil]); first | done | rfl | (simp only [List.length_drop, List.length_take]; rfl)) ?_; (with_reducible refine (word_Char.calls a1 t124 t125 _ A14.out).mono ?_); rintro e w' ⟨rfl, ⟨nd, rfl⟩⟩; refine ⟨_, rfl, ?_⟩) | ((with_reducible refine gate_callee (f := 13) rfl ?_); refine goesL_ (some 36) rfl rfl Try.func13 (by kernel_rfl) rfl #[.int .i32 a1] rfl (by (try simp only [List.map_toArray, List.map_cons, List.map_nil]); first | done | rfl | (simp only [List.length_drop, List.length_take]; rfl)) ?_; (with_reducible refine (moraineref01_Letter.calls a1 false _ A15.out).mono ?_); rintro e w' ⟨rfl, ⟨nd, rfl⟩⟩; refine ⟨_, rfl, ?_⟩))
          go_ret
          exact ⟨by first | rfl | (simp [errW_none, errW_some] <;> rfl) | (simp [*, errW_none, errW_some] <;> rfl), by repeat (first | (with_reducible first | exact HB.out | apply below_alloc | apply pw_below_drewN | apply below_drew1) | exact HB.out)⟩

/-- THE ONE PURE STATEMENT of morainelaw01_WordFixes: yours. -/
def morainelaw01_WordFixes.Pure : Prop := ∀ (a0 : Int) (a1 : Int), (Lit.int .i64 a0).wf = true → (Lit.int .i32 a1).wf = true → ∃ k, morainelaw01_WordFixes.f k a0 a1 = some true
theorem morainelaw01_WordFixes.walk (P : morainelaw01_WordFixes.Pure) (a0 : Int) (a1 : Int) (w : World) (w0 : (Lit.int .i64 a0).wf = true) (w1 : (Lit.int .i32 a1).wf = true) :
    Calls Try.prog 3 #[.int .i64 a0, .int .i32 a1] w fun e w' => e = .returned (.bool true) ∧ Below w.heap.size w w' := by
  obtain ⟨k, h⟩ := P a0 a1 w0 w1
  refine (morainelaw01_WordFixes.calls k a0 a1 true w h).mono ?_
  rintro e w' ⟨rfl, hd⟩
  exact ⟨rfl, hd⟩

end Go.Proofs.Ytijhamhgdnhmgaa.PWordFixes
