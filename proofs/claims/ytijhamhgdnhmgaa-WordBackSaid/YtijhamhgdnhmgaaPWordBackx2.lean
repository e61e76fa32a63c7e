-- Printed by a program of this session's (wip/tools/printx.py, over the kit's print program).
import Derived.Test.YtijhamhgdnhmgaaPWordBackx0
import Derived.Test.YtijhamhgdnhmgaaPWordBackx1
namespace Go.Proofs.Ytijhamhgdnhmgaa.PWordBack
open Go.RowKit Go.Proofs.YtijhamhgdnhmgaaW.PrintWords Go.Proofs.YtijhamhgdnhmgaaW.PrintLast Go.Proofs.YtijhamhgdnhmgaaW.PrintMore
attribute [local go_sem] max2_int min2_int max_two min_two max_three min_three max_four min_four   -- for this text's walks alone
set_option linter.unusedVariables false
set_option linter.unusedSimpArgs false

/-! ### word_Head: function 23 -/
def word_Head.f (a0 : Int) : Option (Int × Int × Int × Bool) := (word_Tag.f a0).bind fun t129 => (if t129 = 5 then ((word_May.f a0).bind fun t130 => (if t130 = true then ((word_parts.f a0).bind fun bt131 => (some (bt131.1, bt131.2.1, bt131.2.2, true))) else (some (0, 0, 0, false)))) else (some (0, 0, 0, false)))
set_option maxHeartbeats 8000000 in
set_option maxRecDepth 100000 in
theorem word_Head.calls (a0 : Int) (r1 : Int) (r2 : Int) (r3 : Int) (r4 : Bool) (w : World) (h : word_Head.f a0 = some (r1, r2, r3, r4)) :
    Calls Try.prog 23 #[.int .u64 a0] w fun e w' => e = .returned (.tuple #[.int .i64 r1, .int .i64 r2, .int .u64 r3, .bool r4]) ∧ Below w.heap.size w w' := by
  have HB := Aside0.mk (Below.refl w.heap.size w)
  have H : ((word_Tag.f a0).bind fun t129 => (if t129 = 5 then ((word_May.f a0).bind fun t130 => (if t130 = true then ((word_parts.f a0).bind fun bt131 => (some (bt131.1, bt131.2.1, bt131.2.2, true))) else (some (0, 0, 0, false)))) else (some (0, 0, 0, false)))) = some (r1, r2, r3, r4) := h
  clear h
  replace H := Option.bind_eq_some_iff.mp H
  obtain ⟨t129, A20, H⟩ := H
  replace H : (if t129 = 5 then ((word_May.f a0).bind fun t130 => (if t130 = true then ((word_parts.f a0).bind fun bt131 => (some (bt131.1, bt131.2.1, bt131.2.2, true))) else (some (0, 0, 0, false)))) else (some (0, 0, 0, false))) = some (r1, r2, r3, r4) := H
  have A2 := Aside0.mk A20
  clear A20
  by_cases c3 : t129 = 5
  · rw [if_pos c3] at H
    have c3b0 : (t129 == 5) = true := beq_iff_eq.mpr c3
    have c3b1 : (t129 != 5) = false := bne_eq_false_iff_eq.mpr c3
    clear c3
    replace H := Option.bind_eq_some_iff.mp H
    obtain ⟨t130, A40, H⟩ := H
    replace H : (if t130 = true then ((word_parts.f a0).bind fun bt131 => (some (bt131.1, bt131.2.1, bt131.2.2, true))) else (some (0, 0, 0, false))) = some (r1, r2, r3, r4) := H
    have A4 := Aside0.mk A40
    clear A40
    by_cases c5 : t130 = true
    · subst c5
      have H1 : ((word_parts.f a0).bind fun bt131 => (some (bt131.1, bt131.2.1, bt131.2.2, true))) = some (r1, r2, r3, r4) := by rw [if_pos rfl] at H; exact H
      clear H
      have H := H1
      clear H1
      replace H := Option.bind_eq_some_iff.mp H
      obtain ⟨⟨t131, t132, t133⟩, A60, H⟩ := H
      replace H : (some (t131, t132, t133, true)) = some (r1, r2, r3, r4) := H
      have A6 := Aside0.mk A60
      clear A60
      simp only [Option.some.injEq, Prod.mk.injEq] at H
      obtain ⟨rfl, rfl, rfl, rfl⟩ := H
      go_enter Try.func23, Try.ntmps23
      go_wp2_with (first | ((with_reducible refine gate_callee (f := 24) rfl ?_); refine goesL_ (some 7) rfl rfl Try.func24 (by kernel_rfl) rfl #[.int .u64 a0] rfl (by (try simp only [List.map_toArray, List.map_cons, List.map_nil]); first | done | rfl | (simp only [List.length_drop, List.length_take]; rfl)) ?_; (with_reducible refine (word_Tag.calls a0 t129 _ A2.out).mono ?_); rintro e w' ⟨rfl, ⟨nd, rfl⟩⟩; refine ⟨_, rfl, ?_⟩) | (go_at_call 18; (with_reducible refine (word_May.calls a0 true _ A4.out).mono ?_); rintro e w7 ⟨rfl, hb⟩; have n0_ := Aside0.mk (below_step (by repeat (first | (with_reducible first | exact HB.out | apply below_alloc | apply pw_below_drewN | apply below_drew1) | exact HB.out)) hb); clear HB; have HB := n0_; clear n0_; (try clear hb); (try clear hb2); (try clear hk); (try clear hi)) | ((with_reducible refine gate_callee (f := 29) rfl ?_); refine goesL_ (some 16) rfl rfl Try.func29 (by kernel_rfl) rfl #[.int .u64 a0] rfl (by (try simp only [List.map_toArray, List.map_cons, List.map_nil]); first | done | rfl | (simp only [List.length_drop, List.length_take]; rfl)) ?_; (with_reducible refine (word_parts.calls a0 t131 t132 t133 _ A6.out).mono ?_); rintro e w8 ⟨rfl, hb⟩; refine ⟨_, rfl, ?_⟩; have n0_ := Aside0.mk (below_step (by repeat (first | (with_reducible first | exact HB.out | apply below_alloc | apply pw_below_drewN | apply below_drew1) | exact HB.out)) hb); clear HB; have HB := n0_; clear n0_; (try clear hb); (try clear hb2); (try clear hk); (try clear hi)))
      refine bodyPost_ret (results_list (rs := [.tmp 2, .tmp 3, .tmp 4, .tmp 5]) rfl (by simp) (.tmp (.tmp (.tmp (.tmp .nil))))) rfl ?_
      exact ⟨by first | rfl | (simp [errW_none, errW_some] <;> rfl) | (simp [*, errW_none, errW_some] <;> rfl), by repeat (first | (with_reducible first | exact HB.out | apply below_alloc | apply pw_below_drewN | apply below_drew1) | exact HB.out)⟩
    · replace c5 := Bool.eq_false_iff.mpr c5
      subst c5
      have H1 : (some (0, 0, 0, false)) = some (r1, r2, r3, r4) := by rw [if_neg (show ¬ (false = true) by decide)] at H; exact H
      clear H
      have H := H1
      clear H1
      simp only [Option.some.injEq, Prod.mk.injEq] at H
      obtain ⟨rfl, rfl, rfl, rfl⟩ := H
      go_enter Try.func23, Try.ntmps23
      go_wp2_with (first | ((with_reducible refine gate_callee (f := 24) rfl ?_); refine goesL_ (some 7) rfl rfl Try.func24 (by kernel_rfl) rfl #[.int .u64 a0] rfl (by (try simp only [List.map_toArray, List.map_cons, List.map_nil]); first | done | rfl | (simp only [List.length_drop, List.length_take]; rfl)) ?_; (with_reducible refine (word_Tag.calls a0 t129 _ A2.out).mono ?_); rintro e w' ⟨rfl, ⟨nd, rfl⟩⟩; refine ⟨_, rfl, ?_⟩) | (go_at_call 18; (with_reducible refine (word_May.calls a0 false _ A4.out).mono ?_); rintro e w9 ⟨rfl, hb⟩; have n0_ := Aside0.mk (below_step (by repeat (first | (with_reducible first | exact HB.out | apply below_alloc | apply pw_below_drewN | apply below_drew1) | exact HB.out)) hb); clear HB; have HB := n0_; clear n0_; (try clear hb); (try clear hb2); (try clear hk); (try clear hi)))
      refine bodyPost_ret (results_list (rs := [.tmp 2, .tmp 3, .tmp 4, .tmp 5]) rfl (by simp) (.tmp (.tmp (.tmp (.tmp .nil))))) rfl ?_
      exact ⟨by first | rfl | (simp [errW_none, errW_some] <;> rfl) | (simp [*, errW_none, errW_some] <;> rfl), by repeat (first | (with_reducible first | exact HB.out | apply below_alloc | apply pw_below_drewN | apply below_drew1) | exact HB.out)⟩
  · rw [if_neg c3] at H
    have c3b0 : (t129 == 5) = false := beq_eq_false_iff_ne.mpr c3
    have c3b1 : (t129 != 5) = true := bne_iff_ne.mpr c3
    simp only [Option.some.injEq, Prod.mk.injEq] at H
    obtain ⟨rfl, rfl, rfl, rfl⟩ := H
    go_enter Try.func23, Try.ntmps23
    go_wp2_with (first | ((with_reducible refine gate_callee (f := 24) rfl ?_); refine goesL_ (some 7) rfl rfl Try.func24 (by kernel_rfl) rfl #[.int .u64 a0] rfl (by (try simp only [List.map_toArray, List.map_cons, List.map_nil]); first | done | rfl | (simp only [List.length_drop, List.length_take]; rfl)) ?_; (with_reducible refine (word_Tag.calls a0 t129 _ A2.out).mono ?_); rintro e w' ⟨rfl, ⟨nd, rfl⟩⟩; refine ⟨_, rfl, ?_⟩))
    refine bodyPost_ret (results_list (rs := [.tmp 2, .tmp 3, .tmp 4, .tmp 5]) rfl (by simp) (.tmp (.tmp (.tmp (.tmp .nil))))) rfl ?_
    exact ⟨by first | rfl | (simp [errW_none, errW_some] <;> rfl) | (simp [*, errW_none, errW_some] <;> rfl), by repeat (first | (with_reducible first | exact HB.out | apply below_alloc | apply pw_below_drewN | apply below_drew1) | exact HB.out)⟩

/-! ### morainelaw01_WordBack: function 8 -/
mutual
def morainelaw01_WordBack.j0 : Nat → Int → Int → Bool → Int → Bool → Int → Bool → Int → Int → Int → Bool → Bool → Option (Bool)
  | 0, _, _, _, _, _, _, _, _, _, _, _, _ => none
  | k + 1, x0, x3, x4, x5, x6, x7, x8, x9, x10, x11, x12, x13 => morainelaw01_WordBack.l0 k x0 x3 x4 x5 x6 x7 x8 x9 x10 x11 x12 (([x4, x6, x8, x12, x13] : List Bool)) 0 0
def morainelaw01_WordBack.l0 : Nat → Int → Int → Bool → Int → Bool → Int → Bool → Int → Int → Int → Bool → List Bool → Int → Int → Option (Bool)
  | 0, _, _, _, _, _, _, _, _, _, _, _, _, _, _ => none
  | k + 1, x0, x3, x4, x5, x6, x7, x8, x9, x10, x11, x12, x14, x15, x16 => if x16 < (x14.length : Int) then (if 0 ≤ x16 then (if rdOf false x14 x16 = true then (morainelaw01_WordBack.l0 k x0 x3 x4 x5 x6 x7 x8 x9 x10 x11 x12 x14 (wrap64 (x15 + 1)) (wrap64 (x16 + 1))) else (morainelaw01_WordBack.l0 k x0 x3 x4 x5 x6 x7 x8 x9 x10 x11 x12 x14 x15 (wrap64 (x16 + 1)))) else (none)) else (if x15 > 1 then (morainelaw01_WordBack.j2 k x0 x3 x4 x5 x6 x7 x8 x9 x10 x11 x12 true) else ((word_May.f x0).bind fun t148 => (morainelaw01_WordBack.j2 k x0 x3 x4 x5 x6 x7 x8 x9 x10 x11 x12 (t148 != (x15 == 1)))))
def morainelaw01_WordBack.j2 : Nat → Int → Int → Bool → Int → Bool → Int → Bool → Int → Int → Int → Bool → Bool → Option (Bool)
  | 0, _, _, _, _, _, _, _, _, _, _, _, _ => none
  | k + 1, x0, x3, x4, x5, x6, x7, x8, x9, x10, x11, x12, x93 => if x93 = true then (some false) else (if x4 = true then ((word_Fix.f x3).bind fun bt149 => (if bt149.2 = 0 then (if bt149.1 = x0 then ((morainelaw01_awake.f).bind fun t151 => (some t151)) else (some false)) else (some false))) else (if x6 = true then ((word_Char.f x5).bind fun bt152 => (if bt152.2 = 0 then (if bt152.1 = x0 then ((morainelaw01_awake.f).bind fun t154 => (some t154)) else (some false)) else (some false))) else (if x8 = true then ((word_Tag.f x0).bind fun t155 => ((word_At.f t155 x7).bind fun bt156 => (if bt156.2 = 0 then (if bt156.1 = x0 then ((morainelaw01_awake.f).bind fun t158 => (some t158)) else (some false)) else (some false)))) else (if x12 = true then ((word_Header.f x9 x10 x11).bind fun bt159 => (if bt159.2 = 0 then (if bt159.1 = x0 then ((morainelaw01_awake.f).bind fun t161 => (some t161)) else (some false)) else (some false))) else ((morainelaw01_awake.f).bind fun t162 => (some t162))))))
end
def morainelaw01_WordBack.f (k : Nat) (a0 : Int) : Option (Bool) := (word_Int.f a0).bind fun bt134 => ((word_Rune.f a0).bind fun bt136 => ((word_Addr.f a0).bind fun bt138 => ((word_Head.f a0).bind fun bt140 => (if a0 = 4 then (morainelaw01_WordBack.j0 k a0 bt134.1 bt134.2 bt136.1 bt136.2 bt138.1 bt138.2 bt140.1 bt140.2.1 bt140.2.2.1 bt140.2.2.2 true) else (if a0 = 12 then (morainelaw01_WordBack.j0 k a0 bt134.1 bt134.2 bt136.1 bt136.2 bt138.1 bt138.2 bt140.1 bt140.2.1 bt140.2.2.1 bt140.2.2.2 true) else (if a0 = 20 then (morainelaw01_WordBack.j0 k a0 bt134.1 bt134.2 bt136.1 bt136.2 bt138.1 bt138.2 bt140.1 bt140.2.1 bt140.2.2.1 bt140.2.2.2 true) else (if a0 = 28 then (morainelaw01_WordBack.j0 k a0 bt134.1 bt134.2 bt136.1 bt136.2 bt138.1 bt138.2 bt140.1 bt140.2.1 bt140.2.2.1 bt140.2.2.2 true) else (if a0 = 36 then (morainelaw01_WordBack.j0 k a0 bt134.1 bt134.2 bt136.1 bt136.2 bt138.1 bt138.2 bt140.1 bt140.2.1 bt140.2.2.1 bt140.2.2.2 true) else (if a0 = 44 then (morainelaw01_WordBack.j0 k a0 bt134.1 bt134.2 bt136.1 bt136.2 bt138.1 bt138.2 bt140.1 bt140.2.1 bt140.2.2.1 bt140.2.2.2 true) else (morainelaw01_WordBack.j0 k a0 bt134.1 bt134.2 bt136.1 bt136.2 bt138.1 bt138.2 bt140.1 bt140.2.1 bt140.2.2.1 bt140.2.2.2 (a0 == 52)))))))))))
theorem morainelaw01_WordBack.mono_l : ∀ k, (∀ y0 y1 y2 y3 y4 y5 y6 y7 y8 y9 y10 y11, LeO (morainelaw01_WordBack.j0 k y0 y1 y2 y3 y4 y5 y6 y7 y8 y9 y10 y11) (morainelaw01_WordBack.j0 (k + 1) y0 y1 y2 y3 y4 y5 y6 y7 y8 y9 y10 y11)) ∧ (∀ y0 y1 y2 y3 y4 y5 y6 y7 y8 y9 y10 y11 y12 y13, LeO (morainelaw01_WordBack.l0 k y0 y1 y2 y3 y4 y5 y6 y7 y8 y9 y10 y11 y12 y13) (morainelaw01_WordBack.l0 (k + 1) y0 y1 y2 y3 y4 y5 y6 y7 y8 y9 y10 y11 y12 y13)) ∧ (∀ y0 y1 y2 y3 y4 y5 y6 y7 y8 y9 y10 y11, LeO (morainelaw01_WordBack.j2 k y0 y1 y2 y3 y4 y5 y6 y7 y8 y9 y10 y11) (morainelaw01_WordBack.j2 (k + 1) y0 y1 y2 y3 y4 y5 y6 y7 y8 y9 y10 y11))
  | 0 => ⟨fun _ _ _ _ _ _ _ _ _ _ _ _ r h => by simp [morainelaw01_WordBack.j0] at h, fun _ _ _ _ _ _ _ _ _ _ _ _ _ _ r h => by simp [morainelaw01_WordBack.l0] at h, fun _ _ _ _ _ _ _ _ _ _ _ _ r h => by simp [morainelaw01_WordBack.j2] at h⟩
  | k + 1 => by
    obtain ⟨ih0, ih1, ih2⟩ := morainelaw01_WordBack.mono_l k
    refine ⟨?_, ?_, ?_⟩
    · intro y0 y1 y2 y3 y4 y5 y6 y7 y8 y9 y10 y11
      unfold morainelaw01_WordBack.j0
      repeat' first
      | (with_reducible exact ih0 _ _ _ _ _ _ _ _ _ _ _ _)
      | (with_reducible exact ih1 _ _ _ _ _ _ _ _ _ _ _ _ _ _)
      | (with_reducible exact ih2 _ _ _ _ _ _ _ _ _ _ _ _)
      | (with_reducible exact LeO.refl _)
      | (with_reducible exact LeO.none _)
      | (with_reducible refine LeO.ite ?_ ?_)
      | (with_reducible refine LeO.bind ?_ (fun _ => ?_))
      | exact ih0 _ _ _ _ _ _ _ _ _ _ _ _
      | exact ih1 _ _ _ _ _ _ _ _ _ _ _ _ _ _
      | exact ih2 _ _ _ _ _ _ _ _ _ _ _ _
      | exact LeO.none _
      | refine LeO.ite ?_ ?_
      | refine LeO.bind ?_ (fun _ => ?_)
    · intro y0 y1 y2 y3 y4 y5 y6 y7 y8 y9 y10 y11 y12 y13
      unfold morainelaw01_WordBack.l0
      repeat' first
      | (with_reducible exact ih0 _ _ _ _ _ _ _ _ _ _ _ _)
      | (with_reducible exact ih1 _ _ _ _ _ _ _ _ _ _ _ _ _ _)
      | (with_reducible exact ih2 _ _ _ _ _ _ _ _ _ _ _ _)
      | (with_reducible exact LeO.refl _)
      | (with_reducible exact LeO.none _)
      | (with_reducible refine LeO.ite ?_ ?_)
      | (with_reducible refine LeO.bind ?_ (fun _ => ?_))
      | exact ih0 _ _ _ _ _ _ _ _ _ _ _ _
      | exact ih1 _ _ _ _ _ _ _ _ _ _ _ _ _ _
      | exact ih2 _ _ _ _ _ _ _ _ _ _ _ _
      | exact LeO.none _
      | refine LeO.ite ?_ ?_
      | refine LeO.bind ?_ (fun _ => ?_)
    · intro y0 y1 y2 y3 y4 y5 y6 y7 y8 y9 y10 y11
      unfold morainelaw01_WordBack.j2
      repeat' first
      | (with_reducible exact ih0 _ _ _ _ _ _ _ _ _ _ _ _)
      | (with_reducible exact ih1 _ _ _ _ _ _ _ _ _ _ _ _ _ _)
      | (with_reducible exact ih2 _ _ _ _ _ _ _ _ _ _ _ _)
      | (with_reducible exact LeO.refl _)
      | (with_reducible exact LeO.none _)
      | (with_reducible refine LeO.ite ?_ ?_)
      | (with_reducible refine LeO.bind ?_ (fun _ => ?_))
      | exact ih0 _ _ _ _ _ _ _ _ _ _ _ _
      | exact ih1 _ _ _ _ _ _ _ _ _ _ _ _ _ _
      | exact ih2 _ _ _ _ _ _ _ _ _ _ _ _
      | exact LeO.none _
      | refine LeO.ite ?_ ?_
      | refine LeO.bind ?_ (fun _ => ?_)
theorem morainelaw01_WordBack.mono : ∀ a0 k, LeO (morainelaw01_WordBack.f k a0) (morainelaw01_WordBack.f (k + 1) a0) := by
  intro a0 k
  obtain ⟨ih0, ih1, ih2⟩ := morainelaw01_WordBack.mono_l k
  unfold morainelaw01_WordBack.f
  repeat' first
      | (with_reducible exact ih0 _ _ _ _ _ _ _ _ _ _ _ _)
      | (with_reducible exact ih1 _ _ _ _ _ _ _ _ _ _ _ _ _ _)
      | (with_reducible exact ih2 _ _ _ _ _ _ _ _ _ _ _ _)
      | (with_reducible exact LeO.refl _)
      | (with_reducible exact LeO.none _)
      | (with_reducible refine LeO.ite ?_ ?_)
      | (with_reducible refine LeO.bind ?_ (fun _ => ?_))
      | exact ih0 _ _ _ _ _ _ _ _ _ _ _ _
      | exact ih1 _ _ _ _ _ _ _ _ _ _ _ _ _ _
      | exact ih2 _ _ _ _ _ _ _ _ _ _ _ _
      | exact LeO.none _
      | refine LeO.ite ?_ ?_
      | refine LeO.bind ?_ (fun _ => ?_)
set_option maxHeartbeats 8000000 in
set_option maxRecDepth 100000 in
theorem morainelaw01_WordBack.calls (k : Nat) (a0 : Int) (r : Bool) (w : World) (h : morainelaw01_WordBack.f k a0 = some r) :
    Calls Try.prog 8 #[.int .u64 a0] w fun e w' => e = .returned (.bool r) ∧ Below w.heap.size w w' := by
  have HB := Aside0.mk (Below.refl w.heap.size w)
  have H : ((word_Int.f a0).bind fun bt134 => ((word_Rune.f a0).bind fun bt136 => ((word_Addr.f a0).bind fun bt138 => ((word_Head.f a0).bind fun bt140 => (if a0 = 4 then (morainelaw01_WordBack.j0 k a0 bt134.1 bt134.2 bt136.1 bt136.2 bt138.1 bt138.2 bt140.1 bt140.2.1 bt140.2.2.1 bt140.2.2.2 true) else (if a0 = 12 then (morainelaw01_WordBack.j0 k a0 bt134.1 bt134.2 bt136.1 bt136.2 bt138.1 bt138.2 bt140.1 bt140.2.1 bt140.2.2.1 bt140.2.2.2 true) else (if a0 = 20 then (morainelaw01_WordBack.j0 k a0 bt134.1 bt134.2 bt136.1 bt136.2 bt138.1 bt138.2 bt140.1 bt140.2.1 bt140.2.2.1 bt140.2.2.2 true) else (if a0 = 28 then (morainelaw01_WordBack.j0 k a0 bt134.1 bt134.2 bt136.1 bt136.2 bt138.1 bt138.2 bt140.1 bt140.2.1 bt140.2.2.1 bt140.2.2.2 true) else (if a0 = 36 then (morainelaw01_WordBack.j0 k a0 bt134.1 bt134.2 bt136.1 bt136.2 bt138.1 bt138.2 bt140.1 bt140.2.1 bt140.2.2.1 bt140.2.2.2 true) else (if a0 = 44 then (morainelaw01_WordBack.j0 k a0 bt134.1 bt134.2 bt136.1 bt136.2 bt138.1 bt138.2 bt140.1 bt140.2.1 bt140.2.2.1 bt140.2.2.2 true) else (morainelaw01_WordBack.j0 k a0 bt134.1 bt134.2 bt136.1 bt136.2 bt138.1 bt138.2 bt140.1 bt140.2.1 bt140.2.2.1 bt140.2.2.2 (a0 == 52)))))))))))) = some r := h
  clear h
  replace H := Option.bind_eq_some_iff.mp H
  obtain ⟨⟨t134, t135⟩, A20, H⟩ := H
  replace H : ((word_Rune.f a0).bind fun bt136 => ((word_Addr.f a0).bind fun bt138 => ((word_Head.f a0).bind fun bt140 => (if a0 = 4 then (morainelaw01_WordBack.j0 k a0 t134 t135 bt136.1 bt136.2 bt138.1 bt138.2 bt140.1 bt140.2.1 bt140.2.2.1 bt140.2.2.2 true) else (if a0 = 12 then (morainelaw01_WordBack.j0 k a0 t134 t135 bt136.1 bt136.2 bt138.1 bt138.2 bt140.1 bt140.2.1 bt140.2.2.1 bt140.2.2.2 true) else (if a0 = 20 then (morainelaw01_WordBack.j0 k a0 t134 t135 bt136.1 bt136.2 bt138.1 bt138.2 bt140.1 bt140.2.1 bt140.2.2.1 bt140.2.2.2 true) else (if a0 = 28 then (morainelaw01_WordBack.j0 k a0 t134 t135 bt136.1 bt136.2 bt138.1 bt138.2 bt140.1 bt140.2.1 bt140.2.2.1 bt140.2.2.2 true) else (if a0 = 36 then (morainelaw01_WordBack.j0 k a0 t134 t135 bt136.1 bt136.2 bt138.1 bt138.2 bt140.1 bt140.2.1 bt140.2.2.1 bt140.2.2.2 true) else (if a0 = 44 then (morainelaw01_WordBack.j0 k a0 t134 t135 bt136.1 bt136.2 bt138.1 bt138.2 bt140.1 bt140.2.1 bt140.2.2.1 bt140.2.2.2 true) else (morainelaw01_WordBack.j0 k a0 t134 t135 bt136.1 bt136.2 bt138.1 bt138.2 bt140.1 bt140.2.1 bt140.2.2.1 bt140.2.2.2 (a0 == 52))))))))))) = some r := H
  have A2 := Aside0.mk A20
  clear A20
  replace H := Option.bind_eq_some_iff.mp H
  obtain ⟨⟨t136, t137⟩, A30, H⟩ := H
  replace H : ((word_Addr.f a0).bind fun bt138 => ((word_Head.f a0).bind fun bt140 => (if a0 = 4 then (morainelaw01_WordBack.j0 k a0 t134 t135 t136 t137 bt138.1 bt138.2 bt140.1 bt140.2.1 bt140.2.2.1 bt140.2.2.2 true) else (if a0 = 12 then (morainelaw01_WordBack.j0 k a0 t134 t135 t136 t137 bt138.1 bt138.2 bt140.1 bt140.2.1 bt140.2.2.1 bt140.2.2.2 true) else (if a0 = 20 then (morainelaw01_WordBack.j0 k a0 t134 t135 t136 t137 bt138.1 bt138.2 bt140.1 bt140.2.1 bt140.2.2.1 bt140.2.2.2 true) else (if a0 = 28 then (morainelaw01_WordBack.j0 k a0 t134 t135 t136 t137 bt138.1 bt138.2 bt140.1 bt140.2.1 bt140.2.2.1 bt140.2.2.2 true) else (if a0 = 36 then (morainelaw01_WordBack.j0 k a0 t134 t135 t136 t137 bt138.1 bt138.2 bt140.1 bt140.2.1 bt140.2.2.1 bt140.2.2.2 true) else (if a0 = 44 then (morainelaw01_WordBack.j0 k a0 t134 t135 t136 t137 bt138.1 bt138.2 bt140.1 bt140.2.1 bt140.2.2.1 bt140.2.2.2 true) else (morainelaw01_WordBack.j0 k a0 t134 t135 t136 t137 bt138.1 bt138.2 bt140.1 bt140.2.1 bt140.2.2.1 bt140.2.2.2 (a0 == 52)))))))))) = some r := H
  have A3 := Aside0.mk A30
  clear A30
  replace H := Option.bind_eq_some_iff.mp H
  obtain ⟨⟨t138, t139⟩, A40, H⟩ := H
  replace H : ((word_Head.f a0).bind fun bt140 => (if a0 = 4 then (morainelaw01_WordBack.j0 k a0 t134 t135 t136 t137 t138 t139 bt140.1 bt140.2.1 bt140.2.2.1 bt140.2.2.2 true) else (if a0 = 12 then (morainelaw01_WordBack.j0 k a0 t134 t135 t136 t137 t138 t139 bt140.1 bt140.2.1 bt140.2.2.1 bt140.2.2.2 true) else (if a0 = 20 then (morainelaw01_WordBack.j0 k a0 t134 t135 t136 t137 t138 t139 bt140.1 bt140.2.1 bt140.2.2.1 bt140.2.2.2 true) else (if a0 = 28 then (morainelaw01_WordBack.j0 k a0 t134 t135 t136 t137 t138 t139 bt140.1 bt140.2.1 bt140.2.2.1 bt140.2.2.2 true) else (if a0 = 36 then (morainelaw01_WordBack.j0 k a0 t134 t135 t136 t137 t138 t139 bt140.1 bt140.2.1 bt140.2.2.1 bt140.2.2.2 true) else (if a0 = 44 then (morainelaw01_WordBack.j0 k a0 t134 t135 t136 t137 t138 t139 bt140.1 bt140.2.1 bt140.2.2.1 bt140.2.2.2 true) else (morainelaw01_WordBack.j0 k a0 t134 t135 t136 t137 t138 t139 bt140.1 bt140.2.1 bt140.2.2.1 bt140.2.2.2 (a0 == 52))))))))) = some r := H
  have A4 := Aside0.mk A40
  clear A40
  replace H := Option.bind_eq_some_iff.mp H
  obtain ⟨⟨t140, t141, t142, t143⟩, A50, H⟩ := H
  replace H : (if a0 = 4 then (morainelaw01_WordBack.j0 k a0 t134 t135 t136 t137 t138 t139 t140 t141 t142 t143 true) else (if a0 = 12 then (morainelaw01_WordBack.j0 k a0 t134 t135 t136 t137 t138 t139 t140 t141 t142 t143 true) else (if a0 = 20 then (morainelaw01_WordBack.j0 k a0 t134 t135 t136 t137 t138 t139 t140 t141 t142 t143 true) else (if a0 = 28 then (morainelaw01_WordBack.j0 k a0 t134 t135 t136 t137 t138 t139 t140 t141 t142 t143 true) else (if a0 = 36 then (morainelaw01_WordBack.j0 k a0 t134 t135 t136 t137 t138 t139 t140 t141 t142 t143 true) else (if a0 = 44 then (morainelaw01_WordBack.j0 k a0 t134 t135 t136 t137 t138 t139 t140 t141 t142 t143 true) else (morainelaw01_WordBack.j0 k a0 t134 t135 t136 t137 t138 t139 t140 t141 t142 t143 (a0 == 52)))))))) = some r := H
  have A5 := Aside0.mk A50
  clear A50
  have HC6 := Aside0.mk H
  clear H
  go_enter Try.func8, Try.ntmps8
  go_upto_region 5 with (first | ((with_reducible refine gate_callee (f := 20) rfl ?_); refine goesL_ (some 21) rfl rfl Try.func20 (by kernel_rfl) rfl #[.int .u64 a0] rfl (by (try simp only [List.map_toArray, List.map_cons, List.map_nil]); first | done | rfl | (simp only [List.length_drop, List.length_take]; rfl)) ?_; (with_reducible refine (word_Int.calls a0 t134 t135 _ A2.out).mono ?_); rintro e w' ⟨rfl, ⟨nd, rfl⟩⟩; refine ⟨_, rfl, ?_⟩) | ((with_reducible refine gate_callee (f := 21) rfl ?_); refine goesL_ (some 26) rfl rfl Try.func21 (by kernel_rfl) rfl #[.int .u64 a0] rfl (by (try simp only [List.map_toArray, List.map_cons, List.map_nil]); first | done | rfl | (simp only [List.length_drop, List.length_take]; rfl)) ?_; (with_reducible refine (word_Rune.calls a0 t136 t137 _ A3.out).mono ?_); rintro e w7 ⟨rfl, hb⟩; refine ⟨_, rfl, ?_⟩; have n0_ := Aside0.mk (below_step (by repeat (first | (with_reducible first | exact HB.out | apply below_alloc | apply pw_below_drewN | apply below_drew1) | exact HB.out)) hb); clear HB; have HB := n0_; clear n0_; (try clear hb); (try clear hb2); (try clear hk); (try clear hi)) | ((with_reducible refine gate_callee (f := 22) rfl ?_); refine goesL_ (some 31) rfl rfl Try.func22 (by kernel_rfl) rfl #[.int .u64 a0] rfl (by (try simp only [List.map_toArray, List.map_cons, List.map_nil]); first | done | rfl | (simp only [List.length_drop, List.length_take]; rfl)) ?_; (with_reducible refine (word_Addr.calls a0 t138 t139 _ A4.out).mono ?_); rintro e w8 ⟨rfl, hb⟩; refine ⟨_, rfl, ?_⟩; have n0_ := Aside0.mk (below_step (by repeat (first | (with_reducible first | exact HB.out | apply below_alloc | apply pw_below_drewN | apply below_drew1) | exact HB.out)) hb); clear HB; have HB := n0_; clear n0_; (try clear hb); (try clear hb2); (try clear hk); (try clear hi)) | ((with_reducible refine gate_callee (f := 23) rfl ?_); refine goesL_ (some 36) rfl rfl Try.func23 (by kernel_rfl) rfl #[.int .u64 a0] rfl (by (try simp only [List.map_toArray, List.map_cons, List.map_nil]); first | done | rfl | (simp only [List.length_drop, List.length_take]; rfl)) ?_; (with_reducible refine (word_Head.calls a0 t140 t141 t142 t143 _ A5.out).mono ?_); rintro e w9 ⟨rfl, hb⟩; refine ⟨_, rfl, ?_⟩; have n0_ := Aside0.mk (below_step (by repeat (first | (with_reducible first | exact HB.out | apply below_alloc | apply pw_below_drewN | apply below_drew1) | exact HB.out)) hb); clear HB; have HB := n0_; clear n0_; (try clear hb); (try clear hb2); (try clear hk); (try clear hi)))
  (try simp only [Act.put, List.setIfInBounds_toArray, List.set_cons_zero, List.set_cons_succ])
  go_cut [13] (fun v13 wc => ∃ (kq : Nat) (x13_5 : Bool), v13 = .bool x13_5 ∧ Aside0 (morainelaw01_WordBack.j0 kq a0 t134 t135 t136 t137 t138 t139 t140 t141 t142 t143 x13_5 = some r) ∧ Aside0 (kq ≤ k) ∧ Aside0 (Below w.heap.size w wc))
  case first =>
    have H := HC6.out
    clear HC6
    by_cases c10 : a0 = 4
    · rw [if_pos c10] at H
      have c10b0 : (a0 == 4) = true := beq_iff_eq.mpr c10
      have c10b1 : (a0 != 4) = false := bne_eq_false_iff_eq.mpr c10
      clear c10
      (first | rw [c10b0] | (simp only [i64_w, i32_w]; rw [c10b0]) | skip)
      have H' := Aside0.mk H
      clear H
      go_wp2
      go_meet
      case rel => exact ⟨_, (true), (by first | rfl | (simp; done) | (simp [*]; done)), H', ⟨by first | omega | exact Nat.le_refl _⟩, ⟨by repeat (first | (with_reducible first | exact HB.out | apply below_alloc | apply pw_below_drewN | apply below_drew1) | exact HB.out)⟩⟩
    · rw [if_neg c10] at H
      have c10b0 : (a0 == 4) = false := beq_eq_false_iff_ne.mpr c10
      have c10b1 : (a0 != 4) = true := bne_iff_ne.mpr c10
      (first | rw [c10b0] | (simp only [i64_w, i32_w]; rw [c10b0]) | skip)
      by_cases c11 : a0 = 12
      · rw [if_pos c11] at H
        have c11b0 : (a0 == 12) = true := beq_iff_eq.mpr c11
        have c11b1 : (a0 != 12) = false := bne_eq_false_iff_eq.mpr c11
        clear c11
        have H' := Aside0.mk H
        clear H
        go_wp2
        go_meet
        case rel => exact ⟨_, (true), (by first | rfl | (simp; done) | (simp [*]; done)), H', ⟨by first | omega | exact Nat.le_refl _⟩, ⟨by repeat (first | (with_reducible first | exact HB.out | apply below_alloc | apply pw_below_drewN | apply below_drew1) | exact HB.out)⟩⟩
      · rw [if_neg c11] at H
        have c11b0 : (a0 == 12) = false := beq_eq_false_iff_ne.mpr c11
        have c11b1 : (a0 != 12) = true := bne_iff_ne.mpr c11
        by_cases c12 : a0 = 20
        · rw [if_pos c12] at H
          have c12b0 : (a0 == 20) = true := beq_iff_eq.mpr c12
          have c12b1 : (a0 != 20) = false := bne_eq_false_iff_eq.mpr c12
          clear c12
          have H' := Aside0.mk H
          clear H
          go_wp2
          go_meet
          case rel => exact ⟨_, (true), (by first | rfl | (simp; done) | (simp [*]; done)), H', ⟨by first | omega | exact Nat.le_refl _⟩, ⟨by repeat (first | (with_reducible first | exact HB.out | apply below_alloc | apply pw_below_drewN | apply below_drew1) | exact HB.out)⟩⟩
        · rw [if_neg c12] at H
          have c12b0 : (a0 == 20) = false := beq_eq_false_iff_ne.mpr c12
          have c12b1 : (a0 != 20) = true := bne_iff_ne.mpr c12
          by_cases c13 : a0 = 28
          · rw [if_pos c13] at H
            have c13b0 : (a0 == 28) = true := beq_iff_eq.mpr c13
            have c13b1 : (a0 != 28) = false := bne_eq_false_iff_eq.mpr c13
            clear c13
            have H' := Aside0.mk H
            clear H
            go_wp2
            go_meet
            case rel => exact ⟨_, (true), (by first | rfl | (simp; done) | (simp [*]; done)), H', ⟨by first | omega | exact Nat.le_refl _⟩, ⟨by repeat (first | (with_reducible first | exact HB.out | apply below_alloc | apply pw_below_drewN | apply below_drew1) | exact HB.out)⟩⟩
          · rw [if_neg c13] at H
            have c13b0 : (a0 == 28) = false := beq_eq_false_iff_ne.mpr c13
            have c13b1 : (a0 != 28) = true := bne_iff_ne.mpr c13
            by_cases c14 : a0 = 36
            · rw [if_pos c14] at H
              have c14b0 : (a0 == 36) = true := beq_iff_eq.mpr c14
              have c14b1 : (a0 != 36) = false := bne_eq_false_iff_eq.mpr c14
              clear c14
              have H' := Aside0.mk H
              clear H
              go_wp2
              go_meet
              case rel => exact ⟨_, (true), (by first | rfl | (simp; done) | (simp [*]; done)), H', ⟨by first | omega | exact Nat.le_refl _⟩, ⟨by repeat (first | (with_reducible first | exact HB.out | apply below_alloc | apply pw_below_drewN | apply below_drew1) | exact HB.out)⟩⟩
            · rw [if_neg c14] at H
              have c14b0 : (a0 == 36) = false := beq_eq_false_iff_ne.mpr c14
              have c14b1 : (a0 != 36) = true := bne_iff_ne.mpr c14
              by_cases c15 : a0 = 44
              · rw [if_pos c15] at H
                have c15b0 : (a0 == 44) = true := beq_iff_eq.mpr c15
                have c15b1 : (a0 != 44) = false := bne_eq_false_iff_eq.mpr c15
                clear c15
                have H' := Aside0.mk H
                clear H
                go_wp2
                go_meet
                case rel => exact ⟨_, (true), (by first | rfl | (simp; done) | (simp [*]; done)), H', ⟨by first | omega | exact Nat.le_refl _⟩, ⟨by repeat (first | (with_reducible first | exact HB.out | apply below_alloc | apply pw_below_drewN | apply below_drew1) | exact HB.out)⟩⟩
              · rw [if_neg c15] at H
                have c15b0 : (a0 == 44) = false := beq_eq_false_iff_ne.mpr c15
                have c15b1 : (a0 != 44) = true := bne_iff_ne.mpr c15
                have H' := Aside0.mk H
                clear H
                go_wp2
                go_meet
                case rel => exact ⟨_, ((a0 == 52)), (by first | rfl | (simp; done) | (simp [*]; done)), H', ⟨by first | omega | exact Nat.le_refl _⟩, ⟨by repeat (first | (with_reducible first | exact HB.out | apply below_alloc | apply pw_below_drewN | apply below_drew1) | exact HB.out)⟩⟩
  case rest =>
    clear HC6
    try clear c1
    try clear c2
    try clear p2
    try clear c8
    try clear c10
    try clear c10b0
    try clear c10b1
    try clear c11
    try clear c11b0
    try clear c11b1
    try clear c12
    try clear c12b0
    try clear c12b1
    try clear c13
    try clear c13b0
    try clear c13b1
    try clear c14
    try clear c14b0
    try clear c14b1
    try clear c15
    try clear c15b0
    try clear c15b1
    obtain ⟨kq, x13_5, rfl, HA, HJ5, HB⟩ := hcut
    cases kq with
    | zero => exact absurd HA.out (by simp [morainelaw01_WordBack.j0])
    | succ kj5 =>
      have H := HA.out
      clear HA
      simp only [morainelaw01_WordBack.j0] at H
      obtain ⟨y144, hy144⟩ : ∃ y_ : List Bool, y_ = (([t135, t137, t139, t143, x13_5] : List Bool)) := ⟨_, rfl⟩
      replace H : (morainelaw01_WordBack.l0 kj5 a0 t134 t135 t136 t137 t138 t139 t140 t141 t142 t143 y144 0 0) = some r := by first | (rw [hy144]; with_reducible exact H) | (have H2_ := (Option.bind_some _ _).symm.trans H; rw [hy144]; with_reducible exact H2_) | (have H2_ := (Option.bind_some _ _).symm.trans H; with_reducible exact H2_) | with_reducible exact H | (rw [hy144]; exact H) | exact H
      have Ny144 := Aside0.mk hy144
      clear hy144
      have H' := Aside0.mk H
      clear H
      go_wp2_with (first | ((with_reducible refine gate_dst (N := 72) rfl ?_); refine Kd.R_lit Kd.bool _ 4 ?hg (N := 72) ?hd (xs := ([t135, t137, t139, t143, x13_5] : List Bool)) (inner := [.bool t135, .bool t137, .bool t139, .bool t143, .bool x13_5]) (ok := fun _ => True) (okp := fun _ => True) ?hr ?hp (fun _ hk => hk) trivial (Below.refl _ _) (Nat.le_refl _) (by simp) ?_; (case hd => rfl); (case hg => rfl); (case hr => first | (go_simp; done) | (go_simp; rfl)); (case hp => exact (Reps.one (show Kd.M Kd.bool _ _ _ t135 [.bool t135] from rfl) (Reps.one (show Kd.M Kd.bool _ _ _ t137 [.bool t137] from rfl) (Reps.one (show Kd.M Kd.bool _ _ _ t139 [.bool t139] from rfl) (Reps.one (show Kd.M Kd.bool _ _ _ t143 [.bool t143] from rfl) (Reps.one (show Kd.M Kd.bool _ _ _ x13_5 [.bool x13_5] from rfl) (Reps.none _ _))))))); intro v145 w16 ho17 hb hg_ hnew_; clear hg_ hnew_; (first | rw [← Ny144.out] at ho17 | (simp only [Int.reduceToNat] at ho17; rw [← Ny144.out] at ho17)); have n0_ := Aside0.mk (Kd.R_lower ho17 (below_size (by repeat (first | (with_reducible first | exact HB.out | apply below_alloc | apply pw_below_drewN | apply below_drew1) | exact HB.out)))); have n1_ := Aside0.mk (below_step (by repeat (first | (with_reducible first | exact HB.out | apply below_alloc | apply pw_below_drewN | apply below_drew1) | exact HB.out)) hb); clear HB; have HO146 := n0_; have HB := n1_; clear n0_ n1_; clear hb ho17))
      go_loopg [15, 16] kj5 (fun kq v15 v16 w' => ∃ (x15_2 : Int) (x16_2 : Int), v15 = .int .i64 x15_2 ∧ v16 = .int .i64 x16_2 ∧ Aside0 (morainelaw01_WordBack.l0 kq a0 t134 t135 t136 t137 t138 t139 t140 t141 t142 t143 y144 x15_2 x16_2 = some r) ∧ Aside0 (kq ≤ kj5) ∧ Aside0 (Kd.R Kd.bool 4 w' w.heap.size (fun _ => True) v145 y144) ∧ Aside0 (Below w.heap.size w w'))
      case atStart => exact ⟨(0), (0), (by first | rfl | (simp; done) | (simp [*]; done)), (by first | rfl | (simp; done) | (simp [*]; done)), H', ⟨Nat.le_refl _⟩, ⟨by (with_reducible repeat (first | apply Kd.R_alloc | apply Kd.R_drewN | apply Kd.R_drew)); exact HO146.out⟩, ⟨by repeat (first | (with_reducible first | exact HB.out | apply below_alloc | apply pw_below_drewN | apply below_drew1) | exact HB.out)⟩⟩
      case round =>
        clear H'
        try clear c1
        try clear c2
        try clear p2
        try clear c8
        try clear c10
        try clear c10b0
        try clear c10b1
        try clear c11
        try clear c11b0
        try clear c11b1
        try clear c12
        try clear c12b0
        try clear c12b1
        try clear c13
        try clear c13b0
        try clear c13b1
        try clear c14
        try clear c14b0
        try clear c14b1
        try clear c15
        try clear c15b0
        try clear c15b1
        try clear p2
        obtain ⟨x15_2, x16_2, rfl, rfl, HA, HK2, HO_14, HB⟩ := hrel
        cases gk with
        | zero => exact absurd HA.out (by simp [morainelaw01_WordBack.l0])
        | succ k2 =>
          have H := HA.out
          clear HA
          simp only [morainelaw01_WordBack.l0] at H
          by_cases c18 : x16_2 < (y144.length : Int)
          · rw [if_pos c18] at H
            have c18b0 : decide (x16_2 < (y144.length : Int)) = true := decide_eq_true c18
            clear c18
            by_cases c19 : 0 ≤ x16_2
            · rw [if_pos c19] at H
              have c19b0 : decide (0 ≤ x16_2) = true := decide_eq_true c19
              clear c19
              obtain ⟨bq20, hbq20⟩ : ∃ b_ : Bool, b_ = (rdOf false y144 x16_2) := ⟨_, rfl⟩
              replace H : (if bq20 = true then (morainelaw01_WordBack.l0 k2 a0 t134 t135 t136 t137 t138 t139 t140 t141 t142 t143 y144 (wrap64 (x15_2 + 1)) (wrap64 (x16_2 + 1))) else (morainelaw01_WordBack.l0 k2 a0 t134 t135 t136 t137 t138 t139 t140 t141 t142 t143 y144 x15_2 (wrap64 (x16_2 + 1)))) = some r := by rw [← hbq20] at H; exact H
              have Nbq20 := Aside0.mk hbq20
              clear hbq20
              by_cases c21 : bq20 = true
              · subst c21
                have H1 : (morainelaw01_WordBack.l0 k2 a0 t134 t135 t136 t137 t138 t139 t140 t141 t142 t143 y144 (wrap64 (x15_2 + 1)) (wrap64 (x16_2 + 1))) = some r := by rw [if_pos rfl] at H; exact H
                clear H
                have H := H1
                clear H1
                have H' := Aside0.mk H
                clear H
                obtain ⟨Ao22, co22, eo22⟩ := Kd.R_slice HO_14.out
                subst eo22
                have p147 : 0 ≤ (x16_2 : Int) := of_decide_eq_true (by first | (with_reducible assumption) | assumption)
                have q147 : x16_2 < (y144.length : Int) := of_decide_eq_true (by first | (with_reducible assumption) | assumption)
                obtain ⟨ad147, e147, hx147_0⟩ := Kd.at_bool (Kd.R_reads' HO_14.out).2.2 x16_2 p147 q147
                (try rw [← Nbq20.out] at hx147_0)
                cases e147
                replace p147 := eq_true p147
                replace q147 := eq_true q147
                go_wp2
                go_roundg k2
                case measure => have := HJ5.out; have := HK2.out; omega
                case rel => exact ⟨(wrap64 (x15_2 + 1)), (wrap64 (x16_2 + 1)), (by first | rfl | (simp; done) | (simp [*]; done)), (by first | rfl | (simp; done) | (simp [*]; done)), H', ⟨by have := HJ5.out; have := HK2.out; omega⟩, ⟨by (with_reducible repeat (first | apply Kd.R_alloc | apply Kd.R_drewN | apply Kd.R_drew)); exact HO_14.out⟩, ⟨by repeat (first | (with_reducible first | exact HB.out | apply below_alloc | apply pw_below_drewN | apply below_drew1) | exact HB.out)⟩⟩
              · replace c21 := Bool.eq_false_iff.mpr c21
                subst c21
                have H1 : (morainelaw01_WordBack.l0 k2 a0 t134 t135 t136 t137 t138 t139 t140 t141 t142 t143 y144 x15_2 (wrap64 (x16_2 + 1))) = some r := by rw [if_neg (show ¬ (false = true) by decide)] at H; exact H
                clear H
                have H := H1
                clear H1
                have H' := Aside0.mk H
                clear H
                obtain ⟨Ao23, co23, eo23⟩ := Kd.R_slice HO_14.out
                subst eo23
                have p147 : 0 ≤ (x16_2 : Int) := of_decide_eq_true (by first | (with_reducible assumption) | assumption)
                have q147 : x16_2 < (y144.length : Int) := of_decide_eq_true (by first | (with_reducible assumption) | assumption)
                obtain ⟨ad147, e147, hx147_0⟩ := Kd.at_bool (Kd.R_reads' HO_14.out).2.2 x16_2 p147 q147
                (try rw [← Nbq20.out] at hx147_0)
                cases e147
                replace p147 := eq_true p147
                replace q147 := eq_true q147
                go_wp2
                go_roundg k2
                case measure => have := HJ5.out; have := HK2.out; omega
                case rel => exact ⟨(x15_2), (wrap64 (x16_2 + 1)), (by first | rfl | (simp; done) | (simp [*]; done)), (by first | rfl | (simp; done) | (simp [*]; done)), H', ⟨by have := HJ5.out; have := HK2.out; omega⟩, ⟨by (with_reducible repeat (first | apply Kd.R_alloc | apply Kd.R_drewN | apply Kd.R_drew)); exact HO_14.out⟩, ⟨by repeat (first | (with_reducible first | exact HB.out | apply below_alloc | apply pw_below_drewN | apply below_drew1) | exact HB.out)⟩⟩
            · rw [if_neg c19] at H
              exact absurd H (by simp)
          · rw [if_neg c18] at H
            have c18b0 : decide (x16_2 < (y144.length : Int)) = false := decide_eq_false c18
            clear c18
            have HC24 := Aside0.mk H
            clear H
            obtain ⟨Ao25, co25, eo25⟩ := Kd.R_slice HO_14.out
            subst eo25
            go_upto_region 13 with (fail)
            go_cut [93] (fun v93 wc => ∃ (kq : Nat) (x93_23 : Bool), v93 = .bool x93_23 ∧ Aside0 (morainelaw01_WordBack.j2 kq a0 t134 t135 t136 t137 t138 t139 t140 t141 t142 t143 x93_23 = some r) ∧ Aside0 (kq ≤ k2) ∧ Aside0 (Below w.heap.size w wc))
            case first =>
              have H := HC24.out
              clear HC24
              by_cases c26 : x15_2 > 1
              · rw [if_pos c26] at H
                have c26b0 : decide (1 < x15_2) = true := decide_eq_true c26
                clear c26
                (first | rw [c26b0] | (simp only [i64_w, i32_w]; rw [c26b0]) | skip)
                have H' := Aside0.mk H
                clear H
                go_wp2
                go_meet
                case rel => exact ⟨_, (true), (by first | rfl | (simp; done) | (simp [*]; done)), H', ⟨by have := HJ5.out; have := HK2.out; first | omega | exact Nat.le_refl _⟩, ⟨by repeat (first | (with_reducible first | exact HB.out | apply below_alloc | apply pw_below_drewN | apply below_drew1) | exact HB.out)⟩⟩
              · rw [if_neg c26] at H
                have c26b0 : decide (1 < x15_2) = false := decide_eq_false c26
                clear c26
                (first | rw [c26b0] | (simp only [i64_w, i32_w]; rw [c26b0]) | skip)
                replace H := Option.bind_eq_some_iff.mp H
                obtain ⟨t148, A270, H⟩ := H
                replace H : (morainelaw01_WordBack.j2 k2 a0 t134 t135 t136 t137 t138 t139 t140 t141 t142 t143 (t148 != (x15_2 == 1))) = some r := H
                have A27 := Aside0.mk A270
                clear A270
                have H' := Aside0.mk H
                clear H
                go_wp2_with (first | (go_at_call 18; (with_reducible refine (word_May.calls a0 t148 _ A27.out).mono ?_); rintro e w28 ⟨rfl, hb⟩; have n0_ := Aside0.mk (Kd.R_below (by (with_reducible repeat (first | apply Kd.R_alloc | apply Kd.R_drewN | apply Kd.R_drew)); exact HO_14.out) hb); have n1_ := Aside0.mk (below_step (by repeat (first | (with_reducible first | exact HB.out | apply below_alloc | apply pw_below_drewN | apply below_drew1) | exact HB.out)) hb); clear HO_14; clear HB; have HO_14 := n0_; have HB := n1_; clear n0_ n1_; (try clear hb); (try clear hb2); (try clear hk); (try clear hi)))
                go_meet
                case rel => exact ⟨_, ((t148 != (x15_2 == 1))), (by first | rfl | (simp; done) | (simp [*]; done)), H', ⟨by have := HJ5.out; have := HK2.out; first | omega | exact Nat.le_refl _⟩, ⟨by repeat (first | (with_reducible first | exact HB.out | apply below_alloc | apply pw_below_drewN | apply below_drew1) | exact HB.out)⟩⟩
            case rest =>
              clear HC24
              try clear c1
              try clear p1
              try clear q1
              try clear hx1
              try clear c2
              try clear p2
              try clear q2
              try clear p6
              try clear c8
              try clear c10
              try clear c10b0
              try clear c10b1
              try clear c11
              try clear c11b0
              try clear c11b1
              try clear c12
              try clear c12b0
              try clear c12b1
              try clear c13
              try clear c13b0
              try clear c13b1
              try clear c14
              try clear c14b0
              try clear c14b1
              try clear p14
              try clear q14
              try clear hx14
              try clear c15
              try clear c15b0
              try clear c15b1
              try clear c18
              try clear c18b0
              try clear c19
              try clear c19b0
              try clear c20
              try clear q20
              try clear c21
              try clear c22
              try clear c23
              try clear c26
              try clear c26b0
              try clear hx147_0
              try clear p147
              try clear p2
              try clear q147
              obtain ⟨kq, x93_23, rfl, HA, HJ23, HB⟩ := hcut
              cases kq with
              | zero => exact absurd HA.out (by simp [morainelaw01_WordBack.j2])
              | succ kj23 =>
                have H := HA.out
                clear HA
                simp only [morainelaw01_WordBack.j2] at H
                by_cases c29 : x93_23 = true
                · subst c29
                  have H1 : (some false) = some r := by rw [if_pos rfl] at H; exact H
                  clear H
                  have H := H1
                  clear H1
                  obtain rfl := Option.some.inj H
                  go_wp2
                  go_ret
                  exact ⟨by first | rfl | (simp [errW_none, errW_some] <;> rfl) | (simp [*, errW_none, errW_some] <;> rfl), by repeat (first | (with_reducible first | exact HB.out | apply below_alloc | apply pw_below_drewN | apply below_drew1) | exact HB.out)⟩
                · replace c29 := Bool.eq_false_iff.mpr c29
                  subst c29
                  have H1 : (if t135 = true then ((word_Fix.f t134).bind fun bt149 => (if bt149.2 = 0 then (if bt149.1 = a0 then ((morainelaw01_awake.f).bind fun t151 => (some t151)) else (some false)) else (some false))) else (if t137 = true then ((word_Char.f t136).bind fun bt152 => (if bt152.2 = 0 then (if bt152.1 = a0 then ((morainelaw01_awake.f).bind fun t154 => (some t154)) else (some false)) else (some false))) else (if t139 = true then ((word_Tag.f a0).bind fun t155 => ((word_At.f t155 t138).bind fun bt156 => (if bt156.2 = 0 then (if bt156.1 = a0 then ((morainelaw01_awake.f).bind fun t158 => (some t158)) else (some false)) else (some false)))) else (if t143 = true then ((word_Header.f t140 t141 t142).bind fun bt159 => (if bt159.2 = 0 then (if bt159.1 = a0 then ((morainelaw01_awake.f).bind fun t161 => (some t161)) else (some false)) else (some false))) else ((morainelaw01_awake.f).bind fun t162 => (some t162)))))) = some r := by rw [if_neg (show ¬ (false = true) by decide)] at H; exact H
                  clear H
                  have H := H1
                  clear H1
                  by_cases c30 : t135 = true
                  · subst c30
                    have H1 : ((word_Fix.f t134).bind fun bt149 => (if bt149.2 = 0 then (if bt149.1 = a0 then ((morainelaw01_awake.f).bind fun t151 => (some t151)) else (some false)) else (some false))) = some r := by rw [if_pos rfl] at H; exact H
                    clear H
                    have H := H1
                    clear H1
                    replace H := Option.bind_eq_some_iff.mp H
                    obtain ⟨⟨t149, t150⟩, A310, H⟩ := H
                    replace H : (if t150 = 0 then (if t149 = a0 then ((morainelaw01_awake.f).bind fun t151 => (some t151)) else (some false)) else (some false)) = some r := H
                    have A31 := Aside0.mk A310
                    clear A310
                    by_cases c32 : t150 = 0
                    · rw [if_pos c32] at H
                      have c32b0 : (t150 == 0) = true := beq_iff_eq.mpr c32
                      have c32b1 : (t150 != 0) = false := bne_eq_false_iff_eq.mpr c32
                      clear c32
                      by_cases c33 : t149 = a0
                      · rw [if_pos c33] at H
                        have c33b0 : (t149 == a0) = true := beq_iff_eq.mpr c33
                        have c33b1 : (t149 != a0) = false := bne_eq_false_iff_eq.mpr c33
                        clear c33
                        replace H := Option.bind_eq_some_iff.mp H
                        obtain ⟨t151, A340, H⟩ := H
                        replace H : (some t151) = some r := H
                        have A34 := Aside0.mk A340
                        clear A340
                        obtain rfl := Option.some.inj H
                        go_wp2_with (first | ((with_reducible refine gate_callee (f := 9) rfl ?_); refine goesL_ (some 99) rfl rfl Try.func9 (by kernel_rfl) rfl #[.int .i64 t134] rfl (by (try simp only [List.map_toArray, List.map_cons, List.map_nil]); first | done | rfl | (simp only [List.length_drop, List.length_take]; rfl)) ?_; (with_reducible refine (word_Fix.calls t134 t149 t150 _ A31.out).mono ?_); rintro e w' ⟨rfl, ⟨nd, rfl⟩⟩; refine ⟨_, rfl, ?_⟩) | (go_at_call 14; (with_reducible refine (morainelaw01_awake.calls  t151 _ A34.out).mono ?_); rintro e w' ⟨rfl, ⟨nd, rfl⟩⟩))
                        go_ret
                        exact ⟨by first | rfl | (simp [errW_none, errW_some] <;> rfl) | (simp [*, errW_none, errW_some] <;> rfl), by repeat (first | (with_reducible first | exact HB.out | apply below_alloc | apply pw_below_drewN | apply below_drew1) | exact HB.out)⟩
                      · rw [if_neg c33] at H
                        have c33b0 : (t149 == a0) = false := beq_eq_false_iff_ne.mpr c33
                        have c33b1 : (t149 != a0) = true := bne_iff_ne.mpr c33
                        obtain rfl := Option.some.inj H
                        go_wp2_with (first | ((with_reducible refine gate_callee (f := 9) rfl ?_); refine goesL_ (some 99) rfl rfl Try.func9 (by kernel_rfl) rfl #[.int .i64 t134] rfl (by (try simp only [List.map_toArray, List.map_cons, List.map_nil]); first | done | rfl | (simp only [List.length_drop, List.length_take]; rfl)) ?_; (with_reducible refine (word_Fix.calls t134 t149 t150 _ A31.out).mono ?_); rintro e w' ⟨rfl, ⟨nd, rfl⟩⟩; refine ⟨_, rfl, ?_⟩))
                        go_ret
                        exact ⟨by first | rfl | (simp [errW_none, errW_some] <;> rfl) | (simp [*, errW_none, errW_some] <;> rfl), by repeat (first | (with_reducible first | exact HB.out | apply below_alloc | apply pw_below_drewN | apply below_drew1) | exact HB.out)⟩
                    · rw [if_neg c32] at H
                      have c32b0 : (t150 == 0) = false := beq_eq_false_iff_ne.mpr c32
                      have c32b1 : (t150 != 0) = true := bne_iff_ne.mpr c32
                      obtain rfl := Option.some.inj H
                      go_wp2_with (first | ((with_reducible refine gate_callee (f := 9) rfl ?_); refine goesL_ (some 99) rfl rfl Try.func9 (by kernel_rfl) rfl #[.int .i64 t134] rfl (by (try simp only [List.map_toArray, List.map_cons, List.map_nil]); first | done | rfl | (simp only [List.length_drop, List.length_take]; rfl)) ?_; (with_reducible refine (word_Fix.calls t134 t149 t150 _ A31.out).mono ?_); rintro e w' ⟨rfl, ⟨nd, rfl⟩⟩; refine ⟨_, rfl, ?_⟩))
                      go_ret
                      exact ⟨by first | rfl | (simp [errW_none, errW_some] <;> rfl) | (simp [*, errW_none, errW_some] <;> rfl), by repeat (first | (with_reducible first | exact HB.out | apply below_alloc | apply pw_below_drewN | apply below_drew1) | exact HB.out)⟩
                  · replace c30 := Bool.eq_false_iff.mpr c30
                    subst c30
                    have H1 : (if t137 = true then ((word_Char.f t136).bind fun bt152 => (if bt152.2 = 0 then (if bt152.1 = a0 then ((morainelaw01_awake.f).bind fun t154 => (some t154)) else (some false)) else (some false))) else (if t139 = true then ((word_Tag.f a0).bind fun t155 => ((word_At.f t155 t138).bind fun bt156 => (if bt156.2 = 0 then (if bt156.1 = a0 then ((morainelaw01_awake.f).bind fun t158 => (some t158)) else (some false)) else (some false)))) else (if t143 = true then ((word_Header.f t140 t141 t142).bind fun bt159 => (if bt159.2 = 0 then (if bt159.1 = a0 then ((morainelaw01_awake.f).bind fun t161 => (some t161)) else (some false)) else (some false))) else ((morainelaw01_awake.f).bind fun t162 => (some t162))))) = some r := by rw [if_neg (show ¬ (false = true) by decide)] at H; exact H
                    clear H
                    have H := H1
                    clear H1
                    by_cases c35 : t137 = true
                    · subst c35
                      have H1 : ((word_Char.f t136).bind fun bt152 => (if bt152.2 = 0 then (if bt152.1 = a0 then ((morainelaw01_awake.f).bind fun t154 => (some t154)) else (some false)) else (some false))) = some r := by rw [if_pos rfl] at H; exact H
                      clear H
                      have H := H1
                      clear H1
                      replace H := Option.bind_eq_some_iff.mp H
                      obtain ⟨⟨t152, t153⟩, A360, H⟩ := H
                      replace H : (if t153 = 0 then (if t152 = a0 then ((morainelaw01_awake.f).bind fun t154 => (some t154)) else (some false)) else (some false)) = some r := H
                      have A36 := Aside0.mk A360
                      clear A360
                      by_cases c37 : t153 = 0
                      · rw [if_pos c37] at H
                        have c37b0 : (t153 == 0) = true := beq_iff_eq.mpr c37
                        have c37b1 : (t153 != 0) = false := bne_eq_false_iff_eq.mpr c37
                        clear c37
                        by_cases c38 : t152 = a0
                        · rw [if_pos c38] at H
                          have c38b0 : (t152 == a0) = true := beq_iff_eq.mpr c38
                          have c38b1 : (t152 != a0) = false := bne_eq_false_iff_eq.mpr c38
                          clear c38
                          replace H := Option.bind_eq_some_iff.mp H
                          obtain ⟨t154, A390, H⟩ := H
                          replace H : (some t154) = some r := H
                          have A39 := Aside0.mk A390
                          clear A390
                          obtain rfl := Option.some.inj H
                          go_wp2_with (first | ((with_reducible refine gate_callee (f := 12) rfl ?_); refine goesL_ (some 106) rfl rfl Try.func12 (by kernel_rfl) rfl #[.int .i32 t136] rfl (by (try simp only [List.map_toArray, List.map_cons, List.map_nil]); first | done | rfl | (simp only [List.length_drop, List.length_take]; rfl)) ?_; (with_reducible refine (word_Char.calls t136 t152 t153 _ A36.out).mono ?_); rintro e w' ⟨rfl, ⟨nd, rfl⟩⟩; refine ⟨_, rfl, ?_⟩) | (go_at_call 14; (with_reducible refine (morainelaw01_awake.calls  t154 _ A39.out).mono ?_); rintro e w' ⟨rfl, ⟨nd, rfl⟩⟩))
                          go_ret
                          exact ⟨by first | rfl | (simp [errW_none, errW_some] <;> rfl) | (simp [*, errW_none, errW_some] <;> rfl), by repeat (first | (with_reducible first | exact HB.out | apply below_alloc | apply pw_below_drewN | apply below_drew1) | exact HB.out)⟩
                        · rw [if_neg c38] at H
                          have c38b0 : (t152 == a0) = false := beq_eq_false_iff_ne.mpr c38
                          have c38b1 : (t152 != a0) = true := bne_iff_ne.mpr c38
                          obtain rfl := Option.some.inj H
                          go_wp2_with (first | ((with_reducible refine gate_callee (f := 12) rfl ?_); refine goesL_ (some 106) rfl rfl Try.func12 (by kernel_rfl) rfl #[.int .i32 t136] rfl (by (try simp only [List.map_toArray, List.map_cons, List.map_nil]); first | done | rfl | (simp only [List.length_drop, List.length_take]; rfl)) ?_; (with_reducible refine (word_Char.calls t136 t152 t153 _ A36.out).mono ?_); rintro e w' ⟨rfl, ⟨nd, rfl⟩⟩; refine ⟨_, rfl, ?_⟩))
                          go_ret
                          exact ⟨by first | rfl | (simp [errW_none, errW_some] <;> rfl) | (simp [*, errW_none, errW_some] <;> rfl), by repeat (first | (with_reducible first | exact HB.out | apply below_alloc | apply pw_below_drewN | apply below_drew1) | exact HB.out)⟩
                      · rw [if_neg c37] at H
                        have c37b0 : (t153 == 0) = false := beq_eq_false_iff_ne.mpr c37
                        have c37b1 : (t153 != 0) = true := bne_iff_ne.mpr c37
                        obtain rfl := Option.some.inj H
                        go_wp2_with (first | ((with_reducible refine gate_callee (f := 12) rfl ?_); refine goesL_ (some 106) rfl rfl Try.func12 (by kernel_rfl) rfl #[.int .i32 t136] rfl (by (try simp only [List.map_toArray, List.map_cons, List.map_nil]); first | done | rfl | (simp only [List.length_drop, List.length_take]; rfl)) ?_; (with_reducible refine (word_Char.calls t136 t152 t153 _ A36.out).mono ?_); rintro e w' ⟨rfl, ⟨nd, rfl⟩⟩; refine ⟨_, rfl, ?_⟩))
                        go_ret
                        exact ⟨by first | rfl | (simp [errW_none, errW_some] <;> rfl) | (simp [*, errW_none, errW_some] <;> rfl), by repeat (first | (with_reducible first | exact HB.out | apply below_alloc | apply pw_below_drewN | apply below_drew1) | exact HB.out)⟩
                    · replace c35 := Bool.eq_false_iff.mpr c35
                      subst c35
                      have H1 : (if t139 = true then ((word_Tag.f a0).bind fun t155 => ((word_At.f t155 t138).bind fun bt156 => (if bt156.2 = 0 then (if bt156.1 = a0 then ((morainelaw01_awake.f).bind fun t158 => (some t158)) else (some false)) else (some false)))) else (if t143 = true then ((word_Header.f t140 t141 t142).bind fun bt159 => (if bt159.2 = 0 then (if bt159.1 = a0 then ((morainelaw01_awake.f).bind fun t161 => (some t161)) else (some false)) else (some false))) else ((morainelaw01_awake.f).bind fun t162 => (some t162)))) = some r := by rw [if_neg (show ¬ (false = true) by decide)] at H; exact H
                      clear H
                      have H := H1
                      clear H1
                      by_cases c40 : t139 = true
                      · subst c40
                        have H1 : ((word_Tag.f a0).bind fun t155 => ((word_At.f t155 t138).bind fun bt156 => (if bt156.2 = 0 then (if bt156.1 = a0 then ((morainelaw01_awake.f).bind fun t158 => (some t158)) else (some false)) else (some false)))) = some r := by rw [if_pos rfl] at H; exact H
                        clear H
                        have H := H1
                        clear H1
                        replace H := Option.bind_eq_some_iff.mp H
                        obtain ⟨t155, A410, H⟩ := H
                        replace H : ((word_At.f t155 t138).bind fun bt156 => (if bt156.2 = 0 then (if bt156.1 = a0 then ((morainelaw01_awake.f).bind fun t158 => (some t158)) else (some false)) else (some false))) = some r := H
                        have A41 := Aside0.mk A410
                        clear A410
                        replace H := Option.bind_eq_some_iff.mp H
                        obtain ⟨⟨t156, t157⟩, A420, H⟩ := H
                        replace H : (if t157 = 0 then (if t156 = a0 then ((morainelaw01_awake.f).bind fun t158 => (some t158)) else (some false)) else (some false)) = some r := H
                        have A42 := Aside0.mk A420
                        clear A420
                        by_cases c43 : t157 = 0
                        · rw [if_pos c43] at H
                          have c43b0 : (t157 == 0) = true := beq_iff_eq.mpr c43
                          have c43b1 : (t157 != 0) = false := bne_eq_false_iff_eq.mpr c43
                          clear c43
                          by_cases c44 : t156 = a0
                          · rw [if_pos c44] at H
                            have c44b0 : (t156 == a0) = true := beq_iff_eq.mpr c44
                            have c44b1 : (t156 != a0) = false := bne_eq_false_iff_eq.mpr c44
                            clear c44
                            replace H := Option.bind_eq_some_iff.mp H
                            obtain ⟨t158, A450, H⟩ := H
                            replace H : (some t158) = some r := H
                            have A45 := Aside0.mk A450
                            clear A450
                            obtain rfl := Option.some.inj H
                            go_wp2_with (first | ((with_reducible refine gate_callee (f := 24) rfl ?_); refine goesL_ (some 113) rfl rfl Try.func24 (by kernel_rfl) rfl #[.int .u64 a0] rfl (by (try simp only [List.map_toArray, List.map_cons, List.map_nil]); first | done | rfl | (simp only [List.length_drop, List.length_take]; rfl)) ?_; (with_reducible refine (word_Tag.calls a0 t155 _ A41.out).mono ?_); rintro e w' ⟨rfl, ⟨nd, rfl⟩⟩; refine ⟨_, rfl, ?_⟩) | ((with_reducible refine gate_callee (f := 15) rfl ?_); refine goesL_ (some 115) rfl rfl Try.func15 (by kernel_rfl) rfl #[.int .i64 t155, .int .i64 t138] rfl (by (try simp only [List.map_toArray, List.map_cons, List.map_nil]); first | done | rfl | (simp only [List.length_drop, List.length_take]; rfl)) ?_; (with_reducible refine (word_At.calls t155 t138 t156 t157 _ A42.out).mono ?_); rintro e w' ⟨rfl, ⟨nd, rfl⟩⟩; refine ⟨_, rfl, ?_⟩) | (go_at_call 14; (with_reducible refine (morainelaw01_awake.calls  t158 _ A45.out).mono ?_); rintro e w' ⟨rfl, ⟨nd, rfl⟩⟩))
                            go_ret
                            exact ⟨by first | rfl | (simp [errW_none, errW_some] <;> rfl) | (simp [*, errW_none, errW_some] <;> rfl), by repeat (first | (with_reducible first | exact HB.out | apply below_alloc | apply pw_below_drewN | apply below_drew1) | exact HB.out)⟩
                          · rw [if_neg c44] at H
                            have c44b0 : (t156 == a0) = false := beq_eq_false_iff_ne.mpr c44
                            have c44b1 : (t156 != a0) = true := bne_iff_ne.mpr c44
                            obtain rfl := Option.some.inj H
                            go_wp2_with (first | ((with_reducible refine gate_callee (f := 24) rfl ?_); refine goesL_ (some 113) rfl rfl Try.func24 (by kernel_rfl) rfl #[.int .u64 a0] rfl (by (try simp only [List.map_toArray, List.map_cons, List.map_nil]); first | done | rfl | (simp only [List.length_drop, List.length_take]; rfl)) ?_; (with_reducible refine (word_Tag.calls a0 t155 _ A41.out).mono ?_); rintro e w' ⟨rfl, ⟨nd, rfl⟩⟩; refine ⟨_, rfl, ?_⟩) | ((with_reducible refine gate_callee (f := 15) rfl ?_); refine goesL_ (some 115) rfl rfl Try.func15 (by kernel_rfl) rfl #[.int .i64 t155, .int .i64 t138] rfl (by (try simp only [List.map_toArray, List.map_cons, List.map_nil]); first | done | rfl | (simp only [List.length_drop, List.length_take]; rfl)) ?_; (with_reducible refine (word_At.calls t155 t138 t156 t157 _ A42.out).mono ?_); rintro e w' ⟨rfl, ⟨nd, rfl⟩⟩; refine ⟨_, rfl, ?_⟩))
                            go_ret
                            exact ⟨by first | rfl | (simp [errW_none, errW_some] <;> rfl) | (simp [*, errW_none, errW_some] <;> rfl), by repeat (first | (with_reducible first | exact HB.out | apply below_alloc | apply pw_below_drewN | apply below_drew1) | exact HB.out)⟩
                        · rw [if_neg c43] at H
                          have c43b0 : (t157 == 0) = false := beq_eq_false_iff_ne.mpr c43
                          have c43b1 : (t157 != 0) = true := bne_iff_ne.mpr c43
                          obtain rfl := Option.some.inj H
                          go_wp2_with (first | ((with_reducible refine gate_callee (f := 24) rfl ?_); refine goesL_ (some 113) rfl rfl Try.func24 (by kernel_rfl) rfl #[.int .u64 a0] rfl (by (try simp only [List.map_toArray, List.map_cons, List.map_nil]); first | done | rfl | (simp only [List.length_drop, List.length_take]; rfl)) ?_; (with_reducible refine (word_Tag.calls a0 t155 _ A41.out).mono ?_); rintro e w' ⟨rfl, ⟨nd, rfl⟩⟩; refine ⟨_, rfl, ?_⟩) | ((with_reducible refine gate_callee (f := 15) rfl ?_); refine goesL_ (some 115) rfl rfl Try.func15 (by kernel_rfl) rfl #[.int .i64 t155, .int .i64 t138] rfl (by (try simp only [List.map_toArray, List.map_cons, List.map_nil]); first | done | rfl | (simp only [List.length_drop, List.length_take]; rfl)) ?_; (with_reducible refine (word_At.calls t155 t138 t156 t157 _ A42.out).mono ?_); rintro e w' ⟨rfl, ⟨nd, rfl⟩⟩; refine ⟨_, rfl, ?_⟩))
                          go_ret
                          exact ⟨by first | rfl | (simp [errW_none, errW_some] <;> rfl) | (simp [*, errW_none, errW_some] <;> rfl), by repeat (first | (with_reducible first | exact HB.out | apply below_alloc | apply pw_below_drewN | apply below_drew1) | exact HB.out)⟩
                      · replace c40 := Bool.eq_false_iff.mpr c40
                        subst c40
                        have H1 : (if t143 = true then ((word_Header.f t140 t141 t142).bind fun bt159 => (if bt159.2 = 0 then (if bt159.1 = a0 then ((morainelaw01_awake.f).bind fun t161 => (some t161)) else (some false)) else (some false))) else ((morainelaw01_awake.f).bind fun t162 => (some t162))) = some r := by rw [if_neg (show ¬ (false = true) by decide)] at H; exact H
                        clear H
                        have H := H1
                        clear H1
                        by_cases c46 : t143 = true
                        · subst c46
                          have H1 : ((word_Header.f t140 t141 t142).bind fun bt159 => (if bt159.2 = 0 then (if bt159.1 = a0 then ((morainelaw01_awake.f).bind fun t161 => (some t161)) else (some false)) else (some false))) = some r := by rw [if_pos rfl] at H; exact H
                          clear H
                          have H := H1
                          clear H1
                          replace H := Option.bind_eq_some_iff.mp H
                          obtain ⟨⟨t159, t160⟩, A470, H⟩ := H
                          replace H : (if t160 = 0 then (if t159 = a0 then ((morainelaw01_awake.f).bind fun t161 => (some t161)) else (some false)) else (some false)) = some r := H
                          have A47 := Aside0.mk A470
                          clear A470
                          by_cases c48 : t160 = 0
                          · rw [if_pos c48] at H
                            have c48b0 : (t160 == 0) = true := beq_iff_eq.mpr c48
                            have c48b1 : (t160 != 0) = false := bne_eq_false_iff_eq.mpr c48
                            clear c48
                            by_cases c49 : t159 = a0
                            · rw [if_pos c49] at H
                              have c49b0 : (t159 == a0) = true := beq_iff_eq.mpr c49
                              have c49b1 : (t159 != a0) = false := bne_eq_false_iff_eq.mpr c49
                              clear c49
                              replace H := Option.bind_eq_some_iff.mp H
                              obtain ⟨t161, A500, H⟩ := H
                              replace H : (some t161) = some r := H
                              have A50 := Aside0.mk A500
                              clear A500
                              obtain rfl := Option.some.inj H
                              go_wp2_with (first | ((with_reducible refine gate_callee (f := 16) rfl ?_); refine goesL_ (some 124) rfl rfl Try.func16 (by kernel_rfl) rfl #[.int .i64 t140, .int .i64 t141, .int .u64 t142] rfl (by (try simp only [List.map_toArray, List.map_cons, List.map_nil]); first | done | rfl | (simp only [List.length_drop, List.length_take]; rfl)) ?_; (with_reducible refine (word_Header.calls t140 t141 t142 t159 t160 _ A47.out).mono ?_); rintro e w' ⟨rfl, ⟨nd, rfl⟩⟩; refine ⟨_, rfl, ?_⟩) | (go_at_call 14; (with_reducible refine (morainelaw01_awake.calls  t161 _ A50.out).mono ?_); rintro e w' ⟨rfl, ⟨nd, rfl⟩⟩))
                              go_ret
                              exact ⟨by first | rfl | (simp [errW_none, errW_some] <;> rfl) | (simp [*, errW_none, errW_some] <;> rfl), by repeat (first | (with_reducible first | exact HB.out | apply below_alloc | apply pw_below_drewN | apply below_drew1) | exact HB.out)⟩
                            · rw [if_neg c49] at H
                              have c49b0 : (t159 == a0) = false := beq_eq_false_iff_ne.mpr c49
                              have c49b1 : (t159 != a0) = true := bne_iff_ne.mpr c49
                              obtain rfl := Option.some.inj H
                              go_wp2_with (first | ((with_reducible refine gate_callee (f := 16) rfl ?_); refine goesL_ (some 124) rfl rfl Try.func16 (by kernel_rfl) rfl #[.int .i64 t140, .int .i64 t141, .int .u64 t142] rfl (by (try simp only [List.map_toArray, List.map_cons, List.map_nil]); first | done | rfl | (simp only [List.length_drop, List.length_take]; rfl)) ?_; (with_reducible refine (word_Header.calls t140 t141 t142 t159 t160 _ A47.out).mono ?_); rintro e w' ⟨rfl, ⟨nd, rfl⟩⟩; refine ⟨_, rfl, ?_⟩))
                              go_ret
                              exact ⟨by first | rfl | (simp [errW_none, errW_some] <;> rfl) | (simp [*, errW_none, errW_some] <;> rfl), by repeat (first | (with_reducible first | exact HB.out | apply below_alloc | apply pw_below_drewN | apply below_drew1) | exact HB.out)⟩
                          · rw [if_neg c48] at H
                            have c48b0 : (t160 == 0) = false := beq_eq_false_iff_ne.mpr c48
                            have c48b1 : (t160 != 0) = true := bne_iff_ne.mpr c48
                            obtain rfl := Option.some.inj H
                            go_wp2_with (first | ((with_reducible refine gate_callee (f := 16) rfl ?_); refine goesL_ (some 124) rfl rfl Try.func16 (by kernel_rfl) rfl #[.int .i64 t140, .int .i64 t141, .int .u64 t142] rfl (by (try simp only [List.map_toArray, List.map_cons, List.map_nil]); first | done | rfl | (simp only [List.length_drop, List.length_take]; rfl)) ?_; (with_reducible refine (word_Header.calls t140 t141 t142 t159 t160 _ A47.out).mono ?_); rintro e w' ⟨rfl, ⟨nd, rfl⟩⟩; refine ⟨_, rfl, ?_⟩))
                            go_ret
                            exact ⟨by first | rfl | (simp [errW_none, errW_some] <;> rfl) | (simp [*, errW_none, errW_some] <;> rfl), by repeat (first | (with_reducible first | exact HB.out | apply below_alloc | apply pw_below_drewN | apply below_drew1) | exact HB.out)⟩
                        · replace c46 := Bool.eq_false_iff.mpr c46
                          subst c46
                          have H1 : ((morainelaw01_awake.f).bind fun t162 => (some t162)) = some r := by rw [if_neg (show ¬ (false = true) by decide)] at H; exact H
                          clear H
                          have H := H1
                          clear H1
                          replace H := Option.bind_eq_some_iff.mp H
                          obtain ⟨t162, A510, H⟩ := H
                          replace H : (some t162) = some r := H
                          have A51 := Aside0.mk A510
                          clear A510
                          obtain rfl := Option.some.inj H
                          go_wp2_with (first | ((with_reducible refine gate_callee (f := 14) rfl ?_); refine goesL_ (some 94) rfl rfl Try.func14 (by kernel_rfl) rfl #[] rfl (by (try simp only [List.map_toArray, List.map_cons, List.map_nil]); first | done | rfl | (simp only [List.length_drop, List.length_take]; rfl)) ?_; (with_reducible refine (morainelaw01_awake.calls  t162 _ A51.out).mono ?_); rintro e w' ⟨rfl, ⟨nd, rfl⟩⟩; refine ⟨_, rfl, ?_⟩))
                          go_ret
                          exact ⟨by first | rfl | (simp [errW_none, errW_some] <;> rfl) | (simp [*, errW_none, errW_some] <;> rfl), by repeat (first | (with_reducible first | exact HB.out | apply below_alloc | apply pw_below_drewN | apply below_drew1) | exact HB.out)⟩

/-- THE ONE PURE STATEMENT of morainelaw01_WordBack: yours. -/
def morainelaw01_WordBack.Pure : Prop := ∀ (a0 : Int), (Lit.int .u64 a0).wf = true → ∃ k, morainelaw01_WordBack.f k a0 = some true
theorem morainelaw01_WordBack.walk (P : morainelaw01_WordBack.Pure) (a0 : Int) (w : World) (w0 : (Lit.int .u64 a0).wf = true) :
    Calls Try.prog 8 #[.int .u64 a0] w fun e w' => e = .returned (.bool true) ∧ Below w.heap.size w w' := by
  obtain ⟨k, h⟩ := P a0 w0
  refine (morainelaw01_WordBack.calls k a0 true w h).mono ?_
  rintro e w' ⟨rfl, hd⟩
  exact ⟨rfl, hd⟩

end Go.Proofs.Ytijhamhgdnhmgaa.PWordBack
