-- Printed by a program of this session's (wip/tools/printx.py, over the kit's print program).
import Derived.Test.YtijhamhgdnhmgaaPWordTellsx0
import Derived.Test.YtijhamhgdnhmgaaPWordTellsx1
import Derived.Test.YtijhamhgdnhmgaaPWordTellsx2
namespace Go.Proofs.Ytijhamhgdnhmgaa.PWordTells
open Go.RowKit Go.Proofs.YtijhamhgdnhmgaaW.PrintWords Go.Proofs.YtijhamhgdnhmgaaW.PrintLast Go.Proofs.YtijhamhgdnhmgaaW.PrintMore
attribute [local go_sem] max2_int min2_int max_two min_two max_three min_three max_four min_four   -- for this text's walks alone
set_option linter.unusedVariables false
set_option linter.unusedSimpArgs false

/-! ### morainelaw01_WordTells: function 7 -/
mutual
def morainelaw01_WordTells.j0 : Nat → Int → Bool → Int → Bool → Int → Bool → Int → Int → Int → Bool → Bool → Int → Int → Int → Int → Int → Option (Bool)
  | 0, _, _, _, _, _, _, _, _, _, _, _, _, _, _, _, _ => none
  | k + 1, x4, x5, x6, x7, x8, x9, x10, x11, x12, x13, x58, x143000, x143001, x143002, x143003, x143004 => if x58 = true then (some false) else (if (x5 != (x143000 == 1)) = true then (morainelaw01_WordTells.j1 k x4 x5 x6 x7 x8 x9 x10 x11 x12 x13 true x143000 x143001 x143002 x143003 x143004) else (if (x7 != (x143000 == 4)) = true then (morainelaw01_WordTells.j1 k x4 x5 x6 x7 x8 x9 x10 x11 x12 x13 true x143000 x143001 x143002 x143003 x143004) else (if (x9 != (x143000 == 2)) = true then (morainelaw01_WordTells.j1 k x4 x5 x6 x7 x8 x9 x10 x11 x12 x13 true x143000 x143001 x143002 x143003 x143004) else (morainelaw01_WordTells.j1 k x4 x5 x6 x7 x8 x9 x10 x11 x12 x13 (x13 != (x143000 == 5)) x143000 x143001 x143002 x143003 x143004))))
def morainelaw01_WordTells.j1 : Nat → Int → Bool → Int → Bool → Int → Bool → Int → Int → Int → Bool → Bool → Int → Int → Int → Int → Int → Option (Bool)
  | 0, _, _, _, _, _, _, _, _, _, _, _, _, _, _, _, _ => none
  | k + 1, x4, x5, x6, x7, x8, x9, x10, x11, x12, x13, x84, x143000, x143001, x143002, x143003, x143004 => if x84 = true then (some false) else (if x5 = true then (if x7 = true then (if x9 = true then (if x13 = true then (morainelaw01_WordTells.j2 k x4 x6 x8 x10 x11 x12 false x143000 x143001 x143002 x143003 x143004) else (if x10 = 0 then (if x11 = 0 then (morainelaw01_WordTells.j2 k x4 x6 x8 x10 x11 x12 (x12 != 0) x143000 x143001 x143002 x143003 x143004) else (morainelaw01_WordTells.j2 k x4 x6 x8 x10 x11 x12 true x143000 x143001 x143002 x143003 x143004)) else (morainelaw01_WordTells.j2 k x4 x6 x8 x10 x11 x12 true x143000 x143001 x143002 x143003 x143004))) else (if x8 = 0 then (if x13 = true then (morainelaw01_WordTells.j2 k x4 x6 x8 x10 x11 x12 false x143000 x143001 x143002 x143003 x143004) else (if x10 = 0 then (if x11 = 0 then (morainelaw01_WordTells.j2 k x4 x6 x8 x10 x11 x12 (x12 != 0) x143000 x143001 x143002 x143003 x143004) else (morainelaw01_WordTells.j2 k x4 x6 x8 x10 x11 x12 true x143000 x143001 x143002 x143003 x143004)) else (morainelaw01_WordTells.j2 k x4 x6 x8 x10 x11 x12 true x143000 x143001 x143002 x143003 x143004))) else (morainelaw01_WordTells.j2 k x4 x6 x8 x10 x11 x12 true x143000 x143001 x143002 x143003 x143004))) else (if x6 = 0 then (if x9 = true then (if x13 = true then (morainelaw01_WordTells.j2 k x4 x6 x8 x10 x11 x12 false x143000 x143001 x143002 x143003 x143004) else (if x10 = 0 then (if x11 = 0 then (morainelaw01_WordTells.j2 k x4 x6 x8 x10 x11 x12 (x12 != 0) x143000 x143001 x143002 x143003 x143004) else (morainelaw01_WordTells.j2 k x4 x6 x8 x10 x11 x12 true x143000 x143001 x143002 x143003 x143004)) else (morainelaw01_WordTells.j2 k x4 x6 x8 x10 x11 x12 true x143000 x143001 x143002 x143003 x143004))) else (if x8 = 0 then (if x13 = true then (morainelaw01_WordTells.j2 k x4 x6 x8 x10 x11 x12 false x143000 x143001 x143002 x143003 x143004) else (if x10 = 0 then (if x11 = 0 then (morainelaw01_WordTells.j2 k x4 x6 x8 x10 x11 x12 (x12 != 0) x143000 x143001 x143002 x143003 x143004) else (morainelaw01_WordTells.j2 k x4 x6 x8 x10 x11 x12 true x143000 x143001 x143002 x143003 x143004)) else (morainelaw01_WordTells.j2 k x4 x6 x8 x10 x11 x12 true x143000 x143001 x143002 x143003 x143004))) else (morainelaw01_WordTells.j2 k x4 x6 x8 x10 x11 x12 true x143000 x143001 x143002 x143003 x143004))) else (morainelaw01_WordTells.j2 k x4 x6 x8 x10 x11 x12 true x143000 x143001 x143002 x143003 x143004))) else (if x4 = 0 then (if x7 = true then (if x9 = true then (if x13 = true then (morainelaw01_WordTells.j2 k x4 x6 x8 x10 x11 x12 false x143000 x143001 x143002 x143003 x143004) else (if x10 = 0 then (if x11 = 0 then (morainelaw01_WordTells.j2 k x4 x6 x8 x10 x11 x12 (x12 != 0) x143000 x143001 x143002 x143003 x143004) else (morainelaw01_WordTells.j2 k x4 x6 x8 x10 x11 x12 true x143000 x143001 x143002 x143003 x143004)) else (morainelaw01_WordTells.j2 k x4 x6 x8 x10 x11 x12 true x143000 x143001 x143002 x143003 x143004))) else (if x8 = 0 then (if x13 = true then (morainelaw01_WordTells.j2 k x4 x6 x8 x10 x11 x12 false x143000 x143001 x143002 x143003 x143004) else (if x10 = 0 then (if x11 = 0 then (morainelaw01_WordTells.j2 k x4 x6 x8 x10 x11 x12 (x12 != 0) x143000 x143001 x143002 x143003 x143004) else (morainelaw01_WordTells.j2 k x4 x6 x8 x10 x11 x12 true x143000 x143001 x143002 x143003 x143004)) else (morainelaw01_WordTells.j2 k x4 x6 x8 x10 x11 x12 true x143000 x143001 x143002 x143003 x143004))) else (morainelaw01_WordTells.j2 k x4 x6 x8 x10 x11 x12 true x143000 x143001 x143002 x143003 x143004))) else (if x6 = 0 then (if x9 = true then (if x13 = true then (morainelaw01_WordTells.j2 k x4 x6 x8 x10 x11 x12 false x143000 x143001 x143002 x143003 x143004) else (if x10 = 0 then (if x11 = 0 then (morainelaw01_WordTells.j2 k x4 x6 x8 x10 x11 x12 (x12 != 0) x143000 x143001 x143002 x143003 x143004) else (morainelaw01_WordTells.j2 k x4 x6 x8 x10 x11 x12 true x143000 x143001 x143002 x143003 x143004)) else (morainelaw01_WordTells.j2 k x4 x6 x8 x10 x11 x12 true x143000 x143001 x143002 x143003 x143004))) else (if x8 = 0 then (if x13 = true then (morainelaw01_WordTells.j2 k x4 x6 x8 x10 x11 x12 false x143000 x143001 x143002 x143003 x143004) else (if x10 = 0 then (if x11 = 0 then (morainelaw01_WordTells.j2 k x4 x6 x8 x10 x11 x12 (x12 != 0) x143000 x143001 x143002 x143003 x143004) else (morainelaw01_WordTells.j2 k x4 x6 x8 x10 x11 x12 true x143000 x143001 x143002 x143003 x143004)) else (morainelaw01_WordTells.j2 k x4 x6 x8 x10 x11 x12 true x143000 x143001 x143002 x143003 x143004))) else (morainelaw01_WordTells.j2 k x4 x6 x8 x10 x11 x12 true x143000 x143001 x143002 x143003 x143004))) else (morainelaw01_WordTells.j2 k x4 x6 x8 x10 x11 x12 true x143000 x143001 x143002 x143003 x143004))) else (morainelaw01_WordTells.j2 k x4 x6 x8 x10 x11 x12 true x143000 x143001 x143002 x143003 x143004)))
def morainelaw01_WordTells.j2 : Nat → Int → Int → Int → Int → Int → Int → Bool → Int → Int → Int → Int → Int → Option (Bool)
  | 0, _, _, _, _, _, _, _, _, _, _, _, _ => none
  | k + 1, x4, x6, x8, x10, x11, x12, x122, x143000, x143001, x143002, x143003, x143004 => if x122 = true then (some false) else (if x143000 = 1 then (if x4 = x143003 then ((morainelaw01_awake.f).bind fun t156 => (some t156)) else (some false)) else (if x143000 = 2 then (if x8 = x143002 then ((morainelaw01_awake.f).bind fun t157 => (some t157)) else (some false)) else (if x143000 = 4 then (if (wrap64 (x6)) = x143002 then ((morainelaw01_awake.f).bind fun t158 => (some t158)) else (some false)) else (if x143000 = 5 then (if x10 = x143001 then (if x11 = x143002 then (if x12 = x143004 then ((morainelaw01_awake.f).bind fun t159 => (some t159)) else (some false)) else (some false)) else (some false)) else ((morainelaw01_awake.f).bind fun t160 => (some t160))))))
end
def morainelaw01_WordTells.f (k : Nat) (a0 : Int) : Option (Bool) := (moraineref01_Of.f k a0).bind fun bt137 => ((word_Int.f a0).bind fun bt143 => ((word_Rune.f a0).bind fun bt145 => ((word_Addr.f a0).bind fun bt147 => ((word_Head.f a0).bind fun bt149 => ((word_May.f a0).bind fun t153 => (if (t153 != (bt137.1 != 0)) = true then (morainelaw01_WordTells.j0 k bt143.1 bt143.2 bt145.1 bt145.2 bt147.1 bt147.2 bt149.1 bt149.2.1 bt149.2.2.1 bt149.2.2.2 true bt137.1 bt137.2.1 bt137.2.2.1 bt137.2.2.2.1 bt137.2.2.2.2) else ((word_Tag.f a0).bind fun t154 => (if t154 = (wrap64 (Int.tmod a0 8)) then ((word_Truth.f a0).bind fun t155 => (morainelaw01_WordTells.j0 k bt143.1 bt143.2 bt145.1 bt145.2 bt147.1 bt147.2 bt149.1 bt149.2.1 bt149.2.2.1 bt149.2.2.2 (t155 != (a0 != 4)) bt137.1 bt137.2.1 bt137.2.2.1 bt137.2.2.2.1 bt137.2.2.2.2)) else (morainelaw01_WordTells.j0 k bt143.1 bt143.2 bt145.1 bt145.2 bt147.1 bt147.2 bt149.1 bt149.2.1 bt149.2.2.1 bt149.2.2.2 true bt137.1 bt137.2.1 bt137.2.2.1 bt137.2.2.2.1 bt137.2.2.2.2)))))))))
theorem morainelaw01_WordTells.mono_l : ∀ k, (∀ y0 y1 y2 y3 y4 y5 y6 y7 y8 y9 y10 y11 y12 y13 y14 y15, LeO (morainelaw01_WordTells.j0 k y0 y1 y2 y3 y4 y5 y6 y7 y8 y9 y10 y11 y12 y13 y14 y15) (morainelaw01_WordTells.j0 (k + 1) y0 y1 y2 y3 y4 y5 y6 y7 y8 y9 y10 y11 y12 y13 y14 y15)) ∧ (∀ y0 y1 y2 y3 y4 y5 y6 y7 y8 y9 y10 y11 y12 y13 y14 y15, LeO (morainelaw01_WordTells.j1 k y0 y1 y2 y3 y4 y5 y6 y7 y8 y9 y10 y11 y12 y13 y14 y15) (morainelaw01_WordTells.j1 (k + 1) y0 y1 y2 y3 y4 y5 y6 y7 y8 y9 y10 y11 y12 y13 y14 y15)) ∧ (∀ y0 y1 y2 y3 y4 y5 y6 y7 y8 y9 y10 y11, LeO (morainelaw01_WordTells.j2 k y0 y1 y2 y3 y4 y5 y6 y7 y8 y9 y10 y11) (morainelaw01_WordTells.j2 (k + 1) y0 y1 y2 y3 y4 y5 y6 y7 y8 y9 y10 y11))
  | 0 => ⟨fun _ _ _ _ _ _ _ _ _ _ _ _ _ _ _ _ r h => by simp [morainelaw01_WordTells.j0] at h, fun _ _ _ _ _ _ _ _ _ _ _ _ _ _ _ _ r h => by simp [morainelaw01_WordTells.j1] at h, fun _ _ _ _ _ _ _ _ _ _ _ _ r h => by simp [morainelaw01_WordTells.j2] at h⟩
  | k + 1 => by
    obtain ⟨ih0, ih1, ih2⟩ := morainelaw01_WordTells.mono_l k
    refine ⟨?_, ?_, ?_⟩
    · intro y0 y1 y2 y3 y4 y5 y6 y7 y8 y9 y10 y11 y12 y13 y14 y15
      unfold morainelaw01_WordTells.j0
      repeat' first
      | (with_reducible exact ih0 _ _ _ _ _ _ _ _ _ _ _ _ _ _ _ _)
      | (with_reducible exact ih1 _ _ _ _ _ _ _ _ _ _ _ _ _ _ _ _)
      | (with_reducible exact ih2 _ _ _ _ _ _ _ _ _ _ _ _)
      | (with_reducible exact moraineref01_Of.mono _ _)
      | (with_reducible exact LeO.refl _)
      | (with_reducible exact LeO.none _)
      | (with_reducible refine LeO.ite ?_ ?_)
      | (with_reducible refine LeO.bind ?_ (fun _ => ?_))
      | exact ih0 _ _ _ _ _ _ _ _ _ _ _ _ _ _ _ _
      | exact ih1 _ _ _ _ _ _ _ _ _ _ _ _ _ _ _ _
      | exact ih2 _ _ _ _ _ _ _ _ _ _ _ _
      | exact moraineref01_Of.mono _ _
      | exact LeO.none _
      | refine LeO.ite ?_ ?_
      | refine LeO.bind ?_ (fun _ => ?_)
    · intro y0 y1 y2 y3 y4 y5 y6 y7 y8 y9 y10 y11 y12 y13 y14 y15
      unfold morainelaw01_WordTells.j1
      repeat' first
      | (with_reducible exact ih0 _ _ _ _ _ _ _ _ _ _ _ _ _ _ _ _)
      | (with_reducible exact ih1 _ _ _ _ _ _ _ _ _ _ _ _ _ _ _ _)
      | (with_reducible exact ih2 _ _ _ _ _ _ _ _ _ _ _ _)
      | (with_reducible exact moraineref01_Of.mono _ _)
      | (with_reducible exact LeO.refl _)
      | (with_reducible exact LeO.none _)
      | (with_reducible refine LeO.ite ?_ ?_)
      | (with_reducible refine LeO.bind ?_ (fun _ => ?_))
      | exact ih0 _ _ _ _ _ _ _ _ _ _ _ _ _ _ _ _
      | exact ih1 _ _ _ _ _ _ _ _ _ _ _ _ _ _ _ _
      | exact ih2 _ _ _ _ _ _ _ _ _ _ _ _
      | exact moraineref01_Of.mono _ _
      | exact LeO.none _
      | refine LeO.ite ?_ ?_
      | refine LeO.bind ?_ (fun _ => ?_)
    · intro y0 y1 y2 y3 y4 y5 y6 y7 y8 y9 y10 y11
      unfold morainelaw01_WordTells.j2
      repeat' first
      | (with_reducible exact ih0 _ _ _ _ _ _ _ _ _ _ _ _ _ _ _ _)
      | (with_reducible exact ih1 _ _ _ _ _ _ _ _ _ _ _ _ _ _ _ _)
      | (with_reducible exact ih2 _ _ _ _ _ _ _ _ _ _ _ _)
      | (with_reducible exact moraineref01_Of.mono _ _)
      | (with_reducible exact LeO.refl _)
      | (with_reducible exact LeO.none _)
      | (with_reducible refine LeO.ite ?_ ?_)
      | (with_reducible refine LeO.bind ?_ (fun _ => ?_))
      | exact ih0 _ _ _ _ _ _ _ _ _ _ _ _ _ _ _ _
      | exact ih1 _ _ _ _ _ _ _ _ _ _ _ _ _ _ _ _
      | exact ih2 _ _ _ _ _ _ _ _ _ _ _ _
      | exact moraineref01_Of.mono _ _
      | exact LeO.none _
      | refine LeO.ite ?_ ?_
      | refine LeO.bind ?_ (fun _ => ?_)
theorem morainelaw01_WordTells.mono : ∀ a0 k, LeO (morainelaw01_WordTells.f k a0) (morainelaw01_WordTells.f (k + 1) a0) := by
  intro a0 k
  obtain ⟨ih0, ih1, ih2⟩ := morainelaw01_WordTells.mono_l k
  unfold morainelaw01_WordTells.f
  repeat' first
      | (with_reducible exact ih0 _ _ _ _ _ _ _ _ _ _ _ _ _ _ _ _)
      | (with_reducible exact ih1 _ _ _ _ _ _ _ _ _ _ _ _ _ _ _ _)
      | (with_reducible exact ih2 _ _ _ _ _ _ _ _ _ _ _ _)
      | (with_reducible exact moraineref01_Of.mono _ _)
      | (with_reducible exact LeO.refl _)
      | (with_reducible exact LeO.none _)
      | (with_reducible refine LeO.ite ?_ ?_)
      | (with_reducible refine LeO.bind ?_ (fun _ => ?_))
      | exact ih0 _ _ _ _ _ _ _ _ _ _ _ _ _ _ _ _
      | exact ih1 _ _ _ _ _ _ _ _ _ _ _ _ _ _ _ _
      | exact ih2 _ _ _ _ _ _ _ _ _ _ _ _
      | exact moraineref01_Of.mono _ _
      | exact LeO.none _
      | refine LeO.ite ?_ ?_
      | refine LeO.bind ?_ (fun _ => ?_)
def morainelaw01_WordTells.T6 : Bool × List (List Nat × List Nat) := (true, [([], []), ([0], [0]), ([], []), ([2], [2]), ([3], [3]), ([1, 4], [1, 4]), ([5, 1], [5]), ([6], [6]), ([7, 6, 6], [6, 7]), ([6], [6]), ([9, 6], [6, 9]), ([10, 6], [6, 10]), ([8, 11, 6], [6, 8, 11]), ([6, 12], [6, 12]), ([13, 8], [13]), ([14], [14]), ([15, 14, 14], [14, 15]), ([14], [14]), ([17, 14], [14, 17]), ([16, 18, 14], [14, 16, 18]), ([14, 19], [14, 19])])
def morainelaw01_WordTells.B6 : List Nat := [0, 1, 0, 4, 12, 31, 63, 127, 255, 127, 639, 1663, 4095, 8191, 16383, 32767, 65535, 32767, 163839, 524287, 1048575]
theorem morainelaw01_WordTells.tab6 : rtab .any (opsOf Try.f7 6) = morainelaw01_WordTells.T6 := by kernel_rfl
theorem morainelaw01_WordTells.bits6 : waitsOk morainelaw01_WordTells.T6.2 morainelaw01_WordTells.B6 = true := by kernel_rfl
set_option maxHeartbeats 8000000 in
set_option maxRecDepth 100000 in
theorem morainelaw01_WordTells.calls (k : Nat) (a0 : Int) (r : Bool) (w : World) (h : morainelaw01_WordTells.f k a0 = some r) :
    Calls Try.prog 7 #[.int .u64 a0] w fun e w' => e = .returned (.bool r) ∧ Below w.heap.size w w' := by
  have hu30 := Try.underlying30
  have HB := Aside0.mk (Below.refl w.heap.size w)
  have H : ((moraineref01_Of.f k a0).bind fun bt137 => ((word_Int.f a0).bind fun bt143 => ((word_Rune.f a0).bind fun bt145 => ((word_Addr.f a0).bind fun bt147 => ((word_Head.f a0).bind fun bt149 => ((word_May.f a0).bind fun t153 => (if (t153 != (bt137.1 != 0)) = true then (morainelaw01_WordTells.j0 k bt143.1 bt143.2 bt145.1 bt145.2 bt147.1 bt147.2 bt149.1 bt149.2.1 bt149.2.2.1 bt149.2.2.2 true bt137.1 bt137.2.1 bt137.2.2.1 bt137.2.2.2.1 bt137.2.2.2.2) else ((word_Tag.f a0).bind fun t154 => (if t154 = (wrap64 (Int.tmod a0 8)) then ((word_Truth.f a0).bind fun t155 => (morainelaw01_WordTells.j0 k bt143.1 bt143.2 bt145.1 bt145.2 bt147.1 bt147.2 bt149.1 bt149.2.1 bt149.2.2.1 bt149.2.2.2 (t155 != (a0 != 4)) bt137.1 bt137.2.1 bt137.2.2.1 bt137.2.2.2.1 bt137.2.2.2.2)) else (morainelaw01_WordTells.j0 k bt143.1 bt143.2 bt145.1 bt145.2 bt147.1 bt147.2 bt149.1 bt149.2.1 bt149.2.2.1 bt149.2.2.2 true bt137.1 bt137.2.1 bt137.2.2.1 bt137.2.2.2.1 bt137.2.2.2.2)))))))))) = some r := h
  clear h
  replace H := Option.bind_eq_some_iff.mp H
  obtain ⟨⟨t137, t138, t139, t140, t141⟩, A20, H⟩ := H
  replace H : ((word_Int.f a0).bind fun bt143 => ((word_Rune.f a0).bind fun bt145 => ((word_Addr.f a0).bind fun bt147 => ((word_Head.f a0).bind fun bt149 => ((word_May.f a0).bind fun t153 => (if (t153 != (t137 != 0)) = true then (morainelaw01_WordTells.j0 k bt143.1 bt143.2 bt145.1 bt145.2 bt147.1 bt147.2 bt149.1 bt149.2.1 bt149.2.2.1 bt149.2.2.2 true t137 t138 t139 t140 t141) else ((word_Tag.f a0).bind fun t154 => (if t154 = (wrap64 (Int.tmod a0 8)) then ((word_Truth.f a0).bind fun t155 => (morainelaw01_WordTells.j0 k bt143.1 bt143.2 bt145.1 bt145.2 bt147.1 bt147.2 bt149.1 bt149.2.1 bt149.2.2.1 bt149.2.2.2 (t155 != (a0 != 4)) t137 t138 t139 t140 t141)) else (morainelaw01_WordTells.j0 k bt143.1 bt143.2 bt145.1 bt145.2 bt147.1 bt147.2 bt149.1 bt149.2.1 bt149.2.2.1 bt149.2.2.2 true t137 t138 t139 t140 t141))))))))) = some r := H
  have A2 := Aside0.mk A20
  clear A20
  replace H := Option.bind_eq_some_iff.mp H
  obtain ⟨⟨t143, t144⟩, A30, H⟩ := H
  replace H : ((word_Rune.f a0).bind fun bt145 => ((word_Addr.f a0).bind fun bt147 => ((word_Head.f a0).bind fun bt149 => ((word_May.f a0).bind fun t153 => (if (t153 != (t137 != 0)) = true then (morainelaw01_WordTells.j0 k t143 t144 bt145.1 bt145.2 bt147.1 bt147.2 bt149.1 bt149.2.1 bt149.2.2.1 bt149.2.2.2 true t137 t138 t139 t140 t141) else ((word_Tag.f a0).bind fun t154 => (if t154 = (wrap64 (Int.tmod a0 8)) then ((word_Truth.f a0).bind fun t155 => (morainelaw01_WordTells.j0 k t143 t144 bt145.1 bt145.2 bt147.1 bt147.2 bt149.1 bt149.2.1 bt149.2.2.1 bt149.2.2.2 (t155 != (a0 != 4)) t137 t138 t139 t140 t141)) else (morainelaw01_WordTells.j0 k t143 t144 bt145.1 bt145.2 bt147.1 bt147.2 bt149.1 bt149.2.1 bt149.2.2.1 bt149.2.2.2 true t137 t138 t139 t140 t141)))))))) = some r := H
  have A3 := Aside0.mk A30
  clear A30
  replace H := Option.bind_eq_some_iff.mp H
  obtain ⟨⟨t145, t146⟩, A40, H⟩ := H
  replace H : ((word_Addr.f a0).bind fun bt147 => ((word_Head.f a0).bind fun bt149 => ((word_May.f a0).bind fun t153 => (if (t153 != (t137 != 0)) = true then (morainelaw01_WordTells.j0 k t143 t144 t145 t146 bt147.1 bt147.2 bt149.1 bt149.2.1 bt149.2.2.1 bt149.2.2.2 true t137 t138 t139 t140 t141) else ((word_Tag.f a0).bind fun t154 => (if t154 = (wrap64 (Int.tmod a0 8)) then ((word_Truth.f a0).bind fun t155 => (morainelaw01_WordTells.j0 k t143 t144 t145 t146 bt147.1 bt147.2 bt149.1 bt149.2.1 bt149.2.2.1 bt149.2.2.2 (t155 != (a0 != 4)) t137 t138 t139 t140 t141)) else (morainelaw01_WordTells.j0 k t143 t144 t145 t146 bt147.1 bt147.2 bt149.1 bt149.2.1 bt149.2.2.1 bt149.2.2.2 true t137 t138 t139 t140 t141))))))) = some r := H
  have A4 := Aside0.mk A40
  clear A40
  replace H := Option.bind_eq_some_iff.mp H
  obtain ⟨⟨t147, t148⟩, A50, H⟩ := H
  replace H : ((word_Head.f a0).bind fun bt149 => ((word_May.f a0).bind fun t153 => (if (t153 != (t137 != 0)) = true then (morainelaw01_WordTells.j0 k t143 t144 t145 t146 t147 t148 bt149.1 bt149.2.1 bt149.2.2.1 bt149.2.2.2 true t137 t138 t139 t140 t141) else ((word_Tag.f a0).bind fun t154 => (if t154 = (wrap64 (Int.tmod a0 8)) then ((word_Truth.f a0).bind fun t155 => (morainelaw01_WordTells.j0 k t143 t144 t145 t146 t147 t148 bt149.1 bt149.2.1 bt149.2.2.1 bt149.2.2.2 (t155 != (a0 != 4)) t137 t138 t139 t140 t141)) else (morainelaw01_WordTells.j0 k t143 t144 t145 t146 t147 t148 bt149.1 bt149.2.1 bt149.2.2.1 bt149.2.2.2 true t137 t138 t139 t140 t141)))))) = some r := H
  have A5 := Aside0.mk A50
  clear A50
  replace H := Option.bind_eq_some_iff.mp H
  obtain ⟨⟨t149, t150, t151, t152⟩, A60, H⟩ := H
  replace H : ((word_May.f a0).bind fun t153 => (if (t153 != (t137 != 0)) = true then (morainelaw01_WordTells.j0 k t143 t144 t145 t146 t147 t148 t149 t150 t151 t152 true t137 t138 t139 t140 t141) else ((word_Tag.f a0).bind fun t154 => (if t154 = (wrap64 (Int.tmod a0 8)) then ((word_Truth.f a0).bind fun t155 => (morainelaw01_WordTells.j0 k t143 t144 t145 t146 t147 t148 t149 t150 t151 t152 (t155 != (a0 != 4)) t137 t138 t139 t140 t141)) else (morainelaw01_WordTells.j0 k t143 t144 t145 t146 t147 t148 t149 t150 t151 t152 true t137 t138 t139 t140 t141))))) = some r := H
  have A6 := Aside0.mk A60
  clear A60
  have HC7 := Aside0.mk H
  clear H
  go_enter Try.func7, Try.ntmps7
  go_upto_region 6 with (first | ((with_reducible refine gate_callee (f := 19) rfl ?_); refine goesL_ (some 15) rfl rfl Try.func19 (by kernel_rfl) rfl #[.int .u64 a0] rfl (by (try simp only [List.map_toArray, List.map_cons, List.map_nil]); first | done | rfl | (simp only [List.length_drop, List.length_take]; rfl)) ?_; (with_reducible refine (moraineref01_Of.calls k a0 t137 t138 t139 t140 t141 _ A2.out).mono ?_); rintro e w8 ⟨rfl, hb⟩; refine ⟨_, rfl, ?_⟩; have n0_ := Aside0.mk (below_step (by repeat (first | (with_reducible first | exact HB.out | apply below_alloc | apply pw_below_drewN | apply below_drew1) | exact HB.out)) hb); clear HB; have HB := n0_; clear n0_; (try clear hb); (try clear hb2); (try clear hk); (try clear hi)) | ((with_reducible refine gate_dst (N := 3) rfl ?_); refine box_event ?hg (N := 3) ?hd (cs := #[.int .i64 0, .int .i64 0, .int .i64 0, .int .i64 0, .int .u64 0]) (t := 30) ?hr ?_; (case hd => rfl); (case hg => rfl); (case hr => first | (go_simp; done) | (go_simp; rfl)); intro gb142 hg w9 hbox hb; have n0_ := Aside0.mk (below_step (by repeat (first | (with_reducible first | exact HB.out | apply below_alloc | apply pw_below_drewN | apply below_drew1) | exact HB.out)) hb); have n1_ := Aside0.mk (hbox); have n2_ := Aside0.mk ((by rw [hg]; exact (below_size (by repeat (first | (with_reducible first | exact HB.out | apply below_alloc | apply pw_below_drewN | apply below_drew1) | exact HB.out))) : w.heap.size ≤ gb142)); have n3_ := Aside0.mk ((by rw [hg]; exact (below_size (by repeat (first | (with_reducible first | exact HB.out | apply below_alloc | apply pw_below_drewN | apply below_drew1) | exact HB.out))) : w.heap.size ≤ gb142)); clear HB; have HB := n0_; have BK142 := n1_; have GW142 := n2_; have GE142 := n3_; clear n0_ n1_ n2_ n3_; clear hb hbox hg; have hcz10_0 : w9.cell? ⟨gb142, 0, none⟩ = some (.int .i64 0) := (blk_cell BK142.out 0).trans rfl; have hcz10_1 : w9.cell? ⟨gb142, 1, none⟩ = some (.int .i64 0) := (blk_cell BK142.out 1).trans rfl; have hcz10_2 : w9.cell? ⟨gb142, 2, none⟩ = some (.int .i64 0) := (blk_cell BK142.out 2).trans rfl; have hcz10_3 : w9.cell? ⟨gb142, 3, none⟩ = some (.int .i64 0) := (blk_cell BK142.out 3).trans rfl; have hcz10_4 : w9.cell? ⟨gb142, 4, none⟩ = some (.int .u64 0) := (blk_cell BK142.out 4).trans rfl; have hfz10_0 := blk_frozen BK142.out 0; have hfz10_1 := blk_frozen BK142.out 1; have hfz10_2 := blk_frozen BK142.out 2; have hfz10_3 := blk_frozen BK142.out 3; have hfz10_4 := blk_frozen BK142.out 4) | ((with_reducible refine gate_callee (f := 20) rfl ?_); refine goesL_ (some 18) rfl rfl Try.func20 (by kernel_rfl) rfl #[.int .u64 a0] rfl (by (try simp only [List.map_toArray, List.map_cons, List.map_nil]); first | done | rfl | (simp only [List.length_drop, List.length_take]; rfl)) ?_; (with_reducible refine (word_Int.calls a0 t143 t144 _ A3.out).mono ?_); rintro e w' ⟨rfl, ⟨nd, rfl⟩⟩; refine ⟨_, rfl, ?_⟩) | ((with_reducible refine gate_callee (f := 21) rfl ?_); refine goesL_ (some 23) rfl rfl Try.func21 (by kernel_rfl) rfl #[.int .u64 a0] rfl (by (try simp only [List.map_toArray, List.map_cons, List.map_nil]); first | done | rfl | (simp only [List.length_drop, List.length_take]; rfl)) ?_; (with_reducible refine (word_Rune.calls a0 t145 t146 _ A4.out).mono ?_); rintro e w11 ⟨rfl, hb⟩; refine ⟨_, rfl, ?_⟩; have n0_ := Aside0.mk (blk_below (g := gb142) (o := .cells #[.int .i64 t137, .int .i64 t138, .int .i64 t139, .int .i64 t140, .int .u64 t141] 30 (0, 0)) (by (with_reducible repeat (first | refine blk_drewN ?_ _ | refine blk_drew ?_ | refine blk_alloc ?_ _)); refine blk_put (cs := #[.int .i64 t137, .int .i64 t138, .int .i64 t139, .int .i64 t140, .int .u64 0]) ?_ 4 _ rfl; (with_reducible repeat (first | refine blk_drewN ?_ _ | refine blk_drew ?_ | refine blk_alloc ?_ _)); refine blk_put (cs := #[.int .i64 t137, .int .i64 t138, .int .i64 t139, .int .i64 0, .int .u64 0]) ?_ 3 _ rfl; (with_reducible repeat (first | refine blk_drewN ?_ _ | refine blk_drew ?_ | refine blk_alloc ?_ _)); refine blk_put (cs := #[.int .i64 t137, .int .i64 t138, .int .i64 0, .int .i64 0, .int .u64 0]) ?_ 2 _ rfl; (with_reducible repeat (first | refine blk_drewN ?_ _ | refine blk_drew ?_ | refine blk_alloc ?_ _)); refine blk_put (cs := #[.int .i64 t137, .int .i64 0, .int .i64 0, .int .i64 0, .int .u64 0]) ?_ 1 _ rfl; (with_reducible repeat (first | refine blk_drewN ?_ _ | refine blk_drew ?_ | refine blk_alloc ?_ _)); refine blk_put (cs := #[.int .i64 0, .int .i64 0, .int .i64 0, .int .i64 0, .int .u64 0]) ?_ 0 _ rfl; (with_reducible repeat (first | refine blk_drewN ?_ _ | refine blk_drew ?_ | refine blk_alloc ?_ _)); exact BK142.out) hb); have n1_ := Aside0.mk (below_step (by repeat (first | (with_reducible first | exact HB.out | apply below_alloc | apply pw_below_drewN | apply below_drew1 | refine below_set ?_ GE142.out) | exact HB.out)) hb); clear BK142; clear HB; have BK142 := n0_; have HB := n1_; clear n0_ n1_; (try clear hb); (try clear hb2); (try clear hk); (try clear hi)) | ((with_reducible refine gate_callee (f := 22) rfl ?_); refine goesL_ (some 28) rfl rfl Try.func22 (by kernel_rfl) rfl #[.int .u64 a0] rfl (by (try simp only [List.map_toArray, List.map_cons, List.map_nil]); first | done | rfl | (simp only [List.length_drop, List.length_take]; rfl)) ?_; (with_reducible refine (word_Addr.calls a0 t147 t148 _ A5.out).mono ?_); rintro e w12 ⟨rfl, hb⟩; refine ⟨_, rfl, ?_⟩; have n0_ := Aside0.mk (blk_below (g := gb142) (o := .cells #[.int .i64 t137, .int .i64 t138, .int .i64 t139, .int .i64 t140, .int .u64 t141] 30 (0, 0)) (by (with_reducible repeat (first | refine blk_drewN ?_ _ | refine blk_drew ?_ | refine blk_alloc ?_ _)); exact BK142.out) hb); have n1_ := Aside0.mk (below_step (by repeat (first | (with_reducible first | exact HB.out | apply below_alloc | apply pw_below_drewN | apply below_drew1 | refine below_set ?_ GE142.out) | exact HB.out)) hb); clear BK142; clear HB; have BK142 := n0_; have HB := n1_; clear n0_ n1_; (try clear hb); (try clear hb2); (try clear hk); (try clear hi)) | ((with_reducible refine gate_callee (f := 23) rfl ?_); refine goesL_ (some 33) rfl rfl Try.func23 (by kernel_rfl) rfl #[.int .u64 a0] rfl (by (try simp only [List.map_toArray, List.map_cons, List.map_nil]); first | done | rfl | (simp only [List.length_drop, List.length_take]; rfl)) ?_; (with_reducible refine (word_Head.calls a0 t149 t150 t151 t152 _ A6.out).mono ?_); rintro e w13 ⟨rfl, hb⟩; refine ⟨_, rfl, ?_⟩; have n0_ := Aside0.mk (blk_below (g := gb142) (o := .cells #[.int .i64 t137, .int .i64 t138, .int .i64 t139, .int .i64 t140, .int .u64 t141] 30 (0, 0)) (by (with_reducible repeat (first | refine blk_drewN ?_ _ | refine blk_drew ?_ | refine blk_alloc ?_ _)); exact BK142.out) hb); have n1_ := Aside0.mk (below_step (by repeat (first | (with_reducible first | exact HB.out | apply below_alloc | apply pw_below_drewN | apply below_drew1 | refine below_set ?_ GE142.out) | exact HB.out)) hb); clear BK142; clear HB; have BK142 := n0_; have HB := n1_; clear n0_ n1_; (try clear hb); (try clear hb2); (try clear hk); (try clear hi)))
  (try simp only [Act.put, List.setIfInBounds_toArray, List.set_cons_zero, List.set_cons_succ])
  go_cut [58] (fun v58 wc => ∃ (kq : Nat) (x58_6 : Bool), v58 = .bool x58_6 ∧ Aside0 (morainelaw01_WordTells.j0 kq t143 t144 t145 t146 t147 t148 t149 t150 t151 t152 x58_6 t137 t138 t139 t140 t141 = some r) ∧ Aside0 (kq ≤ k) ∧ Aside0 (wc.heap[gb142]? = some (.cells #[.int .i64 t137, .int .i64 t138, .int .i64 t139, .int .i64 t140, .int .u64 t141] 30 (0, 0))) ∧ Aside0 (Below w.heap.size w wc))
  case first => as_aux_lemma =>
    have H := HC7.out
    clear HC7
    replace H := Option.bind_eq_some_iff.mp H
    obtain ⟨t153, A140, H⟩ := H
    replace H : (if (t153 != (t137 != 0)) = true then (morainelaw01_WordTells.j0 k t143 t144 t145 t146 t147 t148 t149 t150 t151 t152 true t137 t138 t139 t140 t141) else ((word_Tag.f a0).bind fun t154 => (if t154 = (wrap64 (Int.tmod a0 8)) then ((word_Truth.f a0).bind fun t155 => (morainelaw01_WordTells.j0 k t143 t144 t145 t146 t147 t148 t149 t150 t151 t152 (t155 != (a0 != 4)) t137 t138 t139 t140 t141)) else (morainelaw01_WordTells.j0 k t143 t144 t145 t146 t147 t148 t149 t150 t151 t152 true t137 t138 t139 t140 t141)))) = some r := H
    have A14 := Aside0.mk A140
    clear A140
    by_cases c15 : (t153 != (t137 != 0)) = true
    · rw [if_pos c15] at H
      have c15b0 : (t153 != (t137 != 0)) = true := c15
      (try (have c15b1 : decide (t153 = (t137 != 0)) = false := by simpa using c15))
      (try (have c15b2 : (t153 == (t137 != 0)) = false := by simpa using c15))
      (try (have c15b3 : ¬ (t153 = (t137 != 0)) := by simpa using c15))
      clear c15
      (first | rw [c15b0] | (simp only [i64_w, i32_w]; rw [c15b0]) | skip)
      have H' := Aside0.mk H
      clear H
      try go_wp2
      have n0_ := Aside0.mk (blk_drew BK142.out)
      have n1_ := Aside0.mk (below_drew1 HB.out)
      clear BK142
      clear HB
      have BK142 := n0_
      have HB := n1_
      clear n0_ n1_
      refine start_ (n := 21) (S := fun w' => w'.cell? ⟨gb142, 0, none⟩ = some (.int .i64 t137) ∧ w'.cell? ⟨gb142, 1, none⟩ = some (.int .i64 t138) ∧ w'.cell? ⟨gb142, 2, none⟩ = some (.int .i64 t139) ∧ w'.cell? ⟨gb142, 3, none⟩ = some (.int .i64 t140) ∧ w'.cell? ⟨gb142, 4, none⟩ = some (.int .u64 t141)) (ds := []) #[false, false, false, false, false, false, false, false, false, false, false, false, false, false, false, false, false, false, false, false, false] (by kernel_rfl) rfl rfl ⟨(blk_cell BK142.out 0).trans rfl, (blk_cell BK142.out 1).trans rfl, (blk_cell BK142.out 2).trans rfl, (blk_cell BK142.out 3).trans rfl, (blk_cell BK142.out 4).trans rfl⟩ (fun hHeld => ?_); refine with_tabW morainelaw01_WordTells.tab6 morainelaw01_WordTells.bits6 (fun HT_ HW_ => ?_)
      generalize w13.drew = w16 at BK142 HB hHeld ⊢
      refine pure_ (i := 0) (N := some 38) (v := ?_) (a' := ?_) #[true, false, false, false, false, false, false, false, false, false, false, false, false, false, false, false, false, false, false, false, false] rfl rfl (any_of HT_.out (by kernel_rfl)) (fun _ _ _ h => h) (Or.inl ⟨by rfl, ?_⟩) ?_ ?_
      rotate_left
      · intro w'
        go_simp
        with_reducible rfl
      rotate_left
      · simp only [Act.put, List.setIfInBounds_toArray, List.set_cons_zero, List.set_cons_succ, i64_w, i32_w]
        rfl
      refine pure_ (i := 2) (N := some 40) (v := ?_) (a' := ?_) #[true, false, true, false, false, false, false, false, false, false, false, false, false, false, false, false, false, false, false, false, false] rfl rfl (any_of HT_.out (by kernel_rfl)) (fun _ _ _ h => h) (Or.inl ⟨by rfl, ?_⟩) ?_ ?_
      rotate_left
      · intro w'
        go_simp
        with_reducible rfl
      rotate_left
      · simp only [Act.put, List.setIfInBounds_toArray, List.set_cons_zero, List.set_cons_succ, i64_w, i32_w]
        rfl
      refine take_ (i := 3) (N := some 41) (v := ?_) (a' := ?_) #[true, false, true, true, false, false, false, false, false, false, false, false, false, false, false, false, false, false, false, false, false] rfl rfl (take_ofW HT_.out HW_.out (by kernel_rfl)) (fun _ _ _ h => h) (Or.inl ⟨by rfl, ?_⟩) hHeld ?_ ?_
      rotate_left
      · rintro w' ⟨s0, s1, s2, s3, s4⟩
        go_simp
        with_reducible rfl
      rotate_left
      · simp only [Act.put, List.setIfInBounds_toArray, List.set_cons_zero, List.set_cons_succ, i64_w, i32_w]
        rfl
      refine pure_ (i := 4) (N := some 42) (v := ?_) (a' := ?_) #[true, false, true, true, true, false, false, false, false, false, false, false, false, false, false, false, false, false, false, false, false] rfl rfl (any_of HT_.out (by kernel_rfl)) (fun _ _ _ h => h) (Or.inl ⟨by rfl, ?_⟩) ?_ ?_
      rotate_left
      · intro w'
        go_simp
        with_reducible rfl
      rotate_left
      · simp only [Act.put, List.setIfInBounds_toArray, List.set_cons_zero, List.set_cons_succ, i64_w, i32_w]
        rfl
      refine one_ (i := 1) (N := some 39) #[true, true, true, true, true, false, false, false, false, false, false, false, false, false, false, false, false, false, false, false, false] rfl rfl (one_of HT_.out (by kernel_rfl)) (by decide) (fun K hK => ?_)
      refine goes_ Try.func18 (by kernel_rfl) rfl #[.int .u64 a0] (by rfl) rfl rfl (by (try simp only [List.map_toArray, List.map_cons, List.map_nil]); first | done | rfl | (simp only [List.length_drop, List.length_take]; rfl)) ?_
      with_reducible refine (word_May.calls a0 t153 _ A14.out).mono ?_
      rintro e w17 ⟨rfl, hb⟩
      refine ⟨_, rfl, ?_⟩
      have n0_ := Aside0.mk (blk_below (g := gb142) (o := .cells #[.int .i64 t137, .int .i64 t138, .int .i64 t139, .int .i64 t140, .int .u64 t141] 30 (0, 0)) (by (with_reducible repeat (first | refine blk_drewN ?_ _ | refine blk_drew ?_ | refine blk_alloc ?_ _)); exact BK142.out) hb)
      have n1_ := Aside0.mk (below_step (by repeat (first | (with_reducible first | exact HB.out | apply below_alloc | apply pw_below_drewN | apply below_drew1 | refine below_set ?_ GE142.out) | exact HB.out)) hb)
      clear BK142
      clear HB
      have BK142 := n0_
      have HB := n1_
      clear n0_ n1_
      (try clear hb)
      (try clear hb2)
      (try clear hk)
      (try clear hi)
      refine hK.out _ _ ⟨(blk_cell BK142.out 0).trans rfl, (blk_cell BK142.out 1).trans rfl, (blk_cell BK142.out 2).trans rfl, (blk_cell BK142.out 3).trans rfl, (blk_cell BK142.out 4).trans rfl⟩ (fun hHeld => ?_)
      clear hK K
      refine norm_ (a' := ?_) ?_ ?_
      rotate_left
      · show Act.put _ (some 39) _ = _
        simp only [Act.put, List.setIfInBounds_toArray, List.set_cons_zero, List.set_cons_succ, i64_w, i32_w]
        rfl
      refine pure_ (i := 5) (N := some 43) (v := ?_) (a' := ?_) #[true, true, true, true, true, true, false, false, false, false, false, false, false, false, false, false, false, false, false, false, false] rfl rfl (any_of HT_.out (by kernel_rfl)) (fun _ _ _ h => h) (Or.inl ⟨by rfl, ?_⟩) ?_ ?_
      rotate_left
      · intro w'
        go_simp
        with_reducible rfl
      rotate_left
      · simp only [Act.put, List.setIfInBounds_toArray, List.set_cons_zero, List.set_cons_succ, i64_w, i32_w]
        rfl
      refine pure_ (i := 6) (N := some 44) (v := ?_) (a' := ?_) #[true, true, true, true, true, true, true, false, false, false, false, false, false, false, false, false, false, false, false, false, false] rfl rfl (any_of HT_.out (by kernel_rfl)) (fun _ _ _ h => h) (Or.inl ⟨by rfl, ?_⟩) ?_ ?_
      rotate_left
      · intro w'
        go_simp
        with_reducible rfl
      rotate_left
      · simp only [Act.put, List.setIfInBounds_toArray, List.set_cons_zero, List.set_cons_succ, i64_w, i32_w]
        rfl
      refine pure_ (i := 7) (N := some 45) (v := undef) (a' := ?_) #[true, true, true, true, true, true, true, true, false, false, false, false, false, false, false, false, false, false, false, false, false] rfl rfl (any_of HT_.out (by kernel_rfl)) (fun _ _ _ h => h) (Or.inr ⟨by rfl, rfl⟩) ?_ ?_
      rotate_left
      · simp only [Act.put, List.setIfInBounds_toArray, List.set_cons_zero, List.set_cons_succ, i64_w, i32_w]
        rfl
      refine pure_ (i := 8) (N := some 46) (v := undef) (a' := ?_) #[true, true, true, true, true, true, true, true, true, false, false, false, false, false, false, false, false, false, false, false, false] rfl rfl (any_of HT_.out (by kernel_rfl)) (fun _ _ _ h => h) (Or.inr ⟨by rfl, rfl⟩) ?_ ?_
      rotate_left
      · simp only [Act.put, List.setIfInBounds_toArray, List.set_cons_zero, List.set_cons_succ, i64_w, i32_w]
        rfl
      refine pure_ (i := 9) (N := some 47) (v := undef) (a' := ?_) #[true, true, true, true, true, true, true, true, true, true, false, false, false, false, false, false, false, false, false, false, false] rfl rfl (any_of HT_.out (by kernel_rfl)) (fun _ _ _ h => h) (Or.inr ⟨by rfl, rfl⟩) ?_ ?_
      rotate_left
      · simp only [Act.put, List.setIfInBounds_toArray, List.set_cons_zero, List.set_cons_succ, i64_w, i32_w]
        rfl
      refine pure_ (i := 10) (N := some 48) (v := undef) (a' := ?_) #[true, true, true, true, true, true, true, true, true, true, true, false, false, false, false, false, false, false, false, false, false] rfl rfl (any_of HT_.out (by kernel_rfl)) (fun _ _ _ h => h) (Or.inr ⟨by rfl, rfl⟩) ?_ ?_
      rotate_left
      · simp only [Act.put, List.setIfInBounds_toArray, List.set_cons_zero, List.set_cons_succ, i64_w, i32_w]
        rfl
      refine pure_ (i := 11) (N := some 49) (v := undef) (a' := ?_) #[true, true, true, true, true, true, true, true, true, true, true, true, false, false, false, false, false, false, false, false, false] rfl rfl (any_of HT_.out (by kernel_rfl)) (fun _ _ _ h => h) (Or.inr ⟨by rfl, rfl⟩) ?_ ?_
      rotate_left
      · simp only [Act.put, List.setIfInBounds_toArray, List.set_cons_zero, List.set_cons_succ, i64_w, i32_w]
        rfl
      refine pure_ (i := 12) (N := some 50) (v := undef) (a' := ?_) #[true, true, true, true, true, true, true, true, true, true, true, true, true, false, false, false, false, false, false, false, false] rfl rfl (any_of HT_.out (by kernel_rfl)) (fun _ _ _ h => h) (Or.inr ⟨by rfl, rfl⟩) ?_ ?_
      rotate_left
      · simp only [Act.put, List.setIfInBounds_toArray, List.set_cons_zero, List.set_cons_succ, i64_w, i32_w]
        rfl
      refine pure_ (i := 13) (N := some 51) (v := ?_) (a' := ?_) #[true, true, true, true, true, true, true, true, true, true, true, true, true, true, false, false, false, false, false, false, false] rfl rfl (any_of HT_.out (by kernel_rfl)) (fun _ _ _ h => h) (Or.inl ⟨by rfl, ?_⟩) ?_ ?_
      rotate_left
      · intro w'
        go_simp
        with_reducible rfl
      rotate_left
      · simp only [Act.put, List.setIfInBounds_toArray, List.set_cons_zero, List.set_cons_succ, i64_w, i32_w]
        rfl
      refine pure_ (i := 14) (N := some 52) (v := ?_) (a' := ?_) #[true, true, true, true, true, true, true, true, true, true, true, true, true, true, true, false, false, false, false, false, false] rfl rfl (any_of HT_.out (by kernel_rfl)) (fun _ _ _ h => h) (Or.inl ⟨by rfl, ?_⟩) ?_ ?_
      rotate_left
      · intro w'
        go_simp
        with_reducible rfl
      rotate_left
      · simp only [Act.put, List.setIfInBounds_toArray, List.set_cons_zero, List.set_cons_succ, i64_w, i32_w]
        rfl
      refine pure_ (i := 15) (N := some 53) (v := undef) (a' := ?_) #[true, true, true, true, true, true, true, true, true, true, true, true, true, true, true, true, false, false, false, false, false] rfl rfl (any_of HT_.out (by kernel_rfl)) (fun _ _ _ h => h) (Or.inr ⟨by rfl, rfl⟩) ?_ ?_
      rotate_left
      · simp only [Act.put, List.setIfInBounds_toArray, List.set_cons_zero, List.set_cons_succ, i64_w, i32_w]
        rfl
      refine pure_ (i := 16) (N := some 54) (v := undef) (a' := ?_) #[true, true, true, true, true, true, true, true, true, true, true, true, true, true, true, true, true, false, false, false, false] rfl rfl (any_of HT_.out (by kernel_rfl)) (fun _ _ _ h => h) (Or.inr ⟨by rfl, rfl⟩) ?_ ?_
      rotate_left
      · simp only [Act.put, List.setIfInBounds_toArray, List.set_cons_zero, List.set_cons_succ, i64_w, i32_w]
        rfl
      refine pure_ (i := 17) (N := some 55) (v := undef) (a' := ?_) #[true, true, true, true, true, true, true, true, true, true, true, true, true, true, true, true, true, true, false, false, false] rfl rfl (any_of HT_.out (by kernel_rfl)) (fun _ _ _ h => h) (Or.inr ⟨by rfl, rfl⟩) ?_ ?_
      rotate_left
      · simp only [Act.put, List.setIfInBounds_toArray, List.set_cons_zero, List.set_cons_succ, i64_w, i32_w]
        rfl
      refine pure_ (i := 18) (N := some 56) (v := undef) (a' := ?_) #[true, true, true, true, true, true, true, true, true, true, true, true, true, true, true, true, true, true, true, false, false] rfl rfl (any_of HT_.out (by kernel_rfl)) (fun _ _ _ h => h) (Or.inr ⟨by rfl, rfl⟩) ?_ ?_
      rotate_left
      · simp only [Act.put, List.setIfInBounds_toArray, List.set_cons_zero, List.set_cons_succ, i64_w, i32_w]
        rfl
      refine pure_ (i := 19) (N := some 57) (v := undef) (a' := ?_) #[true, true, true, true, true, true, true, true, true, true, true, true, true, true, true, true, true, true, true, true, false] rfl rfl (any_of HT_.out (by kernel_rfl)) (fun _ _ _ h => h) (Or.inr ⟨by rfl, rfl⟩) ?_ ?_
      rotate_left
      · simp only [Act.put, List.setIfInBounds_toArray, List.set_cons_zero, List.set_cons_succ, i64_w, i32_w]
        rfl
      refine pure_ (i := 20) (N := some 58) (v := ?_) (a' := ?_) #[true, true, true, true, true, true, true, true, true, true, true, true, true, true, true, true, true, true, true, true, true] rfl rfl (any_of HT_.out (by kernel_rfl)) (fun _ _ _ h => h) (Or.inl ⟨by rfl, ?_⟩) ?_ ?_
      rotate_left
      · intro w'
        go_simp
        with_reducible rfl
      rotate_left
      · simp only [Act.put, List.setIfInBounds_toArray, List.set_cons_zero, List.set_cons_succ, i64_w, i32_w]
        rfl
      refine done_ (done_of HT_.out (by kernel_rfl)) ?_
      try go_wp2
      go_meet
      case rel => exact ⟨_, (true), (by first | rfl | (simp; done) | (simp [*]; done)), H', ⟨by first | omega | exact Nat.le_refl _⟩, ⟨by (with_reducible repeat (first | refine blk_drewN ?_ _ | refine blk_drew ?_ | refine blk_alloc ?_ _)); exact BK142.out⟩, ⟨by repeat (first | (with_reducible first | exact HB.out | apply below_alloc | apply pw_below_drewN | apply below_drew1 | refine below_set ?_ GE142.out) | exact HB.out)⟩⟩
    · rw [if_neg c15] at H
      have c15b0 : (t153 != (t137 != 0)) = false := by simpa using c15
      (try (have c15b1 : decide (t153 = (t137 != 0)) = true := by simpa using c15))
      (try (have c15b2 : (t153 == (t137 != 0)) = true := by simpa using c15))
      clear c15
      (first | rw [c15b0] | (simp only [i64_w, i32_w]; rw [c15b0]) | skip)
      replace H := Option.bind_eq_some_iff.mp H
      obtain ⟨t154, A180, H⟩ := H
      replace H : (if t154 = (wrap64 (Int.tmod a0 8)) then ((word_Truth.f a0).bind fun t155 => (morainelaw01_WordTells.j0 k t143 t144 t145 t146 t147 t148 t149 t150 t151 t152 (t155 != (a0 != 4)) t137 t138 t139 t140 t141)) else (morainelaw01_WordTells.j0 k t143 t144 t145 t146 t147 t148 t149 t150 t151 t152 true t137 t138 t139 t140 t141)) = some r := H
      have A18 := Aside0.mk A180
      clear A180
      by_cases c19 : t154 = (wrap64 (Int.tmod a0 8))
      · rw [if_pos c19] at H
        have c19b0 : (t154 == (wrap64 (Int.tmod a0 8))) = true := beq_iff_eq.mpr c19
        have c19b1 : (t154 != (wrap64 (Int.tmod a0 8))) = false := bne_eq_false_iff_eq.mpr c19
        clear c19
        replace H := Option.bind_eq_some_iff.mp H
        obtain ⟨t155, A200, H⟩ := H
        replace H : (morainelaw01_WordTells.j0 k t143 t144 t145 t146 t147 t148 t149 t150 t151 t152 (t155 != (a0 != 4)) t137 t138 t139 t140 t141) = some r := H
        have A20 := Aside0.mk A200
        clear A200
        have H' := Aside0.mk H
        clear H
        try go_wp2
        have n0_ := Aside0.mk (blk_drew BK142.out)
        have n1_ := Aside0.mk (below_drew1 HB.out)
        clear BK142
        clear HB
        have BK142 := n0_
        have HB := n1_
        clear n0_ n1_
        refine start_ (n := 21) (S := fun w' => w'.cell? ⟨gb142, 0, none⟩ = some (.int .i64 t137) ∧ w'.cell? ⟨gb142, 1, none⟩ = some (.int .i64 t138) ∧ w'.cell? ⟨gb142, 2, none⟩ = some (.int .i64 t139) ∧ w'.cell? ⟨gb142, 3, none⟩ = some (.int .i64 t140) ∧ w'.cell? ⟨gb142, 4, none⟩ = some (.int .u64 t141)) (ds := []) #[false, false, false, false, false, false, false, false, false, false, false, false, false, false, false, false, false, false, false, false, false] (by kernel_rfl) rfl rfl ⟨(blk_cell BK142.out 0).trans rfl, (blk_cell BK142.out 1).trans rfl, (blk_cell BK142.out 2).trans rfl, (blk_cell BK142.out 3).trans rfl, (blk_cell BK142.out 4).trans rfl⟩ (fun hHeld => ?_); refine with_tabW morainelaw01_WordTells.tab6 morainelaw01_WordTells.bits6 (fun HT_ HW_ => ?_)
        generalize w13.drew = w21 at BK142 HB hHeld ⊢
        refine pure_ (i := 0) (N := some 38) (v := ?_) (a' := ?_) #[true, false, false, false, false, false, false, false, false, false, false, false, false, false, false, false, false, false, false, false, false] rfl rfl (any_of HT_.out (by kernel_rfl)) (fun _ _ _ h => h) (Or.inl ⟨by rfl, ?_⟩) ?_ ?_
        rotate_left
        · intro w'
          go_simp
          with_reducible rfl
        rotate_left
        · simp only [Act.put, List.setIfInBounds_toArray, List.set_cons_zero, List.set_cons_succ, i64_w, i32_w]
          rfl
        refine pure_ (i := 2) (N := some 40) (v := ?_) (a' := ?_) #[true, false, true, false, false, false, false, false, false, false, false, false, false, false, false, false, false, false, false, false, false] rfl rfl (any_of HT_.out (by kernel_rfl)) (fun _ _ _ h => h) (Or.inl ⟨by rfl, ?_⟩) ?_ ?_
        rotate_left
        · intro w'
          go_simp
          with_reducible rfl
        rotate_left
        · simp only [Act.put, List.setIfInBounds_toArray, List.set_cons_zero, List.set_cons_succ, i64_w, i32_w]
          rfl
        refine take_ (i := 3) (N := some 41) (v := ?_) (a' := ?_) #[true, false, true, true, false, false, false, false, false, false, false, false, false, false, false, false, false, false, false, false, false] rfl rfl (take_ofW HT_.out HW_.out (by kernel_rfl)) (fun _ _ _ h => h) (Or.inl ⟨by rfl, ?_⟩) hHeld ?_ ?_
        rotate_left
        · rintro w' ⟨s0, s1, s2, s3, s4⟩
          go_simp
          with_reducible rfl
        rotate_left
        · simp only [Act.put, List.setIfInBounds_toArray, List.set_cons_zero, List.set_cons_succ, i64_w, i32_w]
          rfl
        refine pure_ (i := 4) (N := some 42) (v := ?_) (a' := ?_) #[true, false, true, true, true, false, false, false, false, false, false, false, false, false, false, false, false, false, false, false, false] rfl rfl (any_of HT_.out (by kernel_rfl)) (fun _ _ _ h => h) (Or.inl ⟨by rfl, ?_⟩) ?_ ?_
        rotate_left
        · intro w'
          go_simp
          with_reducible rfl
        rotate_left
        · simp only [Act.put, List.setIfInBounds_toArray, List.set_cons_zero, List.set_cons_succ, i64_w, i32_w]
          rfl
        refine one_ (i := 1) (N := some 39) #[true, true, true, true, true, false, false, false, false, false, false, false, false, false, false, false, false, false, false, false, false] rfl rfl (one_of HT_.out (by kernel_rfl)) (by decide) (fun K hK => ?_)
        refine goes_ Try.func18 (by kernel_rfl) rfl #[.int .u64 a0] (by rfl) rfl rfl (by (try simp only [List.map_toArray, List.map_cons, List.map_nil]); first | done | rfl | (simp only [List.length_drop, List.length_take]; rfl)) ?_
        with_reducible refine (word_May.calls a0 t153 _ A14.out).mono ?_
        rintro e w22 ⟨rfl, hb⟩
        refine ⟨_, rfl, ?_⟩
        have n0_ := Aside0.mk (blk_below (g := gb142) (o := .cells #[.int .i64 t137, .int .i64 t138, .int .i64 t139, .int .i64 t140, .int .u64 t141] 30 (0, 0)) (by (with_reducible repeat (first | refine blk_drewN ?_ _ | refine blk_drew ?_ | refine blk_alloc ?_ _)); exact BK142.out) hb)
        have n1_ := Aside0.mk (below_step (by repeat (first | (with_reducible first | exact HB.out | apply below_alloc | apply pw_below_drewN | apply below_drew1 | refine below_set ?_ GE142.out) | exact HB.out)) hb)
        clear BK142
        clear HB
        have BK142 := n0_
        have HB := n1_
        clear n0_ n1_
        (try clear hb)
        (try clear hb2)
        (try clear hk)
        (try clear hi)
        refine hK.out _ _ ⟨(blk_cell BK142.out 0).trans rfl, (blk_cell BK142.out 1).trans rfl, (blk_cell BK142.out 2).trans rfl, (blk_cell BK142.out 3).trans rfl, (blk_cell BK142.out 4).trans rfl⟩ (fun hHeld => ?_)
        clear hK K
        refine norm_ (a' := ?_) ?_ ?_
        rotate_left
        · show Act.put _ (some 39) _ = _
          simp only [Act.put, List.setIfInBounds_toArray, List.set_cons_zero, List.set_cons_succ, i64_w, i32_w]
          rfl
        refine pure_ (i := 5) (N := some 43) (v := ?_) (a' := ?_) #[true, true, true, true, true, true, false, false, false, false, false, false, false, false, false, false, false, false, false, false, false] rfl rfl (any_of HT_.out (by kernel_rfl)) (fun _ _ _ h => h) (Or.inl ⟨by rfl, ?_⟩) ?_ ?_
        rotate_left
        · intro w'
          go_simp
          with_reducible rfl
        rotate_left
        · simp only [Act.put, List.setIfInBounds_toArray, List.set_cons_zero, List.set_cons_succ, i64_w, i32_w]
          rfl
        refine pure_ (i := 6) (N := some 44) (v := ?_) (a' := ?_) #[true, true, true, true, true, true, true, false, false, false, false, false, false, false, false, false, false, false, false, false, false] rfl rfl (any_of HT_.out (by kernel_rfl)) (fun _ _ _ h => h) (Or.inl ⟨by rfl, ?_⟩) ?_ ?_
        rotate_left
        · intro w'
          go_simp
          with_reducible rfl
        rotate_left
        · simp only [Act.put, List.setIfInBounds_toArray, List.set_cons_zero, List.set_cons_succ, i64_w, i32_w]
          rfl
        refine pure_ (i := 7) (N := some 45) (v := ?_) (a' := ?_) #[true, true, true, true, true, true, true, true, false, false, false, false, false, false, false, false, false, false, false, false, false] rfl rfl (any_of HT_.out (by kernel_rfl)) (fun _ _ _ h => h) (Or.inl ⟨by rfl, ?_⟩) ?_ ?_
        rotate_left
        · intro w'
          go_simp
          with_reducible rfl
        rotate_left
        · simp only [Act.put, List.setIfInBounds_toArray, List.set_cons_zero, List.set_cons_succ, i64_w, i32_w]
          rfl
        refine pure_ (i := 9) (N := some 47) (v := ?_) (a' := ?_) #[true, true, true, true, true, true, true, true, false, true, false, false, false, false, false, false, false, false, false, false, false] rfl rfl (any_of HT_.out (by kernel_rfl)) (fun _ _ _ h => h) (Or.inl ⟨by rfl, ?_⟩) ?_ ?_
        rotate_left
        · intro w'
          go_simp
          with_reducible rfl
        rotate_left
        · simp only [Act.put, List.setIfInBounds_toArray, List.set_cons_zero, List.set_cons_succ, i64_w, i32_w]
          rfl
        refine pure_ (i := 10) (N := some 48) (v := ?_) (a' := ?_) #[true, true, true, true, true, true, true, true, false, true, true, false, false, false, false, false, false, false, false, false, false] rfl rfl (any_of HT_.out (by kernel_rfl)) (fun _ _ _ h => h) (Or.inl ⟨by rfl, ?_⟩) ?_ ?_
        rotate_left
        · intro w'
          go_simp
          with_reducible rfl
        rotate_left
        · simp only [Act.put, List.setIfInBounds_toArray, List.set_cons_zero, List.set_cons_succ, i64_w, i32_w]
          rfl
        refine pure_ (i := 11) (N := some 49) (v := ?_) (a' := ?_) #[true, true, true, true, true, true, true, true, false, true, true, true, false, false, false, false, false, false, false, false, false] rfl rfl (any_of HT_.out (by kernel_rfl)) (fun _ _ _ h => h) (Or.inl ⟨by rfl, ?_⟩) ?_ ?_
        rotate_left
        · intro w'
          go_simp
          with_reducible rfl
        rotate_left
        · simp only [Act.put, List.setIfInBounds_toArray, List.set_cons_zero, List.set_cons_succ, i64_w, i32_w]
          rfl
        refine one_ (i := 8) (N := some 46) #[true, true, true, true, true, true, true, true, true, true, true, true, false, false, false, false, false, false, false, false, false] rfl rfl (one_of HT_.out (by kernel_rfl)) (by decide) (fun K hK => ?_)
        refine goes_ Try.func24 (by kernel_rfl) rfl #[.int .u64 a0] (by rfl) rfl rfl (by (try simp only [List.map_toArray, List.map_cons, List.map_nil]); first | done | rfl | (simp only [List.length_drop, List.length_take]; rfl)) ?_
        with_reducible refine (word_Tag.calls a0 t154 _ A18.out).mono ?_
        rintro e w' ⟨rfl, ⟨nd, rfl⟩⟩
        refine ⟨_, rfl, ?_⟩
        refine hK.out _ _ ⟨(blk_cell BK142.out 0).trans rfl, (blk_cell BK142.out 1).trans rfl, (blk_cell BK142.out 2).trans rfl, (blk_cell BK142.out 3).trans rfl, (blk_cell BK142.out 4).trans rfl⟩ (fun hHeld => ?_)
        clear hK K
        refine norm_ (a' := ?_) ?_ ?_
        rotate_left
        · show Act.put _ (some 46) _ = _
          simp only [Act.put, List.setIfInBounds_toArray, List.set_cons_zero, List.set_cons_succ, i64_w, i32_w]
          rfl
        refine pure_ (i := 12) (N := some 50) (v := ?_) (a' := ?_) #[true, true, true, true, true, true, true, true, true, true, true, true, true, false, false, false, false, false, false, false, false] rfl rfl (any_of HT_.out (by kernel_rfl)) (fun _ _ _ h => h) (Or.inl ⟨by rfl, ?_⟩) ?_ ?_
        rotate_left
        · intro w'
          go_simp
          with_reducible rfl
        rotate_left
        · simp only [Act.put, List.setIfInBounds_toArray, List.set_cons_zero, List.set_cons_succ, i64_w, i32_w]
          rfl
        refine pure_ (i := 13) (N := some 51) (v := ?_) (a' := ?_) #[true, true, true, true, true, true, true, true, true, true, true, true, true, true, false, false, false, false, false, false, false] rfl rfl (any_of HT_.out (by kernel_rfl)) (fun _ _ _ h => h) (Or.inl ⟨by rfl, ?_⟩) ?_ ?_
        rotate_left
        · intro w'
          go_simp
          with_reducible rfl
        rotate_left
        · simp only [Act.put, List.setIfInBounds_toArray, List.set_cons_zero, List.set_cons_succ, i64_w, i32_w]
          rfl
        refine pure_ (i := 14) (N := some 52) (v := ?_) (a' := ?_) #[true, true, true, true, true, true, true, true, true, true, true, true, true, true, true, false, false, false, false, false, false] rfl rfl (any_of HT_.out (by kernel_rfl)) (fun _ _ _ h => h) (Or.inl ⟨by rfl, ?_⟩) ?_ ?_
        rotate_left
        · intro w'
          go_simp
          with_reducible rfl
        rotate_left
        · simp only [Act.put, List.setIfInBounds_toArray, List.set_cons_zero, List.set_cons_succ, i64_w, i32_w]
          rfl
        refine pure_ (i := 15) (N := some 53) (v := ?_) (a' := ?_) #[true, true, true, true, true, true, true, true, true, true, true, true, true, true, true, true, false, false, false, false, false] rfl rfl (any_of HT_.out (by kernel_rfl)) (fun _ _ _ h => h) (Or.inl ⟨by rfl, ?_⟩) ?_ ?_
        rotate_left
        · intro w'
          go_simp
          with_reducible rfl
        rotate_left
        · simp only [Act.put, List.setIfInBounds_toArray, List.set_cons_zero, List.set_cons_succ, i64_w, i32_w]
          rfl
        refine pure_ (i := 17) (N := some 55) (v := ?_) (a' := ?_) #[true, true, true, true, true, true, true, true, true, true, true, true, true, true, true, true, false, true, false, false, false] rfl rfl (any_of HT_.out (by kernel_rfl)) (fun _ _ _ h => h) (Or.inl ⟨by rfl, ?_⟩) ?_ ?_
        rotate_left
        · intro w'
          go_simp
          with_reducible rfl
        rotate_left
        · simp only [Act.put, List.setIfInBounds_toArray, List.set_cons_zero, List.set_cons_succ, i64_w, i32_w]
          rfl
        refine pure_ (i := 18) (N := some 56) (v := ?_) (a' := ?_) #[true, true, true, true, true, true, true, true, true, true, true, true, true, true, true, true, false, true, true, false, false] rfl rfl (any_of HT_.out (by kernel_rfl)) (fun _ _ _ h => h) (Or.inl ⟨by rfl, ?_⟩) ?_ ?_
        rotate_left
        · intro w'
          go_simp
          with_reducible rfl
        rotate_left
        · simp only [Act.put, List.setIfInBounds_toArray, List.set_cons_zero, List.set_cons_succ, i64_w, i32_w]
          rfl
        refine one_ (i := 16) (N := some 54) #[true, true, true, true, true, true, true, true, true, true, true, true, true, true, true, true, true, true, true, false, false] rfl rfl (one_of HT_.out (by kernel_rfl)) (by decide) (fun K hK => ?_)
        refine goes_ Try.func25 (by kernel_rfl) rfl #[.int .u64 a0] (by rfl) rfl rfl (by (try simp only [List.map_toArray, List.map_cons, List.map_nil]); first | done | rfl | (simp only [List.length_drop, List.length_take]; rfl)) ?_
        with_reducible refine (word_Truth.calls a0 t155 _ A20.out).mono ?_
        rintro e w' ⟨rfl, ⟨nd, rfl⟩⟩
        refine ⟨_, rfl, ?_⟩
        refine hK.out _ _ ⟨(blk_cell BK142.out 0).trans rfl, (blk_cell BK142.out 1).trans rfl, (blk_cell BK142.out 2).trans rfl, (blk_cell BK142.out 3).trans rfl, (blk_cell BK142.out 4).trans rfl⟩ (fun hHeld => ?_)
        clear hK K
        refine norm_ (a' := ?_) ?_ ?_
        rotate_left
        · show Act.put _ (some 54) _ = _
          simp only [Act.put, List.setIfInBounds_toArray, List.set_cons_zero, List.set_cons_succ, i64_w, i32_w]
          rfl
        refine pure_ (i := 19) (N := some 57) (v := ?_) (a' := ?_) #[true, true, true, true, true, true, true, true, true, true, true, true, true, true, true, true, true, true, true, true, false] rfl rfl (any_of HT_.out (by kernel_rfl)) (fun _ _ _ h => h) (Or.inl ⟨by rfl, ?_⟩) ?_ ?_
        rotate_left
        · intro w'
          go_simp
          with_reducible rfl
        rotate_left
        · simp only [Act.put, List.setIfInBounds_toArray, List.set_cons_zero, List.set_cons_succ, i64_w, i32_w]
          rfl
        refine pure_ (i := 20) (N := some 58) (v := ?_) (a' := ?_) #[true, true, true, true, true, true, true, true, true, true, true, true, true, true, true, true, true, true, true, true, true] rfl rfl (any_of HT_.out (by kernel_rfl)) (fun _ _ _ h => h) (Or.inl ⟨by rfl, ?_⟩) ?_ ?_
        rotate_left
        · intro w'
          go_simp
          with_reducible rfl
        rotate_left
        · simp only [Act.put, List.setIfInBounds_toArray, List.set_cons_zero, List.set_cons_succ, i64_w, i32_w]
          rfl
        refine done_ (done_of HT_.out (by kernel_rfl)) ?_
        try go_wp2
        go_meet
        case rel => exact ⟨_, ((t155 != (a0 != 4))), (by first | rfl | (simp; done) | (simp [*]; done)), H', ⟨by first | omega | exact Nat.le_refl _⟩, ⟨by (with_reducible repeat (first | refine blk_drewN ?_ _ | refine blk_drew ?_ | refine blk_alloc ?_ _)); exact BK142.out⟩, ⟨by repeat (first | (with_reducible first | exact HB.out | apply below_alloc | apply pw_below_drewN | apply below_drew1 | refine below_set ?_ GE142.out) | exact HB.out)⟩⟩
      · rw [if_neg c19] at H
        have c19b0 : (t154 == (wrap64 (Int.tmod a0 8))) = false := beq_eq_false_iff_ne.mpr c19
        have c19b1 : (t154 != (wrap64 (Int.tmod a0 8))) = true := bne_iff_ne.mpr c19
        have H' := Aside0.mk H
        clear H
        try go_wp2
        have n0_ := Aside0.mk (blk_drew BK142.out)
        have n1_ := Aside0.mk (below_drew1 HB.out)
        clear BK142
        clear HB
        have BK142 := n0_
        have HB := n1_
        clear n0_ n1_
        refine start_ (n := 21) (S := fun w' => w'.cell? ⟨gb142, 0, none⟩ = some (.int .i64 t137) ∧ w'.cell? ⟨gb142, 1, none⟩ = some (.int .i64 t138) ∧ w'.cell? ⟨gb142, 2, none⟩ = some (.int .i64 t139) ∧ w'.cell? ⟨gb142, 3, none⟩ = some (.int .i64 t140) ∧ w'.cell? ⟨gb142, 4, none⟩ = some (.int .u64 t141)) (ds := []) #[false, false, false, false, false, false, false, false, false, false, false, false, false, false, false, false, false, false, false, false, false] (by kernel_rfl) rfl rfl ⟨(blk_cell BK142.out 0).trans rfl, (blk_cell BK142.out 1).trans rfl, (blk_cell BK142.out 2).trans rfl, (blk_cell BK142.out 3).trans rfl, (blk_cell BK142.out 4).trans rfl⟩ (fun hHeld => ?_); refine with_tabW morainelaw01_WordTells.tab6 morainelaw01_WordTells.bits6 (fun HT_ HW_ => ?_)
        generalize w13.drew = w23 at BK142 HB hHeld ⊢
        refine pure_ (i := 0) (N := some 38) (v := ?_) (a' := ?_) #[true, false, false, false, false, false, false, false, false, false, false, false, false, false, false, false, false, false, false, false, false] rfl rfl (any_of HT_.out (by kernel_rfl)) (fun _ _ _ h => h) (Or.inl ⟨by rfl, ?_⟩) ?_ ?_
        rotate_left
        · intro w'
          go_simp
          with_reducible rfl
        rotate_left
        · simp only [Act.put, List.setIfInBounds_toArray, List.set_cons_zero, List.set_cons_succ, i64_w, i32_w]
          rfl
        refine pure_ (i := 2) (N := some 40) (v := ?_) (a' := ?_) #[true, false, true, false, false, false, false, false, false, false, false, false, false, false, false, false, false, false, false, false, false] rfl rfl (any_of HT_.out (by kernel_rfl)) (fun _ _ _ h => h) (Or.inl ⟨by rfl, ?_⟩) ?_ ?_
        rotate_left
        · intro w'
          go_simp
          with_reducible rfl
        rotate_left
        · simp only [Act.put, List.setIfInBounds_toArray, List.set_cons_zero, List.set_cons_succ, i64_w, i32_w]
          rfl
        refine take_ (i := 3) (N := some 41) (v := ?_) (a' := ?_) #[true, false, true, true, false, false, false, false, false, false, false, false, false, false, false, false, false, false, false, false, false] rfl rfl (take_ofW HT_.out HW_.out (by kernel_rfl)) (fun _ _ _ h => h) (Or.inl ⟨by rfl, ?_⟩) hHeld ?_ ?_
        rotate_left
        · rintro w' ⟨s0, s1, s2, s3, s4⟩
          go_simp
          with_reducible rfl
        rotate_left
        · simp only [Act.put, List.setIfInBounds_toArray, List.set_cons_zero, List.set_cons_succ, i64_w, i32_w]
          rfl
        refine pure_ (i := 4) (N := some 42) (v := ?_) (a' := ?_) #[true, false, true, true, true, false, false, false, false, false, false, false, false, false, false, false, false, false, false, false, false] rfl rfl (any_of HT_.out (by kernel_rfl)) (fun _ _ _ h => h) (Or.inl ⟨by rfl, ?_⟩) ?_ ?_
        rotate_left
        · intro w'
          go_simp
          with_reducible rfl
        rotate_left
        · simp only [Act.put, List.setIfInBounds_toArray, List.set_cons_zero, List.set_cons_succ, i64_w, i32_w]
          rfl
        refine one_ (i := 1) (N := some 39) #[true, true, true, true, true, false, false, false, false, false, false, false, false, false, false, false, false, false, false, false, false] rfl rfl (one_of HT_.out (by kernel_rfl)) (by decide) (fun K hK => ?_)
        refine goes_ Try.func18 (by kernel_rfl) rfl #[.int .u64 a0] (by rfl) rfl rfl (by (try simp only [List.map_toArray, List.map_cons, List.map_nil]); first | done | rfl | (simp only [List.length_drop, List.length_take]; rfl)) ?_
        with_reducible refine (word_May.calls a0 t153 _ A14.out).mono ?_
        rintro e w24 ⟨rfl, hb⟩
        refine ⟨_, rfl, ?_⟩
        have n0_ := Aside0.mk (blk_below (g := gb142) (o := .cells #[.int .i64 t137, .int .i64 t138, .int .i64 t139, .int .i64 t140, .int .u64 t141] 30 (0, 0)) (by (with_reducible repeat (first | refine blk_drewN ?_ _ | refine blk_drew ?_ | refine blk_alloc ?_ _)); exact BK142.out) hb)
        have n1_ := Aside0.mk (below_step (by repeat (first | (with_reducible first | exact HB.out | apply below_alloc | apply pw_below_drewN | apply below_drew1 | refine below_set ?_ GE142.out) | exact HB.out)) hb)
        clear BK142
        clear HB
        have BK142 := n0_
        have HB := n1_
        clear n0_ n1_
        (try clear hb)
        (try clear hb2)
        (try clear hk)
        (try clear hi)
        refine hK.out _ _ ⟨(blk_cell BK142.out 0).trans rfl, (blk_cell BK142.out 1).trans rfl, (blk_cell BK142.out 2).trans rfl, (blk_cell BK142.out 3).trans rfl, (blk_cell BK142.out 4).trans rfl⟩ (fun hHeld => ?_)
        clear hK K
        refine norm_ (a' := ?_) ?_ ?_
        rotate_left
        · show Act.put _ (some 39) _ = _
          simp only [Act.put, List.setIfInBounds_toArray, List.set_cons_zero, List.set_cons_succ, i64_w, i32_w]
          rfl
        refine pure_ (i := 5) (N := some 43) (v := ?_) (a' := ?_) #[true, true, true, true, true, true, false, false, false, false, false, false, false, false, false, false, false, false, false, false, false] rfl rfl (any_of HT_.out (by kernel_rfl)) (fun _ _ _ h => h) (Or.inl ⟨by rfl, ?_⟩) ?_ ?_
        rotate_left
        · intro w'
          go_simp
          with_reducible rfl
        rotate_left
        · simp only [Act.put, List.setIfInBounds_toArray, List.set_cons_zero, List.set_cons_succ, i64_w, i32_w]
          rfl
        refine pure_ (i := 6) (N := some 44) (v := ?_) (a' := ?_) #[true, true, true, true, true, true, true, false, false, false, false, false, false, false, false, false, false, false, false, false, false] rfl rfl (any_of HT_.out (by kernel_rfl)) (fun _ _ _ h => h) (Or.inl ⟨by rfl, ?_⟩) ?_ ?_
        rotate_left
        · intro w'
          go_simp
          with_reducible rfl
        rotate_left
        · simp only [Act.put, List.setIfInBounds_toArray, List.set_cons_zero, List.set_cons_succ, i64_w, i32_w]
          rfl
        refine pure_ (i := 7) (N := some 45) (v := ?_) (a' := ?_) #[true, true, true, true, true, true, true, true, false, false, false, false, false, false, false, false, false, false, false, false, false] rfl rfl (any_of HT_.out (by kernel_rfl)) (fun _ _ _ h => h) (Or.inl ⟨by rfl, ?_⟩) ?_ ?_
        rotate_left
        · intro w'
          go_simp
          with_reducible rfl
        rotate_left
        · simp only [Act.put, List.setIfInBounds_toArray, List.set_cons_zero, List.set_cons_succ, i64_w, i32_w]
          rfl
        refine pure_ (i := 9) (N := some 47) (v := ?_) (a' := ?_) #[true, true, true, true, true, true, true, true, false, true, false, false, false, false, false, false, false, false, false, false, false] rfl rfl (any_of HT_.out (by kernel_rfl)) (fun _ _ _ h => h) (Or.inl ⟨by rfl, ?_⟩) ?_ ?_
        rotate_left
        · intro w'
          go_simp
          with_reducible rfl
        rotate_left
        · simp only [Act.put, List.setIfInBounds_toArray, List.set_cons_zero, List.set_cons_succ, i64_w, i32_w]
          rfl
        refine pure_ (i := 10) (N := some 48) (v := ?_) (a' := ?_) #[true, true, true, true, true, true, true, true, false, true, true, false, false, false, false, false, false, false, false, false, false] rfl rfl (any_of HT_.out (by kernel_rfl)) (fun _ _ _ h => h) (Or.inl ⟨by rfl, ?_⟩) ?_ ?_
        rotate_left
        · intro w'
          go_simp
          with_reducible rfl
        rotate_left
        · simp only [Act.put, List.setIfInBounds_toArray, List.set_cons_zero, List.set_cons_succ, i64_w, i32_w]
          rfl
        refine pure_ (i := 11) (N := some 49) (v := ?_) (a' := ?_) #[true, true, true, true, true, true, true, true, false, true, true, true, false, false, false, false, false, false, false, false, false] rfl rfl (any_of HT_.out (by kernel_rfl)) (fun _ _ _ h => h) (Or.inl ⟨by rfl, ?_⟩) ?_ ?_
        rotate_left
        · intro w'
          go_simp
          with_reducible rfl
        rotate_left
        · simp only [Act.put, List.setIfInBounds_toArray, List.set_cons_zero, List.set_cons_succ, i64_w, i32_w]
          rfl
        refine one_ (i := 8) (N := some 46) #[true, true, true, true, true, true, true, true, true, true, true, true, false, false, false, false, false, false, false, false, false] rfl rfl (one_of HT_.out (by kernel_rfl)) (by decide) (fun K hK => ?_)
        refine goes_ Try.func24 (by kernel_rfl) rfl #[.int .u64 a0] (by rfl) rfl rfl (by (try simp only [List.map_toArray, List.map_cons, List.map_nil]); first | done | rfl | (simp only [List.length_drop, List.length_take]; rfl)) ?_
        with_reducible refine (word_Tag.calls a0 t154 _ A18.out).mono ?_
        rintro e w' ⟨rfl, ⟨nd, rfl⟩⟩
        refine ⟨_, rfl, ?_⟩
        refine hK.out _ _ ⟨(blk_cell BK142.out 0).trans rfl, (blk_cell BK142.out 1).trans rfl, (blk_cell BK142.out 2).trans rfl, (blk_cell BK142.out 3).trans rfl, (blk_cell BK142.out 4).trans rfl⟩ (fun hHeld => ?_)
        clear hK K
        refine norm_ (a' := ?_) ?_ ?_
        rotate_left
        · show Act.put _ (some 46) _ = _
          simp only [Act.put, List.setIfInBounds_toArray, List.set_cons_zero, List.set_cons_succ, i64_w, i32_w]
          rfl
        refine pure_ (i := 12) (N := some 50) (v := ?_) (a' := ?_) #[true, true, true, true, true, true, true, true, true, true, true, true, true, false, false, false, false, false, false, false, false] rfl rfl (any_of HT_.out (by kernel_rfl)) (fun _ _ _ h => h) (Or.inl ⟨by rfl, ?_⟩) ?_ ?_
        rotate_left
        · intro w'
          go_simp
          with_reducible rfl
        rotate_left
        · simp only [Act.put, List.setIfInBounds_toArray, List.set_cons_zero, List.set_cons_succ, i64_w, i32_w]
          rfl
        refine pure_ (i := 13) (N := some 51) (v := ?_) (a' := ?_) #[true, true, true, true, true, true, true, true, true, true, true, true, true, true, false, false, false, false, false, false, false] rfl rfl (any_of HT_.out (by kernel_rfl)) (fun _ _ _ h => h) (Or.inl ⟨by rfl, ?_⟩) ?_ ?_
        rotate_left
        · intro w'
          go_simp
          with_reducible rfl
        rotate_left
        · simp only [Act.put, List.setIfInBounds_toArray, List.set_cons_zero, List.set_cons_succ, i64_w, i32_w]
          rfl
        refine pure_ (i := 14) (N := some 52) (v := ?_) (a' := ?_) #[true, true, true, true, true, true, true, true, true, true, true, true, true, true, true, false, false, false, false, false, false] rfl rfl (any_of HT_.out (by kernel_rfl)) (fun _ _ _ h => h) (Or.inl ⟨by rfl, ?_⟩) ?_ ?_
        rotate_left
        · intro w'
          go_simp
          with_reducible rfl
        rotate_left
        · simp only [Act.put, List.setIfInBounds_toArray, List.set_cons_zero, List.set_cons_succ, i64_w, i32_w]
          rfl
        refine pure_ (i := 15) (N := some 53) (v := undef) (a' := ?_) #[true, true, true, true, true, true, true, true, true, true, true, true, true, true, true, true, false, false, false, false, false] rfl rfl (any_of HT_.out (by kernel_rfl)) (fun _ _ _ h => h) (Or.inr ⟨by rfl, rfl⟩) ?_ ?_
        rotate_left
        · simp only [Act.put, List.setIfInBounds_toArray, List.set_cons_zero, List.set_cons_succ, i64_w, i32_w]
          rfl
        refine pure_ (i := 16) (N := some 54) (v := undef) (a' := ?_) #[true, true, true, true, true, true, true, true, true, true, true, true, true, true, true, true, true, false, false, false, false] rfl rfl (any_of HT_.out (by kernel_rfl)) (fun _ _ _ h => h) (Or.inr ⟨by rfl, rfl⟩) ?_ ?_
        rotate_left
        · simp only [Act.put, List.setIfInBounds_toArray, List.set_cons_zero, List.set_cons_succ, i64_w, i32_w]
          rfl
        refine pure_ (i := 17) (N := some 55) (v := undef) (a' := ?_) #[true, true, true, true, true, true, true, true, true, true, true, true, true, true, true, true, true, true, false, false, false] rfl rfl (any_of HT_.out (by kernel_rfl)) (fun _ _ _ h => h) (Or.inr ⟨by rfl, rfl⟩) ?_ ?_
        rotate_left
        · simp only [Act.put, List.setIfInBounds_toArray, List.set_cons_zero, List.set_cons_succ, i64_w, i32_w]
          rfl
        refine pure_ (i := 18) (N := some 56) (v := undef) (a' := ?_) #[true, true, true, true, true, true, true, true, true, true, true, true, true, true, true, true, true, true, true, false, false] rfl rfl (any_of HT_.out (by kernel_rfl)) (fun _ _ _ h => h) (Or.inr ⟨by rfl, rfl⟩) ?_ ?_
        rotate_left
        · simp only [Act.put, List.setIfInBounds_toArray, List.set_cons_zero, List.set_cons_succ, i64_w, i32_w]
          rfl
        refine pure_ (i := 19) (N := some 57) (v := undef) (a' := ?_) #[true, true, true, true, true, true, true, true, true, true, true, true, true, true, true, true, true, true, true, true, false] rfl rfl (any_of HT_.out (by kernel_rfl)) (fun _ _ _ h => h) (Or.inr ⟨by rfl, rfl⟩) ?_ ?_
        rotate_left
        · simp only [Act.put, List.setIfInBounds_toArray, List.set_cons_zero, List.set_cons_succ, i64_w, i32_w]
          rfl
        refine pure_ (i := 20) (N := some 58) (v := ?_) (a' := ?_) #[true, true, true, true, true, true, true, true, true, true, true, true, true, true, true, true, true, true, true, true, true] rfl rfl (any_of HT_.out (by kernel_rfl)) (fun _ _ _ h => h) (Or.inl ⟨by rfl, ?_⟩) ?_ ?_
        rotate_left
        · intro w'
          go_simp
          with_reducible rfl
        rotate_left
        · simp only [Act.put, List.setIfInBounds_toArray, List.set_cons_zero, List.set_cons_succ, i64_w, i32_w]
          rfl
        refine done_ (done_of HT_.out (by kernel_rfl)) ?_
        try go_wp2
        go_meet
        case rel => exact ⟨_, (true), (by first | rfl | (simp; done) | (simp [*]; done)), H', ⟨by first | omega | exact Nat.le_refl _⟩, ⟨by (with_reducible repeat (first | refine blk_drewN ?_ _ | refine blk_drew ?_ | refine blk_alloc ?_ _)); exact BK142.out⟩, ⟨by repeat (first | (with_reducible first | exact HB.out | apply below_alloc | apply pw_below_drewN | apply below_drew1 | refine below_set ?_ GE142.out) | exact HB.out)⟩⟩
  case rest => as_aux_lemma =>
    clear HC7
    try clear c1
    try clear c2
    try clear p2
    try clear p6
    try clear c7
    try clear c15
    try clear c15b0
    try clear c15b1
    try clear c15b2
    try clear c18
    try clear c19
    try clear c19b0
    try clear c19b1
    try clear c20
    try clear c21
    try clear c22
    try clear c23
    try clear c24
    try clear hcz10_0
    try clear hcz10_1
    try clear hcz10_2
    try clear hcz10_3
    try clear hcz10_4
    try clear hfz10_0
    try clear hfz10_1
    try clear hfz10_2
    try clear hfz10_3
    try clear hfz10_4
    obtain ⟨kq, x58_6, rfl, HA, HJ6, BK142, HB⟩ := hcut
    cases kq with
    | zero => exact absurd HA.out (by simp [morainelaw01_WordTells.j0])
    | succ kj6 =>
      have H := HA.out
      clear HA
      simp only [morainelaw01_WordTells.j0] at H
      by_cases c25 : x58_6 = true
      · subst c25
        have H1 : (some false) = some r := by rw [if_pos rfl] at H; exact H
        clear H
        have H := H1
        clear H1
        obtain rfl := Option.some.inj H
        go_wp2
        go_ret
        exact ⟨by first | rfl | (simp [errW_none, errW_some] <;> rfl) | (simp [*, errW_none, errW_some] <;> rfl), by repeat (first | (with_reducible first | exact HB.out | apply below_alloc | apply pw_below_drewN | apply below_drew1 | refine below_set ?_ GE142.out) | exact HB.out)⟩
      · replace c25 := Bool.eq_false_iff.mpr c25
        subst c25
        have H1 : (if (t144 != (t137 == 1)) = true then (morainelaw01_WordTells.j1 kj6 t143 t144 t145 t146 t147 t148 t149 t150 t151 t152 true t137 t138 t139 t140 t141) else (if (t146 != (t137 == 4)) = true then (morainelaw01_WordTells.j1 kj6 t143 t144 t145 t146 t147 t148 t149 t150 t151 t152 true t137 t138 t139 t140 t141) else (if (t148 != (t137 == 2)) = true then (morainelaw01_WordTells.j1 kj6 t143 t144 t145 t146 t147 t148 t149 t150 t151 t152 true t137 t138 t139 t140 t141) else (morainelaw01_WordTells.j1 kj6 t143 t144 t145 t146 t147 t148 t149 t150 t151 t152 (t152 != (t137 == 5)) t137 t138 t139 t140 t141)))) = some r := by rw [if_neg (show ¬ (false = true) by decide)] at H; exact H
        clear H
        have H := H1
        clear H1
        have HC26 := Aside0.mk H
        clear H
        go_upto_region 8 with (fail)
        go_cut [84] (fun v84 wc => ∃ (kq : Nat) (x84_25 : Bool), v84 = .bool x84_25 ∧ Aside0 (morainelaw01_WordTells.j1 kq t143 t144 t145 t146 t147 t148 t149 t150 t151 t152 x84_25 t137 t138 t139 t140 t141 = some r) ∧ Aside0 (kq ≤ kj6) ∧ Aside0 (wc.heap[gb142]? = some (.cells #[.int .i64 t137, .int .i64 t138, .int .i64 t139, .int .i64 t140, .int .u64 t141] 30 (0, 0))) ∧ Aside0 (Below w.heap.size w wc))
        case first => as_aux_lemma =>
          have H := HC26.out
          clear HC26
          by_cases c27 : (t144 != (t137 == 1)) = true
          · rw [if_pos c27] at H
            have c27b0 : (t144 != (t137 == 1)) = true := c27
            (try (have c27b1 : decide (t144 = (t137 == 1)) = false := by simpa using c27))
            (try (have c27b2 : (t144 == (t137 == 1)) = false := by simpa using c27))
            (try (have c27b3 : ¬ (t144 = (t137 == 1)) := by simpa using c27))
            clear c27
            (first | rw [c27b0] | (simp only [i64_w, i32_w]; rw [c27b0]) | skip)
            have H' := Aside0.mk H
            clear H
            have hcz28_0 : wc.cell? ⟨gb142, 0, none⟩ = some (.int .i64 t137) := (blk_cell BK142.out 0).trans rfl
            have hcz28_1 : wc.cell? ⟨gb142, 1, none⟩ = some (.int .i64 t138) := (blk_cell BK142.out 1).trans rfl
            have hcz28_2 : wc.cell? ⟨gb142, 2, none⟩ = some (.int .i64 t139) := (blk_cell BK142.out 2).trans rfl
            have hcz28_3 : wc.cell? ⟨gb142, 3, none⟩ = some (.int .i64 t140) := (blk_cell BK142.out 3).trans rfl
            have hcz28_4 : wc.cell? ⟨gb142, 4, none⟩ = some (.int .u64 t141) := (blk_cell BK142.out 4).trans rfl
            have hfz28_0 := blk_frozen BK142.out 0
            have hfz28_1 := blk_frozen BK142.out 1
            have hfz28_2 := blk_frozen BK142.out 2
            have hfz28_3 := blk_frozen BK142.out 3
            have hfz28_4 := blk_frozen BK142.out 4
            go_wp2
            go_meet
            case rel => exact ⟨_, (true), (by first | rfl | (simp; done) | (simp [*]; done)), H', ⟨by have := HJ6.out; first | omega | exact Nat.le_refl _⟩, ⟨by (with_reducible repeat (first | refine blk_drewN ?_ _ | refine blk_drew ?_ | refine blk_alloc ?_ _)); exact BK142.out⟩, ⟨by repeat (first | (with_reducible first | exact HB.out | apply below_alloc | apply pw_below_drewN | apply below_drew1 | refine below_set ?_ GE142.out) | exact HB.out)⟩⟩
          · rw [if_neg c27] at H
            have c27b0 : (t144 != (t137 == 1)) = false := by simpa using c27
            (try (have c27b1 : decide (t144 = (t137 == 1)) = true := by simpa using c27))
            (try (have c27b2 : (t144 == (t137 == 1)) = true := by simpa using c27))
            clear c27
            (first | rw [c27b0] | (simp only [i64_w, i32_w]; rw [c27b0]) | skip)
            by_cases c29 : (t146 != (t137 == 4)) = true
            · rw [if_pos c29] at H
              have c29b0 : (t146 != (t137 == 4)) = true := c29
              (try (have c29b1 : decide (t146 = (t137 == 4)) = false := by simpa using c29))
              (try (have c29b2 : (t146 == (t137 == 4)) = false := by simpa using c29))
              (try (have c29b3 : ¬ (t146 = (t137 == 4)) := by simpa using c29))
              clear c29
              have H' := Aside0.mk H
              clear H
              have hcz30_0 : wc.cell? ⟨gb142, 0, none⟩ = some (.int .i64 t137) := (blk_cell BK142.out 0).trans rfl
              have hcz30_1 : wc.cell? ⟨gb142, 1, none⟩ = some (.int .i64 t138) := (blk_cell BK142.out 1).trans rfl
              have hcz30_2 : wc.cell? ⟨gb142, 2, none⟩ = some (.int .i64 t139) := (blk_cell BK142.out 2).trans rfl
              have hcz30_3 : wc.cell? ⟨gb142, 3, none⟩ = some (.int .i64 t140) := (blk_cell BK142.out 3).trans rfl
              have hcz30_4 : wc.cell? ⟨gb142, 4, none⟩ = some (.int .u64 t141) := (blk_cell BK142.out 4).trans rfl
              have hfz30_0 := blk_frozen BK142.out 0
              have hfz30_1 := blk_frozen BK142.out 1
              have hfz30_2 := blk_frozen BK142.out 2
              have hfz30_3 := blk_frozen BK142.out 3
              have hfz30_4 := blk_frozen BK142.out 4
              go_wp2
              go_meet
              case rel => exact ⟨_, (true), (by first | rfl | (simp; done) | (simp [*]; done)), H', ⟨by have := HJ6.out; first | omega | exact Nat.le_refl _⟩, ⟨by (with_reducible repeat (first | refine blk_drewN ?_ _ | refine blk_drew ?_ | refine blk_alloc ?_ _)); exact BK142.out⟩, ⟨by repeat (first | (with_reducible first | exact HB.out | apply below_alloc | apply pw_below_drewN | apply below_drew1 | refine below_set ?_ GE142.out) | exact HB.out)⟩⟩
            · rw [if_neg c29] at H
              have c29b0 : (t146 != (t137 == 4)) = false := by simpa using c29
              (try (have c29b1 : decide (t146 = (t137 == 4)) = true := by simpa using c29))
              (try (have c29b2 : (t146 == (t137 == 4)) = true := by simpa using c29))
              clear c29
              by_cases c31 : (t148 != (t137 == 2)) = true
              · rw [if_pos c31] at H
                have c31b0 : (t148 != (t137 == 2)) = true := c31
                (try (have c31b1 : decide (t148 = (t137 == 2)) = false := by simpa using c31))
                (try (have c31b2 : (t148 == (t137 == 2)) = false := by simpa using c31))
                (try (have c31b3 : ¬ (t148 = (t137 == 2)) := by simpa using c31))
                clear c31
                have H' := Aside0.mk H
                clear H
                have hcz32_0 : wc.cell? ⟨gb142, 0, none⟩ = some (.int .i64 t137) := (blk_cell BK142.out 0).trans rfl
                have hcz32_1 : wc.cell? ⟨gb142, 1, none⟩ = some (.int .i64 t138) := (blk_cell BK142.out 1).trans rfl
                have hcz32_2 : wc.cell? ⟨gb142, 2, none⟩ = some (.int .i64 t139) := (blk_cell BK142.out 2).trans rfl
                have hcz32_3 : wc.cell? ⟨gb142, 3, none⟩ = some (.int .i64 t140) := (blk_cell BK142.out 3).trans rfl
                have hcz32_4 : wc.cell? ⟨gb142, 4, none⟩ = some (.int .u64 t141) := (blk_cell BK142.out 4).trans rfl
                have hfz32_0 := blk_frozen BK142.out 0
                have hfz32_1 := blk_frozen BK142.out 1
                have hfz32_2 := blk_frozen BK142.out 2
                have hfz32_3 := blk_frozen BK142.out 3
                have hfz32_4 := blk_frozen BK142.out 4
                go_wp2
                go_meet
                case rel => exact ⟨_, (true), (by first | rfl | (simp; done) | (simp [*]; done)), H', ⟨by have := HJ6.out; first | omega | exact Nat.le_refl _⟩, ⟨by (with_reducible repeat (first | refine blk_drewN ?_ _ | refine blk_drew ?_ | refine blk_alloc ?_ _)); exact BK142.out⟩, ⟨by repeat (first | (with_reducible first | exact HB.out | apply below_alloc | apply pw_below_drewN | apply below_drew1 | refine below_set ?_ GE142.out) | exact HB.out)⟩⟩
              · rw [if_neg c31] at H
                have c31b0 : (t148 != (t137 == 2)) = false := by simpa using c31
                (try (have c31b1 : decide (t148 = (t137 == 2)) = true := by simpa using c31))
                (try (have c31b2 : (t148 == (t137 == 2)) = true := by simpa using c31))
                clear c31
                have H' := Aside0.mk H
                clear H
                have hcz33_0 : wc.cell? ⟨gb142, 0, none⟩ = some (.int .i64 t137) := (blk_cell BK142.out 0).trans rfl
                have hcz33_1 : wc.cell? ⟨gb142, 1, none⟩ = some (.int .i64 t138) := (blk_cell BK142.out 1).trans rfl
                have hcz33_2 : wc.cell? ⟨gb142, 2, none⟩ = some (.int .i64 t139) := (blk_cell BK142.out 2).trans rfl
                have hcz33_3 : wc.cell? ⟨gb142, 3, none⟩ = some (.int .i64 t140) := (blk_cell BK142.out 3).trans rfl
                have hcz33_4 : wc.cell? ⟨gb142, 4, none⟩ = some (.int .u64 t141) := (blk_cell BK142.out 4).trans rfl
                have hfz33_0 := blk_frozen BK142.out 0
                have hfz33_1 := blk_frozen BK142.out 1
                have hfz33_2 := blk_frozen BK142.out 2
                have hfz33_3 := blk_frozen BK142.out 3
                have hfz33_4 := blk_frozen BK142.out 4
                go_wp2
                go_meet
                case rel => exact ⟨_, ((t152 != (t137 == 5))), (by first | rfl | (simp; done) | (simp [*]; done)), H', ⟨by have := HJ6.out; first | omega | exact Nat.le_refl _⟩, ⟨by (with_reducible repeat (first | refine blk_drewN ?_ _ | refine blk_drew ?_ | refine blk_alloc ?_ _)); exact BK142.out⟩, ⟨by repeat (first | (with_reducible first | exact HB.out | apply below_alloc | apply pw_below_drewN | apply below_drew1 | refine below_set ?_ GE142.out) | exact HB.out)⟩⟩
        case rest => as_aux_lemma =>
          clear HC26
          try clear c1
          try clear c2
          try clear p2
          try clear c3
          try clear p6
          try clear c7
          try clear c15
          try clear c15b0
          try clear c15b1
          try clear c15b2
          try clear c18
          try clear c19
          try clear c19b0
          try clear c19b1
          try clear c20
          try clear c21
          try clear c22
          try clear c23
          try clear c24
          try clear c25
          try clear c27
          try clear c27b0
          try clear c27b1
          try clear c27b2
          try clear c29
          try clear c29b0
          try clear c29b1
          try clear c29b2
          try clear c31
          try clear c31b0
          try clear c31b1
          try clear c31b2
          try clear hcz10_0
          try clear hcz10_1
          try clear hcz10_2
          try clear hcz10_3
          try clear hcz10_4
          try clear hcz28_0
          try clear hcz28_1
          try clear hcz28_2
          try clear hcz28_3
          try clear hcz28_4
          try clear hcz30_0
          try clear hcz30_1
          try clear hcz30_2
          try clear hcz30_3
          try clear hcz30_4
          try clear hcz32_0
          try clear hcz32_1
          try clear hcz32_2
          try clear hcz32_3
          try clear hcz32_4
          try clear hcz33_0
          try clear hcz33_1
          try clear hcz33_2
          try clear hcz33_3
          try clear hcz33_4
          try clear hfz10_0
          try clear hfz10_1
          try clear hfz10_2
          try clear hfz10_3
          try clear hfz10_4
          try clear hfz28_0
          try clear hfz28_1
          try clear hfz28_2
          try clear hfz28_3
          try clear hfz28_4
          try clear hfz30_0
          try clear hfz30_1
          try clear hfz30_2
          try clear hfz30_3
          try clear hfz30_4
          try clear hfz32_0
          try clear hfz32_1
          try clear hfz32_2
          try clear hfz32_3
          try clear hfz32_4
          try clear hfz33_0
          try clear hfz33_1
          try clear hfz33_2
          try clear hfz33_3
          try clear hfz33_4
          try clear p2
          try clear p6
          obtain ⟨kq, x84_25, rfl, HA, HJ25, BK142, HB⟩ := hcut
          cases kq with
          | zero => exact absurd HA.out (by simp [morainelaw01_WordTells.j1])
          | succ kj25 =>
            have H := HA.out
            clear HA
            simp only [morainelaw01_WordTells.j1] at H
            by_cases c34 : x84_25 = true
            · subst c34
              have H1 : (some false) = some r := by rw [if_pos rfl] at H; exact H
              clear H
              have H := H1
              clear H1
              obtain rfl := Option.some.inj H
              go_wp2
              go_ret
              exact ⟨by first | rfl | (simp [errW_none, errW_some] <;> rfl) | (simp [*, errW_none, errW_some] <;> rfl), by repeat (first | (with_reducible first | exact HB.out | apply below_alloc | apply pw_below_drewN | apply below_drew1 | refine below_set ?_ GE142.out) | exact HB.out)⟩
            · replace c34 := Bool.eq_false_iff.mpr c34
              subst c34
              have H1 : (if t144 = true then (if t146 = true then (if t148 = true then (if t152 = true then (morainelaw01_WordTells.j2 kj25 t143 t145 t147 t149 t150 t151 false t137 t138 t139 t140 t141) else (if t149 = 0 then (if t150 = 0 then (morainelaw01_WordTells.j2 kj25 t143 t145 t147 t149 t150 t151 (t151 != 0) t137 t138 t139 t140 t141) else (morainelaw01_WordTells.j2 kj25 t143 t145 t147 t149 t150 t151 true t137 t138 t139 t140 t141)) else (morainelaw01_WordTells.j2 kj25 t143 t145 t147 t149 t150 t151 true t137 t138 t139 t140 t141))) else (if t147 = 0 then (if t152 = true then (morainelaw01_WordTells.j2 kj25 t143 t145 t147 t149 t150 t151 false t137 t138 t139 t140 t141) else (if t149 = 0 then (if t150 = 0 then (morainelaw01_WordTells.j2 kj25 t143 t145 t147 t149 t150 t151 (t151 != 0) t137 t138 t139 t140 t141) else (morainelaw01_WordTells.j2 kj25 t143 t145 t147 t149 t150 t151 true t137 t138 t139 t140 t141)) else (morainelaw01_WordTells.j2 kj25 t143 t145 t147 t149 t150 t151 true t137 t138 t139 t140 t141))) else (morainelaw01_WordTells.j2 kj25 t143 t145 t147 t149 t150 t151 true t137 t138 t139 t140 t141))) else (if t145 = 0 then (if t148 = true then (if t152 = true then (morainelaw01_WordTells.j2 kj25 t143 t145 t147 t149 t150 t151 false t137 t138 t139 t140 t141) else (if t149 = 0 then (if t150 = 0 then (morainelaw01_WordTells.j2 kj25 t143 t145 t147 t149 t150 t151 (t151 != 0) t137 t138 t139 t140 t141) else (morainelaw01_WordTells.j2 kj25 t143 t145 t147 t149 t150 t151 true t137 t138 t139 t140 t141)) else (morainelaw01_WordTells.j2 kj25 t143 t145 t147 t149 t150 t151 true t137 t138 t139 t140 t141))) else (if t147 = 0 then (if t152 = true then (morainelaw01_WordTells.j2 kj25 t143 t145 t147 t149 t150 t151 false t137 t138 t139 t140 t141) else (if t149 = 0 then (if t150 = 0 then (morainelaw01_WordTells.j2 kj25 t143 t145 t147 t149 t150 t151 (t151 != 0) t137 t138 t139 t140 t141) else (morainelaw01_WordTells.j2 kj25 t143 t145 t147 t149 t150 t151 true t137 t138 t139 t140 t141)) else (morainelaw01_WordTells.j2 kj25 t143 t145 t147 t149 t150 t151 true t137 t138 t139 t140 t141))) else (morainelaw01_WordTells.j2 kj25 t143 t145 t147 t149 t150 t151 true t137 t138 t139 t140 t141))) else (morainelaw01_WordTells.j2 kj25 t143 t145 t147 t149 t150 t151 true t137 t138 t139 t140 t141))) else (if t143 = 0 then (if t146 = true then (if t148 = true then (if t152 = true then (morainelaw01_WordTells.j2 kj25 t143 t145 t147 t149 t150 t151 false t137 t138 t139 t140 t141) else (if t149 = 0 then (if t150 = 0 then (morainelaw01_WordTells.j2 kj25 t143 t145 t147 t149 t150 t151 (t151 != 0) t137 t138 t139 t140 t141) else (morainelaw01_WordTells.j2 kj25 t143 t145 t147 t149 t150 t151 true t137 t138 t139 t140 t141)) else (morainelaw01_WordTells.j2 kj25 t143 t145 t147 t149 t150 t151 true t137 t138 t139 t140 t141))) else (if t147 = 0 then (if t152 = true then (morainelaw01_WordTells.j2 kj25 t143 t145 t147 t149 t150 t151 false t137 t138 t139 t140 t141) else (if t149 = 0 then (if t150 = 0 then (morainelaw01_WordTells.j2 kj25 t143 t145 t147 t149 t150 t151 (t151 != 0) t137 t138 t139 t140 t141) else (morainelaw01_WordTells.j2 kj25 t143 t145 t147 t149 t150 t151 true t137 t138 t139 t140 t141)) else (morainelaw01_WordTells.j2 kj25 t143 t145 t147 t149 t150 t151 true t137 t138 t139 t140 t141))) else (morainelaw01_WordTells.j2 kj25 t143 t145 t147 t149 t150 t151 true t137 t138 t139 t140 t141))) else (if t145 = 0 then (if t148 = true then (if t152 = true then (morainelaw01_WordTells.j2 kj25 t143 t145 t147 t149 t150 t151 false t137 t138 t139 t140 t141) else (if t149 = 0 then (if t150 = 0 then (morainelaw01_WordTells.j2 kj25 t143 t145 t147 t149 t150 t151 (t151 != 0) t137 t138 t139 t140 t141) else (morainelaw01_WordTells.j2 kj25 t143 t145 t147 t149 t150 t151 true t137 t138 t139 t140 t141)) else (morainelaw01_WordTells.j2 kj25 t143 t145 t147 t149 t150 t151 true t137 t138 t139 t140 t141))) else (if t147 = 0 then (if t152 = true then (morainelaw01_WordTells.j2 kj25 t143 t145 t147 t149 t150 t151 false t137 t138 t139 t140 t141) else (if t149 = 0 then (if t150 = 0 then (morainelaw01_WordTells.j2 kj25 t143 t145 t147 t149 t150 t151 (t151 != 0) t137 t138 t139 t140 t141) else (morainelaw01_WordTells.j2 kj25 t143 t145 t147 t149 t150 t151 true t137 t138 t139 t140 t141)) else (morainelaw01_WordTells.j2 kj25 t143 t145 t147 t149 t150 t151 true t137 t138 t139 t140 t141))) else (morainelaw01_WordTells.j2 kj25 t143 t145 t147 t149 t150 t151 true t137 t138 t139 t140 t141))) else (morainelaw01_WordTells.j2 kj25 t143 t145 t147 t149 t150 t151 true t137 t138 t139 t140 t141))) else (morainelaw01_WordTells.j2 kj25 t143 t145 t147 t149 t150 t151 true t137 t138 t139 t140 t141))) = some r := by rw [if_neg (show ¬ (false = true) by decide)] at H; exact H
              clear H
              have H := H1
              clear H1
              have HC35 := Aside0.mk H
              clear H
              go_upto_region 10 with (fail)
              go_cut [122] (fun v122 wc => ∃ (kq : Nat) (x122_34 : Bool), v122 = .bool x122_34 ∧ Aside0 (morainelaw01_WordTells.j2 kq t143 t145 t147 t149 t150 t151 x122_34 t137 t138 t139 t140 t141 = some r) ∧ Aside0 (kq ≤ kj25) ∧ Aside0 (wc.heap[gb142]? = some (.cells #[.int .i64 t137, .int .i64 t138, .int .i64 t139, .int .i64 t140, .int .u64 t141] 30 (0, 0))) ∧ Aside0 (Below w.heap.size w wc))
              case first => as_aux_lemma =>
                have H := HC35.out
                clear HC35
                by_cases c36 : t144 = true
                · subst c36
                  have H1 : (if t146 = true then (if t148 = true then (if t152 = true then (morainelaw01_WordTells.j2 kj25 t143 t145 t147 t149 t150 t151 false t137 t138 t139 t140 t141) else (if t149 = 0 then (if t150 = 0 then (morainelaw01_WordTells.j2 kj25 t143 t145 t147 t149 t150 t151 (t151 != 0) t137 t138 t139 t140 t141) else (morainelaw01_WordTells.j2 kj25 t143 t145 t147 t149 t150 t151 true t137 t138 t139 t140 t141)) else (morainelaw01_WordTells.j2 kj25 t143 t145 t147 t149 t150 t151 true t137 t138 t139 t140 t141))) else (if t147 = 0 then (if t152 = true then (morainelaw01_WordTells.j2 kj25 t143 t145 t147 t149 t150 t151 false t137 t138 t139 t140 t141) else (if t149 = 0 then (if t150 = 0 then (morainelaw01_WordTells.j2 kj25 t143 t145 t147 t149 t150 t151 (t151 != 0) t137 t138 t139 t140 t141) else (morainelaw01_WordTells.j2 kj25 t143 t145 t147 t149 t150 t151 true t137 t138 t139 t140 t141)) else (morainelaw01_WordTells.j2 kj25 t143 t145 t147 t149 t150 t151 true t137 t138 t139 t140 t141))) else (morainelaw01_WordTells.j2 kj25 t143 t145 t147 t149 t150 t151 true t137 t138 t139 t140 t141))) else (if t145 = 0 then (if t148 = true then (if t152 = true then (morainelaw01_WordTells.j2 kj25 t143 t145 t147 t149 t150 t151 false t137 t138 t139 t140 t141) else (if t149 = 0 then (if t150 = 0 then (morainelaw01_WordTells.j2 kj25 t143 t145 t147 t149 t150 t151 (t151 != 0) t137 t138 t139 t140 t141) else (morainelaw01_WordTells.j2 kj25 t143 t145 t147 t149 t150 t151 true t137 t138 t139 t140 t141)) else (morainelaw01_WordTells.j2 kj25 t143 t145 t147 t149 t150 t151 true t137 t138 t139 t140 t141))) else (if t147 = 0 then (if t152 = true then (morainelaw01_WordTells.j2 kj25 t143 t145 t147 t149 t150 t151 false t137 t138 t139 t140 t141) else (if t149 = 0 then (if t150 = 0 then (morainelaw01_WordTells.j2 kj25 t143 t145 t147 t149 t150 t151 (t151 != 0) t137 t138 t139 t140 t141) else (morainelaw01_WordTells.j2 kj25 t143 t145 t147 t149 t150 t151 true t137 t138 t139 t140 t141)) else (morainelaw01_WordTells.j2 kj25 t143 t145 t147 t149 t150 t151 true t137 t138 t139 t140 t141))) else (morainelaw01_WordTells.j2 kj25 t143 t145 t147 t149 t150 t151 true t137 t138 t139 t140 t141))) else (morainelaw01_WordTells.j2 kj25 t143 t145 t147 t149 t150 t151 true t137 t138 t139 t140 t141))) = some r := by rw [if_pos rfl] at H; exact H
                  clear H
                  have H := H1
                  clear H1
                  by_cases c37 : t146 = true
                  · subst c37
                    have H1 : (if t148 = true then (if t152 = true then (morainelaw01_WordTells.j2 kj25 t143 t145 t147 t149 t150 t151 false t137 t138 t139 t140 t141) else (if t149 = 0 then (if t150 = 0 then (morainelaw01_WordTells.j2 kj25 t143 t145 t147 t149 t150 t151 (t151 != 0) t137 t138 t139 t140 t141) else (morainelaw01_WordTells.j2 kj25 t143 t145 t147 t149 t150 t151 true t137 t138 t139 t140 t141)) else (morainelaw01_WordTells.j2 kj25 t143 t145 t147 t149 t150 t151 true t137 t138 t139 t140 t141))) else (if t147 = 0 then (if t152 = true then (morainelaw01_WordTells.j2 kj25 t143 t145 t147 t149 t150 t151 false t137 t138 t139 t140 t141) else (if t149 = 0 then (if t150 = 0 then (morainelaw01_WordTells.j2 kj25 t143 t145 t147 t149 t150 t151 (t151 != 0) t137 t138 t139 t140 t141) else (morainelaw01_WordTells.j2 kj25 t143 t145 t147 t149 t150 t151 true t137 t138 t139 t140 t141)) else (morainelaw01_WordTells.j2 kj25 t143 t145 t147 t149 t150 t151 true t137 t138 t139 t140 t141))) else (morainelaw01_WordTells.j2 kj25 t143 t145 t147 t149 t150 t151 true t137 t138 t139 t140 t141))) = some r := by rw [if_pos rfl] at H; exact H
                    clear H
                    have H := H1
                    clear H1
                    by_cases c38 : t148 = true
                    · subst c38
                      have H1 : (if t152 = true then (morainelaw01_WordTells.j2 kj25 t143 t145 t147 t149 t150 t151 false t137 t138 t139 t140 t141) else (if t149 = 0 then (if t150 = 0 then (morainelaw01_WordTells.j2 kj25 t143 t145 t147 t149 t150 t151 (t151 != 0) t137 t138 t139 t140 t141) else (morainelaw01_WordTells.j2 kj25 t143 t145 t147 t149 t150 t151 true t137 t138 t139 t140 t141)) else (morainelaw01_WordTells.j2 kj25 t143 t145 t147 t149 t150 t151 true t137 t138 t139 t140 t141))) = some r := by rw [if_pos rfl] at H; exact H
                      clear H
                      have H := H1
                      clear H1
                      by_cases c39 : t152 = true
                      · subst c39
                        have H1 : (morainelaw01_WordTells.j2 kj25 t143 t145 t147 t149 t150 t151 false t137 t138 t139 t140 t141) = some r := by rw [if_pos rfl] at H; exact H
                        clear H
                        have H := H1
                        clear H1
                        have H' := Aside0.mk H
                        clear H
                        go_wp2
                        go_meet
                        case rel => exact ⟨_, (false), (by first | rfl | (simp; done) | (simp [*]; done)), H', ⟨by have := HJ6.out; have := HJ25.out; first | omega | exact Nat.le_refl _⟩, ⟨by (with_reducible repeat (first | refine blk_drewN ?_ _ | refine blk_drew ?_ | refine blk_alloc ?_ _)); exact BK142.out⟩, ⟨by repeat (first | (with_reducible first | exact HB.out | apply below_alloc | apply pw_below_drewN | apply below_drew1 | refine below_set ?_ GE142.out) | exact HB.out)⟩⟩
                      · replace c39 := Bool.eq_false_iff.mpr c39
                        subst c39
                        have H1 : (if t149 = 0 then (if t150 = 0 then (morainelaw01_WordTells.j2 kj25 t143 t145 t147 t149 t150 t151 (t151 != 0) t137 t138 t139 t140 t141) else (morainelaw01_WordTells.j2 kj25 t143 t145 t147 t149 t150 t151 true t137 t138 t139 t140 t141)) else (morainelaw01_WordTells.j2 kj25 t143 t145 t147 t149 t150 t151 true t137 t138 t139 t140 t141)) = some r := by rw [if_neg (show ¬ (false = true) by decide)] at H; exact H
                        clear H
                        have H := H1
                        clear H1
                        by_cases c40 : t149 = 0
                        · rw [if_pos c40] at H
                          have c40b0 : (t149 == 0) = true := beq_iff_eq.mpr c40
                          have c40b1 : (t149 != 0) = false := bne_eq_false_iff_eq.mpr c40
                          clear c40
                          (first | rw [c40b0] | (simp only [i64_w, i32_w]; rw [c40b0]) | skip)
                          by_cases c41 : t150 = 0
                          · rw [if_pos c41] at H
                            have c41b0 : (t150 == 0) = true := beq_iff_eq.mpr c41
                            have c41b1 : (t150 != 0) = false := bne_eq_false_iff_eq.mpr c41
                            clear c41
                            have H' := Aside0.mk H
                            clear H
                            go_wp2
                            go_meet
                            case rel => exact ⟨_, ((t151 != 0)), (by first | rfl | (simp; done) | (simp [*]; done)), H', ⟨by have := HJ6.out; have := HJ25.out; first | omega | exact Nat.le_refl _⟩, ⟨by (with_reducible repeat (first | refine blk_drewN ?_ _ | refine blk_drew ?_ | refine blk_alloc ?_ _)); exact BK142.out⟩, ⟨by repeat (first | (with_reducible first | exact HB.out | apply below_alloc | apply pw_below_drewN | apply below_drew1 | refine below_set ?_ GE142.out) | exact HB.out)⟩⟩
                          · rw [if_neg c41] at H
                            have c41b0 : (t150 == 0) = false := beq_eq_false_iff_ne.mpr c41
                            have c41b1 : (t150 != 0) = true := bne_iff_ne.mpr c41
                            have H' := Aside0.mk H
                            clear H
                            go_wp2
                            go_meet
                            case rel => exact ⟨_, (true), (by first | rfl | (simp; done) | (simp [*]; done)), H', ⟨by have := HJ6.out; have := HJ25.out; first | omega | exact Nat.le_refl _⟩, ⟨by (with_reducible repeat (first | refine blk_drewN ?_ _ | refine blk_drew ?_ | refine blk_alloc ?_ _)); exact BK142.out⟩, ⟨by repeat (first | (with_reducible first | exact HB.out | apply below_alloc | apply pw_below_drewN | apply below_drew1 | refine below_set ?_ GE142.out) | exact HB.out)⟩⟩
                        · rw [if_neg c40] at H
                          have c40b0 : (t149 == 0) = false := beq_eq_false_iff_ne.mpr c40
                          have c40b1 : (t149 != 0) = true := bne_iff_ne.mpr c40
                          (first | rw [c40b0] | (simp only [i64_w, i32_w]; rw [c40b0]) | skip)
                          have H' := Aside0.mk H
                          clear H
                          go_wp2
                          go_meet
                          case rel => exact ⟨_, (true), (by first | rfl | (simp; done) | (simp [*]; done)), H', ⟨by have := HJ6.out; have := HJ25.out; first | omega | exact Nat.le_refl _⟩, ⟨by (with_reducible repeat (first | refine blk_drewN ?_ _ | refine blk_drew ?_ | refine blk_alloc ?_ _)); exact BK142.out⟩, ⟨by repeat (first | (with_reducible first | exact HB.out | apply below_alloc | apply pw_below_drewN | apply below_drew1 | refine below_set ?_ GE142.out) | exact HB.out)⟩⟩
                    · replace c38 := Bool.eq_false_iff.mpr c38
                      subst c38
                      have H1 : (if t147 = 0 then (if t152 = true then (morainelaw01_WordTells.j2 kj25 t143 t145 t147 t149 t150 t151 false t137 t138 t139 t140 t141) else (if t149 = 0 then (if t150 = 0 then (morainelaw01_WordTells.j2 kj25 t143 t145 t147 t149 t150 t151 (t151 != 0) t137 t138 t139 t140 t141) else (morainelaw01_WordTells.j2 kj25 t143 t145 t147 t149 t150 t151 true t137 t138 t139 t140 t141)) else (morainelaw01_WordTells.j2 kj25 t143 t145 t147 t149 t150 t151 true t137 t138 t139 t140 t141))) else (morainelaw01_WordTells.j2 kj25 t143 t145 t147 t149 t150 t151 true t137 t138 t139 t140 t141)) = some r := by rw [if_neg (show ¬ (false = true) by decide)] at H; exact H
                      clear H
                      have H := H1
                      clear H1
                      by_cases c42 : t147 = 0
                      · rw [if_pos c42] at H
                        have c42b0 : (t147 == 0) = true := beq_iff_eq.mpr c42
                        have c42b1 : (t147 != 0) = false := bne_eq_false_iff_eq.mpr c42
                        clear c42
                        by_cases c43 : t152 = true
                        · subst c43
                          have H1 : (morainelaw01_WordTells.j2 kj25 t143 t145 t147 t149 t150 t151 false t137 t138 t139 t140 t141) = some r := by rw [if_pos rfl] at H; exact H
                          clear H
                          have H := H1
                          clear H1
                          have H' := Aside0.mk H
                          clear H
                          go_wp2
                          go_meet
                          case rel => exact ⟨_, (false), (by first | rfl | (simp; done) | (simp [*]; done)), H', ⟨by have := HJ6.out; have := HJ25.out; first | omega | exact Nat.le_refl _⟩, ⟨by (with_reducible repeat (first | refine blk_drewN ?_ _ | refine blk_drew ?_ | refine blk_alloc ?_ _)); exact BK142.out⟩, ⟨by repeat (first | (with_reducible first | exact HB.out | apply below_alloc | apply pw_below_drewN | apply below_drew1 | refine below_set ?_ GE142.out) | exact HB.out)⟩⟩
                        · replace c43 := Bool.eq_false_iff.mpr c43
                          subst c43
                          have H1 : (if t149 = 0 then (if t150 = 0 then (morainelaw01_WordTells.j2 kj25 t143 t145 t147 t149 t150 t151 (t151 != 0) t137 t138 t139 t140 t141) else (morainelaw01_WordTells.j2 kj25 t143 t145 t147 t149 t150 t151 true t137 t138 t139 t140 t141)) else (morainelaw01_WordTells.j2 kj25 t143 t145 t147 t149 t150 t151 true t137 t138 t139 t140 t141)) = some r := by rw [if_neg (show ¬ (false = true) by decide)] at H; exact H
                          clear H
                          have H := H1
                          clear H1
                          by_cases c44 : t149 = 0
                          · rw [if_pos c44] at H
                            have c44b0 : (t149 == 0) = true := beq_iff_eq.mpr c44
                            have c44b1 : (t149 != 0) = false := bne_eq_false_iff_eq.mpr c44
                            clear c44
                            by_cases c45 : t150 = 0
                            · rw [if_pos c45] at H
                              have c45b0 : (t150 == 0) = true := beq_iff_eq.mpr c45
                              have c45b1 : (t150 != 0) = false := bne_eq_false_iff_eq.mpr c45
                              clear c45
                              have H' := Aside0.mk H
                              clear H
                              go_wp2
                              go_meet
                              case rel => exact ⟨_, ((t151 != 0)), (by first | rfl | (simp; done) | (simp [*]; done)), H', ⟨by have := HJ6.out; have := HJ25.out; first | omega | exact Nat.le_refl _⟩, ⟨by (with_reducible repeat (first | refine blk_drewN ?_ _ | refine blk_drew ?_ | refine blk_alloc ?_ _)); exact BK142.out⟩, ⟨by repeat (first | (with_reducible first | exact HB.out | apply below_alloc | apply pw_below_drewN | apply below_drew1 | refine below_set ?_ GE142.out) | exact HB.out)⟩⟩
                            · rw [if_neg c45] at H
                              have c45b0 : (t150 == 0) = false := beq_eq_false_iff_ne.mpr c45
                              have c45b1 : (t150 != 0) = true := bne_iff_ne.mpr c45
                              have H' := Aside0.mk H
                              clear H
                              go_wp2
                              go_meet
                              case rel => exact ⟨_, (true), (by first | rfl | (simp; done) | (simp [*]; done)), H', ⟨by have := HJ6.out; have := HJ25.out; first | omega | exact Nat.le_refl _⟩, ⟨by (with_reducible repeat (first | refine blk_drewN ?_ _ | refine blk_drew ?_ | refine blk_alloc ?_ _)); exact BK142.out⟩, ⟨by repeat (first | (with_reducible first | exact HB.out | apply below_alloc | apply pw_below_drewN | apply below_drew1 | refine below_set ?_ GE142.out) | exact HB.out)⟩⟩
                          · rw [if_neg c44] at H
                            have c44b0 : (t149 == 0) = false := beq_eq_false_iff_ne.mpr c44
                            have c44b1 : (t149 != 0) = true := bne_iff_ne.mpr c44
                            have H' := Aside0.mk H
                            clear H
                            go_wp2
                            go_meet
                            case rel => exact ⟨_, (true), (by first | rfl | (simp; done) | (simp [*]; done)), H', ⟨by have := HJ6.out; have := HJ25.out; first | omega | exact Nat.le_refl _⟩, ⟨by (with_reducible repeat (first | refine blk_drewN ?_ _ | refine blk_drew ?_ | refine blk_alloc ?_ _)); exact BK142.out⟩, ⟨by repeat (first | (with_reducible first | exact HB.out | apply below_alloc | apply pw_below_drewN | apply below_drew1 | refine below_set ?_ GE142.out) | exact HB.out)⟩⟩
                      · rw [if_neg c42] at H
                        have c42b0 : (t147 == 0) = false := beq_eq_false_iff_ne.mpr c42
                        have c42b1 : (t147 != 0) = true := bne_iff_ne.mpr c42
                        have H' := Aside0.mk H
                        clear H
                        go_wp2
                        go_meet
                        case rel => exact ⟨_, (true), (by first | rfl | (simp; done) | (simp [*]; done)), H', ⟨by have := HJ6.out; have := HJ25.out; first | omega | exact Nat.le_refl _⟩, ⟨by (with_reducible repeat (first | refine blk_drewN ?_ _ | refine blk_drew ?_ | refine blk_alloc ?_ _)); exact BK142.out⟩, ⟨by repeat (first | (with_reducible first | exact HB.out | apply below_alloc | apply pw_below_drewN | apply below_drew1 | refine below_set ?_ GE142.out) | exact HB.out)⟩⟩
                  · replace c37 := Bool.eq_false_iff.mpr c37
                    subst c37
                    have H1 : (if t145 = 0 then (if t148 = true then (if t152 = true then (morainelaw01_WordTells.j2 kj25 t143 t145 t147 t149 t150 t151 false t137 t138 t139 t140 t141) else (if t149 = 0 then (if t150 = 0 then (morainelaw01_WordTells.j2 kj25 t143 t145 t147 t149 t150 t151 (t151 != 0) t137 t138 t139 t140 t141) else (morainelaw01_WordTells.j2 kj25 t143 t145 t147 t149 t150 t151 true t137 t138 t139 t140 t141)) else (morainelaw01_WordTells.j2 kj25 t143 t145 t147 t149 t150 t151 true t137 t138 t139 t140 t141))) else (if t147 = 0 then (if t152 = true then (morainelaw01_WordTells.j2 kj25 t143 t145 t147 t149 t150 t151 false t137 t138 t139 t140 t141) else (if t149 = 0 then (if t150 = 0 then (morainelaw01_WordTells.j2 kj25 t143 t145 t147 t149 t150 t151 (t151 != 0) t137 t138 t139 t140 t141) else (morainelaw01_WordTells.j2 kj25 t143 t145 t147 t149 t150 t151 true t137 t138 t139 t140 t141)) else (morainelaw01_WordTells.j2 kj25 t143 t145 t147 t149 t150 t151 true t137 t138 t139 t140 t141))) else (morainelaw01_WordTells.j2 kj25 t143 t145 t147 t149 t150 t151 true t137 t138 t139 t140 t141))) else (morainelaw01_WordTells.j2 kj25 t143 t145 t147 t149 t150 t151 true t137 t138 t139 t140 t141)) = some r := by rw [if_neg (show ¬ (false = true) by decide)] at H; exact H
                    clear H
                    have H := H1
                    clear H1
                    by_cases c46 : t145 = 0
                    · rw [if_pos c46] at H
                      have c46b0 : (t145 == 0) = true := beq_iff_eq.mpr c46
                      have c46b1 : (t145 != 0) = false := bne_eq_false_iff_eq.mpr c46
                      clear c46
                      by_cases c47 : t148 = true
                      · subst c47
                        have H1 : (if t152 = true then (morainelaw01_WordTells.j2 kj25 t143 t145 t147 t149 t150 t151 false t137 t138 t139 t140 t141) else (if t149 = 0 then (if t150 = 0 then (morainelaw01_WordTells.j2 kj25 t143 t145 t147 t149 t150 t151 (t151 != 0) t137 t138 t139 t140 t141) else (morainelaw01_WordTells.j2 kj25 t143 t145 t147 t149 t150 t151 true t137 t138 t139 t140 t141)) else (morainelaw01_WordTells.j2 kj25 t143 t145 t147 t149 t150 t151 true t137 t138 t139 t140 t141))) = some r := by rw [if_pos rfl] at H; exact H
                        clear H
                        have H := H1
                        clear H1
                        by_cases c48 : t152 = true
                        · subst c48
                          have H1 : (morainelaw01_WordTells.j2 kj25 t143 t145 t147 t149 t150 t151 false t137 t138 t139 t140 t141) = some r := by rw [if_pos rfl] at H; exact H
                          clear H
                          have H := H1
                          clear H1
                          have H' := Aside0.mk H
                          clear H
                          go_wp2
                          go_meet
                          case rel => exact ⟨_, (false), (by first | rfl | (simp; done) | (simp [*]; done)), H', ⟨by have := HJ6.out; have := HJ25.out; first | omega | exact Nat.le_refl _⟩, ⟨by (with_reducible repeat (first | refine blk_drewN ?_ _ | refine blk_drew ?_ | refine blk_alloc ?_ _)); exact BK142.out⟩, ⟨by repeat (first | (with_reducible first | exact HB.out | apply below_alloc | apply pw_below_drewN | apply below_drew1 | refine below_set ?_ GE142.out) | exact HB.out)⟩⟩
                        · replace c48 := Bool.eq_false_iff.mpr c48
                          subst c48
                          have H1 : (if t149 = 0 then (if t150 = 0 then (morainelaw01_WordTells.j2 kj25 t143 t145 t147 t149 t150 t151 (t151 != 0) t137 t138 t139 t140 t141) else (morainelaw01_WordTells.j2 kj25 t143 t145 t147 t149 t150 t151 true t137 t138 t139 t140 t141)) else (morainelaw01_WordTells.j2 kj25 t143 t145 t147 t149 t150 t151 true t137 t138 t139 t140 t141)) = some r := by rw [if_neg (show ¬ (false = true) by decide)] at H; exact H
                          clear H
                          have H := H1
                          clear H1
                          by_cases c49 : t149 = 0
                          · rw [if_pos c49] at H
                            have c49b0 : (t149 == 0) = true := beq_iff_eq.mpr c49
                            have c49b1 : (t149 != 0) = false := bne_eq_false_iff_eq.mpr c49
                            clear c49
                            by_cases c50 : t150 = 0
                            · rw [if_pos c50] at H
                              have c50b0 : (t150 == 0) = true := beq_iff_eq.mpr c50
                              have c50b1 : (t150 != 0) = false := bne_eq_false_iff_eq.mpr c50
                              clear c50
                              have H' := Aside0.mk H
                              clear H
                              go_wp2
                              go_meet
                              case rel => exact ⟨_, ((t151 != 0)), (by first | rfl | (simp; done) | (simp [*]; done)), H', ⟨by have := HJ6.out; have := HJ25.out; first | omega | exact Nat.le_refl _⟩, ⟨by (with_reducible repeat (first | refine blk_drewN ?_ _ | refine blk_drew ?_ | refine blk_alloc ?_ _)); exact BK142.out⟩, ⟨by repeat (first | (with_reducible first | exact HB.out | apply below_alloc | apply pw_below_drewN | apply below_drew1 | refine below_set ?_ GE142.out) | exact HB.out)⟩⟩
                            · rw [if_neg c50] at H
                              have c50b0 : (t150 == 0) = false := beq_eq_false_iff_ne.mpr c50
                              have c50b1 : (t150 != 0) = true := bne_iff_ne.mpr c50
                              have H' := Aside0.mk H
                              clear H
                              go_wp2
                              go_meet
                              case rel => exact ⟨_, (true), (by first | rfl | (simp; done) | (simp [*]; done)), H', ⟨by have := HJ6.out; have := HJ25.out; first | omega | exact Nat.le_refl _⟩, ⟨by (with_reducible repeat (first | refine blk_drewN ?_ _ | refine blk_drew ?_ | refine blk_alloc ?_ _)); exact BK142.out⟩, ⟨by repeat (first | (with_reducible first | exact HB.out | apply below_alloc | apply pw_below_drewN | apply below_drew1 | refine below_set ?_ GE142.out) | exact HB.out)⟩⟩
                          · rw [if_neg c49] at H
                            have c49b0 : (t149 == 0) = false := beq_eq_false_iff_ne.mpr c49
                            have c49b1 : (t149 != 0) = true := bne_iff_ne.mpr c49
                            have H' := Aside0.mk H
                            clear H
                            go_wp2
                            go_meet
                            case rel => exact ⟨_, (true), (by first | rfl | (simp; done) | (simp [*]; done)), H', ⟨by have := HJ6.out; have := HJ25.out; first | omega | exact Nat.le_refl _⟩, ⟨by (with_reducible repeat (first | refine blk_drewN ?_ _ | refine blk_drew ?_ | refine blk_alloc ?_ _)); exact BK142.out⟩, ⟨by repeat (first | (with_reducible first | exact HB.out | apply below_alloc | apply pw_below_drewN | apply below_drew1 | refine below_set ?_ GE142.out) | exact HB.out)⟩⟩
                      · replace c47 := Bool.eq_false_iff.mpr c47
                        subst c47
                        have H1 : (if t147 = 0 then (if t152 = true then (morainelaw01_WordTells.j2 kj25 t143 t145 t147 t149 t150 t151 false t137 t138 t139 t140 t141) else (if t149 = 0 then (if t150 = 0 then (morainelaw01_WordTells.j2 kj25 t143 t145 t147 t149 t150 t151 (t151 != 0) t137 t138 t139 t140 t141) else (morainelaw01_WordTells.j2 kj25 t143 t145 t147 t149 t150 t151 true t137 t138 t139 t140 t141)) else (morainelaw01_WordTells.j2 kj25 t143 t145 t147 t149 t150 t151 true t137 t138 t139 t140 t141))) else (morainelaw01_WordTells.j2 kj25 t143 t145 t147 t149 t150 t151 true t137 t138 t139 t140 t141)) = some r := by rw [if_neg (show ¬ (false = true) by decide)] at H; exact H
                        clear H
                        have H := H1
                        clear H1
                        by_cases c51 : t147 = 0
                        · rw [if_pos c51] at H
                          have c51b0 : (t147 == 0) = true := beq_iff_eq.mpr c51
                          have c51b1 : (t147 != 0) = false := bne_eq_false_iff_eq.mpr c51
                          clear c51
                          by_cases c52 : t152 = true
                          · subst c52
                            have H1 : (morainelaw01_WordTells.j2 kj25 t143 t145 t147 t149 t150 t151 false t137 t138 t139 t140 t141) = some r := by rw [if_pos rfl] at H; exact H
                            clear H
                            have H := H1
                            clear H1
                            have H' := Aside0.mk H
                            clear H
                            go_wp2
                            go_meet
                            case rel => exact ⟨_, (false), (by first | rfl | (simp; done) | (simp [*]; done)), H', ⟨by have := HJ6.out; have := HJ25.out; first | omega | exact Nat.le_refl _⟩, ⟨by (with_reducible repeat (first | refine blk_drewN ?_ _ | refine blk_drew ?_ | refine blk_alloc ?_ _)); exact BK142.out⟩, ⟨by repeat (first | (with_reducible first | exact HB.out | apply below_alloc | apply pw_below_drewN | apply below_drew1 | refine below_set ?_ GE142.out) | exact HB.out)⟩⟩
                          · replace c52 := Bool.eq_false_iff.mpr c52
                            subst c52
                            have H1 : (if t149 = 0 then (if t150 = 0 then (morainelaw01_WordTells.j2 kj25 t143 t145 t147 t149 t150 t151 (t151 != 0) t137 t138 t139 t140 t141) else (morainelaw01_WordTells.j2 kj25 t143 t145 t147 t149 t150 t151 true t137 t138 t139 t140 t141)) else (morainelaw01_WordTells.j2 kj25 t143 t145 t147 t149 t150 t151 true t137 t138 t139 t140 t141)) = some r := by rw [if_neg (show ¬ (false = true) by decide)] at H; exact H
                            clear H
                            have H := H1
                            clear H1
                            by_cases c53 : t149 = 0
                            · rw [if_pos c53] at H
                              have c53b0 : (t149 == 0) = true := beq_iff_eq.mpr c53
                              have c53b1 : (t149 != 0) = false := bne_eq_false_iff_eq.mpr c53
                              clear c53
                              by_cases c54 : t150 = 0
                              · rw [if_pos c54] at H
                                have c54b0 : (t150 == 0) = true := beq_iff_eq.mpr c54
                                have c54b1 : (t150 != 0) = false := bne_eq_false_iff_eq.mpr c54
                                clear c54
                                have H' := Aside0.mk H
                                clear H
                                go_wp2
                                go_meet
                                case rel => exact ⟨_, ((t151 != 0)), (by first | rfl | (simp; done) | (simp [*]; done)), H', ⟨by have := HJ6.out; have := HJ25.out; first | omega | exact Nat.le_refl _⟩, ⟨by (with_reducible repeat (first | refine blk_drewN ?_ _ | refine blk_drew ?_ | refine blk_alloc ?_ _)); exact BK142.out⟩, ⟨by repeat (first | (with_reducible first | exact HB.out | apply below_alloc | apply pw_below_drewN | apply below_drew1 | refine below_set ?_ GE142.out) | exact HB.out)⟩⟩
                              · rw [if_neg c54] at H
                                have c54b0 : (t150 == 0) = false := beq_eq_false_iff_ne.mpr c54
                                have c54b1 : (t150 != 0) = true := bne_iff_ne.mpr c54
                                have H' := Aside0.mk H
                                clear H
                                go_wp2
                                go_meet
                                case rel => exact ⟨_, (true), (by first | rfl | (simp; done) | (simp [*]; done)), H', ⟨by have := HJ6.out; have := HJ25.out; first | omega | exact Nat.le_refl _⟩, ⟨by (with_reducible repeat (first | refine blk_drewN ?_ _ | refine blk_drew ?_ | refine blk_alloc ?_ _)); exact BK142.out⟩, ⟨by repeat (first | (with_reducible first | exact HB.out | apply below_alloc | apply pw_below_drewN | apply below_drew1 | refine below_set ?_ GE142.out) | exact HB.out)⟩⟩
                            · rw [if_neg c53] at H
                              have c53b0 : (t149 == 0) = false := beq_eq_false_iff_ne.mpr c53
                              have c53b1 : (t149 != 0) = true := bne_iff_ne.mpr c53
                              have H' := Aside0.mk H
                              clear H
                              go_wp2
                              go_meet
                              case rel => exact ⟨_, (true), (by first | rfl | (simp; done) | (simp [*]; done)), H', ⟨by have := HJ6.out; have := HJ25.out; first | omega | exact Nat.le_refl _⟩, ⟨by (with_reducible repeat (first | refine blk_drewN ?_ _ | refine blk_drew ?_ | refine blk_alloc ?_ _)); exact BK142.out⟩, ⟨by repeat (first | (with_reducible first | exact HB.out | apply below_alloc | apply pw_below_drewN | apply below_drew1 | refine below_set ?_ GE142.out) | exact HB.out)⟩⟩
                        · rw [if_neg c51] at H
                          have c51b0 : (t147 == 0) = false := beq_eq_false_iff_ne.mpr c51
                          have c51b1 : (t147 != 0) = true := bne_iff_ne.mpr c51
                          have H' := Aside0.mk H
                          clear H
                          go_wp2
                          go_meet
                          case rel => exact ⟨_, (true), (by first | rfl | (simp; done) | (simp [*]; done)), H', ⟨by have := HJ6.out; have := HJ25.out; first | omega | exact Nat.le_refl _⟩, ⟨by (with_reducible repeat (first | refine blk_drewN ?_ _ | refine blk_drew ?_ | refine blk_alloc ?_ _)); exact BK142.out⟩, ⟨by repeat (first | (with_reducible first | exact HB.out | apply below_alloc | apply pw_below_drewN | apply below_drew1 | refine below_set ?_ GE142.out) | exact HB.out)⟩⟩
                    · rw [if_neg c46] at H
                      have c46b0 : (t145 == 0) = false := beq_eq_false_iff_ne.mpr c46
                      have c46b1 : (t145 != 0) = true := bne_iff_ne.mpr c46
                      have H' := Aside0.mk H
                      clear H
                      go_wp2
                      go_meet
                      case rel => exact ⟨_, (true), (by first | rfl | (simp; done) | (simp [*]; done)), H', ⟨by have := HJ6.out; have := HJ25.out; first | omega | exact Nat.le_refl _⟩, ⟨by (with_reducible repeat (first | refine blk_drewN ?_ _ | refine blk_drew ?_ | refine blk_alloc ?_ _)); exact BK142.out⟩, ⟨by repeat (first | (with_reducible first | exact HB.out | apply below_alloc | apply pw_below_drewN | apply below_drew1 | refine below_set ?_ GE142.out) | exact HB.out)⟩⟩
                · replace c36 := Bool.eq_false_iff.mpr c36
                  subst c36
                  have H1 : (if t143 = 0 then (if t146 = true then (if t148 = true then (if t152 = true then (morainelaw01_WordTells.j2 kj25 t143 t145 t147 t149 t150 t151 false t137 t138 t139 t140 t141) else (if t149 = 0 then (if t150 = 0 then (morainelaw01_WordTells.j2 kj25 t143 t145 t147 t149 t150 t151 (t151 != 0) t137 t138 t139 t140 t141) else (morainelaw01_WordTells.j2 kj25 t143 t145 t147 t149 t150 t151 true t137 t138 t139 t140 t141)) else (morainelaw01_WordTells.j2 kj25 t143 t145 t147 t149 t150 t151 true t137 t138 t139 t140 t141))) else (if t147 = 0 then (if t152 = true then (morainelaw01_WordTells.j2 kj25 t143 t145 t147 t149 t150 t151 false t137 t138 t139 t140 t141) else (if t149 = 0 then (if t150 = 0 then (morainelaw01_WordTells.j2 kj25 t143 t145 t147 t149 t150 t151 (t151 != 0) t137 t138 t139 t140 t141) else (morainelaw01_WordTells.j2 kj25 t143 t145 t147 t149 t150 t151 true t137 t138 t139 t140 t141)) else (morainelaw01_WordTells.j2 kj25 t143 t145 t147 t149 t150 t151 true t137 t138 t139 t140 t141))) else (morainelaw01_WordTells.j2 kj25 t143 t145 t147 t149 t150 t151 true t137 t138 t139 t140 t141))) else (if t145 = 0 then (if t148 = true then (if t152 = true then (morainelaw01_WordTells.j2 kj25 t143 t145 t147 t149 t150 t151 false t137 t138 t139 t140 t141) else (if t149 = 0 then (if t150 = 0 then (morainelaw01_WordTells.j2 kj25 t143 t145 t147 t149 t150 t151 (t151 != 0) t137 t138 t139 t140 t141) else (morainelaw01_WordTells.j2 kj25 t143 t145 t147 t149 t150 t151 true t137 t138 t139 t140 t141)) else (morainelaw01_WordTells.j2 kj25 t143 t145 t147 t149 t150 t151 true t137 t138 t139 t140 t141))) else (if t147 = 0 then (if t152 = true then (morainelaw01_WordTells.j2 kj25 t143 t145 t147 t149 t150 t151 false t137 t138 t139 t140 t141) else (if t149 = 0 then (if t150 = 0 then (morainelaw01_WordTells.j2 kj25 t143 t145 t147 t149 t150 t151 (t151 != 0) t137 t138 t139 t140 t141) else (morainelaw01_WordTells.j2 kj25 t143 t145 t147 t149 t150 t151 true t137 t138 t139 t140 t141)) else (morainelaw01_WordTells.j2 kj25 t143 t145 t147 t149 t150 t151 true t137 t138 t139 t140 t141))) else (morainelaw01_WordTells.j2 kj25 t143 t145 t147 t149 t150 t151 true t137 t138 t139 t140 t141))) else (morainelaw01_WordTells.j2 kj25 t143 t145 t147 t149 t150 t151 true t137 t138 t139 t140 t141))) else (morainelaw01_WordTells.j2 kj25 t143 t145 t147 t149 t150 t151 true t137 t138 t139 t140 t141)) = some r := by rw [if_neg (show ¬ (false = true) by decide)] at H; exact H
                  clear H
                  have H := H1
                  clear H1
                  by_cases c55 : t143 = 0
                  · rw [if_pos c55] at H
                    have c55b0 : (t143 == 0) = true := beq_iff_eq.mpr c55
                    have c55b1 : (t143 != 0) = false := bne_eq_false_iff_eq.mpr c55
                    clear c55
                    by_cases c56 : t146 = true
                    · subst c56
                      have H1 : (if t148 = true then (if t152 = true then (morainelaw01_WordTells.j2 kj25 t143 t145 t147 t149 t150 t151 false t137 t138 t139 t140 t141) else (if t149 = 0 then (if t150 = 0 then (morainelaw01_WordTells.j2 kj25 t143 t145 t147 t149 t150 t151 (t151 != 0) t137 t138 t139 t140 t141) else (morainelaw01_WordTells.j2 kj25 t143 t145 t147 t149 t150 t151 true t137 t138 t139 t140 t141)) else (morainelaw01_WordTells.j2 kj25 t143 t145 t147 t149 t150 t151 true t137 t138 t139 t140 t141))) else (if t147 = 0 then (if t152 = true then (morainelaw01_WordTells.j2 kj25 t143 t145 t147 t149 t150 t151 false t137 t138 t139 t140 t141) else (if t149 = 0 then (if t150 = 0 then (morainelaw01_WordTells.j2 kj25 t143 t145 t147 t149 t150 t151 (t151 != 0) t137 t138 t139 t140 t141) else (morainelaw01_WordTells.j2 kj25 t143 t145 t147 t149 t150 t151 true t137 t138 t139 t140 t141)) else (morainelaw01_WordTells.j2 kj25 t143 t145 t147 t149 t150 t151 true t137 t138 t139 t140 t141))) else (morainelaw01_WordTells.j2 kj25 t143 t145 t147 t149 t150 t151 true t137 t138 t139 t140 t141))) = some r := by rw [if_pos rfl] at H; exact H
                      clear H
                      have H := H1
                      clear H1
                      by_cases c57 : t148 = true
                      · subst c57
                        have H1 : (if t152 = true then (morainelaw01_WordTells.j2 kj25 t143 t145 t147 t149 t150 t151 false t137 t138 t139 t140 t141) else (if t149 = 0 then (if t150 = 0 then (morainelaw01_WordTells.j2 kj25 t143 t145 t147 t149 t150 t151 (t151 != 0) t137 t138 t139 t140 t141) else (morainelaw01_WordTells.j2 kj25 t143 t145 t147 t149 t150 t151 true t137 t138 t139 t140 t141)) else (morainelaw01_WordTells.j2 kj25 t143 t145 t147 t149 t150 t151 true t137 t138 t139 t140 t141))) = some r := by rw [if_pos rfl] at H; exact H
                        clear H
                        have H := H1
                        clear H1
                        by_cases c58 : t152 = true
                        · subst c58
                          have H1 : (morainelaw01_WordTells.j2 kj25 t143 t145 t147 t149 t150 t151 false t137 t138 t139 t140 t141) = some r := by rw [if_pos rfl] at H; exact H
                          clear H
                          have H := H1
                          clear H1
                          have H' := Aside0.mk H
                          clear H
                          go_wp2
                          go_meet
                          case rel => exact ⟨_, (false), (by first | rfl | (simp; done) | (simp [*]; done)), H', ⟨by have := HJ6.out; have := HJ25.out; first | omega | exact Nat.le_refl _⟩, ⟨by (with_reducible repeat (first | refine blk_drewN ?_ _ | refine blk_drew ?_ | refine blk_alloc ?_ _)); exact BK142.out⟩, ⟨by repeat (first | (with_reducible first | exact HB.out | apply below_alloc | apply pw_below_drewN | apply below_drew1 | refine below_set ?_ GE142.out) | exact HB.out)⟩⟩
                        · replace c58 := Bool.eq_false_iff.mpr c58
                          subst c58
                          have H1 : (if t149 = 0 then (if t150 = 0 then (morainelaw01_WordTells.j2 kj25 t143 t145 t147 t149 t150 t151 (t151 != 0) t137 t138 t139 t140 t141) else (morainelaw01_WordTells.j2 kj25 t143 t145 t147 t149 t150 t151 true t137 t138 t139 t140 t141)) else (morainelaw01_WordTells.j2 kj25 t143 t145 t147 t149 t150 t151 true t137 t138 t139 t140 t141)) = some r := by rw [if_neg (show ¬ (false = true) by decide)] at H; exact H
                          clear H
                          have H := H1
                          clear H1
                          by_cases c59 : t149 = 0
                          · rw [if_pos c59] at H
                            have c59b0 : (t149 == 0) = true := beq_iff_eq.mpr c59
                            have c59b1 : (t149 != 0) = false := bne_eq_false_iff_eq.mpr c59
                            clear c59
                            by_cases c60 : t150 = 0
                            · rw [if_pos c60] at H
                              have c60b0 : (t150 == 0) = true := beq_iff_eq.mpr c60
                              have c60b1 : (t150 != 0) = false := bne_eq_false_iff_eq.mpr c60
                              clear c60
                              have H' := Aside0.mk H
                              clear H
                              go_wp2
                              go_meet
                              case rel => exact ⟨_, ((t151 != 0)), (by first | rfl | (simp; done) | (simp [*]; done)), H', ⟨by have := HJ6.out; have := HJ25.out; first | omega | exact Nat.le_refl _⟩, ⟨by (with_reducible repeat (first | refine blk_drewN ?_ _ | refine blk_drew ?_ | refine blk_alloc ?_ _)); exact BK142.out⟩, ⟨by repeat (first | (with_reducible first | exact HB.out | apply below_alloc | apply pw_below_drewN | apply below_drew1 | refine below_set ?_ GE142.out) | exact HB.out)⟩⟩
                            · rw [if_neg c60] at H
                              have c60b0 : (t150 == 0) = false := beq_eq_false_iff_ne.mpr c60
                              have c60b1 : (t150 != 0) = true := bne_iff_ne.mpr c60
                              have H' := Aside0.mk H
                              clear H
                              go_wp2
                              go_meet
                              case rel => exact ⟨_, (true), (by first | rfl | (simp; done) | (simp [*]; done)), H', ⟨by have := HJ6.out; have := HJ25.out; first | omega | exact Nat.le_refl _⟩, ⟨by (with_reducible repeat (first | refine blk_drewN ?_ _ | refine blk_drew ?_ | refine blk_alloc ?_ _)); exact BK142.out⟩, ⟨by repeat (first | (with_reducible first | exact HB.out | apply below_alloc | apply pw_below_drewN | apply below_drew1 | refine below_set ?_ GE142.out) | exact HB.out)⟩⟩
                          · rw [if_neg c59] at H
                            have c59b0 : (t149 == 0) = false := beq_eq_false_iff_ne.mpr c59
                            have c59b1 : (t149 != 0) = true := bne_iff_ne.mpr c59
                            have H' := Aside0.mk H
                            clear H
                            go_wp2
                            go_meet
                            case rel => exact ⟨_, (true), (by first | rfl | (simp; done) | (simp [*]; done)), H', ⟨by have := HJ6.out; have := HJ25.out; first | omega | exact Nat.le_refl _⟩, ⟨by (with_reducible repeat (first | refine blk_drewN ?_ _ | refine blk_drew ?_ | refine blk_alloc ?_ _)); exact BK142.out⟩, ⟨by repeat (first | (with_reducible first | exact HB.out | apply below_alloc | apply pw_below_drewN | apply below_drew1 | refine below_set ?_ GE142.out) | exact HB.out)⟩⟩
                      · replace c57 := Bool.eq_false_iff.mpr c57
                        subst c57
                        have H1 : (if t147 = 0 then (if t152 = true then (morainelaw01_WordTells.j2 kj25 t143 t145 t147 t149 t150 t151 false t137 t138 t139 t140 t141) else (if t149 = 0 then (if t150 = 0 then (morainelaw01_WordTells.j2 kj25 t143 t145 t147 t149 t150 t151 (t151 != 0) t137 t138 t139 t140 t141) else (morainelaw01_WordTells.j2 kj25 t143 t145 t147 t149 t150 t151 true t137 t138 t139 t140 t141)) else (morainelaw01_WordTells.j2 kj25 t143 t145 t147 t149 t150 t151 true t137 t138 t139 t140 t141))) else (morainelaw01_WordTells.j2 kj25 t143 t145 t147 t149 t150 t151 true t137 t138 t139 t140 t141)) = some r := by rw [if_neg (show ¬ (false = true) by decide)] at H; exact H
                        clear H
                        have H := H1
                        clear H1
                        by_cases c61 : t147 = 0
                        · rw [if_pos c61] at H
                          have c61b0 : (t147 == 0) = true := beq_iff_eq.mpr c61
                          have c61b1 : (t147 != 0) = false := bne_eq_false_iff_eq.mpr c61
                          clear c61
                          by_cases c62 : t152 = true
                          · subst c62
                            have H1 : (morainelaw01_WordTells.j2 kj25 t143 t145 t147 t149 t150 t151 false t137 t138 t139 t140 t141) = some r := by rw [if_pos rfl] at H; exact H
                            clear H
                            have H := H1
                            clear H1
                            have H' := Aside0.mk H
                            clear H
                            go_wp2
                            go_meet
                            case rel => exact ⟨_, (false), (by first | rfl | (simp; done) | (simp [*]; done)), H', ⟨by have := HJ6.out; have := HJ25.out; first | omega | exact Nat.le_refl _⟩, ⟨by (with_reducible repeat (first | refine blk_drewN ?_ _ | refine blk_drew ?_ | refine blk_alloc ?_ _)); exact BK142.out⟩, ⟨by repeat (first | (with_reducible first | exact HB.out | apply below_alloc | apply pw_below_drewN | apply below_drew1 | refine below_set ?_ GE142.out) | exact HB.out)⟩⟩
                          · replace c62 := Bool.eq_false_iff.mpr c62
                            subst c62
                            have H1 : (if t149 = 0 then (if t150 = 0 then (morainelaw01_WordTells.j2 kj25 t143 t145 t147 t149 t150 t151 (t151 != 0) t137 t138 t139 t140 t141) else (morainelaw01_WordTells.j2 kj25 t143 t145 t147 t149 t150 t151 true t137 t138 t139 t140 t141)) else (morainelaw01_WordTells.j2 kj25 t143 t145 t147 t149 t150 t151 true t137 t138 t139 t140 t141)) = some r := by rw [if_neg (show ¬ (false = true) by decide)] at H; exact H
                            clear H
                            have H := H1
                            clear H1
                            by_cases c63 : t149 = 0
                            · rw [if_pos c63] at H
                              have c63b0 : (t149 == 0) = true := beq_iff_eq.mpr c63
                              have c63b1 : (t149 != 0) = false := bne_eq_false_iff_eq.mpr c63
                              clear c63
                              by_cases c64 : t150 = 0
                              · rw [if_pos c64] at H
                                have c64b0 : (t150 == 0) = true := beq_iff_eq.mpr c64
                                have c64b1 : (t150 != 0) = false := bne_eq_false_iff_eq.mpr c64
                                clear c64
                                have H' := Aside0.mk H
                                clear H
                                go_wp2
                                go_meet
                                case rel => exact ⟨_, ((t151 != 0)), (by first | rfl | (simp; done) | (simp [*]; done)), H', ⟨by have := HJ6.out; have := HJ25.out; first | omega | exact Nat.le_refl _⟩, ⟨by (with_reducible repeat (first | refine blk_drewN ?_ _ | refine blk_drew ?_ | refine blk_alloc ?_ _)); exact BK142.out⟩, ⟨by repeat (first | (with_reducible first | exact HB.out | apply below_alloc | apply pw_below_drewN | apply below_drew1 | refine below_set ?_ GE142.out) | exact HB.out)⟩⟩
                              · rw [if_neg c64] at H
                                have c64b0 : (t150 == 0) = false := beq_eq_false_iff_ne.mpr c64
                                have c64b1 : (t150 != 0) = true := bne_iff_ne.mpr c64
                                have H' := Aside0.mk H
                                clear H
                                go_wp2
                                go_meet
                                case rel => exact ⟨_, (true), (by first | rfl | (simp; done) | (simp [*]; done)), H', ⟨by have := HJ6.out; have := HJ25.out; first | omega | exact Nat.le_refl _⟩, ⟨by (with_reducible repeat (first | refine blk_drewN ?_ _ | refine blk_drew ?_ | refine blk_alloc ?_ _)); exact BK142.out⟩, ⟨by repeat (first | (with_reducible first | exact HB.out | apply below_alloc | apply pw_below_drewN | apply below_drew1 | refine below_set ?_ GE142.out) | exact HB.out)⟩⟩
                            · rw [if_neg c63] at H
                              have c63b0 : (t149 == 0) = false := beq_eq_false_iff_ne.mpr c63
                              have c63b1 : (t149 != 0) = true := bne_iff_ne.mpr c63
                              have H' := Aside0.mk H
                              clear H
                              go_wp2
                              go_meet
                              case rel => exact ⟨_, (true), (by first | rfl | (simp; done) | (simp [*]; done)), H', ⟨by have := HJ6.out; have := HJ25.out; first | omega | exact Nat.le_refl _⟩, ⟨by (with_reducible repeat (first | refine blk_drewN ?_ _ | refine blk_drew ?_ | refine blk_alloc ?_ _)); exact BK142.out⟩, ⟨by repeat (first | (with_reducible first | exact HB.out | apply below_alloc | apply pw_below_drewN | apply below_drew1 | refine below_set ?_ GE142.out) | exact HB.out)⟩⟩
                        · rw [if_neg c61] at H
                          have c61b0 : (t147 == 0) = false := beq_eq_false_iff_ne.mpr c61
                          have c61b1 : (t147 != 0) = true := bne_iff_ne.mpr c61
                          have H' := Aside0.mk H
                          clear H
                          go_wp2
                          go_meet
                          case rel => exact ⟨_, (true), (by first | rfl | (simp; done) | (simp [*]; done)), H', ⟨by have := HJ6.out; have := HJ25.out; first | omega | exact Nat.le_refl _⟩, ⟨by (with_reducible repeat (first | refine blk_drewN ?_ _ | refine blk_drew ?_ | refine blk_alloc ?_ _)); exact BK142.out⟩, ⟨by repeat (first | (with_reducible first | exact HB.out | apply below_alloc | apply pw_below_drewN | apply below_drew1 | refine below_set ?_ GE142.out) | exact HB.out)⟩⟩
                    · replace c56 := Bool.eq_false_iff.mpr c56
                      subst c56
                      have H1 : (if t145 = 0 then (if t148 = true then (if t152 = true then (morainelaw01_WordTells.j2 kj25 t143 t145 t147 t149 t150 t151 false t137 t138 t139 t140 t141) else (if t149 = 0 then (if t150 = 0 then (morainelaw01_WordTells.j2 kj25 t143 t145 t147 t149 t150 t151 (t151 != 0) t137 t138 t139 t140 t141) else (morainelaw01_WordTells.j2 kj25 t143 t145 t147 t149 t150 t151 true t137 t138 t139 t140 t141)) else (morainelaw01_WordTells.j2 kj25 t143 t145 t147 t149 t150 t151 true t137 t138 t139 t140 t141))) else (if t147 = 0 then (if t152 = true then (morainelaw01_WordTells.j2 kj25 t143 t145 t147 t149 t150 t151 false t137 t138 t139 t140 t141) else (if t149 = 0 then (if t150 = 0 then (morainelaw01_WordTells.j2 kj25 t143 t145 t147 t149 t150 t151 (t151 != 0) t137 t138 t139 t140 t141) else (morainelaw01_WordTells.j2 kj25 t143 t145 t147 t149 t150 t151 true t137 t138 t139 t140 t141)) else (morainelaw01_WordTells.j2 kj25 t143 t145 t147 t149 t150 t151 true t137 t138 t139 t140 t141))) else (morainelaw01_WordTells.j2 kj25 t143 t145 t147 t149 t150 t151 true t137 t138 t139 t140 t141))) else (morainelaw01_WordTells.j2 kj25 t143 t145 t147 t149 t150 t151 true t137 t138 t139 t140 t141)) = some r := by rw [if_neg (show ¬ (false = true) by decide)] at H; exact H
                      clear H
                      have H := H1
                      clear H1
                      by_cases c65 : t145 = 0
                      · rw [if_pos c65] at H
                        have c65b0 : (t145 == 0) = true := beq_iff_eq.mpr c65
                        have c65b1 : (t145 != 0) = false := bne_eq_false_iff_eq.mpr c65
                        clear c65
                        by_cases c66 : t148 = true
                        · subst c66
                          have H1 : (if t152 = true then (morainelaw01_WordTells.j2 kj25 t143 t145 t147 t149 t150 t151 false t137 t138 t139 t140 t141) else (if t149 = 0 then (if t150 = 0 then (morainelaw01_WordTells.j2 kj25 t143 t145 t147 t149 t150 t151 (t151 != 0) t137 t138 t139 t140 t141) else (morainelaw01_WordTells.j2 kj25 t143 t145 t147 t149 t150 t151 true t137 t138 t139 t140 t141)) else (morainelaw01_WordTells.j2 kj25 t143 t145 t147 t149 t150 t151 true t137 t138 t139 t140 t141))) = some r := by rw [if_pos rfl] at H; exact H
                          clear H
                          have H := H1
                          clear H1
                          by_cases c67 : t152 = true
                          · subst c67
                            have H1 : (morainelaw01_WordTells.j2 kj25 t143 t145 t147 t149 t150 t151 false t137 t138 t139 t140 t141) = some r := by rw [if_pos rfl] at H; exact H
                            clear H
                            have H := H1
                            clear H1
                            have H' := Aside0.mk H
                            clear H
                            go_wp2
                            go_meet
                            case rel => exact ⟨_, (false), (by first | rfl | (simp; done) | (simp [*]; done)), H', ⟨by have := HJ6.out; have := HJ25.out; first | omega | exact Nat.le_refl _⟩, ⟨by (with_reducible repeat (first | refine blk_drewN ?_ _ | refine blk_drew ?_ | refine blk_alloc ?_ _)); exact BK142.out⟩, ⟨by repeat (first | (with_reducible first | exact HB.out | apply below_alloc | apply pw_below_drewN | apply below_drew1 | refine below_set ?_ GE142.out) | exact HB.out)⟩⟩
                          · replace c67 := Bool.eq_false_iff.mpr c67
                            subst c67
                            have H1 : (if t149 = 0 then (if t150 = 0 then (morainelaw01_WordTells.j2 kj25 t143 t145 t147 t149 t150 t151 (t151 != 0) t137 t138 t139 t140 t141) else (morainelaw01_WordTells.j2 kj25 t143 t145 t147 t149 t150 t151 true t137 t138 t139 t140 t141)) else (morainelaw01_WordTells.j2 kj25 t143 t145 t147 t149 t150 t151 true t137 t138 t139 t140 t141)) = some r := by rw [if_neg (show ¬ (false = true) by decide)] at H; exact H
                            clear H
                            have H := H1
                            clear H1
                            by_cases c68 : t149 = 0
                            · rw [if_pos c68] at H
                              have c68b0 : (t149 == 0) = true := beq_iff_eq.mpr c68
                              have c68b1 : (t149 != 0) = false := bne_eq_false_iff_eq.mpr c68
                              clear c68
                              by_cases c69 : t150 = 0
                              · rw [if_pos c69] at H
                                have c69b0 : (t150 == 0) = true := beq_iff_eq.mpr c69
                                have c69b1 : (t150 != 0) = false := bne_eq_false_iff_eq.mpr c69
                                clear c69
                                have H' := Aside0.mk H
                                clear H
                                go_wp2
                                go_meet
                                case rel => exact ⟨_, ((t151 != 0)), (by first | rfl | (simp; done) | (simp [*]; done)), H', ⟨by have := HJ6.out; have := HJ25.out; first | omega | exact Nat.le_refl _⟩, ⟨by (with_reducible repeat (first | refine blk_drewN ?_ _ | refine blk_drew ?_ | refine blk_alloc ?_ _)); exact BK142.out⟩, ⟨by repeat (first | (with_reducible first | exact HB.out | apply below_alloc | apply pw_below_drewN | apply below_drew1 | refine below_set ?_ GE142.out) | exact HB.out)⟩⟩
                              · rw [if_neg c69] at H
                                have c69b0 : (t150 == 0) = false := beq_eq_false_iff_ne.mpr c69
                                have c69b1 : (t150 != 0) = true := bne_iff_ne.mpr c69
                                have H' := Aside0.mk H
                                clear H
                                go_wp2
                                go_meet
                                case rel => exact ⟨_, (true), (by first | rfl | (simp; done) | (simp [*]; done)), H', ⟨by have := HJ6.out; have := HJ25.out; first | omega | exact Nat.le_refl _⟩, ⟨by (with_reducible repeat (first | refine blk_drewN ?_ _ | refine blk_drew ?_ | refine blk_alloc ?_ _)); exact BK142.out⟩, ⟨by repeat (first | (with_reducible first | exact HB.out | apply below_alloc | apply pw_below_drewN | apply below_drew1 | refine below_set ?_ GE142.out) | exact HB.out)⟩⟩
                            · rw [if_neg c68] at H
                              have c68b0 : (t149 == 0) = false := beq_eq_false_iff_ne.mpr c68
                              have c68b1 : (t149 != 0) = true := bne_iff_ne.mpr c68
                              have H' := Aside0.mk H
                              clear H
                              go_wp2
                              go_meet
                              case rel => exact ⟨_, (true), (by first | rfl | (simp; done) | (simp [*]; done)), H', ⟨by have := HJ6.out; have := HJ25.out; first | omega | exact Nat.le_refl _⟩, ⟨by (with_reducible repeat (first | refine blk_drewN ?_ _ | refine blk_drew ?_ | refine blk_alloc ?_ _)); exact BK142.out⟩, ⟨by repeat (first | (with_reducible first | exact HB.out | apply below_alloc | apply pw_below_drewN | apply below_drew1 | refine below_set ?_ GE142.out) | exact HB.out)⟩⟩
                        · replace c66 := Bool.eq_false_iff.mpr c66
                          subst c66
                          have H1 : (if t147 = 0 then (if t152 = true then (morainelaw01_WordTells.j2 kj25 t143 t145 t147 t149 t150 t151 false t137 t138 t139 t140 t141) else (if t149 = 0 then (if t150 = 0 then (morainelaw01_WordTells.j2 kj25 t143 t145 t147 t149 t150 t151 (t151 != 0) t137 t138 t139 t140 t141) else (morainelaw01_WordTells.j2 kj25 t143 t145 t147 t149 t150 t151 true t137 t138 t139 t140 t141)) else (morainelaw01_WordTells.j2 kj25 t143 t145 t147 t149 t150 t151 true t137 t138 t139 t140 t141))) else (morainelaw01_WordTells.j2 kj25 t143 t145 t147 t149 t150 t151 true t137 t138 t139 t140 t141)) = some r := by rw [if_neg (show ¬ (false = true) by decide)] at H; exact H
                          clear H
                          have H := H1
                          clear H1
                          by_cases c70 : t147 = 0
                          · rw [if_pos c70] at H
                            have c70b0 : (t147 == 0) = true := beq_iff_eq.mpr c70
                            have c70b1 : (t147 != 0) = false := bne_eq_false_iff_eq.mpr c70
                            clear c70
                            by_cases c71 : t152 = true
                            · subst c71
                              have H1 : (morainelaw01_WordTells.j2 kj25 t143 t145 t147 t149 t150 t151 false t137 t138 t139 t140 t141) = some r := by rw [if_pos rfl] at H; exact H
                              clear H
                              have H := H1
                              clear H1
                              have H' := Aside0.mk H
                              clear H
                              go_wp2
                              go_meet
                              case rel => exact ⟨_, (false), (by first | rfl | (simp; done) | (simp [*]; done)), H', ⟨by have := HJ6.out; have := HJ25.out; first | omega | exact Nat.le_refl _⟩, ⟨by (with_reducible repeat (first | refine blk_drewN ?_ _ | refine blk_drew ?_ | refine blk_alloc ?_ _)); exact BK142.out⟩, ⟨by repeat (first | (with_reducible first | exact HB.out | apply below_alloc | apply pw_below_drewN | apply below_drew1 | refine below_set ?_ GE142.out) | exact HB.out)⟩⟩
                            · replace c71 := Bool.eq_false_iff.mpr c71
                              subst c71
                              have H1 : (if t149 = 0 then (if t150 = 0 then (morainelaw01_WordTells.j2 kj25 t143 t145 t147 t149 t150 t151 (t151 != 0) t137 t138 t139 t140 t141) else (morainelaw01_WordTells.j2 kj25 t143 t145 t147 t149 t150 t151 true t137 t138 t139 t140 t141)) else (morainelaw01_WordTells.j2 kj25 t143 t145 t147 t149 t150 t151 true t137 t138 t139 t140 t141)) = some r := by rw [if_neg (show ¬ (false = true) by decide)] at H; exact H
                              clear H
                              have H := H1
                              clear H1
                              by_cases c72 : t149 = 0
                              · rw [if_pos c72] at H
                                have c72b0 : (t149 == 0) = true := beq_iff_eq.mpr c72
                                have c72b1 : (t149 != 0) = false := bne_eq_false_iff_eq.mpr c72
                                clear c72
                                by_cases c73 : t150 = 0
                                · rw [if_pos c73] at H
                                  have c73b0 : (t150 == 0) = true := beq_iff_eq.mpr c73
                                  have c73b1 : (t150 != 0) = false := bne_eq_false_iff_eq.mpr c73
                                  clear c73
                                  have H' := Aside0.mk H
                                  clear H
                                  go_wp2
                                  go_meet
                                  case rel => exact ⟨_, ((t151 != 0)), (by first | rfl | (simp; done) | (simp [*]; done)), H', ⟨by have := HJ6.out; have := HJ25.out; first | omega | exact Nat.le_refl _⟩, ⟨by (with_reducible repeat (first | refine blk_drewN ?_ _ | refine blk_drew ?_ | refine blk_alloc ?_ _)); exact BK142.out⟩, ⟨by repeat (first | (with_reducible first | exact HB.out | apply below_alloc | apply pw_below_drewN | apply below_drew1 | refine below_set ?_ GE142.out) | exact HB.out)⟩⟩
                                · rw [if_neg c73] at H
                                  have c73b0 : (t150 == 0) = false := beq_eq_false_iff_ne.mpr c73
                                  have c73b1 : (t150 != 0) = true := bne_iff_ne.mpr c73
                                  have H' := Aside0.mk H
                                  clear H
                                  go_wp2
                                  go_meet
                                  case rel => exact ⟨_, (true), (by first | rfl | (simp; done) | (simp [*]; done)), H', ⟨by have := HJ6.out; have := HJ25.out; first | omega | exact Nat.le_refl _⟩, ⟨by (with_reducible repeat (first | refine blk_drewN ?_ _ | refine blk_drew ?_ | refine blk_alloc ?_ _)); exact BK142.out⟩, ⟨by repeat (first | (with_reducible first | exact HB.out | apply below_alloc | apply pw_below_drewN | apply below_drew1 | refine below_set ?_ GE142.out) | exact HB.out)⟩⟩
                              · rw [if_neg c72] at H
                                have c72b0 : (t149 == 0) = false := beq_eq_false_iff_ne.mpr c72
                                have c72b1 : (t149 != 0) = true := bne_iff_ne.mpr c72
                                have H' := Aside0.mk H
                                clear H
                                go_wp2
                                go_meet
                                case rel => exact ⟨_, (true), (by first | rfl | (simp; done) | (simp [*]; done)), H', ⟨by have := HJ6.out; have := HJ25.out; first | omega | exact Nat.le_refl _⟩, ⟨by (with_reducible repeat (first | refine blk_drewN ?_ _ | refine blk_drew ?_ | refine blk_alloc ?_ _)); exact BK142.out⟩, ⟨by repeat (first | (with_reducible first | exact HB.out | apply below_alloc | apply pw_below_drewN | apply below_drew1 | refine below_set ?_ GE142.out) | exact HB.out)⟩⟩
                          · rw [if_neg c70] at H
                            have c70b0 : (t147 == 0) = false := beq_eq_false_iff_ne.mpr c70
                            have c70b1 : (t147 != 0) = true := bne_iff_ne.mpr c70
                            have H' := Aside0.mk H
                            clear H
                            go_wp2
                            go_meet
                            case rel => exact ⟨_, (true), (by first | rfl | (simp; done) | (simp [*]; done)), H', ⟨by have := HJ6.out; have := HJ25.out; first | omega | exact Nat.le_refl _⟩, ⟨by (with_reducible repeat (first | refine blk_drewN ?_ _ | refine blk_drew ?_ | refine blk_alloc ?_ _)); exact BK142.out⟩, ⟨by repeat (first | (with_reducible first | exact HB.out | apply below_alloc | apply pw_below_drewN | apply below_drew1 | refine below_set ?_ GE142.out) | exact HB.out)⟩⟩
                      · rw [if_neg c65] at H
                        have c65b0 : (t145 == 0) = false := beq_eq_false_iff_ne.mpr c65
                        have c65b1 : (t145 != 0) = true := bne_iff_ne.mpr c65
                        have H' := Aside0.mk H
                        clear H
                        go_wp2
                        go_meet
                        case rel => exact ⟨_, (true), (by first | rfl | (simp; done) | (simp [*]; done)), H', ⟨by have := HJ6.out; have := HJ25.out; first | omega | exact Nat.le_refl _⟩, ⟨by (with_reducible repeat (first | refine blk_drewN ?_ _ | refine blk_drew ?_ | refine blk_alloc ?_ _)); exact BK142.out⟩, ⟨by repeat (first | (with_reducible first | exact HB.out | apply below_alloc | apply pw_below_drewN | apply below_drew1 | refine below_set ?_ GE142.out) | exact HB.out)⟩⟩
                  · rw [if_neg c55] at H
                    have c55b0 : (t143 == 0) = false := beq_eq_false_iff_ne.mpr c55
                    have c55b1 : (t143 != 0) = true := bne_iff_ne.mpr c55
                    have H' := Aside0.mk H
                    clear H
                    go_wp2
                    go_meet
                    case rel => exact ⟨_, (true), (by first | rfl | (simp; done) | (simp [*]; done)), H', ⟨by have := HJ6.out; have := HJ25.out; first | omega | exact Nat.le_refl _⟩, ⟨by (with_reducible repeat (first | refine blk_drewN ?_ _ | refine blk_drew ?_ | refine blk_alloc ?_ _)); exact BK142.out⟩, ⟨by repeat (first | (with_reducible first | exact HB.out | apply below_alloc | apply pw_below_drewN | apply below_drew1 | refine below_set ?_ GE142.out) | exact HB.out)⟩⟩
              case rest => as_aux_lemma =>
                clear HC35
                try clear p2
                try clear c3
                try clear c4
                try clear c5
                try clear c6
                try clear p6
                try clear c7
                try clear c34
                try clear c36
                try clear c37
                try clear c38
                try clear c39
                try clear c40
                try clear c40b0
                try clear c40b1
                try clear c41
                try clear c41b0
                try clear c41b1
                try clear c42
                try clear c42b0
                try clear c42b1
                try clear c43
                try clear c44
                try clear c44b0
                try clear c44b1
                try clear c45
                try clear c45b0
                try clear c45b1
                try clear c46
                try clear c46b0
                try clear c46b1
                try clear c47
                try clear c48
                try clear c49
                try clear c49b0
                try clear c49b1
                try clear c50
                try clear c50b0
                try clear c50b1
                try clear c51
                try clear c51b0
                try clear c51b1
                try clear c52
                try clear c53
                try clear c53b0
                try clear c53b1
                try clear c54
                try clear c54b0
                try clear c54b1
                try clear c55
                try clear c55b0
                try clear c55b1
                try clear c56
                try clear c57
                try clear c58
                try clear c59
                try clear c59b0
                try clear c59b1
                try clear c60
                try clear c60b0
                try clear c60b1
                try clear c61
                try clear c61b0
                try clear c61b1
                try clear c62
                try clear c63
                try clear c63b0
                try clear c63b1
                try clear c64
                try clear c64b0
                try clear c64b1
                try clear c65
                try clear c65b0
                try clear c65b1
                try clear c66
                try clear c67
                try clear c68
                try clear c68b0
                try clear c68b1
                try clear c69
                try clear c69b0
                try clear c69b1
                try clear c70
                try clear c70b0
                try clear c70b1
                try clear c71
                try clear c72
                try clear c72b0
                try clear c72b1
                try clear c73
                try clear c73b0
                try clear c73b1
                try clear hfz33_0
                try clear hfz33_1
                try clear hfz33_2
                try clear hfz33_3
                try clear hfz33_4
                try clear p2
                try clear p6
                obtain ⟨kq, x122_34, rfl, HA, HJ34, BK142, HB⟩ := hcut
                cases kq with
                | zero => exact absurd HA.out (by simp [morainelaw01_WordTells.j2])
                | succ kj34 =>
                  have H := HA.out
                  clear HA
                  simp only [morainelaw01_WordTells.j2] at H
                  by_cases c74 : x122_34 = true
                  · subst c74
                    have H1 : (some false) = some r := by rw [if_pos rfl] at H; exact H
                    clear H
                    have H := H1
                    clear H1
                    obtain rfl := Option.some.inj H
                    go_wp2
                    go_ret
                    exact ⟨by first | rfl | (simp [errW_none, errW_some] <;> rfl) | (simp [*, errW_none, errW_some] <;> rfl), by repeat (first | (with_reducible first | exact HB.out | apply below_alloc | apply pw_below_drewN | apply below_drew1 | refine below_set ?_ GE142.out) | exact HB.out)⟩
                  · replace c74 := Bool.eq_false_iff.mpr c74
                    subst c74
                    have H1 : (if t137 = 1 then (if t143 = t140 then ((morainelaw01_awake.f).bind fun t156 => (some t156)) else (some false)) else (if t137 = 2 then (if t147 = t139 then ((morainelaw01_awake.f).bind fun t157 => (some t157)) else (some false)) else (if t137 = 4 then (if (wrap64 (t145)) = t139 then ((morainelaw01_awake.f).bind fun t158 => (some t158)) else (some false)) else (if t137 = 5 then (if t149 = t138 then (if t150 = t139 then (if t151 = t141 then ((morainelaw01_awake.f).bind fun t159 => (some t159)) else (some false)) else (some false)) else (some false)) else ((morainelaw01_awake.f).bind fun t160 => (some t160)))))) = some r := by rw [if_neg (show ¬ (false = true) by decide)] at H; exact H
                    clear H
                    have H := H1
                    clear H1
                    by_cases c75 : t137 = 1
                    · rw [if_pos c75] at H
                      have c75b0 : (t137 == 1) = true := beq_iff_eq.mpr c75
                      have c75b1 : (t137 != 1) = false := bne_eq_false_iff_eq.mpr c75
                      clear c75
                      by_cases c76 : t143 = t140
                      · rw [if_pos c76] at H
                        have c76b0 : (t143 == t140) = true := beq_iff_eq.mpr c76
                        have c76b1 : (t143 != t140) = false := bne_eq_false_iff_eq.mpr c76
                        clear c76
                        replace H := Option.bind_eq_some_iff.mp H
                        obtain ⟨t156, A770, H⟩ := H
                        replace H : (some t156) = some r := H
                        have A77 := Aside0.mk A770
                        clear A770
                        obtain rfl := Option.some.inj H
                        have hcz78_0 : wc.cell? ⟨gb142, 0, none⟩ = some (.int .i64 t137) := (blk_cell BK142.out 0).trans rfl
                        have hcz78_1 : wc.cell? ⟨gb142, 1, none⟩ = some (.int .i64 t138) := (blk_cell BK142.out 1).trans rfl
                        have hcz78_2 : wc.cell? ⟨gb142, 2, none⟩ = some (.int .i64 t139) := (blk_cell BK142.out 2).trans rfl
                        have hcz78_3 : wc.cell? ⟨gb142, 3, none⟩ = some (.int .i64 t140) := (blk_cell BK142.out 3).trans rfl
                        have hcz78_4 : wc.cell? ⟨gb142, 4, none⟩ = some (.int .u64 t141) := (blk_cell BK142.out 4).trans rfl
                        have hfz78_0 := blk_frozen BK142.out 0
                        have hfz78_1 := blk_frozen BK142.out 1
                        have hfz78_2 := blk_frozen BK142.out 2
                        have hfz78_3 := blk_frozen BK142.out 3
                        have hfz78_4 := blk_frozen BK142.out 4
                        go_wp2_with (first | (go_at_call 14; (with_reducible refine (morainelaw01_awake.calls  t156 _ A77.out).mono ?_); rintro e w' ⟨rfl, ⟨nd, rfl⟩⟩))
                        go_ret
                        exact ⟨by first | rfl | (simp [errW_none, errW_some] <;> rfl) | (simp [*, errW_none, errW_some] <;> rfl), by repeat (first | (with_reducible first | exact HB.out | apply below_alloc | apply pw_below_drewN | apply below_drew1 | refine below_set ?_ GE142.out) | exact HB.out)⟩
                      · rw [if_neg c76] at H
                        have c76b0 : (t143 == t140) = false := beq_eq_false_iff_ne.mpr c76
                        have c76b1 : (t143 != t140) = true := bne_iff_ne.mpr c76
                        obtain rfl := Option.some.inj H
                        have hcz79_0 : wc.cell? ⟨gb142, 0, none⟩ = some (.int .i64 t137) := (blk_cell BK142.out 0).trans rfl
                        have hcz79_1 : wc.cell? ⟨gb142, 1, none⟩ = some (.int .i64 t138) := (blk_cell BK142.out 1).trans rfl
                        have hcz79_2 : wc.cell? ⟨gb142, 2, none⟩ = some (.int .i64 t139) := (blk_cell BK142.out 2).trans rfl
                        have hcz79_3 : wc.cell? ⟨gb142, 3, none⟩ = some (.int .i64 t140) := (blk_cell BK142.out 3).trans rfl
                        have hcz79_4 : wc.cell? ⟨gb142, 4, none⟩ = some (.int .u64 t141) := (blk_cell BK142.out 4).trans rfl
                        have hfz79_0 := blk_frozen BK142.out 0
                        have hfz79_1 := blk_frozen BK142.out 1
                        have hfz79_2 := blk_frozen BK142.out 2
                        have hfz79_3 := blk_frozen BK142.out 3
                        have hfz79_4 := blk_frozen BK142.out 4
                        go_wp2
                        go_ret
                        exact ⟨by first | rfl | (simp [errW_none, errW_some] <;> rfl) | (simp [*, errW_none, errW_some] <;> rfl), by repeat (first | (with_reducible first | exact HB.out | apply below_alloc | apply pw_below_drewN | apply below_drew1 | refine below_set ?_ GE142.out) | exact HB.out)⟩
                    · rw [if_neg c75] at H
                      have c75b0 : (t137 == 1) = false := beq_eq_false_iff_ne.mpr c75
                      have c75b1 : (t137 != 1) = true := bne_iff_ne.mpr c75
                      by_cases c80 : t137 = 2
                      · rw [if_pos c80] at H
                        have c80b0 : (t137 == 2) = true := beq_iff_eq.mpr c80
                        have c80b1 : (t137 != 2) = false := bne_eq_false_iff_eq.mpr c80
                        clear c80
                        by_cases c81 : t147 = t139
                        · rw [if_pos c81] at H
                          have c81b0 : (t147 == t139) = true := beq_iff_eq.mpr c81
                          have c81b1 : (t147 != t139) = false := bne_eq_false_iff_eq.mpr c81
                          clear c81
                          replace H := Option.bind_eq_some_iff.mp H
                          obtain ⟨t157, A820, H⟩ := H
                          replace H : (some t157) = some r := H
                          have A82 := Aside0.mk A820
                          clear A820
                          obtain rfl := Option.some.inj H
                          have hcz83_0 : wc.cell? ⟨gb142, 0, none⟩ = some (.int .i64 t137) := (blk_cell BK142.out 0).trans rfl
                          have hcz83_1 : wc.cell? ⟨gb142, 1, none⟩ = some (.int .i64 t138) := (blk_cell BK142.out 1).trans rfl
                          have hcz83_2 : wc.cell? ⟨gb142, 2, none⟩ = some (.int .i64 t139) := (blk_cell BK142.out 2).trans rfl
                          have hcz83_3 : wc.cell? ⟨gb142, 3, none⟩ = some (.int .i64 t140) := (blk_cell BK142.out 3).trans rfl
                          have hcz83_4 : wc.cell? ⟨gb142, 4, none⟩ = some (.int .u64 t141) := (blk_cell BK142.out 4).trans rfl
                          have hfz83_0 := blk_frozen BK142.out 0
                          have hfz83_1 := blk_frozen BK142.out 1
                          have hfz83_2 := blk_frozen BK142.out 2
                          have hfz83_3 := blk_frozen BK142.out 3
                          have hfz83_4 := blk_frozen BK142.out 4
                          go_wp2_with (first | (go_at_call 14; (with_reducible refine (morainelaw01_awake.calls  t157 _ A82.out).mono ?_); rintro e w' ⟨rfl, ⟨nd, rfl⟩⟩))
                          go_ret
                          exact ⟨by first | rfl | (simp [errW_none, errW_some] <;> rfl) | (simp [*, errW_none, errW_some] <;> rfl), by repeat (first | (with_reducible first | exact HB.out | apply below_alloc | apply pw_below_drewN | apply below_drew1 | refine below_set ?_ GE142.out) | exact HB.out)⟩
                        · rw [if_neg c81] at H
                          have c81b0 : (t147 == t139) = false := beq_eq_false_iff_ne.mpr c81
                          have c81b1 : (t147 != t139) = true := bne_iff_ne.mpr c81
                          obtain rfl := Option.some.inj H
                          have hcz84_0 : wc.cell? ⟨gb142, 0, none⟩ = some (.int .i64 t137) := (blk_cell BK142.out 0).trans rfl
                          have hcz84_1 : wc.cell? ⟨gb142, 1, none⟩ = some (.int .i64 t138) := (blk_cell BK142.out 1).trans rfl
                          have hcz84_2 : wc.cell? ⟨gb142, 2, none⟩ = some (.int .i64 t139) := (blk_cell BK142.out 2).trans rfl
                          have hcz84_3 : wc.cell? ⟨gb142, 3, none⟩ = some (.int .i64 t140) := (blk_cell BK142.out 3).trans rfl
                          have hcz84_4 : wc.cell? ⟨gb142, 4, none⟩ = some (.int .u64 t141) := (blk_cell BK142.out 4).trans rfl
                          have hfz84_0 := blk_frozen BK142.out 0
                          have hfz84_1 := blk_frozen BK142.out 1
                          have hfz84_2 := blk_frozen BK142.out 2
                          have hfz84_3 := blk_frozen BK142.out 3
                          have hfz84_4 := blk_frozen BK142.out 4
                          go_wp2
                          go_ret
                          exact ⟨by first | rfl | (simp [errW_none, errW_some] <;> rfl) | (simp [*, errW_none, errW_some] <;> rfl), by repeat (first | (with_reducible first | exact HB.out | apply below_alloc | apply pw_below_drewN | apply below_drew1 | refine below_set ?_ GE142.out) | exact HB.out)⟩
                      · rw [if_neg c80] at H
                        have c80b0 : (t137 == 2) = false := beq_eq_false_iff_ne.mpr c80
                        have c80b1 : (t137 != 2) = true := bne_iff_ne.mpr c80
                        by_cases c85 : t137 = 4
                        · rw [if_pos c85] at H
                          have c85b0 : (t137 == 4) = true := beq_iff_eq.mpr c85
                          have c85b1 : (t137 != 4) = false := bne_eq_false_iff_eq.mpr c85
                          clear c85
                          by_cases c86 : (wrap64 (t145)) = t139
                          · rw [if_pos c86] at H
                            have c86b0 : ((wrap64 (t145)) == t139) = true := beq_iff_eq.mpr c86
                            have c86b1 : ((wrap64 (t145)) != t139) = false := bne_eq_false_iff_eq.mpr c86
                            clear c86
                            replace H := Option.bind_eq_some_iff.mp H
                            obtain ⟨t158, A870, H⟩ := H
                            replace H : (some t158) = some r := H
                            have A87 := Aside0.mk A870
                            clear A870
                            obtain rfl := Option.some.inj H
                            have hcz88_0 : wc.cell? ⟨gb142, 0, none⟩ = some (.int .i64 t137) := (blk_cell BK142.out 0).trans rfl
                            have hcz88_1 : wc.cell? ⟨gb142, 1, none⟩ = some (.int .i64 t138) := (blk_cell BK142.out 1).trans rfl
                            have hcz88_2 : wc.cell? ⟨gb142, 2, none⟩ = some (.int .i64 t139) := (blk_cell BK142.out 2).trans rfl
                            have hcz88_3 : wc.cell? ⟨gb142, 3, none⟩ = some (.int .i64 t140) := (blk_cell BK142.out 3).trans rfl
                            have hcz88_4 : wc.cell? ⟨gb142, 4, none⟩ = some (.int .u64 t141) := (blk_cell BK142.out 4).trans rfl
                            have hfz88_0 := blk_frozen BK142.out 0
                            have hfz88_1 := blk_frozen BK142.out 1
                            have hfz88_2 := blk_frozen BK142.out 2
                            have hfz88_3 := blk_frozen BK142.out 3
                            have hfz88_4 := blk_frozen BK142.out 4
                            go_wp2_with (first | (go_at_call 14; (with_reducible refine (morainelaw01_awake.calls  t158 _ A87.out).mono ?_); rintro e w' ⟨rfl, ⟨nd, rfl⟩⟩))
                            go_ret
                            exact ⟨by first | rfl | (simp [errW_none, errW_some] <;> rfl) | (simp [*, errW_none, errW_some] <;> rfl), by repeat (first | (with_reducible first | exact HB.out | apply below_alloc | apply pw_below_drewN | apply below_drew1 | refine below_set ?_ GE142.out) | exact HB.out)⟩
                          · rw [if_neg c86] at H
                            have c86b0 : ((wrap64 (t145)) == t139) = false := beq_eq_false_iff_ne.mpr c86
                            have c86b1 : ((wrap64 (t145)) != t139) = true := bne_iff_ne.mpr c86
                            obtain rfl := Option.some.inj H
                            have hcz89_0 : wc.cell? ⟨gb142, 0, none⟩ = some (.int .i64 t137) := (blk_cell BK142.out 0).trans rfl
                            have hcz89_1 : wc.cell? ⟨gb142, 1, none⟩ = some (.int .i64 t138) := (blk_cell BK142.out 1).trans rfl
                            have hcz89_2 : wc.cell? ⟨gb142, 2, none⟩ = some (.int .i64 t139) := (blk_cell BK142.out 2).trans rfl
                            have hcz89_3 : wc.cell? ⟨gb142, 3, none⟩ = some (.int .i64 t140) := (blk_cell BK142.out 3).trans rfl
                            have hcz89_4 : wc.cell? ⟨gb142, 4, none⟩ = some (.int .u64 t141) := (blk_cell BK142.out 4).trans rfl
                            have hfz89_0 := blk_frozen BK142.out 0
                            have hfz89_1 := blk_frozen BK142.out 1
                            have hfz89_2 := blk_frozen BK142.out 2
                            have hfz89_3 := blk_frozen BK142.out 3
                            have hfz89_4 := blk_frozen BK142.out 4
                            go_wp2
                            go_ret
                            exact ⟨by first | rfl | (simp [errW_none, errW_some] <;> rfl) | (simp [*, errW_none, errW_some] <;> rfl), by repeat (first | (with_reducible first | exact HB.out | apply below_alloc | apply pw_below_drewN | apply below_drew1 | refine below_set ?_ GE142.out) | exact HB.out)⟩
                        · rw [if_neg c85] at H
                          have c85b0 : (t137 == 4) = false := beq_eq_false_iff_ne.mpr c85
                          have c85b1 : (t137 != 4) = true := bne_iff_ne.mpr c85
                          by_cases c90 : t137 = 5
                          · rw [if_pos c90] at H
                            have c90b0 : (t137 == 5) = true := beq_iff_eq.mpr c90
                            have c90b1 : (t137 != 5) = false := bne_eq_false_iff_eq.mpr c90
                            clear c90
                            by_cases c91 : t149 = t138
                            · rw [if_pos c91] at H
                              have c91b0 : (t149 == t138) = true := beq_iff_eq.mpr c91
                              have c91b1 : (t149 != t138) = false := bne_eq_false_iff_eq.mpr c91
                              clear c91
                              by_cases c92 : t150 = t139
                              · rw [if_pos c92] at H
                                have c92b0 : (t150 == t139) = true := beq_iff_eq.mpr c92
                                have c92b1 : (t150 != t139) = false := bne_eq_false_iff_eq.mpr c92
                                clear c92
                                by_cases c93 : t151 = t141
                                · rw [if_pos c93] at H
                                  have c93b0 : (t151 == t141) = true := beq_iff_eq.mpr c93
                                  have c93b1 : (t151 != t141) = false := bne_eq_false_iff_eq.mpr c93
                                  clear c93
                                  replace H := Option.bind_eq_some_iff.mp H
                                  obtain ⟨t159, A940, H⟩ := H
                                  replace H : (some t159) = some r := H
                                  have A94 := Aside0.mk A940
                                  clear A940
                                  obtain rfl := Option.some.inj H
                                  have hcz95_0 : wc.cell? ⟨gb142, 0, none⟩ = some (.int .i64 t137) := (blk_cell BK142.out 0).trans rfl
                                  have hcz95_1 : wc.cell? ⟨gb142, 1, none⟩ = some (.int .i64 t138) := (blk_cell BK142.out 1).trans rfl
                                  have hcz95_2 : wc.cell? ⟨gb142, 2, none⟩ = some (.int .i64 t139) := (blk_cell BK142.out 2).trans rfl
                                  have hcz95_3 : wc.cell? ⟨gb142, 3, none⟩ = some (.int .i64 t140) := (blk_cell BK142.out 3).trans rfl
                                  have hcz95_4 : wc.cell? ⟨gb142, 4, none⟩ = some (.int .u64 t141) := (blk_cell BK142.out 4).trans rfl
                                  have hfz95_0 := blk_frozen BK142.out 0
                                  have hfz95_1 := blk_frozen BK142.out 1
                                  have hfz95_2 := blk_frozen BK142.out 2
                                  have hfz95_3 := blk_frozen BK142.out 3
                                  have hfz95_4 := blk_frozen BK142.out 4
                                  go_wp2_with (first | (go_at_call 14; (with_reducible refine (morainelaw01_awake.calls  t159 _ A94.out).mono ?_); rintro e w' ⟨rfl, ⟨nd, rfl⟩⟩))
                                  go_ret
                                  exact ⟨by first | rfl | (simp [errW_none, errW_some] <;> rfl) | (simp [*, errW_none, errW_some] <;> rfl), by repeat (first | (with_reducible first | exact HB.out | apply below_alloc | apply pw_below_drewN | apply below_drew1 | refine below_set ?_ GE142.out) | exact HB.out)⟩
                                · rw [if_neg c93] at H
                                  have c93b0 : (t151 == t141) = false := beq_eq_false_iff_ne.mpr c93
                                  have c93b1 : (t151 != t141) = true := bne_iff_ne.mpr c93
                                  obtain rfl := Option.some.inj H
                                  have hcz96_0 : wc.cell? ⟨gb142, 0, none⟩ = some (.int .i64 t137) := (blk_cell BK142.out 0).trans rfl
                                  have hcz96_1 : wc.cell? ⟨gb142, 1, none⟩ = some (.int .i64 t138) := (blk_cell BK142.out 1).trans rfl
                                  have hcz96_2 : wc.cell? ⟨gb142, 2, none⟩ = some (.int .i64 t139) := (blk_cell BK142.out 2).trans rfl
                                  have hcz96_3 : wc.cell? ⟨gb142, 3, none⟩ = some (.int .i64 t140) := (blk_cell BK142.out 3).trans rfl
                                  have hcz96_4 : wc.cell? ⟨gb142, 4, none⟩ = some (.int .u64 t141) := (blk_cell BK142.out 4).trans rfl
                                  have hfz96_0 := blk_frozen BK142.out 0
                                  have hfz96_1 := blk_frozen BK142.out 1
                                  have hfz96_2 := blk_frozen BK142.out 2
                                  have hfz96_3 := blk_frozen BK142.out 3
                                  have hfz96_4 := blk_frozen BK142.out 4
                                  go_wp2
                                  go_ret
                                  exact ⟨by first | rfl | (simp [errW_none, errW_some] <;> rfl) | (simp [*, errW_none, errW_some] <;> rfl), by repeat (first | (with_reducible first | exact HB.out | apply below_alloc | apply pw_below_drewN | apply below_drew1 | refine below_set ?_ GE142.out) | exact HB.out)⟩
                              · rw [if_neg c92] at H
                                have c92b0 : (t150 == t139) = false := beq_eq_false_iff_ne.mpr c92
                                have c92b1 : (t150 != t139) = true := bne_iff_ne.mpr c92
                                obtain rfl := Option.some.inj H
                                have hcz97_0 : wc.cell? ⟨gb142, 0, none⟩ = some (.int .i64 t137) := (blk_cell BK142.out 0).trans rfl
                                have hcz97_1 : wc.cell? ⟨gb142, 1, none⟩ = some (.int .i64 t138) := (blk_cell BK142.out 1).trans rfl
                                have hcz97_2 : wc.cell? ⟨gb142, 2, none⟩ = some (.int .i64 t139) := (blk_cell BK142.out 2).trans rfl
                                have hcz97_3 : wc.cell? ⟨gb142, 3, none⟩ = some (.int .i64 t140) := (blk_cell BK142.out 3).trans rfl
                                have hcz97_4 : wc.cell? ⟨gb142, 4, none⟩ = some (.int .u64 t141) := (blk_cell BK142.out 4).trans rfl
                                have hfz97_0 := blk_frozen BK142.out 0
                                have hfz97_1 := blk_frozen BK142.out 1
                                have hfz97_2 := blk_frozen BK142.out 2
                                have hfz97_3 := blk_frozen BK142.out 3
                                have hfz97_4 := blk_frozen BK142.out 4
                                go_wp2
                                go_ret
                                exact ⟨by first | rfl | (simp [errW_none, errW_some] <;> rfl) | (simp [*, errW_none, errW_some] <;> rfl), by repeat (first | (with_reducible first | exact HB.out | apply below_alloc | apply pw_below_drewN | apply below_drew1 | refine below_set ?_ GE142.out) | exact HB.out)⟩
                            · rw [if_neg c91] at H
                              have c91b0 : (t149 == t138) = false := beq_eq_false_iff_ne.mpr c91
                              have c91b1 : (t149 != t138) = true := bne_iff_ne.mpr c91
                              obtain rfl := Option.some.inj H
                              have hcz98_0 : wc.cell? ⟨gb142, 0, none⟩ = some (.int .i64 t137) := (blk_cell BK142.out 0).trans rfl
                              have hcz98_1 : wc.cell? ⟨gb142, 1, none⟩ = some (.int .i64 t138) := (blk_cell BK142.out 1).trans rfl
                              have hcz98_2 : wc.cell? ⟨gb142, 2, none⟩ = some (.int .i64 t139) := (blk_cell BK142.out 2).trans rfl
                              have hcz98_3 : wc.cell? ⟨gb142, 3, none⟩ = some (.int .i64 t140) := (blk_cell BK142.out 3).trans rfl
                              have hcz98_4 : wc.cell? ⟨gb142, 4, none⟩ = some (.int .u64 t141) := (blk_cell BK142.out 4).trans rfl
                              have hfz98_0 := blk_frozen BK142.out 0
                              have hfz98_1 := blk_frozen BK142.out 1
                              have hfz98_2 := blk_frozen BK142.out 2
                              have hfz98_3 := blk_frozen BK142.out 3
                              have hfz98_4 := blk_frozen BK142.out 4
                              go_wp2
                              go_ret
                              exact ⟨by first | rfl | (simp [errW_none, errW_some] <;> rfl) | (simp [*, errW_none, errW_some] <;> rfl), by repeat (first | (with_reducible first | exact HB.out | apply below_alloc | apply pw_below_drewN | apply below_drew1 | refine below_set ?_ GE142.out) | exact HB.out)⟩
                          · rw [if_neg c90] at H
                            have c90b0 : (t137 == 5) = false := beq_eq_false_iff_ne.mpr c90
                            have c90b1 : (t137 != 5) = true := bne_iff_ne.mpr c90
                            replace H := Option.bind_eq_some_iff.mp H
                            obtain ⟨t160, A990, H⟩ := H
                            replace H : (some t160) = some r := H
                            have A99 := Aside0.mk A990
                            clear A990
                            obtain rfl := Option.some.inj H
                            have hcz100_0 : wc.cell? ⟨gb142, 0, none⟩ = some (.int .i64 t137) := (blk_cell BK142.out 0).trans rfl
                            have hcz100_1 : wc.cell? ⟨gb142, 1, none⟩ = some (.int .i64 t138) := (blk_cell BK142.out 1).trans rfl
                            have hcz100_2 : wc.cell? ⟨gb142, 2, none⟩ = some (.int .i64 t139) := (blk_cell BK142.out 2).trans rfl
                            have hcz100_3 : wc.cell? ⟨gb142, 3, none⟩ = some (.int .i64 t140) := (blk_cell BK142.out 3).trans rfl
                            have hcz100_4 : wc.cell? ⟨gb142, 4, none⟩ = some (.int .u64 t141) := (blk_cell BK142.out 4).trans rfl
                            have hfz100_0 := blk_frozen BK142.out 0
                            have hfz100_1 := blk_frozen BK142.out 1
                            have hfz100_2 := blk_frozen BK142.out 2
                            have hfz100_3 := blk_frozen BK142.out 3
                            have hfz100_4 := blk_frozen BK142.out 4
                            go_wp2_with (first | ((with_reducible refine gate_callee (f := 14) rfl ?_); refine goesL_ (some 174) rfl rfl Try.func14 (by kernel_rfl) rfl #[] rfl (by (try simp only [List.map_toArray, List.map_cons, List.map_nil]); first | done | rfl | (simp only [List.length_drop, List.length_take]; rfl)) ?_; (with_reducible refine (morainelaw01_awake.calls  t160 _ A99.out).mono ?_); rintro e w' ⟨rfl, ⟨nd, rfl⟩⟩; refine ⟨_, rfl, ?_⟩))
                            go_ret
                            exact ⟨by first | rfl | (simp [errW_none, errW_some] <;> rfl) | (simp [*, errW_none, errW_some] <;> rfl), by repeat (first | (with_reducible first | exact HB.out | apply below_alloc | apply pw_below_drewN | apply below_drew1 | refine below_set ?_ GE142.out) | exact HB.out)⟩

/-- THE ONE PURE STATEMENT of morainelaw01_WordTells: yours. -/
def morainelaw01_WordTells.Pure : Prop := ∀ (a0 : Int), (Lit.int .u64 a0).wf = true → ∃ k, morainelaw01_WordTells.f k a0 = some true
theorem morainelaw01_WordTells.walk (P : morainelaw01_WordTells.Pure) (a0 : Int) (w : World) (w0 : (Lit.int .u64 a0).wf = true) :
    Calls Try.prog 7 #[.int .u64 a0] w fun e w' => e = .returned (.bool true) ∧ Below w.heap.size w w' := by
  obtain ⟨k, h⟩ := P a0 w0
  refine (morainelaw01_WordTells.calls k a0 true w h).mono ?_
  rintro e w' ⟨rfl, hd⟩
  exact ⟨rfl, hd⟩

end Go.Proofs.Ytijhamhgdnhmgaa.PWordTells
