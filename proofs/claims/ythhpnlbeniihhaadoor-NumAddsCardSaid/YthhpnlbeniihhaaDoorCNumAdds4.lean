/- Contracts and plain laws that the row's proof uses (part 4). Conditions: those that each states. -/
import Derived.Test.YthhpnlbeniihhaaDoorProg
import Derived.Below
import Derived.Deep.Draws
import Derived.Deep.AppendLies
import Derived.Maps.AppendAt
import Derived.OwnWalk
import Derived.Laws.BytesArg
import Derived.Laws.MakeOwn
import Derived.Laws.OwnMore
import Derived.Deep.OwnRows
import Derived.Tactics
import Derived.Lib.ConvBytes
import Derived.Laws.Slices
import Derived.WalkKit
import Derived.KernelRfl
import Derived.RowKit3
import Derived.Deep.LoopGhost
import Derived.Deep.QuietTactic
import Derived.BigQuiet
import Derived.WideLaws
import Derived.Deep.DeepCutAuto
import Derived.Deep.CutBlock
import Derived.Deep.RegionHeld3
import Derived.Laws.Rows
import Derived.Lib.AppendStr
import Derived.ArgAppend
import Derived.Laws.IdiomCopy
import Derived.OrdersHeld
import Derived.Laws.BitsLemmas
import Derived.RowKit
import Derived.Test.YthhpnlbeniihhaaDoorCNumAdds3
-- Printed by a program of this session's (wip/tools/printr.py, over the kit's print program).
namespace Go.Proofs.YthhpnlbeniihhaaDoor.PRef
open Go.RowKit Go.Proofs.YthhpnlbeniihhaaDoorW.PrintWords Go.Proofs.YthhpnlbeniihhaaDoorW.PrintLast Go.Proofs.YthhpnlbeniihhaaDoorW.PrintMore
attribute [local go_sem] max2_int min2_int max_two min_two max_three min_three max_four min_four   -- for this text's walks alone
set_option linter.unusedVariables false
set_option linter.unusedSimpArgs false
mutual
def moraineref02_plus.l0 : Nat → List Int → List Int → List Int → Int → Int → Option (List Int)
 | 0, _, _, _, _, _ => none
 | k + 1, x0, x1, x5, x6, x7 => if x7 ≤ (x0.length : Int) then (moraineref02_plus.j1 k x0 x1 x5 x6 x7 true) else (moraineref02_plus.j1 k x0 x1 x5 x6 x7 (decide (x7 ≤ (x1.length : Int))))
def moraineref02_plus.j1 : Nat → List Int → List Int → List Int → Int → Int → Bool → Option (List Int)
 | 0, _, _, _, _, _, _ => none
 | k + 1, x0, x1, x5, x6, x7, x18 => if x18 = true then ((moraineref02_bit.f x0 x7).bind fun t225 => ((moraineref02_bit.f x1 x7).bind fun t226 => (if x5.length < 140737488355328 then (moraineref02_plus.l0 k x0 x1 (x5 ++ [(Int.tmod (wrap64 ((wrap64 (t225 + t226)) + x6)) 2) % 256]) (wrap64 (Int.tdiv (wrap64 ((wrap64 (t225 + t226)) + x6)) 2)) (wrap64 (x7 + 1))) else (none)))) else ((moraineref02_cut.f k x5).bind fun t230 => (some t230))
end
def moraineref02_plus.f (k : Nat) (l0 : List Int) (l1 : List Int) : Option (List Int) := moraineref02_plus.l0 k l0 l1 ([] : List Int) 0 0
set_option maxHeartbeats 8000000 in
set_option maxRecDepth 100000 in
theorem moraineref02_plus.calls (k : Nat) (A0 : Option Addr) (c0 : Nat) (l0 : List Int) (A1 : Option Addr) (c1 : Nat) (l1 : List Int) (r : List Int) (w : World) (hr0 : Kd.C (Kd.int .u8) w A0 l0.length l0) (hc0 : l0.length ≤ c0) (hr1 : Kd.C (Kd.int .u8) w A1 l1.length l1) (hc1 : l1.length ≤ c1) (h : moraineref02_plus.f k l0 l1 = some r) :
  Calls Tryd.prog 68 #[.slice A0 l0.length c0, .slice A1 l1.length c1] w fun e w' => ∃ v0_ : Value, e = .returned (v0_) ∧ Kd.R (Kd.int .u8) 5 w' w.heap.size (fun _ => True) v0_ r ∧ Below w.heap.size w w' := by
 have HR0 := Aside0.mk hr0
 have HC0 := Aside0.mk hc0
 clear hr0 hc0
 have HR1 := Aside0.mk hr1
 have HC1 := Aside0.mk hc1
 clear hr1 hc1
 have HB := Aside0.mk (Below.refl w.heap.size w)
 have H : (moraineref02_plus.l0 k l0 l1 ([] : List Int) 0 0) = some r := h
 clear h
 have H' := Aside0.mk H
 clear H
 go_enter Tryd.func68, Tryd.ntmps68
 go_wp2
 go_loopg [5, 6, 7] k (fun kq v5 v6 v7 w' => ∃ (x5_1 : List Int) (x6_1 : Int) (x7_1 : Int), v6 = .int .i64 x6_1 ∧ v7 = .int .i64 x7_1 ∧ Aside0 (moraineref02_plus.l0 kq l0 l1 x5_1 x6_1 x7_1 = some r) ∧ Aside0 (kq ≤ k) ∧ Aside0 (Kd.R (Kd.int .u8) 5 w' w.heap.size (fun _ => True) v5 x5_1) ∧ Aside0 (Below w.heap.size w w'))
 case atStart => exact ⟨(([] : List Int)), (0), (0), (by first | rfl | (simp; done) | (simp [*]; done)), (by first | rfl | (simp; done) | (simp [*]; done)), H', ⟨Nat.le_refl _⟩, ⟨by first | exact Kd.R_nil _ _ _ _ _ | exact Kd.N_nil _ _ _ _ _ | exact Kd.V_nil _ _ _ _ _ | exact Kd.Q_nil _ _ _ _ _ | exact Kd.S_nil _ _ _ _ _⟩, ⟨by repeat (first | (with_reducible first | exact HB.out | apply qx | apply qv | apply qw) | exact HB.out)⟩⟩
 case round =>
  clear H'
  try clear c1
  try clear p2
  obtain ⟨x5_1, x6_1, x7_1, rfl, rfl, HA, HK1, HO_5, HB⟩ := hrel
  cases gk with
  | zero => exact absurd HA.out (by simp [moraineref02_plus.l0])
  | succ k1 =>
   have H := HA.out
   clear HA
   simp only [moraineref02_plus.l0] at H
   have HC3 := Aside0.mk H
   clear H
   go_upto_region 4 with (fail)
   go_cut [18] (fun v18 wc => ∃ (kq : Nat) (x18_2 : Bool), v18 = .bool x18_2 ∧ Aside0 (moraineref02_plus.j1 kq l0 l1 x5_1 x6_1 x7_1 x18_2 = some r) ∧ Aside0 (kq ≤ k1) ∧ Aside0 (Kd.R (Kd.int .u8) 5 wc w.heap.size (fun _ => True) u5 x5_1) ∧ Aside0 (Below w.heap.size w wc))
   case first =>
    have H := HC3.out
    clear HC3
    by_cases c4 : x7_1 ≤ (l0.length : Int)
    ·rw [if_pos c4] at H
     have c4b0 : decide (x7_1 ≤ (l0.length : Int)) = true := decide_eq_true c4
     clear c4
     (first | rw [c4b0] | (simp only [i64_w, i32_w]; rw [c4b0]) | skip)
     have H' := Aside0.mk H
     clear H
     go_wp2
     go_meet
     case rel => exact ⟨_, (true), (by first | rfl | (simp; done) | (simp [*]; done)), H', ⟨by have := HK1.out; first | omega | exact Nat.le_refl _⟩, ⟨qq HO_5⟩, ⟨by repeat (first | (with_reducible first | exact HB.out | apply qx | apply qv | apply qw) | exact HB.out)⟩⟩
    ·rw [if_neg c4] at H
     have c4b0 : decide (x7_1 ≤ (l0.length : Int)) = false := decide_eq_false c4
     clear c4
     (first | rw [c4b0] | (simp only [i64_w, i32_w]; rw [c4b0]) | skip)
     have H' := Aside0.mk H
     clear H
     go_wp2
     go_meet
     case rel => exact ⟨_, (decide (x7_1 ≤ (l1.length : Int))), (by first | rfl | (simp; done) | (simp [*]; done)), H', ⟨by have := HK1.out; first | omega | exact Nat.le_refl _⟩, ⟨qq HO_5⟩, ⟨by repeat (first | (with_reducible first | exact HB.out | apply qx | apply qv | apply qw) | exact HB.out)⟩⟩
   case rest =>
    clear HC3
    try clear c1
    try clear p2
    try clear c4
    try clear c4b0
    try clear p2
    obtain ⟨kq, x18_2, rfl, HA, HJ2, HO_5, HB⟩ := hcut
    cases kq with
    | zero => exact absurd HA.out (by simp [moraineref02_plus.j1])
    | succ kj2 =>
     have H := HA.out
     clear HA
     simp only [moraineref02_plus.j1] at H
     by_cases c5 : x18_2 = true
     ·subst c5
      have H1 : ((moraineref02_bit.f l0 x7_1).bind fun t225 => ((moraineref02_bit.f l1 x7_1).bind fun t226 => (if x5_1.length < 140737488355328 then (moraineref02_plus.l0 kj2 l0 l1 (x5_1 ++ [(Int.tmod (wrap64 ((wrap64 (t225 + t226)) + x6_1)) 2) % 256]) (wrap64 (Int.tdiv (wrap64 ((wrap64 (t225 + t226)) + x6_1)) 2)) (wrap64 (x7_1 + 1))) else (none)))) = some r := by rw [if_pos rfl] at H; exact H
      clear H
      have H := H1
      clear H1
      replace H := Option.bind_eq_some_iff.mp H
      obtain ⟨t225, A60, H⟩ := H
      replace H : ((moraineref02_bit.f l1 x7_1).bind fun t226 => (if x5_1.length < 140737488355328 then (moraineref02_plus.l0 kj2 l0 l1 (x5_1 ++ [(Int.tmod (wrap64 ((wrap64 (t225 + t226)) + x6_1)) 2) % 256]) (wrap64 (Int.tdiv (wrap64 ((wrap64 (t225 + t226)) + x6_1)) 2)) (wrap64 (x7_1 + 1))) else (none))) = some r := H
      have A6 := Aside0.mk A60
      clear A60
      replace H := Option.bind_eq_some_iff.mp H
      obtain ⟨t226, A70, H⟩ := H
      replace H : (if x5_1.length < 140737488355328 then (moraineref02_plus.l0 kj2 l0 l1 (x5_1 ++ [(Int.tmod (wrap64 ((wrap64 (t225 + t226)) + x6_1)) 2) % 256]) (wrap64 (Int.tdiv (wrap64 ((wrap64 (t225 + t226)) + x6_1)) 2)) (wrap64 (x7_1 + 1))) else (none)) = some r := H
      have A7 := Aside0.mk A70
      clear A70
      by_cases c8 : x5_1.length < 140737488355328
      ·rw [if_pos c8] at H
       have LMc8 := Aside0.mk c8
       clear c8
       obtain ⟨y227, hy227⟩ : ∃ y_ : List Int, y_ = (x5_1 ++ [(Int.tmod (wrap64 ((wrap64 (t225 + t226)) + x6_1)) 2) % 256]) := ⟨_, rfl⟩
       replace H : (moraineref02_plus.l0 kj2 l0 l1 y227 (wrap64 (Int.tdiv (wrap64 ((wrap64 (t225 + t226)) + x6_1)) 2)) (wrap64 (x7_1 + 1))) = some r := by first | (rw [hy227]; with_reducible exact H) | (have H2_ := (Option.bind_some _ _).symm.trans H; rw [hy227]; with_reducible exact H2_) | (have H2_ := (Option.bind_some _ _).symm.trans H; with_reducible exact H2_) | with_reducible exact H | (rw [hy227]; exact H) | exact H
       have Ny227 := Aside0.mk hy227
       clear hy227
       have H' := Aside0.mk H
       clear H
       go_wp2_with (first | ((with_reducible refine gate_callee (f := 61) rfl ?_); refine goesL_ (some 23) rfl rfl Tryd.func61 (by kernel_rfl) rfl #[.slice A0 l0.length c0, .int .i64 x7_1] rfl (by (try simp only [zM, zO, zP]); first|done|rfl) ?_; (with_reducible refine (moraineref02_bit.calls _ _ l0 x7_1 t225 _ ?side1 ?side2 A6.out).mono ?_); (case side1 => exact qC HR0 HB); (case side2 => exact HC0.out); rintro e w' ⟨rfl, ⟨nd, rfl⟩⟩; refine ⟨_, rfl, ?_⟩) | ((with_reducible refine gate_callee (f := 61) rfl ?_); refine goesL_ (some 26) rfl rfl Tryd.func61 (by kernel_rfl) rfl #[.slice A1 l1.length c1, .int .i64 x7_1] rfl (by (try simp only [zM, zO, zP]); first|done|rfl) ?_; (with_reducible refine (moraineref02_bit.calls _ _ l1 x7_1 t226 _ ?side1 ?side2 A7.out).mono ?_); (case side1 => repeat (first | exact (Kd.C_below HR1.out (by repeat (first | (with_reducible first | exact HB.out | apply qx | apply qv | apply qw) | exact HB.out))) | (with_reducible first|refine Kd.C_alloc ?_ _|refine Kd.C_drewN ?_ _|refine Kd.C_drew ?_))); (case side2 => exact HC1.out); rintro e w' ⟨rfl, ⟨nd, rfl⟩⟩; refine ⟨_, rfl, ?_⟩) | ((with_reducible refine gate_builtin (b := .append) (xs := #[.tmp 30, .tmp 34]) rfl ?_); (try (refine gate_guard (by rfl) ?_; dsimp only)); at_builtin; refine Kd.R_append (Kd.int .u8) (w0 := w) w.heap.size rfl (.tmp 30) (.tmp 34) 32 5 (.int .u8 0) 1 rfl Tryd.underlying32 info5 rfl (by decide) (by omega) u5 x5_1 ((Int.tmod (wrap64 ((wrap64 (t225 + t226)) + x6_1)) 2) % 256) [.int .u8 ((Int.tmod (wrap64 ((wrap64 (t225 + t226)) + x6_1)) 2) % 256)] (fun _ => True) (fun _ => False) rfl rfl ?aP (fun _ hk => hk.elim) ?aF ?aO ?aB ?aS ?aL ?_; (case aP => exact rfl); (case aB => exact (by repeat (first | (with_reducible first | exact HB.out | apply qx | apply qv | apply qw) | exact HB.out))); (case aF => exact (fun _ _ => trivial)); (case aO => exact (by (with_reducible repeat first|apply Kd.R_alloc|apply Kd.R_drewN|apply Kd.R_drew); exact HO_5.out)); (case aS => exact (below_size (by repeat (first | (with_reducible first | exact HB.out | apply qx | apply qv | apply qw) | exact HB.out)))); (case aL => have := LMc8.out; omega); intro v228 w9 ho hb hg hat; rw [← Ny227.out] at ho; replace HB := Aside0.mk (hb); have HO229 := Aside0.mk (ho); clear HO_5; clear ho hb hg hat))
       go_roundg kj2
       case measure => have := HK1.out; have := HJ2.out; omega
       case rel => exact ⟨(y227), (wrap64 (Int.tdiv (wrap64 ((wrap64 (t225 + t226)) + x6_1)) 2)), (wrap64 (x7_1 + 1)), (by first | rfl | (simp; done) | (simp [*]; done)), (by first | rfl | (simp; done) | (simp [*]; done)), H', ⟨by have := HK1.out; have := HJ2.out; omega⟩, ⟨qq HO229⟩, ⟨by repeat (first | (with_reducible first | exact HB.out | apply qx | apply qv | apply qw) | exact HB.out)⟩⟩
      ·rw [if_neg c8] at H
       exact absurd H (by simp)
     ·replace c5 := Bool.eq_false_iff.mpr c5
      subst c5
      have H1 : ((moraineref02_cut.f kj2 x5_1).bind fun t230 => (some t230)) = some r := by rw [if_neg (show ¬ (false = true) by decide)] at H; exact H
      clear H
      have H := H1
      clear H1
      replace H := Option.bind_eq_some_iff.mp H
      obtain ⟨t230, A100, H⟩ := H
      replace H : (some t230) = some r := H
      have A10 := Aside0.mk A100
      clear A100
      obtain rfl := Option.some.inj H
      obtain ⟨Ao11, co11, eo11⟩ := Kd.R_slice HO_5.out
      subst eo11
      go_wp2_with (first | ((with_reducible refine gate_callee (f := 85) rfl ?_); refine goesL_ (some 39) rfl rfl Tryd.func85 (by kernel_rfl) rfl #[.slice Ao11 x5_1.length co11] rfl (by (try simp only [zM, zO, zP]); first|done|rfl) ?_; (with_reducible refine (moraineref02_cut.calls kj2 (fun k_ => some k_ = (.slice Ao11 x5_1.length co11 : Value).ownBlock) (.slice Ao11 x5_1.length co11) x5_1 t230 w _ ?side1 ?side2 A10.out).mono ?_); (case side1 => repeat (first | (with_reducible first | exact HB.out | apply qx | apply qv | apply qw) | exact HB.out)); (case side2 => exact Kd.R_tight rfl HO_5.out); rintro e w12 ⟨v231, rfl, ho0, hb, hkp⟩; refine ⟨_, rfl, ?_⟩; have HO232 := Aside0.mk (Kd.R_mono (ok' := fun k_ => True) ho0 (fun k_ hk_ => trivial)); replace HB := Aside0.mk (hb); clear HO_5; (try clear hb); (try clear hkp); (try clear ho0)))
      go_ret
      exact ⟨_, by first | rfl | (simp [errW_none, errW_some] <;> rfl) | (simp [*, errW_none, errW_some] <;> rfl), by (with_reducible repeat first|apply Kd.R_alloc|apply Kd.R_drewN|apply Kd.R_drew); exact HO232.out, by repeat (first | (with_reducible first | exact HB.out | apply qx | apply qv | apply qw) | exact HB.out)⟩
end Go.Proofs.YthhpnlbeniihhaaDoor.PRef
-- Printed by a program of this session's (wip/tools/printr.py, over the kit's print program).
namespace Go.Proofs.YthhpnlbeniihhaaDoor.PRef
open Go.RowKit Go.Proofs.YthhpnlbeniihhaaDoorW.PrintWords Go.Proofs.YthhpnlbeniihhaaDoorW.PrintLast Go.Proofs.YthhpnlbeniihhaaDoorW.PrintMore
attribute [local go_sem] max2_int min2_int max_two min_two max_three min_three max_four min_four   -- for this text's walks alone
set_option linter.unusedVariables false
set_option linter.unusedSimpArgs false
def moraineref02_Num.l0 : Nat → Int → Bool → List Int → Bool → List Int → Option (Bool × List Int × Int)
 | 0, _, _, _, _, _ => none
 | k + 1, x5, x127000, x127001, x129000, x129001 => if x5 < (x127001.length : Int) then (if (Int.tmod x5 32) = 0 then (if x129001.length < 35184372088832 then ((some (x129001 ++ [0] : List Int)).bind fun y129 => (if 0 ≤ x5 then (if (rd x127001 x5) = 1 then (if 0 ≤ (wrap64 (Int.tdiv x5 32)) then (if (wrap64 (Int.tdiv x5 32)) < (y129.length : Int) then (if 0 ≤ (Int.tmod x5 32) then (moraineref02_Num.l0 k (wrap64 (x5 + 1)) x127000 x127001 x129000 (y129.set ((wrap64 (Int.tdiv x5 32)) : Int).toNat (Go.bits .or .u32 (rd y129 (wrap64 (Int.tdiv x5 32))) (shl .u32 1 (Int.tmod x5 32))))) else (none)) else (none)) else (none)) else (moraineref02_Num.l0 k (wrap64 (x5 + 1)) x127000 x127001 x129000 y129)) else (none))) else (none)) else (if 0 ≤ x5 then (if (rd x127001 x5) = 1 then (if 0 ≤ (wrap64 (Int.tdiv x5 32)) then (if (wrap64 (Int.tdiv x5 32)) < (x129001.length : Int) then (if 0 ≤ (Int.tmod x5 32) then (moraineref02_Num.l0 k (wrap64 (x5 + 1)) x127000 x127001 x129000 (x129001.set ((wrap64 (Int.tdiv x5 32)) : Int).toNat (Go.bits .or .u32 (rd x129001 (wrap64 (Int.tdiv x5 32))) (shl .u32 1 (Int.tmod x5 32))))) else (none)) else (none)) else (none)) else (moraineref02_Num.l0 k (wrap64 (x5 + 1)) x127000 x127001 x129000 x129001)) else (none))) else (some (x129000, x129001, 0))
def moraineref02_Num.f (k : Nat) (a0_0 : Bool) (l0_1 : List Int) : Option (Bool × List Int × Int) := if (l0_1.length : Int) > 1536 then (some (false, ([] : List Int), 6)) else (moraineref02_Num.l0 k 0 a0_0 l0_1 a0_0 ([] : List Int))
def moraineref02_Num.T10 : Bool × List (List Nat × List Nat) := (true, [([], []), ([0], [0]), ([], []), ([2], [2]), ([], []), ([4], [4]), ([], []), ([6], [6]), ([5, 7], [5, 7]), ([8], [8]), ([], []), ([10], [10]), ([11], [11]), ([9, 12], [9, 12]), ([1, 3, 0, 1, 2, 3, 4, 5, 6, 7, 8, 9, 10, 11, 12, 13], [1, 3]), ([14, 13, 0, 1, 2, 3, 4, 5, 6, 7, 8, 9, 10, 11, 12, 13], [13, 14])])
def moraineref02_Num.B10 : List Nat := [0, 1, 0, 4, 0, 16, 0, 64, 240, 496, 0, 1024, 3072, 8176, 16383, 32767]
theorem moraineref02_Num.tab10 : rtab .any (opsOf Tryd.f52 10) = moraineref02_Num.T10 := by kernel_rfl
theorem moraineref02_Num.bits10 : waitsOk moraineref02_Num.T10.2 moraineref02_Num.B10 = true := by kernel_rfl
set_option maxHeartbeats 8000000 in
set_option maxRecDepth 100000 in
theorem moraineref02_Num.calls (k : Nat) (a0_0 : Bool) (A0_1 : Option Addr) (c0_1 : Nat) (l0_1 : List Int) (r1 : Bool) (r2 : List Int) (r3 : Int) (w : World) (hr0_1 : Kd.C (Kd.int .u8) w A0_1 l0_1.length l0_1) (hc0_1 : l0_1.length ≤ c0_1) (h : moraineref02_Num.f k a0_0 l0_1 = some (r1, r2, r3)) :
  Calls Tryd.prog 52 #[.agg #[.bool a0_0, .slice A0_1 l0_1.length c0_1]] w fun e w' => ∃ v1_ : Value, e = .returned (.tuple #[.agg #[.bool r1, v1_], .int .i64 r3]) ∧ Kd.R (Kd.int .u32) 63 w' w.heap.size (fun _ => True) v1_ r2 ∧ Below w.heap.size w w' := by
 have hu34 := Tryd.underlying34
 have hu25 := Tryd.underlying25
 have HR0_1 := Aside0.mk hr0_1
 have HC0_1 := Aside0.mk hc0_1
 clear hr0_1 hc0_1
 have HB := Aside0.mk (Below.refl w.heap.size w)
 have H : (if (l0_1.length : Int) > 1536 then (some (false, ([] : List Int), 6)) else (moraineref02_Num.l0 k 0 a0_0 l0_1 a0_0 ([] : List Int))) = some (r1, r2, r3) := h
 clear h
 by_cases c2 : (l0_1.length : Int) > 1536
 ·rw [if_pos c2] at H
  have c2b0 : decide (1536 < (l0_1.length : Int)) = true := decide_eq_true c2
  have c2b1 : decide (1536 < l0_1.length) = true := decide_eq_true (by omega)
  clear c2
  simp only [Option.some.injEq, Prod.mk.injEq] at H
  obtain ⟨rfl, rfl, rfl⟩ := H
  go_enter Tryd.func52, Tryd.ntmps52
  go_wp2_with (first | ((with_reducible refine gate_dst (N := 1) rfl ?_); refine box_event ?hg (N := 1) ?hd (cs := #[.bool a0_0, .slice A0_1 l0_1.length c0_1]) (t := 34) ?hr ?_; (case hd => rfl); (case hg => rfl); (case hr => go_simp <;> rfl); intro gb126 hg w3 hbox hb; have BK126 := Aside0.mk (hbox); have GW126 := qg hg (by repeat (first | (with_reducible first | exact HB.out | apply qx | apply qv | apply qw) | exact HB.out)); have GE126 := GW126; replace HB := Aside0.mk (below_step (by repeat (first | (with_reducible first | exact HB.out | apply qx | apply qv | apply qw) | exact HB.out)) hb); clear hb hbox hg) | ((with_reducible refine gate_dst (N := 2) rfl ?_); refine box_event ?hg (N := 2) ?hd (cs := #[.bool false, .slice none 0 0]) (t := 25) ?hr ?_; (case hd => rfl); (case hg => rfl); (case hr => go_simp <;> rfl); intro gb127 hg w4 hbox hb; have BK127 := Aside0.mk (hbox); have GW127 := qg hg (by repeat (first | (with_reducible first | exact HB.out | apply qx | apply qv | apply qw | refine below_set ?_ GE126.out) | exact HB.out)); have GE127 := GW127; replace HB := Aside0.mk (below_step (by repeat (first | (with_reducible first | exact HB.out | apply qx | apply qv | apply qw | refine below_set ?_ GE126.out) | exact HB.out)) hb); have NB126_127 := qn BK126 hg; have NB127_126 := qm BK126 hg; replace BK126 := qb BK126 hb; clear hb hbox hg; have hnb5 := NB126_127.out; have hnc5 := NB127_126.out; have hcz6_0 : w4.cell? ⟨gb126, 0, none⟩ = some (.bool a0_0) := qc BK126 0; have hcz6_1 : w4.cell? ⟨gb126, 1, none⟩ = some (.slice A0_1 l0_1.length c0_1) := qc BK126 1; have hfz6_0 := blk_frozen BK126.out 0; have hfz6_1 := blk_frozen BK126.out 1; have hcz7_0 : w4.cell? ⟨gb127, 0, none⟩ = some (.bool false) := qc BK127 0; have hcz7_1 : w4.cell? ⟨gb127, 1, none⟩ = some (.slice none 0 0) := qc BK127 1; have hfz7_0 := blk_frozen BK127.out 0; have hfz7_1 := blk_frozen BK127.out 1))
  refine bodyPost_ret (results_ct rfl _ _ gb127 25 #[.bool false, .slice none 0 0] (0, 0) _ rfl (by (with_reducible repeat first|refine qN ?_ _|refine qW ?_|refine qA ?_ _); refine blk_put (cs := #[.bool false, .slice none 0 0]) ?_ 1 _ rfl; (with_reducible repeat first|refine qN ?_ _|refine qW ?_|refine qA ?_ _); refine blk_put (cs := #[.bool false, .slice none 0 0]) ?_ 0 _ rfl; (with_reducible repeat first|refine qN ?_ _|refine qW ?_|refine qA ?_ _); exact BK127.out) Tryd.underlying25 rfl (by kernel_rfl)) rfl ?_
  exact ⟨_, by first | rfl | (simp [errW_none, errW_some] <;> rfl) | (simp [*, errW_none, errW_some] <;> rfl), by first | exact Kd.R_nil _ _ _ _ _ | exact Kd.N_nil _ _ _ _ _ | exact Kd.V_nil _ _ _ _ _ | exact Kd.Q_nil _ _ _ _ _ | exact Kd.S_nil _ _ _ _ _, by repeat (first | (with_reducible first | exact HB.out | apply qx | apply qv | apply qw | refine qs ?_ (by assumption)) | exact HB.out)⟩
 ·rw [if_neg c2] at H
  have c2b0 : decide (1536 < (l0_1.length : Int)) = false := decide_eq_false c2
  have c2b1 : decide (1536 < l0_1.length) = false := decide_eq_false (by omega)
  clear c2
  have H' := Aside0.mk H
  clear H
  go_enter Tryd.func52, Tryd.ntmps52
  go_wp2_with (first | ((with_reducible refine gate_dst (N := 1) rfl ?_); refine box_event ?hg (N := 1) ?hd (cs := #[.bool a0_0, .slice A0_1 l0_1.length c0_1]) (t := 34) ?hr ?_; (case hd => rfl); (case hg => rfl); (case hr => go_simp <;> rfl); intro gb126 hg w8 hbox hb; have BK126 := Aside0.mk (hbox); have GW126 := qg hg (by repeat (first | (with_reducible first | exact HB.out | apply qx | apply qv | apply qw) | exact HB.out)); have GE126 := GW126; replace HB := Aside0.mk (below_step (by repeat (first | (with_reducible first | exact HB.out | apply qx | apply qv | apply qw) | exact HB.out)) hb); clear hb hbox hg) | ((with_reducible refine gate_dst (N := 2) rfl ?_); refine box_event ?hg (N := 2) ?hd (cs := #[.bool false, .slice none 0 0]) (t := 25) ?hr ?_; (case hd => rfl); (case hg => rfl); (case hr => go_simp <;> rfl); intro gb127 hg w9 hbox hb; have BK127 := Aside0.mk (hbox); have GW127 := qg hg (by repeat (first | (with_reducible first | exact HB.out | apply qx | apply qv | apply qw | refine below_set ?_ GE126.out) | exact HB.out)); have GE127 := GW127; replace HB := Aside0.mk (below_step (by repeat (first | (with_reducible first | exact HB.out | apply qx | apply qv | apply qw | refine below_set ?_ GE126.out) | exact HB.out)) hb); have NB126_127 := qn BK126 hg; have NB127_126 := qm BK126 hg; replace BK126 := qb BK126 hb; clear hb hbox hg; have hnb10 := NB126_127.out; have hnc10 := NB127_126.out; have hcz11_0 : w9.cell? ⟨gb126, 0, none⟩ = some (.bool a0_0) := qc BK126 0; have hcz11_1 : w9.cell? ⟨gb126, 1, none⟩ = some (.slice A0_1 l0_1.length c0_1) := qc BK126 1; have hfz11_0 := blk_frozen BK126.out 0; have hfz11_1 := blk_frozen BK126.out 1) | ((with_reducible refine gate_dst (N := 4) rfl ?_); refine box_event ?hg (N := 4) ?hd (cs := #[.bool false, .slice none 0 0]) (t := 25) ?hr ?_; (case hd => rfl); (case hg => rfl); (case hr => go_simp <;> rfl); intro gb128 hg w12 hbox hb; have BK128 := Aside0.mk (hbox); have GW128 := qg hg (by repeat with_reducible first|exact HB.out|apply qx|apply qv|apply qw|refine qs ?_ (by assumption)); have GE128 := GW128; replace HB := Aside0.mk (below_step (by repeat with_reducible first|exact HB.out|apply qx|apply qv|apply qw|refine qs ?_ (by assumption)) hb); have NB126_128 := qn BK126 hg; have NB128_126 := qm BK126 hg; replace BK126 := qb BK126 hb; have NB127_128 := qn BK127 hg; have NB128_127 := qm BK127 hg; replace BK127 := qb BK127 hb; clear hb hbox hg; have hnb13 := NB128_126.out; have hnc13 := NB126_128.out; have hnb14 := NB128_127.out; have hnc14 := NB127_128.out; have hcz15_0 : w12.cell? ⟨gb128, 0, none⟩ = some (.bool false) := qc BK128 0; have hcz15_1 : w12.cell? ⟨gb128, 1, none⟩ = some (.slice none 0 0) := qc BK128 1; have hfz15_0 := blk_frozen BK128.out 0; have hfz15_1 := blk_frozen BK128.out 1))
  go_loopg [5] k (fun kq v5 w' => ∃ (x5_1 : Int) (x129001_1 : List Int) (u129001 : Value), v5 = .int .i64 x5_1 ∧ Aside0 (moraineref02_Num.l0 kq x5_1 a0_0 l0_1 a0_0 x129001_1 = some (r1, r2, r3)) ∧ Aside0 (kq ≤ k) ∧ Aside0 (Kd.R (Kd.int .u32) 63 w' w.heap.size (fun _ => True) u129001 x129001_1) ∧ Aside0 (w'.heap[gb126]? = some (.cells #[.bool a0_0, (.slice A0_1 l0_1.length c0_1)] 34 (0, 0))) ∧ Aside0 (w'.heap[gb127]? = some (.cells #[.bool false, (.slice none 0 0)] 25 (0, 0))) ∧ Aside0 (w'.heap[gb128]? = some (.cells #[.bool a0_0, u129001] 25 (0, 0))) ∧ Aside0 (Below w.heap.size w w'))
  case atStart => exact ⟨(0), (([] : List Int)), (.slice none 0 0), (by first | rfl | (simp; done) | (simp [*]; done)), H', ⟨Nat.le_refl _⟩, ⟨by first | exact Kd.R_nil _ _ _ _ _ | exact Kd.N_nil _ _ _ _ _ | exact Kd.V_nil _ _ _ _ _ | exact Kd.Q_nil _ _ _ _ _ | exact Kd.S_nil _ _ _ _ _⟩, ⟨by (with_reducible repeat first|refine qN ?_ _|refine qW ?_|refine qA ?_ _); refine qf ?_ NB126_128; (with_reducible repeat first|refine qN ?_ _|refine qW ?_|refine qA ?_ _); exact BK126.out⟩, ⟨by (with_reducible repeat first|refine qN ?_ _|refine qW ?_|refine qA ?_ _); refine qf ?_ NB127_128; (with_reducible repeat first|refine qN ?_ _|refine qW ?_|refine qA ?_ _); exact BK127.out⟩, ⟨by (with_reducible repeat first|refine qN ?_ _|refine qW ?_|refine qA ?_ _); refine blk_put (cs := #[.bool a0_0, .slice none 0 0]) ?_ 1 _ rfl; (with_reducible repeat first|refine qN ?_ _|refine qW ?_|refine qA ?_ _); refine blk_put (cs := #[.bool false, .slice none 0 0]) ?_ 0 _ rfl; (with_reducible repeat first|refine qN ?_ _|refine qW ?_|refine qA ?_ _); exact BK128.out⟩, ⟨by repeat (first | (with_reducible first | exact HB.out | apply qx | apply qv | apply qw | refine qs ?_ (by assumption)) | exact HB.out)⟩⟩
  case round =>
   clear H'
   try clear c1
   try clear c2
   try clear c2b0
   try clear c2b1
   try clear p2
   try clear c5
   try clear c10
   try clear c13
   try clear c14
   try clear hcz11_0
   try clear hcz11_1
   try clear hcz15_0
   try clear hcz15_1
   try clear hcz6_0
   try clear hcz6_1
   try clear hcz7_0
   try clear hcz7_1
   try clear hfz11_0
   try clear hfz11_1
   try clear hfz15_0
   try clear hfz15_1
   try clear hfz6_0
   try clear hfz6_1
   try clear hfz7_0
   try clear hfz7_1
   obtain ⟨x5_1, x129001_1, u129001, rfl, HA, HK1, HO_129001, BK126, BK127, BK128, HB⟩ := hrel
   cases gk with
   | zero => exact absurd HA.out (by simp [moraineref02_Num.l0])
   | succ k1 =>
    have H := HA.out
    clear HA
    simp only [moraineref02_Num.l0] at H
    by_cases c16 : x5_1 < (l0_1.length : Int)
    ·rw [if_pos c16] at H
     have c16b0 : decide (x5_1 < (l0_1.length : Int)) = true := decide_eq_true c16
     clear c16
     by_cases c17 : (Int.tmod x5_1 32) = 0
     ·rw [if_pos c17] at H
      have c17b0 : ((Int.tmod x5_1 32) == 0) = true := beq_iff_eq.mpr c17
      have c17b1 : ((Int.tmod x5_1 32) != 0) = false := bne_eq_false_iff_eq.mpr c17
      clear c17
      by_cases c18 : x129001_1.length < 35184372088832
      ·rw [if_pos c18] at H
       have LMc18 := Aside0.mk c18
       clear c18
       obtain ⟨y129, hy129⟩ : ∃ y_ : List Int, y_ = (x129001_1 ++ [0]) := ⟨_, rfl⟩
       replace H : (if 0 ≤ x5_1 then (if (rd l0_1 x5_1) = 1 then (if 0 ≤ (wrap64 (Int.tdiv x5_1 32)) then (if (wrap64 (Int.tdiv x5_1 32)) < (y129.length : Int) then (if 0 ≤ (Int.tmod x5_1 32) then (moraineref02_Num.l0 k1 (wrap64 (x5_1 + 1)) a0_0 l0_1 a0_0 (y129.set ((wrap64 (Int.tdiv x5_1 32)) : Int).toNat (Go.bits .or .u32 (rd y129 (wrap64 (Int.tdiv x5_1 32))) (shl .u32 1 (Int.tmod x5_1 32))))) else (none)) else (none)) else (none)) else (moraineref02_Num.l0 k1 (wrap64 (x5_1 + 1)) a0_0 l0_1 a0_0 y129)) else (none)) = some (r1, r2, r3) := by first | (rw [hy129]; with_reducible exact H) | (have H2_ := (Option.bind_some _ _).symm.trans H; rw [hy129]; with_reducible exact H2_) | (have H2_ := (Option.bind_some _ _).symm.trans H; with_reducible exact H2_) | with_reducible exact H | (rw [hy129]; exact H) | exact H
       have Ny129 := Aside0.mk hy129
       clear hy129
       by_cases c19 : 0 ≤ x5_1
       ·rw [if_pos c19] at H
        have c19b0 : decide (0 ≤ x5_1) = true := decide_eq_true c19
        clear c19
        by_cases c20 : (rd l0_1 x5_1) = 1
        ·rw [if_pos c20] at H
         have c20b0 : ((rd l0_1 x5_1) == 1) = true := beq_iff_eq.mpr c20
         have c20b1 : ((rd l0_1 x5_1) != 1) = false := bne_eq_false_iff_eq.mpr c20
         clear c20
         obtain ⟨ji21, hji21⟩ : ∃ j_ : Int, (wrap64 (Int.tdiv x5_1 32)) = j_ := ⟨_, rfl⟩
         replace H : (if 0 ≤ (ji21) then (if (ji21) < (y129.length : Int) then (if 0 ≤ (Int.tmod x5_1 32) then (moraineref02_Num.l0 k1 (wrap64 (x5_1 + 1)) a0_0 l0_1 a0_0 (y129.set ((ji21) : Int).toNat (Go.bits .or .u32 (rd y129 (ji21)) (shl .u32 1 (Int.tmod x5_1 32))))) else (none)) else (none)) else (none)) = some (r1, r2, r3) := by first | (rw [hji21] at H; exact H) | (simp only [hji21] at H ⊢; exact H)
         have hji21w : (IntKind.i64.wrap (Int.tdiv x5_1 32)) = ji21 := (i64_w _).trans hji21
         by_cases c22 : 0 ≤ (ji21)
         ·rw [if_pos c22] at H
          have c22b0 : decide (0 ≤ (ji21)) = true := decide_eq_true c22
          clear c22
          by_cases c23 : (ji21) < (y129.length : Int)
          ·rw [if_pos c23] at H
           have c23b0 : decide ((ji21) < (y129.length : Int)) = true := decide_eq_true c23
           clear c23
           obtain ⟨ji24, hji24⟩ : ∃ j_ : Int, (Int.tmod x5_1 32) = j_ := ⟨_, rfl⟩
           replace H : (if 0 ≤ (ji24) then (moraineref02_Num.l0 k1 (wrap64 (x5_1 + 1)) a0_0 l0_1 a0_0 (y129.set ((ji21) : Int).toNat (Go.bits .or .u32 (rd y129 (ji21)) (shl .u32 1 (ji24))))) else (none)) = some (r1, r2, r3) := by first | (rw [hji24] at H; exact H) | (simp only [hji24] at H ⊢; exact H)
           (try rw [hji24] at c17b0)
           (try rw [hji24] at c17b1)
           by_cases c25 : 0 ≤ (ji24)
           ·rw [if_pos c25] at H
            have c25b0 := eq_true c25
            have c25b1 : decide (0 ≤ (ji24)) = true := decide_eq_true c25
            clear c25
            obtain ⟨ji26, hji26⟩ : ∃ j_ : Int, (shl .u32 1 (ji24)) = j_ := ⟨_, rfl⟩
            replace H : (moraineref02_Num.l0 k1 (wrap64 (x5_1 + 1)) a0_0 l0_1 a0_0 (y129.set ((ji21) : Int).toNat (Go.bits .or .u32 (rd y129 (ji21)) (ji26)))) = some (r1, r2, r3) := by first | (rw [hji26] at H; exact H) | (simp only [hji26] at H ⊢; exact H)
            have hji26_ : (IntKind.u32.wrap (1 * 2 ^ min (ji24).toNat 32)) = ji26 := hji26
            have hji26z : (ji24) ≤ 32 → (IntKind.u32.wrap (1 * 2 ^ (ji24).toNat)) = ji26 := shl_small hji26
            have hji26u : (IntKind.u32.wrap (2 ^ min (ji24).toNat 32)) = ji26 := by have h_ := hji26_; rw [Int.one_mul] at h_; exact h_
            have hji26v : (ji24) ≤ 32 → (IntKind.u32.wrap (2 ^ (ji24).toNat)) = ji26 := fun hle_ => by have h_ := hji26z hle_; rw [Int.one_mul] at h_; exact h_
            obtain ⟨y134, hy134⟩ : ∃ y_ : List Int, y_ = (y129.set ((ji21) : Int).toNat (Go.bits .or .u32 (rd y129 (ji21)) (ji26))) := ⟨_, rfl⟩
            replace H : (moraineref02_Num.l0 k1 (wrap64 (x5_1 + 1)) a0_0 l0_1 a0_0 y134) = some (r1, r2, r3) := by first | (rw [hy134]; with_reducible exact H) | (have H2_ := (Option.bind_some _ _).symm.trans H; rw [hy134]; with_reducible exact H2_) | (have H2_ := (Option.bind_some _ _).symm.trans H; with_reducible exact H2_) | with_reducible exact H | (rw [hy134]; exact H) | exact H
            have Ny134 := Aside0.mk hy134
            clear hy134
            have H' := Aside0.mk H
            clear H
            have hnb28 := NB126_127.out
            have hnc28 := NB127_126.out
            have hnb29 := NB126_128.out
            have hnc29 := NB128_126.out
            have hcz30_0 : wr.cell? ⟨gb126, 0, none⟩ = some (.bool a0_0) := qc BK126 0
            have hcz30_1 : wr.cell? ⟨gb126, 1, none⟩ = some (.slice A0_1 l0_1.length c0_1) := qc BK126 1
            have hfz30_0 := blk_frozen BK126.out 0
            have hfz30_1 := blk_frozen BK126.out 1
            have hnb31 := NB128_127.out
            have hnc31 := NB127_128.out
            have hcz32_0 : wr.cell? ⟨gb128, 0, none⟩ = some (.bool a0_0) := qc BK128 0
            have hcz32_1 : wr.cell? ⟨gb128, 1, none⟩ = some (u129001) := qc BK128 1
            have hfz32_0 := blk_frozen BK128.out 0
            have hfz32_1 := blk_frozen BK128.out 1
            try go_wp2_with (first | ((with_reducible refine gate_builtin (b := .append) (xs := #[.tmp 25, .tmp 26]) rfl ?_); at_builtin; refine Kd.R_append (Kd.int .u32) (w0 := w) w.heap.size rfl (.tmp 25) (.tmp 26) 23 63 (.int .u32 0) 4 rfl Tryd.underlying23 info63 rfl (by decide) (by omega) u129001 x129001_1 0 [.int .u32 0] (fun _ => True) (fun _ => False) rfl rfl ?aP (fun _ hk => hk.elim) ?aF ?aO ?aB ?aS ?aL ?_; (case aP => exact rfl); (case aB => exact (by repeat with_reducible first|exact HB.out|apply qx|apply qv|apply qw|refine qs ?_ (by assumption))); (case aF => exact (fun _ _ => trivial)); (case aO => exact (by (with_reducible repeat first|apply Kd.R_alloc|apply Kd.R_drewN|apply Kd.R_drew); exact HO_129001.out)); (case aS => exact (below_size (by repeat with_reducible first|exact HB.out|apply qx|apply qv|apply qw|refine qs ?_ (by assumption)))); (case aL => have := LMc18.out; omega); intro v130 w33 ho hb hg hat; rw [← Ny129.out] at ho; have n0_ := Aside0.mk (blk_grown (g := gb126) (o := .cells #[.bool a0_0, .slice A0_1 l0_1.length c0_1] 34 (0, 0)) (by (with_reducible repeat first|refine qN ?_ _|refine qW ?_|refine qA ?_ _); exact BK126.out) hg (Kd.R_ne HO_129001.out BK126.out (by decide))); have n1_ := Aside0.mk (blk_grown (g := gb127) (o := .cells #[.bool false, .slice none 0 0] 25 (0, 0)) (by (with_reducible repeat first|refine qN ?_ _|refine qW ?_|refine qA ?_ _); exact BK127.out) hg (Kd.R_ne HO_129001.out BK127.out (by decide))); have n2_ := Aside0.mk (blk_grown (g := gb128) (o := .cells #[.bool a0_0, u129001] 25 (0, 0)) (by (with_reducible repeat first|refine qN ?_ _|refine qW ?_|refine qA ?_ _); exact BK128.out) hg (Kd.R_ne HO_129001.out BK128.out (by decide))); have n3_ := Aside0.mk (hb); have n4_ := Aside0.mk (ho); clear BK126; clear BK127; clear BK128; clear HB; clear HO_129001; have BK126 := n0_; have BK127 := n1_; have BK128 := n2_; have HB := n3_; have HO131 := n4_; clear n0_ n1_ n2_ n3_ n4_; clear ho hb hg hat; obtain ⟨Ao34, co34, eo34⟩ := Kd.R_slice HO131.out; subst eo34; have hcz35_0 : w33.cell? ⟨gb128, 0, none⟩ = some (.bool a0_0) := qc BK128 0; have hcz35_1 : w33.cell? ⟨gb128, 1, none⟩ = some (u129001) := qc BK128 1; have hfz35_0 := blk_frozen BK128.out 0; have hfz35_1 := blk_frozen BK128.out 1; have hcz36_0 : w33.cell? ⟨gb126, 0, none⟩ = some (.bool a0_0) := qc BK126 0; have hcz36_1 : w33.cell? ⟨gb126, 1, none⟩ = some (.slice A0_1 l0_1.length c0_1) := qc BK126 1; have hfz36_0 := blk_frozen BK126.out 0; have hfz36_1 := blk_frozen BK126.out 1; have p132 : 0 ≤ (x5_1 : Int) := of_decide_eq_true (by first | (with_reducible assumption) | assumption); have q132 : x5_1 < (l0_1.length : Int) := of_decide_eq_true (by first | (with_reducible assumption) | assumption); obtain ⟨ad132, e132, hx132_0⟩ := Kd.at_int HR0_1.out x5_1 p132 q132; cases e132; have hn132_0 : ad132.block ≠ gb128 := Nat.ne_of_lt (Nat.lt_of_lt_of_le (by have := World.block_lt_of_cell? _ _ hx132_0; first | rwa [add_block] at this | exact this) GW128.out); replace hx132_0 := (HB.out.cell (World.block_lt_of_cell? w _ hx132_0)).trans hx132_0; replace hx132_0 := (cell_far (p := ⟨gb128, 1, none⟩) (by first | (rw [add_block]; exact hn132_0) | (show (Addr.add _ _).block ≠ _; rw [add_block]; exact hn132_0) | exact hn132_0) (.slice Ao34 y129.length co34)).trans hx132_0; clear hn132_0; replace p132 := eq_true p132; replace q132 := eq_true q132))
            have n0_ : Aside0 (Kd.R (Kd.int .u32) 63 (w33.setCell ⟨gb128, 1, none⟩ (.slice Ao34 y129.length co34)) w.heap.size (fun _ => True) (.slice Ao34 y129.length co34) y129) := ⟨by (with_reducible repeat first|apply Kd.R_alloc|apply Kd.R_drewN|apply Kd.R_drew); exact Kd.R_mono (Kd.R_far (p := ⟨gb128, 1, none⟩) (Kd.R_types HO131.out BK128.out (by decide)) (fun _ hk => hk.2) (.slice Ao34 y129.length co34)) (fun _ hk => trivial)⟩
            have n1_ : Aside0 ((w33.setCell ⟨gb128, 1, none⟩ (.slice Ao34 y129.length co34)).heap[gb126]? = some (.cells #[.bool a0_0, .slice (some ad132) l0_1.length c0_1] 34 (0, 0))) := ⟨by (with_reducible repeat first|refine qN ?_ _|refine qW ?_|refine qA ?_ _); refine blk_far ?_ NB126_128.out _; (with_reducible repeat first|refine qN ?_ _|refine qW ?_|refine qA ?_ _); exact BK126.out⟩
            have n2_ : Aside0 ((w33.setCell ⟨gb128, 1, none⟩ (.slice Ao34 y129.length co34)).heap[gb127]? = some (.cells #[.bool false, .slice none 0 0] 25 (0, 0))) := ⟨by (with_reducible repeat first|refine qN ?_ _|refine qW ?_|refine qA ?_ _); refine blk_far ?_ NB127_128.out _; (with_reducible repeat first|refine qN ?_ _|refine qW ?_|refine qA ?_ _); exact BK127.out⟩
            have n3_ : Aside0 ((w33.setCell ⟨gb128, 1, none⟩ (.slice Ao34 y129.length co34)).heap[gb128]? = some (.cells #[.bool a0_0, .slice Ao34 y129.length co34] 25 (0, 0))) := ⟨by (with_reducible repeat first|refine qN ?_ _|refine qW ?_|refine qA ?_ _); refine blk_put (cs := #[.bool a0_0, u129001]) ?_ 1 _ rfl; (with_reducible repeat first|refine qN ?_ _|refine qW ?_|refine qA ?_ _); exact BK128.out⟩
            have n4_ : Aside0 (Below w.heap.size w (w33.setCell ⟨gb128, 1, none⟩ (.slice Ao34 y129.length co34))) := ⟨by repeat (first | (with_reducible first | exact HB.out | apply qx | apply qv | apply qw | refine qs ?_ (by assumption)) | exact HB.out)⟩
            (try clear HO131)
            (try clear BK126)
            (try clear BK127)
            (try clear BK128)
            (try clear HB)
            generalize (w33.setCell ⟨gb128, 1, none⟩ (.slice Ao34 y129.length co34)) = w37 at n0_ n1_ n2_ n3_ n4_ ⊢
            have HO131 := n0_
            have BK126 := n1_
            have BK127 := n2_
            have BK128 := n3_
            have HB := n4_
            clear n0_ n1_ n2_ n3_ n4_
            replace HO131 := Aside0.mk (Kd.R_drew HO131.out)
            replace BK126 := Aside0.mk (blk_drew BK126.out)
            replace BK127 := Aside0.mk (blk_drew BK127.out)
            replace BK128 := Aside0.mk (blk_drew BK128.out)
            replace HB := Aside0.mk (below_drew1 HB.out)
            have p133 : 0 ≤ ((ji21) : Int) := of_decide_eq_true (by first | (with_reducible assumption) | assumption)
            have q133 : (ji21) < (y129.length : Int) := of_decide_eq_true (by first | (with_reducible assumption) | assumption)
            obtain ⟨ad133, e133, hx133_0⟩ := Kd.at_int (Kd.R_reads' HO131.out).2.2 (ji21) p133 q133
            cases e133
            replace p133 := eq_true p133
            replace q133 := eq_true q133
            have p27 : 0 ≤ ((ji21) : Int) := of_decide_eq_true (by first | (with_reducible assumption) | assumption)
            have q27 : ((ji21) : Int) < ((y129.length : Int) : Int) := of_decide_eq_true (by first | (with_reducible assumption) | assumption)
            obtain ⟨go27, co27, eo27, gb27, gl27, cl27, HG27⟩ := Kd.R_form HO131.out (by omega)
            (first | cases eo27 | (injection eo27 with ea_ en_ ec_; (first | subst ea_ | (injection ea_ with ea_; subst ea_)); subst ec_; clear en_))
            have GB27 := Aside0.mk gb27
            have GG27 := Aside0.mk HG27
            clear gb27 gl27 HG27
            (first | simp only [add_plain] at hx133_0 | skip)
            obtain ⟨hx27_0, hf27_0⟩ := Kd.R_celln 0 HO131.out ((ji21) : Int) p27 q27
            replace p27 := eq_true p27
            replace q27 := eq_true q27
            have HP39 := Kd.R_putn HO131.out ((ji21) : Int) (Go.bits .or .u32 (rd y129 (ji21)) (ji26))
            rw [← Ny134.out] at HP39
            have HQ39 := Aside0.mk HP39
            clear HP39
            refine start_ (n := 16) (S := fun w' => w'.cell? ⟨gb128, 0, none⟩ = some (.bool a0_0) ∧ w'.cell? ⟨gb128, 1, none⟩ = some (.slice (some ⟨go27, 0, none⟩) y129.length co34) ∧ w'.cell? ⟨go27, ((ji21)).toNat, none⟩ = some (.int .u32 (rd y129 (ji21)))) (ds := [15]) #[false, false, false, false, false, false, false, false, false, false, false, false, false, false, false, false] (by kernel_rfl) rfl rfl ⟨qc BK128 0, qc BK128 1, hx133_0⟩ (fun hHeld => ?_); refine with_tabW moraineref02_Num.tab10 moraineref02_Num.bits10 (fun HT_ HW_ => ?_)
            generalize w37.drew = w38 at HO131 BK126 BK127 BK128 HB GG27 HQ39 hf27_0 hx133_0 hx27_0 hHeld ⊢
            refine pure_ (i := 0) (N := some 35) (v := ?_) (a' := ?_) #[true, false, false, false, false, false, false, false, false, false, false, false, false, false, false, false] rfl rfl (any_of HT_.out (by kernel_rfl)) (fun _ _ _ h => h) (Or.inl ⟨by rfl, ?_⟩) ?_ ?_
            rotate_left
            ·intro w'
             go_simp
             with_reducible rfl
            rotate_left
            ·simp only [Act.put, zA, zB, zC, i64_w, i32_w]
             rfl
            refine pure_ (i := 2) (N := some 37) (v := ?_) (a' := ?_) #[true, false, true, false, false, false, false, false, false, false, false, false, false, false, false, false] rfl rfl (any_of HT_.out (by kernel_rfl)) (fun _ _ _ h => h) (Or.inl ⟨by rfl, ?_⟩) ?_ ?_
            rotate_left
            ·intro w'
             go_simp
             with_reducible rfl
            rotate_left
            ·simp only [Act.put, zA, zB, zC, i64_w, i32_w]
             rfl
            refine pure_ (i := 3) (N := some 38) (v := ?_) (a' := ?_) #[true, false, true, true, false, false, false, false, false, false, false, false, false, false, false, false] rfl rfl (any_of HT_.out (by kernel_rfl)) (fun _ _ _ h => h) (Or.inl ⟨by rfl, ?_⟩) ?_ ?_
            rotate_left
            ·intro w'
             go_simp
             with_reducible rfl
            rotate_left
            ·simp only [Act.put, zA, zB, zC, i64_w, i32_w]
             rfl
            refine pure_ (i := 4) (N := some 39) (v := ?_) (a' := ?_) #[true, false, true, true, true, false, false, false, false, false, false, false, false, false, false, false] rfl rfl (any_of HT_.out (by kernel_rfl)) (fun _ _ _ h => h) (Or.inl ⟨by rfl, ?_⟩) ?_ ?_
            rotate_left
            ·intro w'
             go_simp
             with_reducible rfl
            rotate_left
            ·simp only [Act.put, zA, zB, zC, i64_w, i32_w]
             rfl
            refine pure_ (i := 6) (N := some 41) (v := ?_) (a' := ?_) #[true, false, true, true, true, false, true, false, false, false, false, false, false, false, false, false] rfl rfl (any_of HT_.out (by kernel_rfl)) (fun _ _ _ h => h) (Or.inl ⟨by rfl, ?_⟩) ?_ ?_
            rotate_left
            ·intro w'
             go_simp
             with_reducible rfl
            rotate_left
            ·simp only [Act.put, zA, zB, zC, i64_w, i32_w]
             rfl
            refine pure_ (i := 7) (N := some 42) (v := ?_) (a' := ?_) #[true, false, true, true, true, false, true, true, false, false, false, false, false, false, false, false] rfl rfl (any_of HT_.out (by kernel_rfl)) (fun _ _ _ h => h) (Or.inl ⟨by rfl, ?_⟩) ?_ ?_
            rotate_left
            ·intro w'
             go_simp
             with_reducible rfl
            rotate_left
            ·simp only [Act.put, zA, zB, zC, i64_w, i32_w]
             rfl
            refine pure_ (i := 10) (N := some 45) (v := ?_) (a' := ?_) #[true, false, true, true, true, false, true, true, false, false, true, false, false, false, false, false] rfl rfl (any_of HT_.out (by kernel_rfl)) (fun _ _ _ h => h) (Or.inl ⟨by rfl, ?_⟩) ?_ ?_
            rotate_left
            ·intro w'
             go_simp
             with_reducible rfl
            rotate_left
            ·simp only [Act.put, zA, zB, zC, i64_w, i32_w]
             rfl
            refine pure_ (i := 11) (N := some 46) (v := ?_) (a' := ?_) #[true, false, true, true, true, false, true, true, false, false, true, true, false, false, false, false] rfl rfl (any_of HT_.out (by kernel_rfl)) (fun _ _ _ h => h) (Or.inl ⟨by rfl, ?_⟩) ?_ ?_
            rotate_left
            ·intro w'
             go_simp
             with_reducible rfl
            rotate_left
            ·simp only [Act.put, zA, zB, zC, i64_w, i32_w]
             rfl
            refine pure_ (i := 12) (N := some 47) (v := ?_) (a' := ?_) #[true, false, true, true, true, false, true, true, false, false, true, true, true, false, false, false] rfl rfl (any_of HT_.out (by kernel_rfl)) (fun _ _ _ h => h) (Or.inl ⟨by rfl, ?_⟩) ?_ ?_
            rotate_left
            ·intro w'
             go_simp
             with_reducible rfl
            rotate_left
            ·simp only [Act.put, zA, zB, zC, i64_w, i32_w]
             rfl
            refine take_ (i := 1) (N := some 36) (v := ?_) (a' := ?_) #[true, true, true, true, true, false, true, true, false, false, true, true, true, false, false, false] rfl rfl (take_ofW HT_.out HW_.out (by kernel_rfl)) (fun _ _ _ h => h) (Or.inl ⟨by rfl, ?_⟩) hHeld ?_ ?_
            rotate_left
            ·rintro w' ⟨s0, s1, s2⟩
             go_simp
             with_reducible rfl
            rotate_left
            ·simp only [Act.put, zA, zB, zC, i64_w, i32_w]
             rfl
            refine take_ (i := 5) (N := some 40) (v := ?_) (a' := ?_) #[true, true, true, true, true, true, true, true, false, false, true, true, true, false, false, false] rfl rfl (take_ofW HT_.out HW_.out (by kernel_rfl)) (fun _ _ _ h => h) (Or.inl ⟨by rfl, ?_⟩) hHeld ?_ ?_
            rotate_left
            ·rintro w' ⟨s0, s1, s2⟩
             go_simp
             with_reducible rfl
            rotate_left
            ·simp only [Act.put, zA, zB, zC, i64_w, i32_w]
             rfl
            refine pure_ (i := 8) (N := some 43) (v := ?_) (a' := ?_) #[true, true, true, true, true, true, true, true, true, false, true, true, true, false, false, false] rfl rfl (any_of HT_.out (by kernel_rfl)) (fun _ _ _ h => h) (Or.inl ⟨by rfl, ?_⟩) ?_ ?_
            rotate_left
            ·intro w'
             go_simp
             with_reducible rfl
            rotate_left
            ·simp only [Act.put, zA, zB, zC, i64_w, i32_w]
             rfl
            refine take_ (i := 9) (N := some 44) (v := ?_) (a' := ?_) #[true, true, true, true, true, true, true, true, true, true, true, true, true, false, false, false] rfl rfl (take_ofW HT_.out HW_.out (by kernel_rfl)) (fun _ _ _ h => h) (Or.inl ⟨by rfl, ?_⟩) hHeld ?_ ?_
            rotate_left
            ·rintro w' ⟨s0, s1, s2⟩
             go_simp
             with_reducible rfl
            rotate_left
            ·simp only [Act.put, zA, zB, zC, i64_w, i32_w]
             rfl
            refine pure_ (i := 13) (N := some 48) (v := ?_) (a' := ?_) #[true, true, true, true, true, true, true, true, true, true, true, true, true, true, false, false] rfl rfl (any_of HT_.out (by kernel_rfl)) (fun _ _ _ h => h) (Or.inl ⟨by rfl, ?_⟩) ?_ ?_
            rotate_left
            ·intro w'
             go_simp
             with_reducible rfl
            rotate_left
            ·simp only [Act.put, zA, zB, zC, i64_w, i32_w]
             rfl
            refine pure_ (i := 14) (N := some 49) (v := ?_) (a' := ?_) #[true, true, true, true, true, true, true, true, true, true, true, true, true, true, true, false] rfl rfl (any_of HT_.out (by kernel_rfl)) (fun _ _ _ h => h) (Or.inl ⟨by rfl, ?_⟩) ?_ ?_
            rotate_left
            ·intro w'
             go_simp
             with_reducible rfl
            rotate_left
            ·simp only [Act.put, zA, zB, zC, i64_w, i32_w]
             rfl
            refine last_ (i := 15) (N := none) #[true, true, true, true, true, true, true, true, true, true, true, true, true, true, true, true] rfl rfl (one_of HT_.out (by kernel_rfl)) (by decide) (fun K hK => ?_)
            refine skip_ (w1 := ?_) (by rfl) rfl ?_ ?_
            rotate_left
            ·go_simp
             rfl
            refine hK.out _ _ ?_
            clear hK K
            refine done_ (done_of HT_.out (by kernel_rfl)) ?_
            try go_wp2
            go_roundg k1
            case measure => have := HK1.out; omega
            case rel => exact ⟨(wrap64 (x5_1 + 1)), (y134), (.slice (some ⟨go27, 0, none⟩) y129.length co34), (by first | rfl | (simp; done) | (simp [*]; done)), H', ⟨by have := HK1.out; omega⟩, ⟨by (with_reducible repeat first|apply Kd.R_alloc|apply Kd.R_drewN|apply Kd.R_drew); first | exact HQ39.out | (have h_ := hji26v (by have := Int.tmod_lt_of_pos x5_1 (show (0 : Int) < 32 by decide); omega); rw [IntKind.wrap_u32] at h_; rw [← h_] at HQ39; exact HQ39.out)⟩, ⟨by (with_reducible repeat first|refine qN ?_ _|refine qW ?_|refine qA ?_ _); refine blk_far ?_ (by have h_ := Kd.R_ne HO131.out BK126.out (by decide); intro e_; exact h_ (by rw [e_]; rfl)) _; (with_reducible repeat first|refine qN ?_ _|refine qW ?_|refine qA ?_ _); exact BK126.out⟩, ⟨by (with_reducible repeat first|refine qN ?_ _|refine qW ?_|refine qA ?_ _); refine blk_far ?_ (by have h_ := Kd.R_ne HO131.out BK127.out (by decide); intro e_; exact h_ (by rw [e_]; rfl)) _; (with_reducible repeat first|refine qN ?_ _|refine qW ?_|refine qA ?_ _); exact BK127.out⟩, ⟨by (with_reducible repeat first|refine qN ?_ _|refine qW ?_|refine qA ?_ _); refine blk_far ?_ (by have h_ := Kd.R_ne HO131.out BK128.out (by decide); intro e_; exact h_ (by rw [e_]; rfl)) _; (with_reducible repeat first|refine qN ?_ _|refine qW ?_|refine qA ?_ _); exact BK128.out⟩, ⟨by repeat (first | (with_reducible first | exact HB.out | apply qx | apply qv | apply qw | refine below_set ?_ GB27.out | refine qs ?_ (by assumption)) | exact HB.out)⟩⟩
           ·rw [if_neg c25] at H
            exact absurd H (by simp)
          ·rw [if_neg c23] at H
           exact absurd H (by simp)
         ·rw [if_neg c22] at H
          exact absurd H (by simp)
        ·rw [if_neg c20] at H
         have c20b0 : ((rd l0_1 x5_1) == 1) = false := beq_eq_false_iff_ne.mpr c20
         have c20b1 : ((rd l0_1 x5_1) != 1) = true := bne_iff_ne.mpr c20
         have H' := Aside0.mk H
         clear H
         have hnb40 := NB126_127.out
         have hnc40 := NB127_126.out
         have hnb41 := NB126_128.out
         have hnc41 := NB128_126.out
         have hcz42_0 : wr.cell? ⟨gb126, 0, none⟩ = some (.bool a0_0) := qc BK126 0
         have hcz42_1 : wr.cell? ⟨gb126, 1, none⟩ = some (.slice A0_1 l0_1.length c0_1) := qc BK126 1
         have hfz42_0 := blk_frozen BK126.out 0
         have hfz42_1 := blk_frozen BK126.out 1
         have hnb43 := NB128_127.out
         have hnc43 := NB127_128.out
         have hcz44_0 : wr.cell? ⟨gb128, 0, none⟩ = some (.bool a0_0) := qc BK128 0
         have hcz44_1 : wr.cell? ⟨gb128, 1, none⟩ = some (u129001) := qc BK128 1
         have hfz44_0 := blk_frozen BK128.out 0
         have hfz44_1 := blk_frozen BK128.out 1
         go_wp2_with (first | ((with_reducible refine gate_builtin (b := .append) (xs := #[.tmp 25, .tmp 26]) rfl ?_); at_builtin; refine Kd.R_append (Kd.int .u32) (w0 := w) w.heap.size rfl (.tmp 25) (.tmp 26) 23 63 (.int .u32 0) 4 rfl Tryd.underlying23 info63 rfl (by decide) (by omega) u129001 x129001_1 0 [.int .u32 0] (fun _ => True) (fun _ => False) rfl rfl ?aP (fun _ hk => hk.elim) ?aF ?aO ?aB ?aS ?aL ?_; (case aP => exact rfl); (case aB => exact (by repeat with_reducible first|exact HB.out|apply qx|apply qv|apply qw|refine qs ?_ (by assumption))); (case aF => exact (fun _ _ => trivial)); (case aO => exact (by (with_reducible repeat first|apply Kd.R_alloc|apply Kd.R_drewN|apply Kd.R_drew); exact HO_129001.out)); (case aS => exact (below_size (by repeat with_reducible first|exact HB.out|apply qx|apply qv|apply qw|refine qs ?_ (by assumption)))); (case aL => have := LMc18.out; omega); intro v130 w45 ho hb hg hat; rw [← Ny129.out] at ho; have n0_ := Aside0.mk (blk_grown (g := gb126) (o := .cells #[.bool a0_0, .slice A0_1 l0_1.length c0_1] 34 (0, 0)) (by (with_reducible repeat first|refine qN ?_ _|refine qW ?_|refine qA ?_ _); exact BK126.out) hg (Kd.R_ne HO_129001.out BK126.out (by decide))); have n1_ := Aside0.mk (blk_grown (g := gb127) (o := .cells #[.bool false, .slice none 0 0] 25 (0, 0)) (by (with_reducible repeat first|refine qN ?_ _|refine qW ?_|refine qA ?_ _); exact BK127.out) hg (Kd.R_ne HO_129001.out BK127.out (by decide))); have n2_ := Aside0.mk (blk_grown (g := gb128) (o := .cells #[.bool a0_0, u129001] 25 (0, 0)) (by (with_reducible repeat first|refine qN ?_ _|refine qW ?_|refine qA ?_ _); exact BK128.out) hg (Kd.R_ne HO_129001.out BK128.out (by decide))); have n3_ := Aside0.mk (hb); have n4_ := Aside0.mk (ho); clear BK126; clear BK127; clear BK128; clear HB; clear HO_129001; have BK126 := n0_; have BK127 := n1_; have BK128 := n2_; have HB := n3_; have HO131 := n4_; clear n0_ n1_ n2_ n3_ n4_; clear ho hb hg hat; obtain ⟨Ao46, co46, eo46⟩ := Kd.R_slice HO131.out; subst eo46; have hcz47_0 : w45.cell? ⟨gb128, 0, none⟩ = some (.bool a0_0) := qc BK128 0; have hcz47_1 : w45.cell? ⟨gb128, 1, none⟩ = some (u129001) := qc BK128 1; have hfz47_0 := blk_frozen BK128.out 0; have hfz47_1 := blk_frozen BK128.out 1; have hcz48_0 : w45.cell? ⟨gb126, 0, none⟩ = some (.bool a0_0) := qc BK126 0; have hcz48_1 : w45.cell? ⟨gb126, 1, none⟩ = some (.slice A0_1 l0_1.length c0_1) := qc BK126 1; have hfz48_0 := blk_frozen BK126.out 0; have hfz48_1 := blk_frozen BK126.out 1; have p132 : 0 ≤ (x5_1 : Int) := of_decide_eq_true (by first | (with_reducible assumption) | assumption); have q132 : x5_1 < (l0_1.length : Int) := of_decide_eq_true (by first | (with_reducible assumption) | assumption); obtain ⟨ad132, e132, hx132_0⟩ := Kd.at_int HR0_1.out x5_1 p132 q132; cases e132; have hn132_0 : ad132.block ≠ gb128 := Nat.ne_of_lt (Nat.lt_of_lt_of_le (by have := World.block_lt_of_cell? _ _ hx132_0; first | rwa [add_block] at this | exact this) GW128.out); replace hx132_0 := (HB.out.cell (World.block_lt_of_cell? w _ hx132_0)).trans hx132_0; replace hx132_0 := (cell_far (p := ⟨gb128, 1, none⟩) (by first | (rw [add_block]; exact hn132_0) | (show (Addr.add _ _).block ≠ _; rw [add_block]; exact hn132_0) | exact hn132_0) (.slice Ao46 y129.length co46)).trans hx132_0; clear hn132_0; replace p132 := eq_true p132; replace q132 := eq_true q132))
         go_roundg k1
         case measure => have := HK1.out; omega
         case rel => exact ⟨(wrap64 (x5_1 + 1)), (y129), (.slice Ao46 y129.length co46), (by first | rfl | (simp; done) | (simp [*]; done)), H', ⟨by have := HK1.out; omega⟩, ⟨by (with_reducible repeat first|apply Kd.R_alloc|apply Kd.R_drewN|apply Kd.R_drew); exact Kd.R_mono (Kd.R_far (p := ⟨gb128, 1, none⟩) (Kd.R_types HO131.out BK128.out (by decide)) (fun _ hk => hk.2) (.slice Ao46 y129.length co46)) (fun _ hk => trivial)⟩, ⟨by (with_reducible repeat first|refine qN ?_ _|refine qW ?_|refine qA ?_ _); refine blk_far ?_ NB126_128.out _; (with_reducible repeat first|refine qN ?_ _|refine qW ?_|refine qA ?_ _); exact BK126.out⟩, ⟨by (with_reducible repeat first|refine qN ?_ _|refine qW ?_|refine qA ?_ _); refine blk_far ?_ NB127_128.out _; (with_reducible repeat first|refine qN ?_ _|refine qW ?_|refine qA ?_ _); exact BK127.out⟩, ⟨by (with_reducible repeat first|refine qN ?_ _|refine qW ?_|refine qA ?_ _); refine blk_put (cs := #[.bool a0_0, u129001]) ?_ 1 _ rfl; (with_reducible repeat first|refine qN ?_ _|refine qW ?_|refine qA ?_ _); exact BK128.out⟩, ⟨by repeat (first | (with_reducible first | exact HB.out | apply qx | apply qv | apply qw | refine qs ?_ (by assumption)) | exact HB.out)⟩⟩
       ·rw [if_neg c19] at H
        exact absurd H (by simp)
      ·rw [if_neg c18] at H
       exact absurd H (by simp)
     ·rw [if_neg c17] at H
      have c17b0 : ((Int.tmod x5_1 32) == 0) = false := beq_eq_false_iff_ne.mpr c17
      have c17b1 : ((Int.tmod x5_1 32) != 0) = true := bne_iff_ne.mpr c17
      by_cases c49 : 0 ≤ x5_1
      ·rw [if_pos c49] at H
       have c49b0 : decide (0 ≤ x5_1) = true := decide_eq_true c49
       clear c49
       by_cases c50 : (rd l0_1 x5_1) = 1
       ·rw [if_pos c50] at H
        have c50b0 : ((rd l0_1 x5_1) == 1) = true := beq_iff_eq.mpr c50
        have c50b1 : ((rd l0_1 x5_1) != 1) = false := bne_eq_false_iff_eq.mpr c50
        clear c50
        obtain ⟨ji51, hji51⟩ : ∃ j_ : Int, (wrap64 (Int.tdiv x5_1 32)) = j_ := ⟨_, rfl⟩
        replace H : (if 0 ≤ (ji51) then (if (ji51) < (x129001_1.length : Int) then (if 0 ≤ (Int.tmod x5_1 32) then (moraineref02_Num.l0 k1 (wrap64 (x5_1 + 1)) a0_0 l0_1 a0_0 (x129001_1.set ((ji51) : Int).toNat (Go.bits .or .u32 (rd x129001_1 (ji51)) (shl .u32 1 (Int.tmod x5_1 32))))) else (none)) else (none)) else (none)) = some (r1, r2, r3) := by first | (rw [hji51] at H; exact H) | (simp only [hji51] at H ⊢; exact H)
        have hji51w : (IntKind.i64.wrap (Int.tdiv x5_1 32)) = ji51 := (i64_w _).trans hji51
        by_cases c52 : 0 ≤ (ji51)
        ·rw [if_pos c52] at H
         have c52b0 : decide (0 ≤ (ji51)) = true := decide_eq_true c52
         clear c52
         by_cases c53 : (ji51) < (x129001_1.length : Int)
         ·rw [if_pos c53] at H
          have c53b0 : decide ((ji51) < (x129001_1.length : Int)) = true := decide_eq_true c53
          clear c53
          obtain ⟨ji54, hji54⟩ : ∃ j_ : Int, (Int.tmod x5_1 32) = j_ := ⟨_, rfl⟩
          replace H : (if 0 ≤ (ji54) then (moraineref02_Num.l0 k1 (wrap64 (x5_1 + 1)) a0_0 l0_1 a0_0 (x129001_1.set ((ji51) : Int).toNat (Go.bits .or .u32 (rd x129001_1 (ji51)) (shl .u32 1 (ji54))))) else (none)) = some (r1, r2, r3) := by first | (rw [hji54] at H; exact H) | (simp only [hji54] at H ⊢; exact H)
          (try rw [hji54] at c17b0)
          (try rw [hji54] at c17b1)
          by_cases c55 : 0 ≤ (ji54)
          ·rw [if_pos c55] at H
           have c55b0 := eq_true c55
           have c55b1 : decide (0 ≤ (ji54)) = true := decide_eq_true c55
           clear c55
           obtain ⟨ji56, hji56⟩ : ∃ j_ : Int, (shl .u32 1 (ji54)) = j_ := ⟨_, rfl⟩
           replace H : (moraineref02_Num.l0 k1 (wrap64 (x5_1 + 1)) a0_0 l0_1 a0_0 (x129001_1.set ((ji51) : Int).toNat (Go.bits .or .u32 (rd x129001_1 (ji51)) (ji56)))) = some (r1, r2, r3) := by first | (rw [hji56] at H; exact H) | (simp only [hji56] at H ⊢; exact H)
           have hji56_ : (IntKind.u32.wrap (1 * 2 ^ min (ji54).toNat 32)) = ji56 := hji56
           have hji56z : (ji54) ≤ 32 → (IntKind.u32.wrap (1 * 2 ^ (ji54).toNat)) = ji56 := shl_small hji56
           have hji56u : (IntKind.u32.wrap (2 ^ min (ji54).toNat 32)) = ji56 := by have h_ := hji56_; rw [Int.one_mul] at h_; exact h_
           have hji56v : (ji54) ≤ 32 → (IntKind.u32.wrap (2 ^ (ji54).toNat)) = ji56 := fun hle_ => by have h_ := hji56z hle_; rw [Int.one_mul] at h_; exact h_
           obtain ⟨y137, hy137⟩ : ∃ y_ : List Int, y_ = (x129001_1.set ((ji51) : Int).toNat (Go.bits .or .u32 (rd x129001_1 (ji51)) (ji56))) := ⟨_, rfl⟩
           replace H : (moraineref02_Num.l0 k1 (wrap64 (x5_1 + 1)) a0_0 l0_1 a0_0 y137) = some (r1, r2, r3) := by first | (rw [hy137]; with_reducible exact H) | (have H2_ := (Option.bind_some _ _).symm.trans H; rw [hy137]; with_reducible exact H2_) | (have H2_ := (Option.bind_some _ _).symm.trans H; with_reducible exact H2_) | with_reducible exact H | (rw [hy137]; exact H) | exact H
           have Ny137 := Aside0.mk hy137
           clear hy137
           have H' := Aside0.mk H
           clear H
           have hnb58 := NB126_127.out
           have hnc58 := NB127_126.out
           have hnb59 := NB126_128.out
           have hnc59 := NB128_126.out
           have hcz60_0 : wr.cell? ⟨gb126, 0, none⟩ = some (.bool a0_0) := qc BK126 0
           have hcz60_1 : wr.cell? ⟨gb126, 1, none⟩ = some (.slice A0_1 l0_1.length c0_1) := qc BK126 1
           have hfz60_0 := blk_frozen BK126.out 0
           have hfz60_1 := blk_frozen BK126.out 1
           have p135 : 0 ≤ (x5_1 : Int) := of_decide_eq_true (by first | (with_reducible assumption) | assumption)
           have q135 : x5_1 < (l0_1.length : Int) := of_decide_eq_true (by first | (with_reducible assumption) | assumption)
           obtain ⟨ad135, e135, hx135_0⟩ := Kd.at_int HR0_1.out x5_1 p135 q135
           cases e135
           replace hx135_0 := (HB.out.cell (World.block_lt_of_cell? w _ hx135_0)).trans hx135_0
           replace p135 := eq_true p135
           replace q135 := eq_true q135
           try go_wp2
           replace HO_129001 := Aside0.mk (Kd.R_drew HO_129001.out)
           replace BK126 := Aside0.mk (blk_drew BK126.out)
           replace BK127 := Aside0.mk (blk_drew BK127.out)
           replace BK128 := Aside0.mk (blk_drew BK128.out)
           replace HB := Aside0.mk (below_drew1 HB.out)
           obtain ⟨Ao62, co62, eo62⟩ := Kd.R_slice HO_129001.out
           (first | subst eo62 | (injection eo62 with f1_ f2_ f3_; have f4_ := f1_.symm; have f5_ := f3_.symm; clear f1_ f2_ f3_; subst f4_; subst f5_))
           have p136 : 0 ≤ ((ji51) : Int) := of_decide_eq_true (by first | (with_reducible assumption) | assumption)
           have q136 : (ji51) < (x129001_1.length : Int) := of_decide_eq_true (by first | (with_reducible assumption) | assumption)
           obtain ⟨ad136, e136, hx136_0⟩ := Kd.at_int (Kd.R_reads' HO_129001.out).2.2 (ji51) p136 q136
           cases e136
           replace p136 := eq_true p136
           replace q136 := eq_true q136
           have p57 : 0 ≤ ((ji51) : Int) := of_decide_eq_true (by first | (with_reducible assumption) | assumption)
           have q57 : ((ji51) : Int) < ((x129001_1.length : Int) : Int) := of_decide_eq_true (by first | (with_reducible assumption) | assumption)
           obtain ⟨go57, co57, eo57, gb57, gl57, cl57, HG57⟩ := Kd.R_form HO_129001.out (by omega)
           (first | cases eo57 | (injection eo57 with ea_ en_ ec_; (first | subst ea_ | (injection ea_ with ea_; subst ea_)); subst ec_; clear en_))
           have GB57 := Aside0.mk gb57
           have GG57 := Aside0.mk HG57
           clear gb57 gl57 HG57
           (first | simp only [add_plain] at hx136_0 | skip)
           obtain ⟨hx57_0, hf57_0⟩ := Kd.R_celln 0 HO_129001.out ((ji51) : Int) p57 q57
           replace p57 := eq_true p57
           replace q57 := eq_true q57
           have HP63 := Kd.R_putn HO_129001.out ((ji51) : Int) (Go.bits .or .u32 (rd x129001_1 (ji51)) (ji56))
           rw [← Ny137.out] at HP63
           have HQ63 := Aside0.mk HP63
           clear HP63
           refine start_ (n := 16) (S := fun w' => w'.cell? ⟨gb128, 0, none⟩ = some (.bool a0_0) ∧ w'.cell? ⟨gb128, 1, none⟩ = some (.slice (some ⟨go57, 0, none⟩) x129001_1.length co62) ∧ w'.cell? ⟨go57, ((ji51)).toNat, none⟩ = some (.int .u32 (rd x129001_1 (ji51)))) (ds := [15]) #[false, false, false, false, false, false, false, false, false, false, false, false, false, false, false, false] (by kernel_rfl) rfl rfl ⟨qc BK128 0, qc BK128 1, hx136_0⟩ (fun hHeld => ?_); refine with_tabW moraineref02_Num.tab10 moraineref02_Num.bits10 (fun HT_ HW_ => ?_)
           generalize wr.drew = w61 at HO_129001 BK126 BK127 BK128 HB GG57 HQ63 hf57_0 hx136_0 hx57_0 hHeld ⊢
           refine pure_ (i := 0) (N := some 35) (v := ?_) (a' := ?_) #[true, false, false, false, false, false, false, false, false, false, false, false, false, false, false, false] rfl rfl (any_of HT_.out (by kernel_rfl)) (fun _ _ _ h => h) (Or.inl ⟨by rfl, ?_⟩) ?_ ?_
           rotate_left
           ·intro w'
            go_simp
            with_reducible rfl
           rotate_left
           ·simp only [Act.put, zA, zB, zC, i64_w, i32_w]
            rfl
           refine pure_ (i := 2) (N := some 37) (v := ?_) (a' := ?_) #[true, false, true, false, false, false, false, false, false, false, false, false, false, false, false, false] rfl rfl (any_of HT_.out (by kernel_rfl)) (fun _ _ _ h => h) (Or.inl ⟨by rfl, ?_⟩) ?_ ?_
           rotate_left
           ·intro w'
            go_simp
            with_reducible rfl
           rotate_left
           ·simp only [Act.put, zA, zB, zC, i64_w, i32_w]
            rfl
           refine pure_ (i := 3) (N := some 38) (v := ?_) (a' := ?_) #[true, false, true, true, false, false, false, false, false, false, false, false, false, false, false, false] rfl rfl (any_of HT_.out (by kernel_rfl)) (fun _ _ _ h => h) (Or.inl ⟨by rfl, ?_⟩) ?_ ?_
           rotate_left
           ·intro w'
            go_simp
            with_reducible rfl
           rotate_left
           ·simp only [Act.put, zA, zB, zC, i64_w, i32_w]
            rfl
           refine pure_ (i := 4) (N := some 39) (v := ?_) (a' := ?_) #[true, false, true, true, true, false, false, false, false, false, false, false, false, false, false, false] rfl rfl (any_of HT_.out (by kernel_rfl)) (fun _ _ _ h => h) (Or.inl ⟨by rfl, ?_⟩) ?_ ?_
           rotate_left
           ·intro w'
            go_simp
            with_reducible rfl
           rotate_left
           ·simp only [Act.put, zA, zB, zC, i64_w, i32_w]
            rfl
           refine pure_ (i := 6) (N := some 41) (v := ?_) (a' := ?_) #[true, false, true, true, true, false, true, false, false, false, false, false, false, false, false, false] rfl rfl (any_of HT_.out (by kernel_rfl)) (fun _ _ _ h => h) (Or.inl ⟨by rfl, ?_⟩) ?_ ?_
           rotate_left
           ·intro w'
            go_simp
            with_reducible rfl
           rotate_left
           ·simp only [Act.put, zA, zB, zC, i64_w, i32_w]
            rfl
           refine pure_ (i := 7) (N := some 42) (v := ?_) (a' := ?_) #[true, false, true, true, true, false, true, true, false, false, false, false, false, false, false, false] rfl rfl (any_of HT_.out (by kernel_rfl)) (fun _ _ _ h => h) (Or.inl ⟨by rfl, ?_⟩) ?_ ?_
           rotate_left
           ·intro w'
            go_simp
            with_reducible rfl
           rotate_left
           ·simp only [Act.put, zA, zB, zC, i64_w, i32_w]
            rfl
           refine pure_ (i := 10) (N := some 45) (v := ?_) (a' := ?_) #[true, false, true, true, true, false, true, true, false, false, true, false, false, false, false, false] rfl rfl (any_of HT_.out (by kernel_rfl)) (fun _ _ _ h => h) (Or.inl ⟨by rfl, ?_⟩) ?_ ?_
           rotate_left
           ·intro w'
            go_simp
            with_reducible rfl
           rotate_left
           ·simp only [Act.put, zA, zB, zC, i64_w, i32_w]
            rfl
           refine pure_ (i := 11) (N := some 46) (v := ?_) (a' := ?_) #[true, false, true, true, true, false, true, true, false, false, true, true, false, false, false, false] rfl rfl (any_of HT_.out (by kernel_rfl)) (fun _ _ _ h => h) (Or.inl ⟨by rfl, ?_⟩) ?_ ?_
           rotate_left
           ·intro w'
            go_simp
            with_reducible rfl
           rotate_left
           ·simp only [Act.put, zA, zB, zC, i64_w, i32_w]
            rfl
           refine pure_ (i := 12) (N := some 47) (v := ?_) (a' := ?_) #[true, false, true, true, true, false, true, true, false, false, true, true, true, false, false, false] rfl rfl (any_of HT_.out (by kernel_rfl)) (fun _ _ _ h => h) (Or.inl ⟨by rfl, ?_⟩) ?_ ?_
           rotate_left
           ·intro w'
            go_simp
            with_reducible rfl
           rotate_left
           ·simp only [Act.put, zA, zB, zC, i64_w, i32_w]
            rfl
           refine take_ (i := 1) (N := some 36) (v := ?_) (a' := ?_) #[true, true, true, true, true, false, true, true, false, false, true, true, true, false, false, false] rfl rfl (take_ofW HT_.out HW_.out (by kernel_rfl)) (fun _ _ _ h => h) (Or.inl ⟨by rfl, ?_⟩) hHeld ?_ ?_
           rotate_left
           ·rintro w' ⟨s0, s1, s2⟩
            go_simp
            with_reducible rfl
           rotate_left
           ·simp only [Act.put, zA, zB, zC, i64_w, i32_w]
            rfl
           refine take_ (i := 5) (N := some 40) (v := ?_) (a' := ?_) #[true, true, true, true, true, true, true, true, false, false, true, true, true, false, false, false] rfl rfl (take_ofW HT_.out HW_.out (by kernel_rfl)) (fun _ _ _ h => h) (Or.inl ⟨by rfl, ?_⟩) hHeld ?_ ?_
           rotate_left
           ·rintro w' ⟨s0, s1, s2⟩
            go_simp
            with_reducible rfl
           rotate_left
           ·simp only [Act.put, zA, zB, zC, i64_w, i32_w]
            rfl
           refine pure_ (i := 8) (N := some 43) (v := ?_) (a' := ?_) #[true, true, true, true, true, true, true, true, true, false, true, true, true, false, false, false] rfl rfl (any_of HT_.out (by kernel_rfl)) (fun _ _ _ h => h) (Or.inl ⟨by rfl, ?_⟩) ?_ ?_
           rotate_left
           ·intro w'
            go_simp
            with_reducible rfl
           rotate_left
           ·simp only [Act.put, zA, zB, zC, i64_w, i32_w]
            rfl
           refine take_ (i := 9) (N := some 44) (v := ?_) (a' := ?_) #[true, true, true, true, true, true, true, true, true, true, true, true, true, false, false, false] rfl rfl (take_ofW HT_.out HW_.out (by kernel_rfl)) (fun _ _ _ h => h) (Or.inl ⟨by rfl, ?_⟩) hHeld ?_ ?_
           rotate_left
           ·rintro w' ⟨s0, s1, s2⟩
            go_simp
            with_reducible rfl
           rotate_left
           ·simp only [Act.put, zA, zB, zC, i64_w, i32_w]
            rfl
           refine pure_ (i := 13) (N := some 48) (v := ?_) (a' := ?_) #[true, true, true, true, true, true, true, true, true, true, true, true, true, true, false, false] rfl rfl (any_of HT_.out (by kernel_rfl)) (fun _ _ _ h => h) (Or.inl ⟨by rfl, ?_⟩) ?_ ?_
           rotate_left
           ·intro w'
            go_simp
            with_reducible rfl
           rotate_left
           ·simp only [Act.put, zA, zB, zC, i64_w, i32_w]
            rfl
           refine pure_ (i := 14) (N := some 49) (v := ?_) (a' := ?_) #[true, true, true, true, true, true, true, true, true, true, true, true, true, true, true, false] rfl rfl (any_of HT_.out (by kernel_rfl)) (fun _ _ _ h => h) (Or.inl ⟨by rfl, ?_⟩) ?_ ?_
           rotate_left
           ·intro w'
            go_simp
            with_reducible rfl
           rotate_left
           ·simp only [Act.put, zA, zB, zC, i64_w, i32_w]
            rfl
           refine last_ (i := 15) (N := none) #[true, true, true, true, true, true, true, true, true, true, true, true, true, true, true, true] rfl rfl (one_of HT_.out (by kernel_rfl)) (by decide) (fun K hK => ?_)
           refine skip_ (w1 := ?_) (by rfl) rfl ?_ ?_
           rotate_left
           ·go_simp
            rfl
           refine hK.out _ _ ?_
           clear hK K
           refine done_ (done_of HT_.out (by kernel_rfl)) ?_
           try go_wp2
           go_roundg k1
           case measure => have := HK1.out; omega
           case rel => exact ⟨(wrap64 (x5_1 + 1)), (y137), (.slice (some ⟨go57, 0, none⟩) x129001_1.length co62), (by first | rfl | (simp; done) | (simp [*]; done)), H', ⟨by have := HK1.out; omega⟩, ⟨by (with_reducible repeat first|apply Kd.R_alloc|apply Kd.R_drewN|apply Kd.R_drew); exact HQ63.out⟩, ⟨by (with_reducible repeat first|refine qN ?_ _|refine qW ?_|refine qA ?_ _); refine blk_far ?_ (by have h_ := Kd.R_ne HO_129001.out BK126.out (by decide); intro e_; exact h_ (by rw [e_]; rfl)) _; (with_reducible repeat first|refine qN ?_ _|refine qW ?_|refine qA ?_ _); exact BK126.out⟩, ⟨by (with_reducible repeat first|refine qN ?_ _|refine qW ?_|refine qA ?_ _); refine blk_far ?_ (by have h_ := Kd.R_ne HO_129001.out BK127.out (by decide); intro e_; exact h_ (by rw [e_]; rfl)) _; (with_reducible repeat first|refine qN ?_ _|refine qW ?_|refine qA ?_ _); exact BK127.out⟩, ⟨by (with_reducible repeat first|refine qN ?_ _|refine qW ?_|refine qA ?_ _); refine blk_far ?_ (by have h_ := Kd.R_ne HO_129001.out BK128.out (by decide); intro e_; exact h_ (by rw [e_]; rfl)) _; (with_reducible repeat first|refine qN ?_ _|refine qW ?_|refine qA ?_ _); exact BK128.out⟩, ⟨by repeat (first | (with_reducible first | exact HB.out | apply qx | apply qv | apply qw | refine below_set ?_ GB57.out | refine qs ?_ (by assumption)) | exact HB.out)⟩⟩
          ·rw [if_neg c55] at H
           exact absurd H (by simp)
         ·rw [if_neg c53] at H
          exact absurd H (by simp)
        ·rw [if_neg c52] at H
         exact absurd H (by simp)
       ·rw [if_neg c50] at H
        have c50b0 : ((rd l0_1 x5_1) == 1) = false := beq_eq_false_iff_ne.mpr c50
        have c50b1 : ((rd l0_1 x5_1) != 1) = true := bne_iff_ne.mpr c50
        have H' := Aside0.mk H
        clear H
        have hnb64 := NB126_127.out
        have hnc64 := NB127_126.out
        have hnb65 := NB126_128.out
        have hnc65 := NB128_126.out
        have hcz66_0 : wr.cell? ⟨gb126, 0, none⟩ = some (.bool a0_0) := qc BK126 0
        have hcz66_1 : wr.cell? ⟨gb126, 1, none⟩ = some (.slice A0_1 l0_1.length c0_1) := qc BK126 1
        have hfz66_0 := blk_frozen BK126.out 0
        have hfz66_1 := blk_frozen BK126.out 1
        have p135 : 0 ≤ (x5_1 : Int) := of_decide_eq_true (by first | (with_reducible assumption) | assumption)
        have q135 : x5_1 < (l0_1.length : Int) := of_decide_eq_true (by first | (with_reducible assumption) | assumption)
        obtain ⟨ad135, e135, hx135_0⟩ := Kd.at_int HR0_1.out x5_1 p135 q135
        cases e135
        replace hx135_0 := (HB.out.cell (World.block_lt_of_cell? w _ hx135_0)).trans hx135_0
        replace p135 := eq_true p135
        replace q135 := eq_true q135
        go_wp2
        go_roundg k1
        case measure => have := HK1.out; omega
        case rel => exact ⟨(wrap64 (x5_1 + 1)), (x129001_1), (u129001), (by first | rfl | (simp; done) | (simp [*]; done)), H', ⟨by have := HK1.out; omega⟩, ⟨qq HO_129001⟩, ⟨qk BK126⟩, ⟨qk BK127⟩, ⟨qk BK128⟩, ⟨by repeat (first | (with_reducible first | exact HB.out | apply qx | apply qv | apply qw | refine qs ?_ (by assumption)) | exact HB.out)⟩⟩
      ·rw [if_neg c49] at H
       exact absurd H (by simp)
    ·rw [if_neg c16] at H
     have c16b0 : decide (x5_1 < (l0_1.length : Int)) = false := decide_eq_false c16
     clear c16
     simp only [Option.some.injEq, Prod.mk.injEq] at H
     obtain ⟨rfl, rfl, rfl⟩ := H
     have hnb67 := NB126_127.out
     have hnc67 := NB127_126.out
     have hnb68 := NB126_128.out
     have hnc68 := NB128_126.out
     have hcz69_0 : wr.cell? ⟨gb126, 0, none⟩ = some (.bool a0_0) := qc BK126 0
     have hcz69_1 : wr.cell? ⟨gb126, 1, none⟩ = some (.slice A0_1 l0_1.length c0_1) := qc BK126 1
     have hfz69_0 := blk_frozen BK126.out 0
     have hfz69_1 := blk_frozen BK126.out 1
     have hnb70 := NB128_127.out
     have hnc70 := NB127_128.out
     have hcz71_0 : wr.cell? ⟨gb128, 0, none⟩ = some (.bool a0_0) := qc BK128 0
     have hcz71_1 : wr.cell? ⟨gb128, 1, none⟩ = some (u129001) := qc BK128 1
     have hfz71_0 := blk_frozen BK128.out 0
     have hfz71_1 := blk_frozen BK128.out 1
     have hcz72_0 : wr.cell? ⟨gb127, 0, none⟩ = some (.bool false) := qc BK127 0
     have hcz72_1 : wr.cell? ⟨gb127, 1, none⟩ = some (.slice none 0 0) := qc BK127 1
     have hfz72_0 := blk_frozen BK127.out 0
     have hfz72_1 := blk_frozen BK127.out 1
     obtain ⟨Ao73, co73, eo73⟩ := Kd.R_slice HO_129001.out
     subst eo73
     go_wp2
     refine bodyPost_ret (results_ct rfl _ _ gb127 25 #[.bool a0_0, .slice Ao73 x129001_1.length co73] (0, 0) _ rfl (by (with_reducible repeat first|refine qN ?_ _|refine qW ?_|refine qA ?_ _); refine blk_put (cs := #[.bool a0_0, .slice none 0 0]) ?_ 1 _ rfl; (with_reducible repeat first|refine qN ?_ _|refine qW ?_|refine qA ?_ _); refine blk_put (cs := #[.bool false, .slice none 0 0]) ?_ 0 _ rfl; (with_reducible repeat first|refine qN ?_ _|refine qW ?_|refine qA ?_ _); exact BK127.out) Tryd.underlying25 rfl (by kernel_rfl)) rfl ?_
     exact ⟨_, by first | rfl | (simp [errW_none, errW_some] <;> rfl) | (simp [*, errW_none, errW_some] <;> rfl), by (with_reducible repeat first|apply Kd.R_alloc|apply Kd.R_drewN|apply Kd.R_drew); exact Kd.R_mono (qz HO_129001 BK127 (by decide) (.bool a0_0) (.slice Ao73 x129001_1.length co73)) (fun _ hk => trivial), by repeat (first | (with_reducible first | exact HB.out | apply qx | apply qv | apply qw | refine qs ?_ (by assumption)) | exact HB.out)⟩
end Go.Proofs.YthhpnlbeniihhaaDoor.PRef
namespace Go.Proofs.YthhpnlbeniihhaaDoor.Bit
open Go.Proofs.YthhpnlbeniihhaaDoor.Limb
set_option linter.unusedVariables false
set_option linter.unusedSimpArgs false
/-- The value of a row. -/
def bv : List Int → Nat
  | [] => 0
  | x :: l => x.toNat + 2 * bv l
/-- Each is a limb. -/
def OkB (l : List Int) : Prop := ∀ x ∈ l, 0 ≤ x ∧ x < 2
theorem bv_nil : bv [] = 0 := rfl
theorem bv_cons (x : Int) (l : List Int) : bv (x :: l) = x.toNat + 2 * bv l := rfl
theorem bv_append (l m : List Int) : bv (l ++ m) = bv l + 2 ^ l.length * bv m := by
  induction l with
  | nil => simp [bv]
  | cons x l ih =>
    simp only [List.cons_append, bv_cons, ih, List.length_cons, Nat.pow_succ]
    rw [Nat.mul_add, Nat.add_assoc, Nat.mul_comm (2 ^ l.length) 2, Nat.mul_assoc]
theorem bv_lt {l : List Int} (h : OkB l) : bv l < 2 ^ l.length := by
  induction l with
  | nil => simp [bv]
  | cons x l ih =>
    have hx := h x List.mem_cons_self
    have hl := ih (fun y hy => h y (List.mem_cons_of_mem _ hy))
    rw [bv_cons, List.length_cons, Nat.pow_succ]
    omega
theorem bv_zero {l : List Int} (h : OkB l) : bv l = 0 ↔ tr l = [] := by
  induction l with
  | nil => simp [bv, tr_nil]
  | cons x l ih =>
    have hx := h x List.mem_cons_self
    have ih := ih (fun y hy => h y (List.mem_cons_of_mem _ hy))
    rw [bv_cons, tr_cons]
    by_cases e : tr l = []
    · rw [if_pos e]
      have := ih.mpr e
      by_cases hx0 : x = 0
      · rw [if_pos hx0]; constructor
        · intro _; rfl
        · intro _; omega
      · rw [if_neg hx0]; constructor
        · intro q; omega
        · intro q; simp at q
    · rw [if_neg e]
      have : bv l ≠ 0 := fun q => e (ih.mp q)
      constructor
      · intro q; omega
      · intro q; simp at q
/-- The row of a value. -/
def bits (n : Nat) : List Int := if h : n = 0 then [] else ((n % 2 : Nat) : Int) :: bits (n / 2)
termination_by n
decreasing_by exact Nat.div_lt_self (by omega) (by decide)
theorem bits_zero : bits 0 = [] := by rw [bits]; simp
theorem bits_pos {n : Nat} (h : n ≠ 0) : bits n = ((n % 2 : Nat) : Int) :: bits (n / 2) := by rw [bits, dif_neg h]
theorem bits_nil {n : Nat} : bits n = [] ↔ n = 0 := by
  by_cases h : n = 0
  · subst h; simp [bits_zero]
  · rw [bits_pos h]; simp [h]
theorem bv_bits (n : Nat) : bv (bits n) = n := by
  induction n using Nat.strongRecOn with
  | ind n ih =>
    by_cases h : n = 0
    · subst h; rw [bits_zero]; rfl
    · rw [bits_pos h, bv_cons, ih _ (Nat.div_lt_self (by omega) (by decide))]
      omega
theorem ok_bits (n : Nat) : OkB (bits n) := by
  induction n using Nat.strongRecOn with
  | ind n ih =>
    by_cases h : n = 0
    · subst h; rw [bits_zero]; intro x hx; simp at hx
    · rw [bits_pos h]
      intro x hx
      rcases List.mem_cons.mp hx with rfl | hx
      · omega
      · exact ih _ (Nat.div_lt_self (by omega) (by decide)) x hx
/-- A row, trimmed, is the row of its value. -/
theorem tr_bits {l : List Int} (h : OkB l) : tr l = bits (bv l) := by
  induction l with
  | nil => rw [bv_nil, bits_zero]; rfl
  | cons x l ih =>
    have hx := h x List.mem_cons_self
    have hl : OkB l := fun y hy => h y (List.mem_cons_of_mem _ hy)
    have ih := ih hl
    rw [tr_cons, bv_cons]
    by_cases e : tr l = []
    · have m0 := (bv_zero hl).mpr e
      rw [if_pos e, m0]
      by_cases hx0 : x = 0
      · subst hx0; rw [if_pos rfl]; exact bits_zero.symm
      · rw [if_neg hx0, bits_pos (by omega), show (x.toNat + 2 * 0) / 2 = 0 by omega, bits_zero, show (((x.toNat + 2 * 0) % 2 : Nat) : Int) = x by omega]
    · have m0 : bv l ≠ 0 := fun q => e ((bv_zero hl).mp q)
      rw [if_neg e, bits_pos (by omega), show (x.toNat + 2 * bv l) / 2 = bv l by omega, ← ih, show (((x.toNat + 2 * bv l) % 2 : Nat) : Int) = x by omega]
theorem bits_len (n k : Nat) : (bits n).length ≤ k ↔ n < 2 ^ k := by
  induction k generalizing n with
  | zero =>
    rw [Nat.pow_zero, Nat.le_zero, List.length_eq_zero_iff, bits_nil]
    omega
  | succ k ih =>
    by_cases h : n = 0
    · subst h; simp [bits_zero, Nat.pow_pos]
    · rw [bits_pos h, List.length_cons, Nat.succ_le_succ_iff, ih, Nat.pow_succ]
      exact Nat.div_lt_iff_lt_mul (by decide)
theorem bv_le_len {l m : List Int} (hl : OkB l) (hm : OkB m) (tl : tr l = l) (tm : tr m = m) (h : l.length < m.length) : bv l < bv m := by
  have e1 : l = bits (bv l) := by rw [← tr_bits hl, tl]
  have e2 : m = bits (bv m) := by rw [← tr_bits hm, tm]
  have a := bv_lt hl
  have b : ¬ (bits (bv m)).length ≤ l.length := by rw [← e2]; omega
  rw [bits_len] at b
  omega
theorem bv_take_succ (l : List Int) (n : Nat) (h : n < l.length) : bv (l.take (n + 1)) = bv (l.take n) + 2 ^ n * (l[n]).toNat := by
  rw [take_succ' l n h, bv_append, List.length_take, Nat.min_eq_left (by omega)]
  simp [bv]
theorem bv_take_lt {l : List Int} (h : OkB l) (n : Nat) (hn : n ≤ l.length) : bv (l.take n) < 2 ^ n := by
  have := bv_lt (l := l.take n) (fun x hx => h x (List.mem_of_mem_take hx))
  rwa [List.length_take, Nat.min_eq_left hn] at this
/-- Rows that are the same from place n on: their values compare as what stands below. -/
theorem cmpb_below (a b : List Int) (hl : a.length = b.length) (n : Nat) (h : ∀ j, n ≤ j → (hj : j < a.length) → a[j] = b[j]'(by omega)) : cmpN (bv a) (bv b) = cmpN (bv (a.take n)) (bv (b.take n)) := by
  have hd : a.drop n = b.drop n := by
    apply List.ext_getElem
    · simp [hl]
    · intro i h1 h2
      simp only [List.getElem_drop]
      exact h (n + i) (by omega) (by simp at h1; omega)
  have ea : bv a = bv (a.take n) + 2 ^ (a.take n).length * bv (a.drop n) := by rw [← bv_append, List.take_append_drop]
  have eb : bv b = bv (b.take n) + 2 ^ (b.take n).length * bv (b.drop n) := by rw [← bv_append, List.take_append_drop]
  have el : (a.take n).length = (b.take n).length := by simp [hl]
  rw [ea, eb, hd, el]
  unfold cmpN
  split <;> split <;> (try split) <;> first | rfl | omega
/-- The first place from above where they part decides. -/
theorem cmpb_at (a b : List Int) (ha : OkB a) (hb : OkB b) (hl : a.length = b.length) (n : Nat) (hn : n < a.length) (h : ∀ j, n + 1 ≤ j → (hj : j < a.length) → a[j] = b[j]'(by omega)) (hne : a[n] ≠ b[n]'(by omega)) :
    cmpN (bv a) (bv b) = if a[n] < b[n]'(by omega) then -1 else 1 := by
  rw [cmpb_below a b hl (n + 1) h, bv_take_succ a n hn, bv_take_succ b n (by omega)]
  have la := bv_take_lt ha n (by omega)
  have lb := bv_take_lt hb n (by omega)
  have xa := ha a[n] (List.getElem_mem _)
  have xb := hb (b[n]'(by omega)) (List.getElem_mem _)
  generalize bv (a.take n) = p at *
  generalize bv (b.take n) = q at *
  generalize hu : (a[n]).toNat = u at *
  generalize hv : (b[n]'(by omega)).toNat = v at *
  generalize 2 ^ n = K at *
  by_cases c : a[n] < b[n]'(by omega)
  · rw [if_pos c]
    have huv : u + 1 ≤ v := by omega
    have hm : K * (u + 1) ≤ K * v := Nat.mul_le_mul_left K huv
    rw [Nat.mul_add] at hm
    unfold cmpN
    rw [if_pos (by omega)]
  · rw [if_neg c]
    have huv : v + 1 ≤ u := by omega
    have hm : K * (v + 1) ≤ K * u := Nat.mul_le_mul_left K huv
    rw [Nat.mul_add] at hm
    unfold cmpN
    rw [if_neg (by omega), if_pos (by omega)]
end Go.Proofs.YthhpnlbeniihhaaDoor.Bit
namespace Go.Proofs.YthhpnlbeniihhaaDoor.RefA
open Go.RowKit Go.Proofs.YthhpnlbeniihhaaDoorW.PrintWords Go.Proofs.YthhpnlbeniihhaaDoorW.PrintLast Go.Proofs.YthhpnlbeniihhaaDoorW.PrintMore Go.Proofs.YthhpnlbeniihhaaDoor.Limb Go.Proofs.YthhpnlbeniihhaaDoor.Bit Go.Proofs.YthhpnlbeniihhaaDoor.NumA Go.Proofs.YthhpnlbeniihhaaDoor.NumE Go.Proofs.YthhpnlbeniihhaaDoor.NumG Go.Proofs.YthhpnlbeniihhaaDoor.Quo Go.Proofs.YthhpnlbeniihhaaDoor.PRef
set_option linter.unusedVariables false
set_option linter.unusedSimpArgs false
theorem Ev.rbind {α β : Type} {g : Nat → Option α} {f : Nat → α → Option β} {a : α} {r : β} (h : Ev g a) (k : Ev (fun n => f n a) r) : Ev (fun n => (g n).bind (fun x => f n x)) r := Ev.bind h k
theorem Ev.some' {α : Type} {g : Nat → Option α} {r : α} (h : ∀ k, g k = some r) : Ev g r := ⟨0, fun k _ => h k⟩
theorem w64s {x : Int} (h0 : -9223372036854775808 ≤ x) (h1 : x ≤ 9223372036854775807) : wrap64 x = x := by unfold wrap64; omega
theorem OkB.okL {l : List Int} (h : OkB l) : OkL l := fun x hx => by have := h x hx; omega
theorem nl_le {l : List Int} (h : OkB l) (i : Nat) : nl l i ≤ 1 := by
  unfold nl
  by_cases hi : i < l.length
  · rw [rd_nat l i hi]
    have := h l[i] (List.getElem_mem hi)
    omega
  · rw [rd_out (i : Int) (by omega)]
    decide
theorem okB_nil : OkB [] := by intro x hx; simp at hx
theorem okB_snoc {l : List Int} (h : OkB l) (x : Nat) (hx : x ≤ 1) : OkB (l ++ [(x : Int)]) := by
  intro y hy
  rcases List.mem_append.mp hy with hy | hy
  · exact h y hy
  · rw [List.mem_singleton] at hy; subst hy; omega
theorem bv_take_next (l : List Int) (i : Nat) : bv (l.take (i + 1)) = bv (l.take i) + 2 ^ i * nl l i := by
  by_cases h : i < l.length
  · rw [bv_take_succ l i h]
    unfold nl
    rw [rd_nat l i h]
  · have e : nl l i = 0 := by unfold nl; rw [rd_out (i : Int) (by omega)]; rfl
    rw [e, List.take_of_length_le (by omega), List.take_of_length_le (by omega)]
    omega
theorem bv_take_all {l : List Int} {n : Nat} (h : l.length ≤ n) : bv (l.take n) = bv l := by rw [List.take_of_length_le h]
theorem bv_take_small {m : List Int} (om : OkB m) (n : Nat) (h : bv m < 2 ^ n) : bv (m.take n) = bv m := by
  by_cases hn : n ≤ m.length
  · have e : bv m = bv (m.take n) + 2 ^ (m.take n).length * bv (m.drop n) := by rw [← bv_append, List.take_append_drop]
    rw [List.length_take, Nat.min_eq_left hn] at e
    rw [e] at h
    by_cases z : bv (m.drop n) = 0
    · rw [z] at e; omega
    · have : 2 ^ n * 1 ≤ 2 ^ n * bv (m.drop n) := Nat.mul_le_mul_left _ (by omega)
      omega
  · rw [List.take_of_length_le (by omega)]
theorem bv_snoc (l : List Int) (x : Nat) : bv (l ++ [(x : Int)]) = bv l + 2 ^ l.length * x := by
  rw [bv_append]
  simp [bv]
theorem cut_from (l : List Int) (hl : l.length < 4611686018427387904) (n : Nat) (hn : n ≤ l.length) : Ev (fun k => moraineref02_cut.l0 k l (n : Int)) (tr (l.take n)) := by
  induction n with
  | zero =>
    refine Ev.step (f := fun _ => some (l.take 0)) (fun k => ?_) (by rw [List.take_zero]; exact Ev.now _)
    rw [moraineref02_cut.l0, if_neg (by decide), if_pos (by decide), if_pos (by omega)]
    rfl
  | succ n ih =>
    have hlt : n < l.length := hn
    have e : wrap64 (((n + 1 : Nat) : Int) - 1) = (n : Int) := by rw [w64s (by omega) (by omega)]; omega
    by_cases hz : rd l (n : Int) = 0
    · have h0 : l[n] = 0 := by rw [← rd_nat l n hlt]; exact hz
      have et : tr (l.take (n + 1)) = tr (l.take n) := by rw [take_succ' l n hlt, h0, tr_snoc_zero]
      rw [et]
      refine Ev.step (fun k => ?_) (ih (by omega))
      rw [moraineref02_cut.l0, if_pos (by omega), e, if_pos (by omega), if_pos (by omega), if_pos hz]
    · have h0 : l[n] ≠ 0 := by rw [← rd_nat l n hlt]; exact hz
      have et : tr (l.take (n + 1)) = l.take (n + 1) := by rw [take_succ' l n hlt, tr_snoc_ne _ _ h0]
      rw [et]
      refine Ev.step (f := fun _ => some (l.take (n + 1))) (fun k => ?_) (Ev.now _)
      rw [moraineref02_cut.l0, if_pos (by omega), e, if_pos (by omega), if_pos (by omega), if_neg hz, if_pos (by omega), if_pos (by omega)]
      rfl
theorem cut_ev (l : List Int) (hl : l.length < 4611686018427387904) : Ev (fun k => moraineref02_cut.f k l) (tr l) := by
  have h := cut_from l hl l.length (Nat.le_refl _)
  rw [List.take_length] at h
  exact h
theorem value_ev (neg : Bool) (l : List Int) (hl : l.length < 4611686018427387904) : Ev (fun k => moraineref02_value.f k neg l) (neg && decide (0 < (tr l).length), tr l) := by
  unfold moraineref02_value.f
  refine Ev.rbind (cut_ev l hl) ?_
  cases neg with
  | true => exact Ev.some' (fun k => by rw [if_pos rfl]; rfl)
  | false => exact Ev.some' (fun k => by rw [if_neg (by decide)]; rfl)
theorem w_sum (x y c : Nat) (hx : x ≤ 1) (hy : y ≤ 1) (hc : c ≤ 1) : wrap64 (wrap64 ((x : Int) + (y : Int)) + (c : Int)) = ((x + y + c : Nat) : Int) := by
  rw [w64s (x := (x : Int) + (y : Int)) (by omega) (by omega), w64s (by omega) (by omega)]; omega
theorem w_diff (x y c : Nat) (hx : x ≤ 1) (hy : y ≤ 1) (hc : c ≤ 1) : wrap64 (wrap64 ((x : Int) - (y : Int)) - (c : Int)) = (x : Int) - (y : Int) - (c : Int) := by
  rw [w64s (x := (x : Int) - (y : Int)) (by omega) (by omega), w64s (by omega) (by omega)]
theorem w_dig (x y c : Nat) (hx : x ≤ 1) (hy : y ≤ 1) (hc : c ≤ 1) (h : x < y + c) : wrap64 ((x : Int) - (y : Int) - (c : Int) + 2) % 256 = ((x + 2 - y - c : Nat) : Int) := by
  rw [w64s (by omega) (by omega)]; omega
theorem w_mod (s : Nat) : Int.tmod (s : Int) 2 % 256 = ((s % 2 : Nat) : Int) := by rw [Int.tmod_eq_emod_of_nonneg (by omega)]; omega
theorem w_half (s : Nat) (h : s ≤ 3) : wrap64 (Int.tdiv (s : Int) 2) = ((s / 2 : Nat) : Int) := by rw [Int.tdiv_eq_ediv_of_nonneg (by omega), w64s (by omega) (by omega)]; omega
theorem w_next (i : Nat) (h : i < 4611686018427387904) : wrap64 ((i : Int) + 1) = ((i + 1 : Nat) : Int) := by rw [w64s (by omega) (by omega)]; omega
theorem bit_some {l : List Int} (ok : OkB l) (i : Nat) : moraineref02_bit.f l (i : Int) = some ((nl l i : Nat) : Int) := by
  unfold moraineref02_bit.f
  have h := nl_le ok i
  by_cases hi : i < l.length
  · rw [if_pos (by omega), if_pos (by omega), ← nl_cast (OkB.okL ok), w64s (by omega) (by omega)]
  · rw [if_neg (by omega)]
    have : nl l i = 0 := by unfold nl; rw [rd_out (i : Int) (by omega)]; rfl
    rw [this]
    rfl
theorem plus_end (a b : List Int) (oa : OkB a) (ob : OkB b) (ha : a.length < 70368744177664) (hb : b.length < 70368744177664) (i : Nat) (hi : a.length < i ∧ b.length < i) (out : List Int) (c : Nat) (hc : c ≤ 1) (ok : OkB out) (hl : out.length = i) (hi2 : i < 70368744177667)
    (hv : bv out + 2 ^ i * c = bv (a.take i) + bv (b.take i)) : Ev (fun k => moraineref02_plus.l0 k a b out (c : Int) (i : Int)) (Bit.bits (bv a + bv b)) := by
  rw [bv_take_all (by omega), bv_take_all (by omega)] at hv
  have la := bv_lt oa
  have lb := bv_lt ob
  have hc0 : c = 0 := by
    obtain ⟨j, rfl⟩ : ∃ j, i = j + 1 := ⟨i - 1, by omega⟩
    have pa : 2 ^ a.length ≤ 2 ^ j := Nat.pow_le_pow_right (by decide) (by omega)
    have pb : 2 ^ b.length ≤ 2 ^ j := Nat.pow_le_pow_right (by decide) (by omega)
    rcases Nat.lt_or_ge c 1 with h | h
    · omega
    · have hc1 : c = 1 := by omega
      subst hc1
      rw [Nat.pow_succ] at hv
      omega
  subst hc0
  rw [Nat.mul_zero, Nat.add_zero] at hv
  have hr : tr out = Bit.bits (bv a + bv b) := by rw [tr_bits ok, hv]
  refine Ev.step (f := fun k => moraineref02_plus.j1 k a b out ((0 : Nat) : Int) (i : Int) false) (fun k => ?_) ?_
  · rw [moraineref02_plus.l0, if_neg (by omega), show decide ((i : Int) ≤ (b.length : Int)) = false from decide_eq_false (by omega)]
  · refine Ev.step (f := fun k => (moraineref02_cut.f k out).bind fun t => some t) (fun k => ?_) ?_
    · rw [moraineref02_plus.j1, if_neg (by decide)]
    · refine Ev.rbind (cut_ev out (by omega)) ?_
      rw [hr]
      exact Ev.now _
theorem plus_from (a b : List Int) (oa : OkB a) (ob : OkB b) (ha : a.length < 70368744177664) (hb : b.length < 70368744177664) (d : Nat) : ∀ (i : Nat) (out : List Int) (c : Nat), i + d = max a.length b.length + 1 → c ≤ 1 → OkB out → out.length = i →
    bv out + 2 ^ i * c = bv (a.take i) + bv (b.take i) → Ev (fun k => moraineref02_plus.l0 k a b out (c : Int) (i : Int)) (Bit.bits (bv a + bv b)) := by
  induction d with
  | zero =>
    intro i out c hi hc ok hl hv
    exact plus_end a b oa ob ha hb i (by omega) out c hc ok hl (by omega) hv
  | succ d ih =>
    intro i out c hi hc ok hl hv
    have hx := nl_le oa i
    have hy := nl_le ob i
    obtain ⟨s, hs⟩ : ∃ s, nl a i + nl b i + c = s := ⟨_, rfl⟩
    have key : Ev (fun k => moraineref02_plus.j1 k a b out (c : Int) (i : Int) true) (Bit.bits (bv a + bv b)) := by
      refine Ev.step (f := fun k => moraineref02_plus.l0 k a b (out ++ [((s % 2 : Nat) : Int)]) ((s / 2 : Nat) : Int) ((i + 1 : Nat) : Int)) (fun k => ?_) ?_
      · rw [moraineref02_plus.j1, if_pos rfl, bit_some oa, bsome, bit_some ob, bsome, if_pos (by omega), w_sum _ _ _ hx hy hc, hs, w_mod, w_half s (by omega), w_next i (by omega)]
      · refine ih (i + 1) _ _ (by omega) (by omega) (okB_snoc ok _ (by omega)) (by rw [List.length_append, hl]; rfl) ?_
        rw [bv_snoc, hl, bv_take_next, bv_take_next, Nat.pow_succ]
        have hd := Nat.div_add_mod s 2
        have e5 : 2 ^ i * (nl a i + nl b i + c) = 2 ^ i * (2 * (s / 2) + s % 2) := by rw [hs, hd]
        rw [Nat.mul_add, Nat.mul_add, Nat.mul_add, ← Nat.mul_assoc] at e5
        omega
    by_cases h1 : i ≤ a.length
    · refine Ev.step (fun k => ?_) key
      rw [moraineref02_plus.l0, if_pos (by omega)]
    · refine Ev.step (fun k => ?_) key
      rw [moraineref02_plus.l0, if_neg (by omega), show decide ((i : Int) ≤ (b.length : Int)) = true from decide_eq_true (by omega)]
theorem plus_ev (a b : List Int) (oa : OkB a) (ob : OkB b) (ha : a.length < 70368744177664) (hb : b.length < 70368744177664) : Ev (fun k => moraineref02_plus.f k a b) (Bit.bits (bv a + bv b)) :=
  plus_from a b oa ob ha hb (max a.length b.length + 1) 0 [] 0 (by omega) (by decide) okB_nil rfl (by simp [bv])
theorem minus_from (a b : List Int) (oa : OkB a) (ob : OkB b) (ha : a.length < 70368744177664) (hle : bv b ≤ bv a) (d : Nat) : ∀ (i : Nat) (out : List Int) (c : Nat), i + d = a.length → c ≤ 1 → OkB out → out.length = i →
    bv out + bv (b.take i) = bv (a.take i) + 2 ^ i * c → Ev (fun k => moraineref02_minus.l0 k a b out (c : Int) (i : Int)) (Bit.bits (bv a - bv b)) := by
  induction d with
  | zero =>
    intro i out c hi hc ok hl hv
    obtain rfl : i = a.length := by omega
    have la := bv_lt oa
    have lo := bv_lt ok
    rw [hl] at lo
    rw [List.take_length, bv_take_small ob _ (by omega)] at hv
    have hc0 : c = 0 := by
      rcases Nat.lt_or_ge c 1 with h | h
      · omega
      · have : c = 1 := by omega
        subst this
        omega
    subst hc0
    have hr : tr out = Bit.bits (bv a - bv b) := by rw [tr_bits ok, show bv out = bv a - bv b by omega]
    refine Ev.step (f := fun k => (moraineref02_cut.f k out).bind fun t => some t) (fun k => ?_) ?_
    · rw [moraineref02_minus.l0, if_neg (by omega)]
    · refine Ev.rbind (cut_ev out (by omega)) ?_
      rw [hr]
      exact Ev.now _
  | succ d ih =>
    intro i out c hi hc ok hl hv
    have hx := nl_le oa i
    have hy := nl_le ob i
    by_cases hneg : nl a i < nl b i + c
    · skip
      refine Ev.step (f := fun k => moraineref02_minus.l0 k a b (out ++ [((nl a i + 2 - nl b i - c : Nat) : Int)]) ((1 : Nat) : Int) ((i + 1 : Nat) : Int)) (fun k => ?_) ?_
      · rw [moraineref02_minus.l0, if_pos (by omega), bit_some oa, bsome, bit_some ob, bsome, w_diff _ _ _ hx hy hc, if_pos (by omega), if_pos (by omega), w_dig _ _ _ hx hy hc hneg, w_next i (by omega)]
        rfl
      · refine ih (i + 1) _ _ (by omega) (by decide) (okB_snoc ok _ (by omega)) (by rw [List.length_append, hl]; rfl) ?_
        rw [bv_snoc, hl, bv_take_next, bv_take_next, Nat.pow_succ]
        have e5 : 2 ^ i * (nl a i + 2 - nl b i - c) + 2 ^ i * nl b i + 2 ^ i * c = 2 ^ i * nl a i + 2 ^ i * 2 := by
          rw [← Nat.mul_add, ← Nat.mul_add, ← Nat.mul_add]
          congr 1
          omega
        omega
    · have e2 : (((nl a i : Nat) : Int) - ((nl b i : Nat) : Int) - (c : Int)) % 256 = ((nl a i - nl b i - c : Nat) : Int) := by omega
      refine Ev.step (f := fun k => moraineref02_minus.l0 k a b (out ++ [((nl a i - nl b i - c : Nat) : Int)]) ((0 : Nat) : Int) ((i + 1 : Nat) : Int)) (fun k => ?_) ?_
      · rw [moraineref02_minus.l0, if_pos (by omega), bit_some oa, bsome, bit_some ob, bsome, w_diff _ _ _ hx hy hc, if_neg (by omega), if_pos (by omega), e2, w_next i (by omega)]
        rfl
      · refine ih (i + 1) _ _ (by omega) (by decide) (okB_snoc ok _ (by omega)) (by rw [List.length_append, hl]; rfl) ?_
        rw [bv_snoc, hl, bv_take_next, bv_take_next]
        have e5 : 2 ^ i * (nl a i - nl b i - c) + 2 ^ i * nl b i + 2 ^ i * c = 2 ^ i * nl a i := by
          rw [← Nat.mul_add, ← Nat.mul_add]
          congr 1
          omega
        omega
theorem minus_ev (a b : List Int) (oa : OkB a) (ob : OkB b) (ha : a.length < 70368744177664) (hle : bv b ≤ bv a) : Ev (fun k => moraineref02_minus.f k a b) (Bit.bits (bv a - bv b)) :=
  minus_from a b oa ob ha hle a.length 0 [] 0 (by omega) (by decide) okB_nil rfl (by simp [bv])
theorem less_from (a b : List Int) (oa : OkB a) (ob : OkB b) (hl : a.length = b.length) (ha : a.length < 70368744177664) (n : Nat) (hn : n ≤ a.length) (hs : ∀ j, n ≤ j → (hj : j < a.length) → a[j] = b[j]'(by omega)) :
    Ev (fun k => moraineref02_less.l0 k a b ((n : Int) - 1)) (decide (bv a < bv b)) := by
  induction n with
  | zero =>
    have e : a = b := by
      apply List.ext_getElem hl
      intro j h1 h2
      exact hs j (by omega) h1
    subst e
    rw [show decide (bv a < bv a) = false from decide_eq_false (by omega)]
    exact Ev.step (f := fun _ => some false) (fun k => by rw [moraineref02_less.l0, if_neg (by omega)]) (Ev.now _)
  | succ n ih =>
    have hlt : n < a.length := hn
    have hlb : n < b.length := by omega
    rw [show ((n + 1 : Nat) : Int) - 1 = (n : Int) by omega]
    by_cases e : rd a (n : Int) = rd b (n : Int)
    · have e2 : a[n] = b[n] := by rw [← rd_nat a n hlt, ← rd_nat b n hlb]; exact e
      refine Ev.step (fun k => ?_) (ih (by omega) (fun j h1 h2 => by
        rcases Nat.eq_or_lt_of_le h1 with rfl | h
        · exact e2
        · exact hs j h h2))
      rw [moraineref02_less.l0, if_pos (by omega), if_pos (by omega), if_pos (by omega), if_pos (by omega), if_pos e, w64s (by omega) (by omega)]
    · have e2 : a[n] ≠ b[n] := by rw [← rd_nat a n hlt, ← rd_nat b n hlb]; exact e
      have hc := cmpb_at a b oa ob hl n hlt (fun j h1 h2 => hs j h1 h2) e2
      have hd : decide (bv a < bv b) = decide (rd a (n : Int) < rd b (n : Int)) := by
        rw [rd_nat a n hlt, rd_nat b n hlb]
        unfold cmpN at hc
        by_cases h1 : bv a < bv b
        · rw [if_pos h1] at hc
          by_cases h2 : a[n] < b[n]
          · simp [h1, h2]
          · rw [if_neg h2] at hc; omega
        · rw [if_neg h1] at hc
          by_cases h2 : a[n] < b[n]
          · rw [if_pos h2] at hc
            split at hc <;> omega
          · simp [h1, h2]
      rw [hd]
      exact Ev.step (f := fun _ => some (decide (rd a (n : Int) < rd b (n : Int)))) (fun k => by rw [moraineref02_less.l0, if_pos (by omega), if_pos (by omega), if_pos (by omega), if_pos (by omega), if_neg e]) (Ev.now _)
theorem less_ev (a b : List Int) (oa : OkB a) (ob : OkB b) (ta : tr a = a) (tb : tr b = b) (ha : a.length < 70368744177664) (hb : b.length < 70368744177664) : Ev (fun k => moraineref02_less.f k a b) (decide (bv a < bv b)) := by
  unfold moraineref02_less.f
  by_cases hl : a.length = b.length
  · refine Ev.congr (f := fun k => moraineref02_less.l0 k a b ((a.length : Int) - 1)) (fun k => ?_) (less_from a b oa ob hl ha a.length (Nat.le_refl _) (fun j h1 h2 => by omega))
    rw [if_pos (by omega), w64s (by omega) (by omega)]
  · refine Ev.some' (fun k => ?_)
    rw [if_neg (by omega)]
    congr 1
    by_cases h : a.length < b.length
    · have := bv_le_len oa ob ta tb h
      rw [decide_eq_true (by omega), decide_eq_true this]
    · have := bv_le_len ob oa tb ta (by omega)
      rw [decide_eq_false (by omega), decide_eq_false (by omega)]
end Go.Proofs.YthhpnlbeniihhaaDoor.RefA
namespace Go.Proofs.YthhpnlbeniihhaaDoor.RefB
open Go.RowKit Go.Proofs.YthhpnlbeniihhaaDoorW.PrintWords Go.Proofs.YthhpnlbeniihhaaDoorW.PrintLast Go.Proofs.YthhpnlbeniihhaaDoorW.PrintMore Go.Proofs.YthhpnlbeniihhaaDoor.Limb Go.Proofs.YthhpnlbeniihhaaDoor.Bit Go.Proofs.YthhpnlbeniihhaaDoor.NumA Go.Proofs.YthhpnlbeniihhaaDoor.NumE Go.Proofs.YthhpnlbeniihhaaDoor.NumG Go.Proofs.YthhpnlbeniihhaaDoor.Quo Go.Proofs.YthhpnlbeniihhaaDoor.RefA Go.Proofs.YthhpnlbeniihhaaDoor.PRef
set_option linter.unusedVariables false
set_option linter.unusedSimpArgs false
theorem shr_bit (x t : Nat) (hx : x < 4294967296) (ht : t < 32) : Go.bits .and .u32 (shr .u32 (x : Int) (t : Int)) 1 % 256 = ((x / 2 ^ t % 2 : Nat) : Int) := by
  have h := NumO.bit_and x t hx
  have e : shr .u32 (x : Int) (t : Int) = (x : Int) / 2 ^ t := by
    unfold shr
    rw [Int.toNat_natCast, Nat.min_eq_left (by show t ≤ 32; omega)]
  rw [e, h]
  omega
theorem mod_next (m j : Nat) : m % 2 ^ (j + 1) = m % 2 ^ j + 2 ^ j * (m / 2 ^ j % 2) := by
  rw [Nat.pow_succ, Nat.mod_mul]
theorem value_inner (neg : Bool) (l : List Int) (ok : OkL l) (hl : l.length < 1099511627776) (i : Nat) (hi : i < l.length) (R : Bool × List Int)
    (h : ∀ y : List Int, y.length = 32 * (i + 1) → OkB y → bv y = mag l % 2 ^ (32 * (i + 1)) → Ev (fun k => moraineref02_Value.l0 k y ((i + 1 : Nat) : Int) neg l) R) (e : Nat) :
    ∀ (t : Nat) (x3 : List Int), t + e = 32 → x3.length = 32 * i + t → OkB x3 → bv x3 = mag l % 2 ^ (32 * i + t) → Ev (fun k => moraineref02_Value.l1 k x3 (i : Int) (t : Int) neg l) R := by
  induction e with
  | zero =>
    intro t x3 ht hx ob hv
    obtain rfl : t = 32 := by omega
    refine Ev.step (f := fun k => moraineref02_Value.l0 k x3 ((i + 1 : Nat) : Int) neg l) (fun k => ?_) (h x3 (by omega) ob (by rw [hv]; congr 2))
    rw [moraineref02_Value.l1, if_neg (by decide), w_next i (by omega)]
  | succ e ih =>
    intro t x3 ht hx ob hv
    have ht2 : t < 32 := by omega
    have hn : rd l (i : Int) = ((nl l i : Nat) : Int) := (nl_cast ok i).symm
    have hb : nl l i < 4294967296 := nl_lt ok i
    have hbit := bit_limb ok (32 * i + t)
    rw [show (32 * i + t) / 32 = i by omega, show (32 * i + t) % 32 = t by omega] at hbit
    have hb2 : nl l i / 2 ^ t % 2 ≤ 1 := by omega
    refine Ev.step (f := fun k => moraineref02_Value.l1 k (x3 ++ [((nl l i / 2 ^ t % 2 : Nat) : Int)]) (i : Int) ((t + 1 : Nat) : Int) neg l) (fun k => ?_) ?_
    · rw [moraineref02_Value.l1, if_pos (by omega), if_pos (by omega), if_pos (by omega), if_pos (by omega), if_pos (by omega), hn, shr_bit _ _ hb ht2, w_next t (by omega)]
    · refine ih (t + 1) _ (by omega) (by rw [List.length_append, hx]; rfl) (okB_snoc ob _ hb2) ?_
      rw [bv_snoc, hx, hv, ← hbit, ← Nat.add_assoc, mod_next]
theorem value_outer (neg : Bool) (l : List Int) (ok : OkL l) (hl : l.length < 1099511627776) (d : Nat) :
    ∀ (i : Nat) (x3 : List Int), i + d = l.length → x3.length = 32 * i → OkB x3 → bv x3 = mag l % 2 ^ (32 * i) → Ev (fun k => moraineref02_Value.l0 k x3 (i : Int) neg l) (neg && decide (mag l ≠ 0), Bit.bits (mag l)) := by
  induction d with
  | zero =>
    intro i x3 hi hx ob hv
    obtain rfl : i = l.length := by omega
    have hm : mag l < 2 ^ (32 * l.length) := by
      have := mag_lt ok
      rw [Nat.pow_mul]
      exact this
    rw [Nat.mod_eq_of_lt hm] at hv
    have ht : tr x3 = Bit.bits (mag l) := by rw [tr_bits ob, hv]
    have hlen : decide (0 < (Bit.bits (mag l)).length) = decide (mag l ≠ 0) := by
      rw [decide_eq_decide]
      have := bits_len (mag l) 0
      rw [Nat.pow_zero] at this
      omega
    have hval := value_ev neg x3 (by omega)
    rw [ht, hlen] at hval
    refine Ev.step (f := fun k => (moraineref02_value.f k neg x3).bind fun bt => some (bt.1, bt.2)) (fun k => ?_) ?_
    · rw [moraineref02_Value.l0, if_neg (by omega)]
    · refine Ev.rbind hval ?_
      exact Ev.now _
  | succ d ih =>
    intro i x3 hi hx ob hv
    refine Ev.step (f := fun k => moraineref02_Value.l1 k x3 (i : Int) ((0 : Nat) : Int) neg l) (fun k => ?_) ?_
    · rw [moraineref02_Value.l0, if_pos (by omega)]; rfl
    · exact value_inner neg l ok hl i (by omega) _ (fun y hy oy hvy => ih (i + 1) y (by omega) hy oy hvy) 32 0 x3 (by omega) (by omega) ob hv
/-- Value: the bits of a number; the sign of nought is struck. -/
theorem Value_ev (neg : Bool) (l : List Int) (ok : OkL l) (hl : l.length < 1099511627776) : Ev (fun k => moraineref02_Value.f k neg l) (neg && decide (mag l ≠ 0), Bit.bits (mag l)) :=
  value_outer neg l ok hl l.length 0 [] (by omega) rfl okB_nil (by simp [bv, Nat.mod_one])
end Go.Proofs.YthhpnlbeniihhaaDoor.RefB
-- Printed by a program of this session's (wip/tools/printr.py, over the kit's print program).
namespace Go.Proofs.YthhpnlbeniihhaaDoor.PRef
open Go.RowKit Go.Proofs.YthhpnlbeniihhaaDoorW.PrintWords Go.Proofs.YthhpnlbeniihhaaDoorW.PrintLast Go.Proofs.YthhpnlbeniihhaaDoorW.PrintMore
attribute [local go_sem] max2_int min2_int max_two min_two max_three min_three max_four min_four   -- for this text's walks alone
set_option linter.unusedVariables false
set_option linter.unusedSimpArgs false
def moraineref02_Copy.f (a0_0 : Bool) (l0_1 : List Int) : Option (Bool × List Int) := (some (([] : List Int) : List Int)).bind fun y261 => (if y261.length + l0_1.length < 35184372088832 then (some (a0_0, (y261 ++ l0_1))) else (none))
def moraineref02_Copy.T1 : Bool × List (List Nat × List Nat) := (true, [([], []), ([0], [0]), ([], []), ([], []), ([3], [3]), ([2, 4], [2, 4]), ([1, 5], [1, 5]), ([6, 5, 0, 1, 2, 3, 4, 5, 6], [6])])
def moraineref02_Copy.B1 : List Nat := [0, 1, 0, 0, 8, 28, 63, 127]
theorem moraineref02_Copy.tab1 : rtab .any (opsOf Tryd.f28 1) = moraineref02_Copy.T1 := by kernel_rfl
theorem moraineref02_Copy.bits1 : waitsOk moraineref02_Copy.T1.2 moraineref02_Copy.B1 = true := by kernel_rfl
set_option maxHeartbeats 8000000 in
set_option maxRecDepth 100000 in
theorem moraineref02_Copy.calls (a0_0 : Bool) (A0_1 : Option Addr) (c0_1 : Nat) (l0_1 : List Int) (r1 : Bool) (r2 : List Int) (w : World) (hr0_1 : Kd.C (Kd.int .u32) w A0_1 l0_1.length l0_1) (hc0_1 : l0_1.length ≤ c0_1) (h : moraineref02_Copy.f a0_0 l0_1 = some (r1, r2)) :
  Calls Tryd.prog 28 #[.agg #[.bool a0_0, .slice A0_1 l0_1.length c0_1]] w fun e w' => ∃ v1_ : Value, e = .returned (.agg #[.bool r1, v1_]) ∧ Kd.R (Kd.int .u32) 63 w' w.heap.size (fun _ => True) v1_ r2 ∧ Below w.heap.size w w' := by
 have hu25 := Tryd.underlying25
 have HR0_1 := Aside0.mk hr0_1
 have HC0_1 := Aside0.mk hc0_1
 clear hr0_1 hc0_1
 have HB := Aside0.mk (Below.refl w.heap.size w)
 have H : ((some (([] : List Int) : List Int)).bind fun y261 => (if y261.length + l0_1.length < 35184372088832 then (some (a0_0, (y261 ++ l0_1))) else (none))) = some (r1, r2) := h
 clear h
 obtain ⟨y261, hy261⟩ : ∃ y_ : List Int, y_ = (([] : List Int)) := ⟨_, rfl⟩
 replace H : (if y261.length + l0_1.length < 35184372088832 then (some (a0_0, (y261 ++ l0_1))) else (none)) = some (r1, r2) := by first | (rw [hy261]; with_reducible exact H) | (have H2_ := (Option.bind_some _ _).symm.trans H; rw [hy261]; with_reducible exact H2_) | (have H2_ := (Option.bind_some _ _).symm.trans H; with_reducible exact H2_) | with_reducible exact H | (rw [hy261]; exact H) | exact H
 have Ny261 := Aside0.mk hy261
 clear hy261
 by_cases c2 : y261.length + l0_1.length < 35184372088832
 ·rw [if_pos c2] at H
  have LMc2 := Aside0.mk c2
  clear c2
  obtain ⟨y264, hy264⟩ : ∃ y_ : List Int, y_ = (y261 ++ l0_1) := ⟨_, rfl⟩
  replace H : (some (a0_0, y264)) = some (r1, r2) := by first | (rw [hy264]; with_reducible exact H) | (have H2_ := (Option.bind_some _ _).symm.trans H; rw [hy264]; with_reducible exact H2_) | (have H2_ := (Option.bind_some _ _).symm.trans H; with_reducible exact H2_) | with_reducible exact H | (rw [hy264]; exact H) | exact H
  have Ny264 := Aside0.mk hy264
  clear hy264
  simp only [Option.some.injEq, Prod.mk.injEq] at H
  obtain ⟨rfl, rfl⟩ := H
  go_enter Tryd.func28, Tryd.ntmps28
  try go_wp2_with (first | ((with_reducible refine gate_dst (N := 1) rfl ?_); refine box_event ?hg (N := 1) ?hd (cs := #[.bool a0_0, .slice A0_1 l0_1.length c0_1]) (t := 25) ?hr ?_; (case hd => rfl); (case hg => rfl); (case hr => go_simp <;> rfl); intro gb259 hg w3 hbox hb; have BK259 := Aside0.mk (hbox); have GW259 := qg hg (by repeat (first | (with_reducible first | exact HB.out | apply qx | apply qv | apply qw) | exact HB.out)); have GE259 := GW259; replace HB := Aside0.mk (below_step (by repeat (first | (with_reducible first | exact HB.out | apply qx | apply qv | apply qw) | exact HB.out)) hb); clear hb hbox hg) | ((with_reducible refine gate_dst (N := 2) rfl ?_); refine box_event ?hg (N := 2) ?hd (cs := #[.bool false, .slice none 0 0]) (t := 25) ?hr ?_; (case hd => rfl); (case hg => rfl); (case hr => go_simp <;> rfl); intro gb260 hg w4 hbox hb; have BK260 := Aside0.mk (hbox); have GW260 := qg hg (by repeat (first | (with_reducible first | exact HB.out | apply qx | apply qv | apply qw | refine below_set ?_ GE259.out) | exact HB.out)); have GE260 := GW260; replace HB := Aside0.mk (below_step (by repeat (first | (with_reducible first | exact HB.out | apply qx | apply qv | apply qw | refine below_set ?_ GE259.out) | exact HB.out)) hb); have NB259_260 := qn BK259 hg; have NB260_259 := qm BK259 hg; replace BK259 := qb BK259 hb; clear hb hbox hg))
  replace BK259 := Aside0.mk (blk_drew BK259.out)
  replace BK260 := Aside0.mk (blk_drew BK260.out)
  replace HB := Aside0.mk (below_drew1 HB.out)
  refine start_ (n := 8) (S := fun w' => w'.cell? ⟨gb259, 0, none⟩ = some (.bool a0_0) ∧ w'.cell? ⟨gb259, 1, none⟩ = some (.slice A0_1 l0_1.length c0_1)) (ds := []) #[false, false, false, false, false, false, false, false] (by kernel_rfl) rfl rfl ⟨qc BK259 0, qc BK259 1⟩ (fun hHeld => ?_); refine with_tabW moraineref02_Copy.tab1 moraineref02_Copy.bits1 (fun HT_ HW_ => ?_)
  generalize w4.drew = w5 at BK259 BK260 HB hHeld ⊢
  refine pure_ (i := 0) (N := some 3) (v := ?_) (a' := ?_) #[true, false, false, false, false, false, false, false] rfl rfl (any_of HT_.out (by kernel_rfl)) (fun _ _ _ h => h) (Or.inl ⟨by rfl, ?_⟩) ?_ ?_
  rotate_left
  ·intro w'
   go_simp
   with_reducible rfl
  rotate_left
  ·simp only [Act.put, zA, zB, zC, i64_w, i32_w]
   rfl
  refine pure_ (i := 3) (N := some 6) (v := ?_) (a' := ?_) #[true, false, false, true, false, false, false, false] rfl rfl (any_of HT_.out (by kernel_rfl)) (fun _ _ _ h => h) (Or.inl ⟨by rfl, ?_⟩) ?_ ?_
  rotate_left
  ·intro w'
   go_simp
   with_reducible rfl
  rotate_left
  ·simp only [Act.put, zA, zB, zC, i64_w, i32_w]
   rfl
  refine take_ (i := 1) (N := some 4) (v := ?_) (a' := ?_) #[true, true, false, true, false, false, false, false] rfl rfl (take_ofW HT_.out HW_.out (by kernel_rfl)) (fun _ _ _ h => h) (Or.inl ⟨by rfl, ?_⟩) hHeld ?_ ?_
  rotate_left
  ·rintro w' ⟨s0, s1⟩
   go_simp
   with_reducible rfl
  rotate_left
  ·simp only [Act.put, zA, zB, zC, i64_w, i32_w]
   rfl
  refine take_ (i := 4) (N := some 7) (v := ?_) (a' := ?_) #[true, true, false, true, true, false, false, false] rfl rfl (take_ofW HT_.out HW_.out (by kernel_rfl)) (fun _ _ _ h => h) (Or.inl ⟨by rfl, ?_⟩) hHeld ?_ ?_
  rotate_left
  ·rintro w' ⟨s0, s1⟩
   go_simp
   with_reducible rfl
  rotate_left
  ·simp only [Act.put, zA, zB, zC, i64_w, i32_w]
   rfl
  refine one_ (i := 2) (N := some 5) #[true, true, true, true, true, false, false, false] rfl rfl (one_of HT_.out (by kernel_rfl)) (by decide) (fun K hK => ?_)
  refine Kd.R_lit_step (Kd.int .u32) _ 63 ?hg (N := 5) ?hd (xs := ([] : List Int)) (inner := []) (ok := fun _ => True) (okp := fun _ => True) ?hr ?hp (fun _ hk => hk) trivial (Below.refl _ _) (Nat.le_refl _) (by simp) ?_; (case hd => rfl); (case hg => rfl); (case hr => go_simp <;> rfl); (case hp => exact (Reps.none _ _))
  intro v262 w6 ho7 hb hg_ hnew_
  clear hg_ hnew_
  (first | rw [← Ny261.out] at ho7 | (simp only [Int.reduceToNat] at ho7; rw [← Ny261.out] at ho7))
  have HO263 := Aside0.mk (Kd.R_lower ho7 (below_size (by repeat with_reducible first|exact HB.out|apply qx|apply qv|apply qw|refine qs ?_ (by assumption))))
  replace BK259 := qb BK259 hb
  replace BK260 := qb BK260 hb
  replace HB := Aside0.mk (below_step (by repeat with_reducible first|exact HB.out|apply qx|apply qv|apply qw|refine qs ?_ (by assumption)) hb)
  clear hb ho7
  refine hK.out _ _ ⟨qc BK259 0, qc BK259 1⟩ (fun hHeld => ?_)
  clear hK K
  refine norm_ (a' := ?_) ?_ ?_
  rotate_left
  ·show Act.put _ (some 5) _ = _
   simp only [Act.put, zA, zB, zC, i64_w, i32_w]
   rfl
  refine one_ (i := 5) (N := some 8) #[true, true, true, true, true, true, false, false] rfl rfl (one_of HT_.out (by kernel_rfl)) (by decide) (fun K hK => ?_)
  refine Kd.R_append_rows_step (Kd.int .u32) (w0 := w) w.heap.size (by rfl) (.tmp 5) (.tmp 7) 23 63 (.int .u32 0) 4 rfl Tryd.underlying23 info63 rfl (by decide) (by omega) v262 y261 l0_1 _ _ _ (fun _ => True) (fun _ => False) rfl rfl ?aO ?aR (fun _ _ h => h) (fun _ h => h.elim) ?aF ?aB ?aS ?aL ?_
  (case aR => exact qC HR0_1 HB)
  (case aB => exact (by repeat with_reducible first|exact HB.out|apply qx|apply qv|apply qw|refine qs ?_ (by assumption)))
  (case aF => exact (fun _ _ => trivial))
  (case aO => exact (by (with_reducible repeat first|apply Kd.R_alloc|apply Kd.R_drewN|apply Kd.R_drew); exact HO263.out))
  (case aS => exact (below_size (by repeat with_reducible first|exact HB.out|apply qx|apply qv|apply qw|refine qs ?_ (by assumption))))
  (case aL => have := LMc2.out; omega)
  intro v265 w8 ho hb hg hat
  rw [← Ny264.out] at ho
  have n0_ := Aside0.mk (blk_grown (g := gb259) (o := .cells #[.bool a0_0, .slice A0_1 l0_1.length c0_1] 25 (0, 0)) (by (with_reducible repeat first|refine qN ?_ _|refine qW ?_|refine qA ?_ _); exact BK259.out) hg (Kd.R_ne HO263.out BK259.out (by decide)))
  have n1_ := Aside0.mk (blk_grown (g := gb260) (o := .cells #[.bool false, .slice none 0 0] 25 (0, 0)) (by (with_reducible repeat first|refine qN ?_ _|refine qW ?_|refine qA ?_ _); exact BK260.out) hg (Kd.R_ne HO263.out BK260.out (by decide)))
  have n2_ := Aside0.mk (hb)
  have n3_ := Aside0.mk (ho)
  clear BK259
  clear BK260
  clear HB
  clear HO263
  have BK259 := n0_
  have BK260 := n1_
  have HB := n2_
  have HO266 := n3_
  clear n0_ n1_ n2_ n3_
  clear ho hb hg hat
  obtain ⟨Ao9, co9, eo9⟩ := Kd.R_slice HO266.out
  (first | subst eo9 | (injection eo9 with f1_ f2_ f3_; have f4_ := f1_.symm; have f5_ := f3_.symm; clear f1_ f2_ f3_; subst f4_; subst f5_))
  refine hK.out _ _ ⟨qc BK259 0, qc BK259 1⟩ (fun hHeld => ?_)
  clear hK K
  refine norm_ (a' := ?_) ?_ ?_
  rotate_left
  ·show Act.put _ (some 8) _ = _
   simp only [Act.put, zA, zB, zC, i64_w, i32_w]
   rfl
  refine pure_ (i := 6) (N := some 9) (v := ?_) (a' := ?_) #[true, true, true, true, true, true, true, false] rfl rfl (any_of HT_.out (by kernel_rfl)) (fun _ _ _ h => h) (Or.inl ⟨by rfl, ?_⟩) ?_ ?_
  rotate_left
  ·intro w'
   go_simp
   with_reducible rfl
  rotate_left
  ·simp only [Act.put, zA, zB, zC, i64_w, i32_w]
   rfl
  refine one_ (i := 7) (N := none) #[true, true, true, true, true, true, true, true] rfl rfl (one_of HT_.out (by kernel_rfl)) (by decide) (fun K hK => ?_)
  have hs10 : w8.cell? ⟨gb260, 0, none⟩ = some (.bool false) := qc BK260 0
  have hfs10 := blk_frozen BK260.out 0
  have hns10_0 := NB259_260.out
  have hms10_0 := NB260_259.out
  have hs11 : w8.cell? ⟨gb260, 1, none⟩ = some (.slice none 0 0) := qc BK260 1
  have hfs11 := blk_frozen BK260.out 1
  have hns11_0 := NB259_260.out
  have hms11_0 := NB260_259.out
  refine skip_ (w1 := ?_) (by rfl) rfl ?_ ?_
  rotate_left
  ·go_simp
   rfl
  refine hK.out _ _ ⟨((cell_far (p := ⟨gb260, _, none⟩) NB259_260.out _).trans (((cell_far (p := ⟨gb260, _, none⟩) NB259_260.out _).trans (hHeld.1)))), ((cell_far (p := ⟨gb260, _, none⟩) NB259_260.out _).trans (((cell_far (p := ⟨gb260, _, none⟩) NB259_260.out _).trans (hHeld.2))))⟩ (fun hHeld => ?_)
  clear hK K
  refine done_ (done_of HT_.out (by kernel_rfl)) ?_
  try go_wp2
  refine bodyPost_ret (results_cell_row rfl _ _ gb260 25 #[.bool a0_0, .slice Ao9 y264.length co9] (0, 0) _ rfl (by (with_reducible repeat first|refine qN ?_ _|refine qW ?_|refine qA ?_ _); refine blk_put (cs := #[.bool a0_0, .slice none 0 0]) ?_ 1 _ rfl; (with_reducible repeat first|refine qN ?_ _|refine qW ?_|refine qA ?_ _); refine blk_put (cs := #[.bool false, .slice none 0 0]) ?_ 0 _ rfl; (with_reducible repeat first|refine qN ?_ _|refine qW ?_|refine qA ?_ _); exact BK260.out) Tryd.underlying25 rfl (by kernel_rfl)) rfl ?_
  exact ⟨_, by first | rfl | (simp [errW_none, errW_some] <;> rfl) | (simp [*, errW_none, errW_some] <;> rfl), by (with_reducible repeat first|apply Kd.R_alloc|apply Kd.R_drewN|apply Kd.R_drew); exact Kd.R_mono (qz HO266 BK260 (by decide) (.bool a0_0) (.slice Ao9 y264.length co9)) (fun _ hk => trivial), by repeat (first | (with_reducible first | exact HB.out | apply qx | apply qv | apply qw | refine qs ?_ (by assumption)) | exact HB.out)⟩
 ·rw [if_neg c2] at H
  exact absurd H (by simp)
def moraineref02_Cmp.j0 : Nat → Bool → Bool → Option (Int)
 | 0, _, _ => none
 | k + 1, x5, x6 => if x5 = true then (some (-1)) else (if x6 = true then (some 1) else (some 0))
def moraineref02_Cmp.f (k : Nat) (a0_0 : Bool) (l0_1 : List Int) (a1_0 : Bool) (l1_1 : List Int) : Option (Int) := if (a0_0 != a1_0) = true then (if a0_0 = true then (some (-1)) else (some 1)) else ((moraineref02_less.f k l0_1 l1_1).bind fun t295 => ((moraineref02_less.f k l1_1 l0_1).bind fun t296 => (if a0_0 = true then (moraineref02_Cmp.j0 k t296 t295) else (moraineref02_Cmp.j0 k t295 t296))))
set_option maxHeartbeats 8000000 in
set_option maxRecDepth 100000 in
theorem moraineref02_Cmp.calls (k : Nat) (a0_0 : Bool) (A0_1 : Option Addr) (c0_1 : Nat) (l0_1 : List Int) (a1_0 : Bool) (A1_1 : Option Addr) (c1_1 : Nat) (l1_1 : List Int) (r : Int) (w : World) (hr0_1 : Kd.C (Kd.int .u8) w A0_1 l0_1.length l0_1) (hc0_1 : l0_1.length ≤ c0_1) (hr1_1 : Kd.C (Kd.int .u8) w A1_1 l1_1.length l1_1) (hc1_1 : l1_1.length ≤ c1_1) (h : moraineref02_Cmp.f k a0_0 l0_1 a1_0 l1_1 = some r) :
  Calls Tryd.prog 44 #[.agg #[.bool a0_0, .slice A0_1 l0_1.length c0_1], .agg #[.bool a1_0, .slice A1_1 l1_1.length c1_1]] w fun e w' => e = .returned (.int .i64 r) ∧ Below w.heap.size w w' := by
 have hu34 := Tryd.underlying34
 have HR0_1 := Aside0.mk hr0_1
 have HC0_1 := Aside0.mk hc0_1
 clear hr0_1 hc0_1
 have HR1_1 := Aside0.mk hr1_1
 have HC1_1 := Aside0.mk hc1_1
 clear hr1_1 hc1_1
 have HB := Aside0.mk (Below.refl w.heap.size w)
 have H : (if (a0_0 != a1_0) = true then (if a0_0 = true then (some (-1)) else (some 1)) else ((moraineref02_less.f k l0_1 l1_1).bind fun t295 => ((moraineref02_less.f k l1_1 l0_1).bind fun t296 => (if a0_0 = true then (moraineref02_Cmp.j0 k t296 t295) else (moraineref02_Cmp.j0 k t295 t296))))) = some r := h
 clear h
 by_cases c3 : (a0_0 != a1_0) = true
 ·rw [if_pos c3] at H
  have c3b0 : (a0_0 != a1_0) = true := c3
  (try (have c3b1 : decide (a0_0 = a1_0) = false := by simpa using c3))
  (try (have c3b2 : (a0_0 == a1_0) = false := by simpa using c3))
  (try (have c3b3 : ¬ (a0_0 = a1_0) := by simpa using c3))
  clear c3
  by_cases c4 : a0_0 = true
  ·subst c4
   have H1 : (some (-1)) = some r := by rw [if_pos rfl] at H; exact H
   clear H
   have H := H1
   clear H1
   obtain rfl := Option.some.inj H
   go_enter Tryd.func44, Tryd.ntmps44
   go_wp2_with (first | ((with_reducible refine gate_dst (N := 2) rfl ?_); refine box_event ?hg (N := 2) ?hd (cs := #[.bool true, .slice A0_1 l0_1.length c0_1]) (t := 34) ?hr ?_; (case hd => rfl); (case hg => rfl); (case hr => go_simp <;> rfl); intro gb293 hg w5 hbox hb; have BK293 := Aside0.mk (hbox); have GW293 := qg hg (by repeat (first | (with_reducible first | exact HB.out | apply qx | apply qv | apply qw) | exact HB.out)); have GE293 := GW293; replace HB := Aside0.mk (below_step (by repeat (first | (with_reducible first | exact HB.out | apply qx | apply qv | apply qw) | exact HB.out)) hb); clear hb hbox hg) | ((with_reducible refine gate_dst (N := 3) rfl ?_); refine box_event ?hg (N := 3) ?hd (cs := #[.bool a1_0, .slice A1_1 l1_1.length c1_1]) (t := 34) ?hr ?_; (case hd => rfl); (case hg => rfl); (case hr => go_simp <;> rfl); intro gb294 hg w6 hbox hb; have BK294 := Aside0.mk (hbox); have GW294 := qg hg (by repeat (first | (with_reducible first | exact HB.out | apply qx | apply qv | apply qw | refine below_set ?_ GE293.out) | exact HB.out)); have GE294 := GW294; replace HB := Aside0.mk (below_step (by repeat (first | (with_reducible first | exact HB.out | apply qx | apply qv | apply qw | refine below_set ?_ GE293.out) | exact HB.out)) hb); have NB293_294 := qn BK293 hg; have NB294_293 := qm BK293 hg; replace BK293 := qb BK293 hb; clear hb hbox hg; have hnb7 := NB293_294.out; have hnc7 := NB294_293.out; have hcz8_0 : w6.cell? ⟨gb293, 0, none⟩ = some (.bool true) := qc BK293 0; have hcz8_1 : w6.cell? ⟨gb293, 1, none⟩ = some (.slice A0_1 l0_1.length c0_1) := qc BK293 1; have hfz8_0 := blk_frozen BK293.out 0; have hfz8_1 := blk_frozen BK293.out 1; have hcz9_0 : w6.cell? ⟨gb294, 0, none⟩ = some (.bool a1_0) := qc BK294 0; have hcz9_1 : w6.cell? ⟨gb294, 1, none⟩ = some (.slice A1_1 l1_1.length c1_1) := qc BK294 1; have hfz9_0 := blk_frozen BK294.out 0; have hfz9_1 := blk_frozen BK294.out 1))
   repeat (go_quiet (first | ((with_reducible refine gate_dst (N := 2) rfl ?_); refine box_event ?hg (N := 2) ?hd (cs := #[.bool true, .slice A0_1 l0_1.length c0_1]) (t := 34) ?hr ?_; (case hd => rfl); (case hg => rfl); (case hr => go_simp <;> rfl); intro gb293 hg w5 hbox hb; have BK293 := Aside0.mk (hbox); have GW293 := qg hg (by repeat (first | (with_reducible first | exact HB.out | apply qx | apply qv | apply qw) | exact HB.out)); have GE293 := GW293; replace HB := Aside0.mk (below_step (by repeat (first | (with_reducible first | exact HB.out | apply qx | apply qv | apply qw) | exact HB.out)) hb); clear hb hbox hg) | ((with_reducible refine gate_dst (N := 3) rfl ?_); refine box_event ?hg (N := 3) ?hd (cs := #[.bool a1_0, .slice A1_1 l1_1.length c1_1]) (t := 34) ?hr ?_; (case hd => rfl); (case hg => rfl); (case hr => go_simp <;> rfl); intro gb294 hg w6 hbox hb; have BK294 := Aside0.mk (hbox); have GW294 := qg hg (by repeat (first | (with_reducible first | exact HB.out | apply qx | apply qv | apply qw | refine below_set ?_ GE293.out) | exact HB.out)); have GE294 := GW294; replace HB := Aside0.mk (below_step (by repeat (first | (with_reducible first | exact HB.out | apply qx | apply qv | apply qw | refine below_set ?_ GE293.out) | exact HB.out)) hb); have NB293_294 := qn BK293 hg; have NB294_293 := qm BK293 hg; replace BK293 := qb BK293 hb; clear hb hbox hg; have hnb7 := NB293_294.out; have hnc7 := NB294_293.out; have hcz8_0 : w6.cell? ⟨gb293, 0, none⟩ = some (.bool true) := qc BK293 0; have hcz8_1 : w6.cell? ⟨gb293, 1, none⟩ = some (.slice A0_1 l0_1.length c0_1) := qc BK293 1; have hfz8_0 := blk_frozen BK293.out 0; have hfz8_1 := blk_frozen BK293.out 1; have hcz9_0 : w6.cell? ⟨gb294, 0, none⟩ = some (.bool a1_0) := qc BK294 0; have hcz9_1 : w6.cell? ⟨gb294, 1, none⟩ = some (.slice A1_1 l1_1.length c1_1) := qc BK294 1; have hfz9_0 := blk_frozen BK294.out 0; have hfz9_1 := blk_frozen BK294.out 1)); try go_wp2_with (first | ((with_reducible refine gate_dst (N := 2) rfl ?_); refine box_event ?hg (N := 2) ?hd (cs := #[.bool true, .slice A0_1 l0_1.length c0_1]) (t := 34) ?hr ?_; (case hd => rfl); (case hg => rfl); (case hr => go_simp <;> rfl); intro gb293 hg w5 hbox hb; have BK293 := Aside0.mk (hbox); have GW293 := qg hg (by repeat (first | (with_reducible first | exact HB.out | apply qx | apply qv | apply qw) | exact HB.out)); have GE293 := GW293; replace HB := Aside0.mk (below_step (by repeat (first | (with_reducible first | exact HB.out | apply qx | apply qv | apply qw) | exact HB.out)) hb); clear hb hbox hg) | ((with_reducible refine gate_dst (N := 3) rfl ?_); refine box_event ?hg (N := 3) ?hd (cs := #[.bool a1_0, .slice A1_1 l1_1.length c1_1]) (t := 34) ?hr ?_; (case hd => rfl); (case hg => rfl); (case hr => go_simp <;> rfl); intro gb294 hg w6 hbox hb; have BK294 := Aside0.mk (hbox); have GW294 := qg hg (by repeat (first | (with_reducible first | exact HB.out | apply qx | apply qv | apply qw | refine below_set ?_ GE293.out) | exact HB.out)); have GE294 := GW294; replace HB := Aside0.mk (below_step (by repeat (first | (with_reducible first | exact HB.out | apply qx | apply qv | apply qw | refine below_set ?_ GE293.out) | exact HB.out)) hb); have NB293_294 := qn BK293 hg; have NB294_293 := qm BK293 hg; replace BK293 := qb BK293 hb; clear hb hbox hg; have hnb7 := NB293_294.out; have hnc7 := NB294_293.out; have hcz8_0 : w6.cell? ⟨gb293, 0, none⟩ = some (.bool true) := qc BK293 0; have hcz8_1 : w6.cell? ⟨gb293, 1, none⟩ = some (.slice A0_1 l0_1.length c0_1) := qc BK293 1; have hfz8_0 := blk_frozen BK293.out 0; have hfz8_1 := blk_frozen BK293.out 1; have hcz9_0 : w6.cell? ⟨gb294, 0, none⟩ = some (.bool a1_0) := qc BK294 0; have hcz9_1 : w6.cell? ⟨gb294, 1, none⟩ = some (.slice A1_1 l1_1.length c1_1) := qc BK294 1; have hfz9_0 := blk_frozen BK294.out 0; have hfz9_1 := blk_frozen BK294.out 1)))
   go_ret
   exact ⟨by first | rfl | (simp [errW_none, errW_some] <;> rfl) | (simp [*, errW_none, errW_some] <;> rfl), by repeat (first | (with_reducible first | exact HB.out | apply qx | apply qv | apply qw | refine qs ?_ (by assumption)) | exact HB.out)⟩
  ·replace c4 := Bool.eq_false_iff.mpr c4
   subst c4
   have H1 : (some 1) = some r := by rw [if_neg (show ¬ (false = true) by decide)] at H; exact H
   clear H
   have H := H1
   clear H1
   obtain rfl := Option.some.inj H
   go_enter Tryd.func44, Tryd.ntmps44
   go_wp2_with (first | ((with_reducible refine gate_dst (N := 2) rfl ?_); refine box_event ?hg (N := 2) ?hd (cs := #[.bool false, .slice A0_1 l0_1.length c0_1]) (t := 34) ?hr ?_; (case hd => rfl); (case hg => rfl); (case hr => go_simp <;> rfl); intro gb293 hg w10 hbox hb; have BK293 := Aside0.mk (hbox); have GW293 := qg hg (by repeat (first | (with_reducible first | exact HB.out | apply qx | apply qv | apply qw) | exact HB.out)); have GE293 := GW293; replace HB := Aside0.mk (below_step (by repeat (first | (with_reducible first | exact HB.out | apply qx | apply qv | apply qw) | exact HB.out)) hb); clear hb hbox hg) | ((with_reducible refine gate_dst (N := 3) rfl ?_); refine box_event ?hg (N := 3) ?hd (cs := #[.bool a1_0, .slice A1_1 l1_1.length c1_1]) (t := 34) ?hr ?_; (case hd => rfl); (case hg => rfl); (case hr => go_simp <;> rfl); intro gb294 hg w11 hbox hb; have BK294 := Aside0.mk (hbox); have GW294 := qg hg (by repeat (first | (with_reducible first | exact HB.out | apply qx | apply qv | apply qw | refine below_set ?_ GE293.out) | exact HB.out)); have GE294 := GW294; replace HB := Aside0.mk (below_step (by repeat (first | (with_reducible first | exact HB.out | apply qx | apply qv | apply qw | refine below_set ?_ GE293.out) | exact HB.out)) hb); have NB293_294 := qn BK293 hg; have NB294_293 := qm BK293 hg; replace BK293 := qb BK293 hb; clear hb hbox hg; have hnb12 := NB293_294.out; have hnc12 := NB294_293.out; have hcz13_0 : w11.cell? ⟨gb293, 0, none⟩ = some (.bool false) := qc BK293 0; have hcz13_1 : w11.cell? ⟨gb293, 1, none⟩ = some (.slice A0_1 l0_1.length c0_1) := qc BK293 1; have hfz13_0 := blk_frozen BK293.out 0; have hfz13_1 := blk_frozen BK293.out 1; have hcz14_0 : w11.cell? ⟨gb294, 0, none⟩ = some (.bool a1_0) := qc BK294 0; have hcz14_1 : w11.cell? ⟨gb294, 1, none⟩ = some (.slice A1_1 l1_1.length c1_1) := qc BK294 1; have hfz14_0 := blk_frozen BK294.out 0; have hfz14_1 := blk_frozen BK294.out 1))
   repeat (go_quiet (first | ((with_reducible refine gate_dst (N := 2) rfl ?_); refine box_event ?hg (N := 2) ?hd (cs := #[.bool false, .slice A0_1 l0_1.length c0_1]) (t := 34) ?hr ?_; (case hd => rfl); (case hg => rfl); (case hr => go_simp <;> rfl); intro gb293 hg w10 hbox hb; have BK293 := Aside0.mk (hbox); have GW293 := qg hg (by repeat (first | (with_reducible first | exact HB.out | apply qx | apply qv | apply qw) | exact HB.out)); have GE293 := GW293; replace HB := Aside0.mk (below_step (by repeat (first | (with_reducible first | exact HB.out | apply qx | apply qv | apply qw) | exact HB.out)) hb); clear hb hbox hg) | ((with_reducible refine gate_dst (N := 3) rfl ?_); refine box_event ?hg (N := 3) ?hd (cs := #[.bool a1_0, .slice A1_1 l1_1.length c1_1]) (t := 34) ?hr ?_; (case hd => rfl); (case hg => rfl); (case hr => go_simp <;> rfl); intro gb294 hg w11 hbox hb; have BK294 := Aside0.mk (hbox); have GW294 := qg hg (by repeat (first | (with_reducible first | exact HB.out | apply qx | apply qv | apply qw | refine below_set ?_ GE293.out) | exact HB.out)); have GE294 := GW294; replace HB := Aside0.mk (below_step (by repeat (first | (with_reducible first | exact HB.out | apply qx | apply qv | apply qw | refine below_set ?_ GE293.out) | exact HB.out)) hb); have NB293_294 := qn BK293 hg; have NB294_293 := qm BK293 hg; replace BK293 := qb BK293 hb; clear hb hbox hg; have hnb12 := NB293_294.out; have hnc12 := NB294_293.out; have hcz13_0 : w11.cell? ⟨gb293, 0, none⟩ = some (.bool false) := qc BK293 0; have hcz13_1 : w11.cell? ⟨gb293, 1, none⟩ = some (.slice A0_1 l0_1.length c0_1) := qc BK293 1; have hfz13_0 := blk_frozen BK293.out 0; have hfz13_1 := blk_frozen BK293.out 1; have hcz14_0 : w11.cell? ⟨gb294, 0, none⟩ = some (.bool a1_0) := qc BK294 0; have hcz14_1 : w11.cell? ⟨gb294, 1, none⟩ = some (.slice A1_1 l1_1.length c1_1) := qc BK294 1; have hfz14_0 := blk_frozen BK294.out 0; have hfz14_1 := blk_frozen BK294.out 1)); try go_wp2_with (first | ((with_reducible refine gate_dst (N := 2) rfl ?_); refine box_event ?hg (N := 2) ?hd (cs := #[.bool false, .slice A0_1 l0_1.length c0_1]) (t := 34) ?hr ?_; (case hd => rfl); (case hg => rfl); (case hr => go_simp <;> rfl); intro gb293 hg w10 hbox hb; have BK293 := Aside0.mk (hbox); have GW293 := qg hg (by repeat (first | (with_reducible first | exact HB.out | apply qx | apply qv | apply qw) | exact HB.out)); have GE293 := GW293; replace HB := Aside0.mk (below_step (by repeat (first | (with_reducible first | exact HB.out | apply qx | apply qv | apply qw) | exact HB.out)) hb); clear hb hbox hg) | ((with_reducible refine gate_dst (N := 3) rfl ?_); refine box_event ?hg (N := 3) ?hd (cs := #[.bool a1_0, .slice A1_1 l1_1.length c1_1]) (t := 34) ?hr ?_; (case hd => rfl); (case hg => rfl); (case hr => go_simp <;> rfl); intro gb294 hg w11 hbox hb; have BK294 := Aside0.mk (hbox); have GW294 := qg hg (by repeat (first | (with_reducible first | exact HB.out | apply qx | apply qv | apply qw | refine below_set ?_ GE293.out) | exact HB.out)); have GE294 := GW294; replace HB := Aside0.mk (below_step (by repeat (first | (with_reducible first | exact HB.out | apply qx | apply qv | apply qw | refine below_set ?_ GE293.out) | exact HB.out)) hb); have NB293_294 := qn BK293 hg; have NB294_293 := qm BK293 hg; replace BK293 := qb BK293 hb; clear hb hbox hg; have hnb12 := NB293_294.out; have hnc12 := NB294_293.out; have hcz13_0 : w11.cell? ⟨gb293, 0, none⟩ = some (.bool false) := qc BK293 0; have hcz13_1 : w11.cell? ⟨gb293, 1, none⟩ = some (.slice A0_1 l0_1.length c0_1) := qc BK293 1; have hfz13_0 := blk_frozen BK293.out 0; have hfz13_1 := blk_frozen BK293.out 1; have hcz14_0 : w11.cell? ⟨gb294, 0, none⟩ = some (.bool a1_0) := qc BK294 0; have hcz14_1 : w11.cell? ⟨gb294, 1, none⟩ = some (.slice A1_1 l1_1.length c1_1) := qc BK294 1; have hfz14_0 := blk_frozen BK294.out 0; have hfz14_1 := blk_frozen BK294.out 1)))
   go_ret
   exact ⟨by first | rfl | (simp [errW_none, errW_some] <;> rfl) | (simp [*, errW_none, errW_some] <;> rfl), by repeat (first | (with_reducible first | exact HB.out | apply qx | apply qv | apply qw | refine qs ?_ (by assumption)) | exact HB.out)⟩
 ·rw [if_neg c3] at H
  have c3b0 : (a0_0 != a1_0) = false := by simpa using c3
  (try (have c3b1 : decide (a0_0 = a1_0) = true := by simpa using c3))
  (try (have c3b2 : (a0_0 == a1_0) = true := by simpa using c3))
  clear c3
  replace H := Option.bind_eq_some_iff.mp H
  obtain ⟨t295, A150, H⟩ := H
  replace H : ((moraineref02_less.f k l1_1 l0_1).bind fun t296 => (if a0_0 = true then (moraineref02_Cmp.j0 k t296 t295) else (moraineref02_Cmp.j0 k t295 t296))) = some r := H
  have A15 := Aside0.mk A150
  clear A150
  replace H := Option.bind_eq_some_iff.mp H
  obtain ⟨t296, A160, H⟩ := H
  replace H : (if a0_0 = true then (moraineref02_Cmp.j0 k t296 t295) else (moraineref02_Cmp.j0 k t295 t296)) = some r := H
  have A16 := Aside0.mk A160
  clear A160
  have HC17 := Aside0.mk H
  clear H
  go_enter Tryd.func44, Tryd.ntmps44
  go_upto_if 25 with (first | ((with_reducible refine gate_dst (N := 2) rfl ?_); refine box_event ?hg (N := 2) ?hd (cs := #[.bool a0_0, .slice A0_1 l0_1.length c0_1]) (t := 34) ?hr ?_; (case hd => rfl); (case hg => rfl); (case hr => go_simp <;> rfl); intro gb293 hg w18 hbox hb; have BK293 := Aside0.mk (hbox); have GW293 := qg hg (by repeat (first | (with_reducible first | exact HB.out | apply qx | apply qv | apply qw) | exact HB.out)); have GE293 := GW293; replace HB := Aside0.mk (below_step (by repeat (first | (with_reducible first | exact HB.out | apply qx | apply qv | apply qw) | exact HB.out)) hb); clear hb hbox hg) | ((with_reducible refine gate_dst (N := 3) rfl ?_); refine box_event ?hg (N := 3) ?hd (cs := #[.bool a1_0, .slice A1_1 l1_1.length c1_1]) (t := 34) ?hr ?_; (case hd => rfl); (case hg => rfl); (case hr => go_simp <;> rfl); intro gb294 hg w19 hbox hb; have BK294 := Aside0.mk (hbox); have GW294 := qg hg (by repeat (first | (with_reducible first | exact HB.out | apply qx | apply qv | apply qw | refine below_set ?_ GE293.out) | exact HB.out)); have GE294 := GW294; replace HB := Aside0.mk (below_step (by repeat (first | (with_reducible first | exact HB.out | apply qx | apply qv | apply qw | refine below_set ?_ GE293.out) | exact HB.out)) hb); have NB293_294 := qn BK293 hg; have NB294_293 := qm BK293 hg; replace BK293 := qb BK293 hb; clear hb hbox hg; have hnb20 := NB293_294.out; have hnc20 := NB294_293.out; have hcz21_0 : w19.cell? ⟨gb293, 0, none⟩ = some (.bool a0_0) := qc BK293 0; have hcz21_1 : w19.cell? ⟨gb293, 1, none⟩ = some (.slice A0_1 l0_1.length c0_1) := qc BK293 1; have hfz21_0 := blk_frozen BK293.out 0; have hfz21_1 := blk_frozen BK293.out 1; have hcz22_0 : w19.cell? ⟨gb294, 0, none⟩ = some (.bool a1_0) := qc BK294 0; have hcz22_1 : w19.cell? ⟨gb294, 1, none⟩ = some (.slice A1_1 l1_1.length c1_1) := qc BK294 1; have hfz22_0 := blk_frozen BK294.out 0; have hfz22_1 := blk_frozen BK294.out 1) | (go_at_call 77; (with_reducible refine (moraineref02_less.calls k _ _ l0_1 _ _ l1_1 t295 _ ?side1 ?side2 ?side3 ?side4 A15.out).mono ?_); (case side1 => exact qC HR0_1 HB); (case side2 => exact HC0_1.out); (case side3 => exact qC HR1_1 HB); (case side4 => exact HC1_1.out); rintro e w' ⟨rfl, ⟨nd, rfl⟩⟩; (try first | exact ⟨rfl, _, World.drewN_drewN _ _ _⟩ | exact ⟨rfl, _, Eq.trans (World.drewN_drewN _ _ _) (congrArg (World.drewN _) (Nat.add_assoc _ _ _))⟩)) | (go_at_call 77; (with_reducible refine (moraineref02_less.calls k _ _ l1_1 _ _ l0_1 t296 _ ?side1 ?side2 ?side3 ?side4 A16.out).mono ?_); (case side1 => repeat (first | exact (Kd.C_below HR1_1.out (by repeat with_reducible first|exact HB.out|apply qx|apply qv|apply qw|refine qs ?_ (by assumption))) | (with_reducible first|refine Kd.C_alloc ?_ _|refine Kd.C_drewN ?_ _|refine Kd.C_drew ?_))); (case side2 => exact HC1_1.out); (case side3 => repeat (first | exact (Kd.C_below HR0_1.out (by repeat with_reducible first|exact HB.out|apply qx|apply qv|apply qw|refine qs ?_ (by assumption))) | (with_reducible first|refine Kd.C_alloc ?_ _|refine Kd.C_drewN ?_ _|refine Kd.C_drew ?_))); (case side4 => exact HC0_1.out); rintro e w' ⟨rfl, ⟨nd, rfl⟩⟩; (try first | exact ⟨rfl, _, World.drewN_drewN _ _ _⟩ | exact ⟨rfl, _, Eq.trans (World.drewN_drewN _ _ _) (congrArg (World.drewN _) (Nat.add_assoc _ _ _))⟩)))
  repeat (go_quiet (first | ((with_reducible refine gate_dst (N := 2) rfl ?_); refine box_event ?hg (N := 2) ?hd (cs := #[.bool a0_0, .slice A0_1 l0_1.length c0_1]) (t := 34) ?hr ?_; (case hd => rfl); (case hg => rfl); (case hr => go_simp <;> rfl); intro gb293 hg w18 hbox hb; have BK293 := Aside0.mk (hbox); have GW293 := qg hg (by repeat (first | (with_reducible first | exact HB.out | apply qx | apply qv | apply qw) | exact HB.out)); have GE293 := GW293; replace HB := Aside0.mk (below_step (by repeat (first | (with_reducible first | exact HB.out | apply qx | apply qv | apply qw) | exact HB.out)) hb); clear hb hbox hg) | ((with_reducible refine gate_dst (N := 3) rfl ?_); refine box_event ?hg (N := 3) ?hd (cs := #[.bool a1_0, .slice A1_1 l1_1.length c1_1]) (t := 34) ?hr ?_; (case hd => rfl); (case hg => rfl); (case hr => go_simp <;> rfl); intro gb294 hg w19 hbox hb; have BK294 := Aside0.mk (hbox); have GW294 := qg hg (by repeat (first | (with_reducible first | exact HB.out | apply qx | apply qv | apply qw | refine below_set ?_ GE293.out) | exact HB.out)); have GE294 := GW294; replace HB := Aside0.mk (below_step (by repeat (first | (with_reducible first | exact HB.out | apply qx | apply qv | apply qw | refine below_set ?_ GE293.out) | exact HB.out)) hb); have NB293_294 := qn BK293 hg; have NB294_293 := qm BK293 hg; replace BK293 := qb BK293 hb; clear hb hbox hg; have hnb20 := NB293_294.out; have hnc20 := NB294_293.out; have hcz21_0 : w19.cell? ⟨gb293, 0, none⟩ = some (.bool a0_0) := qc BK293 0; have hcz21_1 : w19.cell? ⟨gb293, 1, none⟩ = some (.slice A0_1 l0_1.length c0_1) := qc BK293 1; have hfz21_0 := blk_frozen BK293.out 0; have hfz21_1 := blk_frozen BK293.out 1; have hcz22_0 : w19.cell? ⟨gb294, 0, none⟩ = some (.bool a1_0) := qc BK294 0; have hcz22_1 : w19.cell? ⟨gb294, 1, none⟩ = some (.slice A1_1 l1_1.length c1_1) := qc BK294 1; have hfz22_0 := blk_frozen BK294.out 0; have hfz22_1 := blk_frozen BK294.out 1) | (go_at_call 77; (with_reducible refine (moraineref02_less.calls k _ _ l0_1 _ _ l1_1 t295 _ ?side1 ?side2 ?side3 ?side4 A15.out).mono ?_); (case side1 => exact qC HR0_1 HB); (case side2 => exact HC0_1.out); (case side3 => exact qC HR1_1 HB); (case side4 => exact HC1_1.out); rintro e w' ⟨rfl, ⟨nd, rfl⟩⟩; (try first | exact ⟨rfl, _, World.drewN_drewN _ _ _⟩ | exact ⟨rfl, _, Eq.trans (World.drewN_drewN _ _ _) (congrArg (World.drewN _) (Nat.add_assoc _ _ _))⟩)) | (go_at_call 77; (with_reducible refine (moraineref02_less.calls k _ _ l1_1 _ _ l0_1 t296 _ ?side1 ?side2 ?side3 ?side4 A16.out).mono ?_); (case side1 => repeat (first | exact (Kd.C_below HR1_1.out (by repeat with_reducible first|exact HB.out|apply qx|apply qv|apply qw|refine qs ?_ (by assumption))) | (with_reducible first|refine Kd.C_alloc ?_ _|refine Kd.C_drewN ?_ _|refine Kd.C_drew ?_))); (case side2 => exact HC1_1.out); (case side3 => repeat (first | exact (Kd.C_below HR0_1.out (by repeat with_reducible first|exact HB.out|apply qx|apply qv|apply qw|refine qs ?_ (by assumption))) | (with_reducible first|refine Kd.C_alloc ?_ _|refine Kd.C_drewN ?_ _|refine Kd.C_drew ?_))); (case side4 => exact HC0_1.out); rintro e w' ⟨rfl, ⟨nd, rfl⟩⟩; (try first | exact ⟨rfl, _, World.drewN_drewN _ _ _⟩ | exact ⟨rfl, _, Eq.trans (World.drewN_drewN _ _ _) (congrArg (World.drewN _) (Nat.add_assoc _ _ _))⟩))); go_upto_if 25 with (first | ((with_reducible refine gate_dst (N := 2) rfl ?_); refine box_event ?hg (N := 2) ?hd (cs := #[.bool a0_0, .slice A0_1 l0_1.length c0_1]) (t := 34) ?hr ?_; (case hd => rfl); (case hg => rfl); (case hr => go_simp <;> rfl); intro gb293 hg w18 hbox hb; have BK293 := Aside0.mk (hbox); have GW293 := qg hg (by repeat (first | (with_reducible first | exact HB.out | apply qx | apply qv | apply qw) | exact HB.out)); have GE293 := GW293; replace HB := Aside0.mk (below_step (by repeat (first | (with_reducible first | exact HB.out | apply qx | apply qv | apply qw) | exact HB.out)) hb); clear hb hbox hg) | ((with_reducible refine gate_dst (N := 3) rfl ?_); refine box_event ?hg (N := 3) ?hd (cs := #[.bool a1_0, .slice A1_1 l1_1.length c1_1]) (t := 34) ?hr ?_; (case hd => rfl); (case hg => rfl); (case hr => go_simp <;> rfl); intro gb294 hg w19 hbox hb; have BK294 := Aside0.mk (hbox); have GW294 := qg hg (by repeat (first | (with_reducible first | exact HB.out | apply qx | apply qv | apply qw | refine below_set ?_ GE293.out) | exact HB.out)); have GE294 := GW294; replace HB := Aside0.mk (below_step (by repeat (first | (with_reducible first | exact HB.out | apply qx | apply qv | apply qw | refine below_set ?_ GE293.out) | exact HB.out)) hb); have NB293_294 := qn BK293 hg; have NB294_293 := qm BK293 hg; replace BK293 := qb BK293 hb; clear hb hbox hg; have hnb20 := NB293_294.out; have hnc20 := NB294_293.out; have hcz21_0 : w19.cell? ⟨gb293, 0, none⟩ = some (.bool a0_0) := qc BK293 0; have hcz21_1 : w19.cell? ⟨gb293, 1, none⟩ = some (.slice A0_1 l0_1.length c0_1) := qc BK293 1; have hfz21_0 := blk_frozen BK293.out 0; have hfz21_1 := blk_frozen BK293.out 1; have hcz22_0 : w19.cell? ⟨gb294, 0, none⟩ = some (.bool a1_0) := qc BK294 0; have hcz22_1 : w19.cell? ⟨gb294, 1, none⟩ = some (.slice A1_1 l1_1.length c1_1) := qc BK294 1; have hfz22_0 := blk_frozen BK294.out 0; have hfz22_1 := blk_frozen BK294.out 1) | (go_at_call 77; (with_reducible refine (moraineref02_less.calls k _ _ l0_1 _ _ l1_1 t295 _ ?side1 ?side2 ?side3 ?side4 A15.out).mono ?_); (case side1 => exact qC HR0_1 HB); (case side2 => exact HC0_1.out); (case side3 => exact qC HR1_1 HB); (case side4 => exact HC1_1.out); rintro e w' ⟨rfl, ⟨nd, rfl⟩⟩; (try first | exact ⟨rfl, _, World.drewN_drewN _ _ _⟩ | exact ⟨rfl, _, Eq.trans (World.drewN_drewN _ _ _) (congrArg (World.drewN _) (Nat.add_assoc _ _ _))⟩)) | (go_at_call 77; (with_reducible refine (moraineref02_less.calls k _ _ l1_1 _ _ l0_1 t296 _ ?side1 ?side2 ?side3 ?side4 A16.out).mono ?_); (case side1 => repeat (first | exact (Kd.C_below HR1_1.out (by repeat with_reducible first|exact HB.out|apply qx|apply qv|apply qw|refine qs ?_ (by assumption))) | (with_reducible first|refine Kd.C_alloc ?_ _|refine Kd.C_drewN ?_ _|refine Kd.C_drew ?_))); (case side2 => exact HC1_1.out); (case side3 => repeat (first | exact (Kd.C_below HR0_1.out (by repeat with_reducible first|exact HB.out|apply qx|apply qv|apply qw|refine qs ?_ (by assumption))) | (with_reducible first|refine Kd.C_alloc ?_ _|refine Kd.C_drewN ?_ _|refine Kd.C_drew ?_))); (case side4 => exact HC0_1.out); rintro e w' ⟨rfl, ⟨nd, rfl⟩⟩; (try first | exact ⟨rfl, _, World.drewN_drewN _ _ _⟩ | exact ⟨rfl, _, Eq.trans (World.drewN_drewN _ _ _) (congrArg (World.drewN _) (Nat.add_assoc _ _ _))⟩))))
  (try simp only [Act.put, zA, zB, zC])
  go_cut [5, 6] (fun v5 v6 wc => ∃ (kq : Nat) (x5_16 : Bool) (x6_16 : Bool), v5 = .bool x5_16 ∧ v6 = .bool x6_16 ∧ Aside0 (moraineref02_Cmp.j0 kq x5_16 x6_16 = some r) ∧ Aside0 (kq ≤ k) ∧ Aside0 (wc.heap[gb293]? = some (.cells #[.bool a0_0, (.slice A0_1 l0_1.length c0_1)] 34 (0, 0))) ∧ Aside0 (wc.heap[gb294]? = some (.cells #[.bool a1_0, (.slice A1_1 l1_1.length c1_1)] 34 (0, 0))) ∧ Aside0 (Below w.heap.size w wc))
  case first =>
   have H := HC17.out
   clear HC17
   by_cases c23 : a0_0 = true
   ·subst c23
    have H1 : (moraineref02_Cmp.j0 k t296 t295) = some r := by rw [if_pos rfl] at H; exact H
    clear H
    have H := H1
    clear H1
    have H' := Aside0.mk H
    clear H
    go_wp2
    repeat (go_quiet (fail); try go_wp2)
    go_meet
    case rel => exact ⟨_, (t296), (t295), (by first | rfl | (simp; done) | (simp [*]; done)), (by first | rfl | (simp; done) | (simp [*]; done)), H', ⟨by first | omega | exact Nat.le_refl _⟩, ⟨qk BK293⟩, ⟨qk BK294⟩, ⟨by repeat (first | (with_reducible first | exact HB.out | apply qx | apply qv | apply qw | refine qs ?_ (by assumption)) | exact HB.out)⟩⟩
   ·replace c23 := Bool.eq_false_iff.mpr c23
    subst c23
    have H1 : (moraineref02_Cmp.j0 k t295 t296) = some r := by rw [if_neg (show ¬ (false = true) by decide)] at H; exact H
    clear H
    have H := H1
    clear H1
    have H' := Aside0.mk H
    clear H
    go_wp2
    repeat (go_quiet (fail); try go_wp2)
    go_meet
    case rel => exact ⟨_, (t295), (t296), (by first | rfl | (simp; done) | (simp [*]; done)), (by first | rfl | (simp; done) | (simp [*]; done)), H', ⟨by first | omega | exact Nat.le_refl _⟩, ⟨qk BK293⟩, ⟨qk BK294⟩, ⟨by repeat (first | (with_reducible first | exact HB.out | apply qx | apply qv | apply qw | refine qs ?_ (by assumption)) | exact HB.out)⟩⟩
  case rest =>
   clear HC17
   try clear c1
   try clear c2
   try clear p2
   try clear c3
   try clear c3b0
   try clear c3b1
   try clear c3b2
   try clear c4
   try clear c7
   try clear c12
   try clear c20
   try clear c23
   try clear hcz13_0
   try clear hcz13_1
   try clear hcz14_0
   try clear hcz14_1
   try clear hcz21_0
   try clear hcz21_1
   try clear hcz22_0
   try clear hcz22_1
   try clear hcz8_0
   try clear hcz8_1
   try clear hcz9_0
   try clear hcz9_1
   try clear hfz13_0
   try clear hfz13_1
   try clear hfz14_0
   try clear hfz14_1
   try clear hfz21_0
   try clear hfz21_1
   try clear hfz22_0
   try clear hfz22_1
   try clear hfz8_0
   try clear hfz8_1
   try clear hfz9_0
   try clear hfz9_1
   obtain ⟨kq, x5_16, x6_16, rfl, rfl, HA, HJ16, BK293, BK294, HB⟩ := hcut
   cases kq with
   | zero => exact absurd HA.out (by simp [moraineref02_Cmp.j0])
   | succ kj16 =>
    have H := HA.out
    clear HA
    simp only [moraineref02_Cmp.j0] at H
    by_cases c24 : x5_16 = true
    ·subst c24
     have H1 : (some (-1)) = some r := by rw [if_pos rfl] at H; exact H
     clear H
     have H := H1
     clear H1
     obtain rfl := Option.some.inj H
     go_wp2
     repeat (go_quiet (fail); try go_wp2)
     go_ret
     exact ⟨by first | rfl | (simp [errW_none, errW_some] <;> rfl) | (simp [*, errW_none, errW_some] <;> rfl), by repeat (first | (with_reducible first | exact HB.out | apply qx | apply qv | apply qw | refine qs ?_ (by assumption)) | exact HB.out)⟩
    ·replace c24 := Bool.eq_false_iff.mpr c24
     subst c24
     have H1 : (if x6_16 = true then (some 1) else (some 0)) = some r := by rw [if_neg (show ¬ (false = true) by decide)] at H; exact H
     clear H
     have H := H1
     clear H1
     by_cases c25 : x6_16 = true
     ·subst c25
      have H1 : (some 1) = some r := by rw [if_pos rfl] at H; exact H
      clear H
      have H := H1
      clear H1
      obtain rfl := Option.some.inj H
      go_wp2
      repeat (go_quiet (fail); try go_wp2)
      go_ret
      exact ⟨by first | rfl | (simp [errW_none, errW_some] <;> rfl) | (simp [*, errW_none, errW_some] <;> rfl), by repeat (first | (with_reducible first | exact HB.out | apply qx | apply qv | apply qw | refine qs ?_ (by assumption)) | exact HB.out)⟩
     ·replace c25 := Bool.eq_false_iff.mpr c25
      subst c25
      have H1 : (some 0) = some r := by rw [if_neg (show ¬ (false = true) by decide)] at H; exact H
      clear H
      have H := H1
      clear H1
      obtain rfl := Option.some.inj H
      go_wp2
      repeat (go_quiet (fail); try go_wp2)
      go_ret
      exact ⟨by first | rfl | (simp [errW_none, errW_some] <;> rfl) | (simp [*, errW_none, errW_some] <;> rfl), by repeat (first | (with_reducible first | exact HB.out | apply qx | apply qv | apply qw | refine qs ?_ (by assumption)) | exact HB.out)⟩
end Go.Proofs.YthhpnlbeniihhaaDoor.PRef
-- Printed by a program of this session's (wip/tools/printr.py, over the kit's print program).
namespace Go.Proofs.YthhpnlbeniihhaaDoor.PRef
open Go.RowKit Go.Proofs.YthhpnlbeniihhaaDoorW.PrintWords Go.Proofs.YthhpnlbeniihhaaDoorW.PrintLast Go.Proofs.YthhpnlbeniihhaaDoorW.PrintMore
attribute [local go_sem] max2_int min2_int max_two min_two max_three min_three max_four min_four   -- for this text's walks alone
set_option linter.unusedVariables false
set_option linter.unusedSimpArgs false
def moraineref02_Add.f (k : Nat) (a0_0 : Bool) (l0_1 : List Int) (a1_0 : Bool) (l1_1 : List Int) : Option (Bool × List Int) := if (a0_0 == a1_0) = true then ((moraineref02_plus.f k l0_1 l1_1).bind fun t300 => ((moraineref02_value.f k a0_0 t300).bind fun bt303 => (some (bt303.1, bt303.2)))) else ((moraineref02_less.f k l0_1 l1_1).bind fun t307 => (if t307 = true then ((moraineref02_minus.f k l1_1 l0_1).bind fun t308 => ((moraineref02_value.f k a1_0 t308).bind fun bt311 => (some (bt311.1, bt311.2)))) else ((moraineref02_minus.f k l0_1 l1_1).bind fun t315 => ((moraineref02_value.f k a0_0 t315).bind fun bt318 => (some (bt318.1, bt318.2))))))
def moraineref02_Add.T2 : Bool × List (List Nat × List Nat) := (true, [([], []), ([0], [0]), ([], []), ([2], [2]), ([], []), ([4], [4]), ([3, 5], [3, 5]), ([1, 6, 6], [1, 6]), ([7, 7, 0, 1, 2, 3, 4, 5, 6, 7], [7])])
def moraineref02_Add.B2 : List Nat := [0, 1, 0, 4, 0, 16, 60, 127, 255]
theorem moraineref02_Add.tab2 : rtab .any (opsOf Tryd.f45 2) = moraineref02_Add.T2 := by kernel_rfl
theorem moraineref02_Add.bits2 : waitsOk moraineref02_Add.T2.2 moraineref02_Add.B2 = true := by kernel_rfl
def moraineref02_Add.T4 : Bool × List (List Nat × List Nat) := (true, [([], []), ([0], [0]), ([], []), ([2], [2]), ([], []), ([4], [4]), ([3, 5], [3, 5]), ([1, 6, 6], [1, 6]), ([7, 7, 0, 1, 2, 3, 4, 5, 6, 7], [7])])
def moraineref02_Add.B4 : List Nat := [0, 1, 0, 4, 0, 16, 60, 127, 255]
theorem moraineref02_Add.tab4 : rtab .any (opsOf Tryd.f45 4) = moraineref02_Add.T4 := by kernel_rfl
theorem moraineref02_Add.bits4 : waitsOk moraineref02_Add.T4.2 moraineref02_Add.B4 = true := by kernel_rfl
def moraineref02_Add.T5 : Bool × List (List Nat × List Nat) := (true, [([], []), ([0], [0]), ([], []), ([2], [2]), ([], []), ([4], [4]), ([3, 5], [3, 5]), ([1, 6, 6], [1, 6]), ([7, 7, 0, 1, 2, 3, 4, 5, 6, 7], [7])])
def moraineref02_Add.B5 : List Nat := [0, 1, 0, 4, 0, 16, 60, 127, 255]
theorem moraineref02_Add.tab5 : rtab .any (opsOf Tryd.f45 5) = moraineref02_Add.T5 := by kernel_rfl
theorem moraineref02_Add.bits5 : waitsOk moraineref02_Add.T5.2 moraineref02_Add.B5 = true := by kernel_rfl
set_option maxHeartbeats 8000000 in
set_option maxRecDepth 100000 in
theorem moraineref02_Add.calls (k : Nat) (a0_0 : Bool) (A0_1 : Option Addr) (c0_1 : Nat) (l0_1 : List Int) (a1_0 : Bool) (A1_1 : Option Addr) (c1_1 : Nat) (l1_1 : List Int) (r1 : Bool) (r2 : List Int) (w : World) (hr0_1 : Kd.C (Kd.int .u8) w A0_1 l0_1.length l0_1) (hc0_1 : l0_1.length ≤ c0_1) (hr1_1 : Kd.C (Kd.int .u8) w A1_1 l1_1.length l1_1) (hc1_1 : l1_1.length ≤ c1_1) (h : moraineref02_Add.f k a0_0 l0_1 a1_0 l1_1 = some (r1, r2)) :
  Calls Tryd.prog 45 #[.agg #[.bool a0_0, .slice A0_1 l0_1.length c0_1], .agg #[.bool a1_0, .slice A1_1 l1_1.length c1_1]] w fun e w' => ∃ v1_ : Value, e = .returned (.agg #[.bool r1, v1_]) ∧ Kd.R (Kd.int .u8) 5 w' w.heap.size (fun _ => True) v1_ r2 ∧ Below w.heap.size w w' := by
 have hu34 := Tryd.underlying34
 have HR0_1 := Aside0.mk hr0_1
 have HC0_1 := Aside0.mk hc0_1
 clear hr0_1 hc0_1
 have HR1_1 := Aside0.mk hr1_1
 have HC1_1 := Aside0.mk hc1_1
 clear hr1_1 hc1_1
 have HB := Aside0.mk (Below.refl w.heap.size w)
 have H : (if (a0_0 == a1_0) = true then ((moraineref02_plus.f k l0_1 l1_1).bind fun t300 => ((moraineref02_value.f k a0_0 t300).bind fun bt303 => (some (bt303.1, bt303.2)))) else ((moraineref02_less.f k l0_1 l1_1).bind fun t307 => (if t307 = true then ((moraineref02_minus.f k l1_1 l0_1).bind fun t308 => ((moraineref02_value.f k a1_0 t308).bind fun bt311 => (some (bt311.1, bt311.2)))) else ((moraineref02_minus.f k l0_1 l1_1).bind fun t315 => ((moraineref02_value.f k a0_0 t315).bind fun bt318 => (some (bt318.1, bt318.2))))))) = some (r1, r2) := h
 clear h
 by_cases c3 : (a0_0 == a1_0) = true
 ·rw [if_pos c3] at H
  have c3b0 : (a0_0 == a1_0) = true := c3
  (try (have c3b1 : decide (a0_0 = a1_0) = true := by simpa using c3))
  (try (have c3b2 : (a0_0 == a1_0) = true := by simpa using c3))
  clear c3
  replace H := Option.bind_eq_some_iff.mp H
  obtain ⟨t300, A40, H⟩ := H
  replace H : ((moraineref02_value.f k a0_0 t300).bind fun bt303 => (some (bt303.1, bt303.2))) = some (r1, r2) := H
  have A4 := Aside0.mk A40
  clear A40
  replace H := Option.bind_eq_some_iff.mp H
  obtain ⟨⟨t303, t304⟩, A50, H⟩ := H
  replace H : (some (t303, t304)) = some (r1, r2) := H
  have A5 := Aside0.mk A50
  clear A50
  simp only [Option.some.injEq, Prod.mk.injEq] at H
  obtain ⟨rfl, rfl⟩ := H
  go_enter Tryd.func45, Tryd.ntmps45
  try go_wp2_with (first | ((with_reducible refine gate_dst (N := 2) rfl ?_); refine box_event ?hg (N := 2) ?hd (cs := #[.bool a0_0, .slice A0_1 l0_1.length c0_1]) (t := 34) ?hr ?_; (case hd => rfl); (case hg => rfl); (case hr => go_simp <;> rfl); intro gb297 hg w6 hbox hb; have BK297 := Aside0.mk (hbox); have GW297 := qg hg (by repeat (first | (with_reducible first | exact HB.out | apply qx | apply qv | apply qw) | exact HB.out)); have GE297 := GW297; replace HB := Aside0.mk (below_step (by repeat (first | (with_reducible first | exact HB.out | apply qx | apply qv | apply qw) | exact HB.out)) hb); clear hb hbox hg) | ((with_reducible refine gate_dst (N := 3) rfl ?_); refine box_event ?hg (N := 3) ?hd (cs := #[.bool a1_0, .slice A1_1 l1_1.length c1_1]) (t := 34) ?hr ?_; (case hd => rfl); (case hg => rfl); (case hr => go_simp <;> rfl); intro gb298 hg w7 hbox hb; have BK298 := Aside0.mk (hbox); have GW298 := qg hg (by repeat (first | (with_reducible first | exact HB.out | apply qx | apply qv | apply qw | refine below_set ?_ GE297.out) | exact HB.out)); have GE298 := GW298; replace HB := Aside0.mk (below_step (by repeat (first | (with_reducible first | exact HB.out | apply qx | apply qv | apply qw | refine below_set ?_ GE297.out) | exact HB.out)) hb); have NB297_298 := qn BK297 hg; have NB298_297 := qm BK297 hg; replace BK297 := qb BK297 hb; clear hb hbox hg) | ((with_reducible refine gate_dst (N := 4) rfl ?_); refine box_event ?hg (N := 4) ?hd (cs := #[.bool false, .slice none 0 0]) (t := 34) ?hr ?_; (case hd => rfl); (case hg => rfl); (case hr => go_simp <;> rfl); intro gb299 hg w8 hbox hb; have BK299 := Aside0.mk (hbox); have GW299 := qg hg (by repeat with_reducible first|exact HB.out|apply qx|apply qv|apply qw|refine qs ?_ (by assumption)); have GE299 := GW299; replace HB := Aside0.mk (below_step (by repeat with_reducible first|exact HB.out|apply qx|apply qv|apply qw|refine qs ?_ (by assumption)) hb); have NB297_299 := qn BK297 hg; have NB299_297 := qm BK297 hg; replace BK297 := qb BK297 hb; have NB298_299 := qn BK298 hg; have NB299_298 := qm BK298 hg; replace BK298 := qb BK298 hb; clear hb hbox hg; have hnb9 := NB297_298.out; have hnc9 := NB298_297.out; have hnb10 := NB297_299.out; have hnc10 := NB299_297.out; have hcz11_0 : w8.cell? ⟨gb297, 0, none⟩ = some (.bool a0_0) := qc BK297 0; have hcz11_1 : w8.cell? ⟨gb297, 1, none⟩ = some (.slice A0_1 l0_1.length c0_1) := qc BK297 1; have hfz11_0 := blk_frozen BK297.out 0; have hfz11_1 := blk_frozen BK297.out 1; have hnb12 := NB298_299.out; have hnc12 := NB299_298.out; have hcz13_0 : w8.cell? ⟨gb298, 0, none⟩ = some (.bool a1_0) := qc BK298 0; have hcz13_1 : w8.cell? ⟨gb298, 1, none⟩ = some (.slice A1_1 l1_1.length c1_1) := qc BK298 1; have hfz13_0 := blk_frozen BK298.out 0; have hfz13_1 := blk_frozen BK298.out 1))
  replace BK297 := Aside0.mk (blk_drew BK297.out)
  replace BK298 := Aside0.mk (blk_drew BK298.out)
  replace BK299 := Aside0.mk (blk_drew BK299.out)
  replace HB := Aside0.mk (below_drew1 HB.out)
  refine start_ (n := 9) (S := fun w' => w'.cell? ⟨gb297, 0, none⟩ = some (.bool a0_0) ∧ w'.cell? ⟨gb297, 1, none⟩ = some (.slice A0_1 l0_1.length c0_1) ∧ w'.cell? ⟨gb298, 0, none⟩ = some (.bool a1_0) ∧ w'.cell? ⟨gb298, 1, none⟩ = some (.slice A1_1 l1_1.length c1_1)) (ds := []) #[false, false, false, false, false, false, false, false, false] (by kernel_rfl) rfl rfl ⟨qc BK297 0, qc BK297 1, qc BK298 0, qc BK298 1⟩ (fun hHeld => ?_); refine with_tabW moraineref02_Add.tab2 moraineref02_Add.bits2 (fun HT_ HW_ => ?_)
  generalize w8.drew = w14 at BK297 BK298 BK299 HB hHeld ⊢
  refine pure_ (i := 0) (N := some 10) (v := ?_) (a' := ?_) #[true, false, false, false, false, false, false, false, false] rfl rfl (any_of HT_.out (by kernel_rfl)) (fun _ _ _ h => h) (Or.inl ⟨by rfl, ?_⟩) ?_ ?_
  rotate_left
  ·intro w'
   go_simp
   with_reducible rfl
  rotate_left
  ·simp only [Act.put, zA, zB, zC, i64_w, i32_w]
   rfl
  refine pure_ (i := 2) (N := some 12) (v := ?_) (a' := ?_) #[true, false, true, false, false, false, false, false, false] rfl rfl (any_of HT_.out (by kernel_rfl)) (fun _ _ _ h => h) (Or.inl ⟨by rfl, ?_⟩) ?_ ?_
  rotate_left
  ·intro w'
   go_simp
   with_reducible rfl
  rotate_left
  ·simp only [Act.put, zA, zB, zC, i64_w, i32_w]
   rfl
  refine pure_ (i := 4) (N := some 14) (v := ?_) (a' := ?_) #[true, false, true, false, true, false, false, false, false] rfl rfl (any_of HT_.out (by kernel_rfl)) (fun _ _ _ h => h) (Or.inl ⟨by rfl, ?_⟩) ?_ ?_
  rotate_left
  ·intro w'
   go_simp
   with_reducible rfl
  rotate_left
  ·simp only [Act.put, zA, zB, zC, i64_w, i32_w]
   rfl
  refine take_ (i := 1) (N := some 11) (v := ?_) (a' := ?_) #[true, true, true, false, true, false, false, false, false] rfl rfl (take_ofW HT_.out HW_.out (by kernel_rfl)) (fun _ _ _ h => h) (Or.inl ⟨by rfl, ?_⟩) hHeld ?_ ?_
  rotate_left
  ·rintro w' ⟨s0, s1, s2, s3⟩
   go_simp
   with_reducible rfl
  rotate_left
  ·simp only [Act.put, zA, zB, zC, i64_w, i32_w]
   rfl
  refine take_ (i := 3) (N := some 13) (v := ?_) (a' := ?_) #[true, true, true, true, true, false, false, false, false] rfl rfl (take_ofW HT_.out HW_.out (by kernel_rfl)) (fun _ _ _ h => h) (Or.inl ⟨by rfl, ?_⟩) hHeld ?_ ?_
  rotate_left
  ·rintro w' ⟨s0, s1, s2, s3⟩
   go_simp
   with_reducible rfl
  rotate_left
  ·simp only [Act.put, zA, zB, zC, i64_w, i32_w]
   rfl
  refine take_ (i := 5) (N := some 15) (v := ?_) (a' := ?_) #[true, true, true, true, true, true, false, false, false] rfl rfl (take_ofW HT_.out HW_.out (by kernel_rfl)) (fun _ _ _ h => h) (Or.inl ⟨by rfl, ?_⟩) hHeld ?_ ?_
  rotate_left
  ·rintro w' ⟨s0, s1, s2, s3⟩
   go_simp
   with_reducible rfl
  rotate_left
  ·simp only [Act.put, zA, zB, zC, i64_w, i32_w]
   rfl
  refine one_ (i := 6) (N := some 16) #[true, true, true, true, true, true, true, false, false] rfl rfl (one_of HT_.out (by kernel_rfl)) (by decide) (fun K hK => ?_)
  refine goes_ Tryd.func68 (by kernel_rfl) rfl #[.slice A0_1 l0_1.length c0_1, .slice A1_1 l1_1.length c1_1] (by rfl) rfl rfl (by (try simp only [zM, zO, zP]); first|done|rfl) ?_
  with_reducible refine (moraineref02_plus.calls k _ _ l0_1 _ _ l1_1 t300 _ ?side1 ?side2 ?side3 ?side4 A4.out).mono ?_
  (case side1 => exact qC HR0_1 HB)
  (case side2 => exact HC0_1.out)
  (case side3 => exact qC HR1_1 HB)
  (case side4 => exact HC1_1.out)
  rintro e w15 ⟨v301, rfl, ho0, hb⟩
  refine ⟨_, rfl, ?_⟩
  have HO302 := Aside0.mk (Kd.R_lower ho0 (below_size (by repeat with_reducible first|exact HB.out|apply qx|apply qv|apply qw|refine qs ?_ (by assumption))))
  replace BK297 := qb BK297 hb
  replace BK298 := qb BK298 hb
  replace BK299 := qb BK299 hb
  replace HB := Aside0.mk (below_step (by repeat with_reducible first|exact HB.out|apply qx|apply qv|apply qw|refine qs ?_ (by assumption)) hb)
  (try clear hb)
  (try clear hb2)
  (try clear hk)
  (try clear hi)
  (try clear ho0)
  obtain ⟨Ao16, co16, eo16⟩ := Kd.R_slice HO302.out
  (first | subst eo16 | (injection eo16 with f1_ f2_ f3_; have f4_ := f1_.symm; have f5_ := f3_.symm; clear f1_ f2_ f3_; subst f4_; subst f5_))
  refine hK.out _ _ ⟨qc BK297 0, qc BK297 1, qc BK298 0, qc BK298 1⟩ (fun hHeld => ?_)
  clear hK K
  refine norm_ (a' := ?_) ?_ ?_
  rotate_left
  ·show Act.put _ (some 16) _ = _
   simp only [Act.put, zA, zB, zC, i64_w, i32_w]
   rfl
  refine one_ (i := 7) (N := some 17) #[true, true, true, true, true, true, true, true, false] rfl rfl (one_of HT_.out (by kernel_rfl)) (by decide) (fun K hK => ?_)
  refine goes_ Tryd.func62 (by kernel_rfl) rfl #[.bool a0_0, .slice Ao16 t300.length co16] (by rfl) rfl rfl (by (try simp only [zM, zO, zP]); first|done|rfl) ?_
  with_reducible refine (moraineref02_value.calls k a0_0 (fun k_ => some k_ = (.slice Ao16 t300.length co16 : Value).ownBlock) (.slice Ao16 t300.length co16) t300 t303 t304 w _ ?side1 ?side2 A5.out).mono ?_
  (case side1 => repeat (first | (with_reducible first | exact HB.out | apply qx | apply qv | apply qw | refine qs ?_ (by assumption)) | exact HB.out))
  (case side2 => exact Kd.R_tight rfl HO302.out)
  rintro e w17 ⟨v305, rfl, ho0, hb, hkp⟩
  refine ⟨_, rfl, ?_⟩
  have n0_ := Aside0.mk (blk_kept (by (with_reducible repeat first|refine qN ?_ _|refine qW ?_|refine qA ?_ _); exact BK297.out) hkp (fun hs_ => (fun e_ => (Kd.R_ne HO302.out BK297.out (by decide)) e_) hs_))
  have n1_ := Aside0.mk (blk_kept (by (with_reducible repeat first|refine qN ?_ _|refine qW ?_|refine qA ?_ _); exact BK298.out) hkp (fun hs_ => (fun e_ => (Kd.R_ne HO302.out BK298.out (by decide)) e_) hs_))
  have n2_ := Aside0.mk (blk_kept (by (with_reducible repeat first|refine qN ?_ _|refine qW ?_|refine qA ?_ _); exact BK299.out) hkp (fun hs_ => (fun e_ => (Kd.R_ne HO302.out BK299.out (by decide)) e_) hs_))
  have n3_ := Aside0.mk (Kd.R_mono (ok' := fun k_ => True) ho0 (fun k_ hk_ => trivial))
  have n4_ := Aside0.mk (hb)
  clear BK297
  clear BK298
  clear BK299
  clear HB
  clear HO302
  have BK297 := n0_
  have BK298 := n1_
  have BK299 := n2_
  have HO306 := n3_
  have HB := n4_
  clear n0_ n1_ n2_ n3_ n4_
  (try clear hb)
  (try clear hkp)
  (try clear ho0)
  obtain ⟨Ao19, co19, eo19⟩ := Kd.R_slice HO306.out
  (first | subst eo19 | (injection eo19 with f1_ f2_ f3_; have f4_ := f1_.symm; have f5_ := f3_.symm; clear f1_ f2_ f3_; subst f4_; subst f5_))
  refine hK.out _ _ ⟨qc BK297 0, qc BK297 1, qc BK298 0, qc BK298 1⟩ (fun hHeld => ?_)
  clear hK K
  refine norm_ (a' := ?_) ?_ ?_
  rotate_left
  ·show Act.put _ (some 17) _ = _
   simp only [Act.put, zA, zB, zC, i64_w, i32_w]
   rfl
  refine one_ (i := 8) (N := none) #[true, true, true, true, true, true, true, true, true] rfl rfl (one_of HT_.out (by kernel_rfl)) (by decide) (fun K hK => ?_)
  have hs18 : w17.cell? ⟨gb299, 0, none⟩ = some (.bool false) := qc BK299 0
  have hfs18 := blk_frozen BK299.out 0
  have hns18_0 := NB297_299.out
  have hns18_1 := NB298_299.out
  have hms18_0 := NB299_297.out
  have hms18_1 := NB299_298.out
  have hs20 : w17.cell? ⟨gb299, 1, none⟩ = some (.slice none 0 0) := qc BK299 1
  have hfs20 := blk_frozen BK299.out 1
  have hns20_0 := NB297_299.out
  have hns20_1 := NB298_299.out
  have hms20_0 := NB299_297.out
  have hms20_1 := NB299_298.out
  refine skip_ (w1 := ?_) (by rfl) rfl ?_ ?_
  rotate_left
  ·go_simp
   rfl
  refine hK.out _ _ ⟨((cell_far (p := ⟨gb299, _, none⟩) NB297_299.out _).trans (((cell_far (p := ⟨gb299, _, none⟩) NB297_299.out _).trans (hHeld.1)))), ((cell_far (p := ⟨gb299, _, none⟩) NB297_299.out _).trans (((cell_far (p := ⟨gb299, _, none⟩) NB297_299.out _).trans (hHeld.2.1)))), ((cell_far (p := ⟨gb299, _, none⟩) NB298_299.out _).trans (((cell_far (p := ⟨gb299, _, none⟩) NB298_299.out _).trans (hHeld.2.2.1)))), ((cell_far (p := ⟨gb299, _, none⟩) NB298_299.out _).trans (((cell_far (p := ⟨gb299, _, none⟩) NB298_299.out _).trans (hHeld.2.2.2))))⟩ (fun hHeld => ?_)
  clear hK K
  refine done_ (done_of HT_.out (by kernel_rfl)) ?_
  try go_wp2
  refine bodyPost_ret (results_cell_row rfl _ _ gb299 34 #[.bool t303, .slice Ao19 t304.length co19] (0, 0) _ rfl (by (with_reducible repeat first|refine qN ?_ _|refine qW ?_|refine qA ?_ _); refine blk_put (cs := #[.bool t303, .slice none 0 0]) ?_ 1 _ rfl; (with_reducible repeat first|refine qN ?_ _|refine qW ?_|refine qA ?_ _); refine blk_put (cs := #[.bool false, .slice none 0 0]) ?_ 0 _ rfl; (with_reducible repeat first|refine qN ?_ _|refine qW ?_|refine qA ?_ _); exact BK299.out) Tryd.underlying34 rfl (by kernel_rfl)) rfl ?_
  exact ⟨_, by first | rfl | (simp [errW_none, errW_some] <;> rfl) | (simp [*, errW_none, errW_some] <;> rfl), by (with_reducible repeat first|apply Kd.R_alloc|apply Kd.R_drewN|apply Kd.R_drew); exact Kd.R_mono (qz HO306 BK299 (by decide) (.bool t303) (.slice Ao19 t304.length co19)) (fun _ hk => trivial), by repeat (first | (with_reducible first | exact HB.out | apply qx | apply qv | apply qw | refine qs ?_ (by assumption)) | exact HB.out)⟩
 ·rw [if_neg c3] at H
  have c3b0 : (a0_0 == a1_0) = false := by simpa using c3
  (try (have c3b1 : decide (a0_0 = a1_0) = false := by simpa using c3))
  (try (have c3b2 : (a0_0 == a1_0) = false := by simpa using c3))
  (try (have c3b3 : ¬ (a0_0 = a1_0) := by simpa using c3))
  clear c3
  replace H := Option.bind_eq_some_iff.mp H
  obtain ⟨t307, A210, H⟩ := H
  replace H : (if t307 = true then ((moraineref02_minus.f k l1_1 l0_1).bind fun t308 => ((moraineref02_value.f k a1_0 t308).bind fun bt311 => (some (bt311.1, bt311.2)))) else ((moraineref02_minus.f k l0_1 l1_1).bind fun t315 => ((moraineref02_value.f k a0_0 t315).bind fun bt318 => (some (bt318.1, bt318.2))))) = some (r1, r2) := H
  have A21 := Aside0.mk A210
  clear A210
  by_cases c22 : t307 = true
  ·subst c22
   have H1 : ((moraineref02_minus.f k l1_1 l0_1).bind fun t308 => ((moraineref02_value.f k a1_0 t308).bind fun bt311 => (some (bt311.1, bt311.2)))) = some (r1, r2) := by rw [if_pos rfl] at H; exact H
   clear H
   have H := H1
   clear H1
   replace H := Option.bind_eq_some_iff.mp H
   obtain ⟨t308, A230, H⟩ := H
   replace H : ((moraineref02_value.f k a1_0 t308).bind fun bt311 => (some (bt311.1, bt311.2))) = some (r1, r2) := H
   have A23 := Aside0.mk A230
   clear A230
   replace H := Option.bind_eq_some_iff.mp H
   obtain ⟨⟨t311, t312⟩, A240, H⟩ := H
   replace H : (some (t311, t312)) = some (r1, r2) := H
   have A24 := Aside0.mk A240
   clear A240
   simp only [Option.some.injEq, Prod.mk.injEq] at H
   obtain ⟨rfl, rfl⟩ := H
   go_enter Tryd.func45, Tryd.ntmps45
   try go_wp2_with (first | ((with_reducible refine gate_dst (N := 2) rfl ?_); refine box_event ?hg (N := 2) ?hd (cs := #[.bool a0_0, .slice A0_1 l0_1.length c0_1]) (t := 34) ?hr ?_; (case hd => rfl); (case hg => rfl); (case hr => go_simp <;> rfl); intro gb297 hg w25 hbox hb; have BK297 := Aside0.mk (hbox); have GW297 := qg hg (by repeat (first | (with_reducible first | exact HB.out | apply qx | apply qv | apply qw) | exact HB.out)); have GE297 := GW297; replace HB := Aside0.mk (below_step (by repeat (first | (with_reducible first | exact HB.out | apply qx | apply qv | apply qw) | exact HB.out)) hb); clear hb hbox hg) | ((with_reducible refine gate_dst (N := 3) rfl ?_); refine box_event ?hg (N := 3) ?hd (cs := #[.bool a1_0, .slice A1_1 l1_1.length c1_1]) (t := 34) ?hr ?_; (case hd => rfl); (case hg => rfl); (case hr => go_simp <;> rfl); intro gb298 hg w26 hbox hb; have BK298 := Aside0.mk (hbox); have GW298 := qg hg (by repeat (first | (with_reducible first | exact HB.out | apply qx | apply qv | apply qw | refine below_set ?_ GE297.out) | exact HB.out)); have GE298 := GW298; replace HB := Aside0.mk (below_step (by repeat (first | (with_reducible first | exact HB.out | apply qx | apply qv | apply qw | refine below_set ?_ GE297.out) | exact HB.out)) hb); have NB297_298 := qn BK297 hg; have NB298_297 := qm BK297 hg; replace BK297 := qb BK297 hb; clear hb hbox hg) | ((with_reducible refine gate_dst (N := 4) rfl ?_); refine box_event ?hg (N := 4) ?hd (cs := #[.bool false, .slice none 0 0]) (t := 34) ?hr ?_; (case hd => rfl); (case hg => rfl); (case hr => go_simp <;> rfl); intro gb299 hg w27 hbox hb; have BK299 := Aside0.mk (hbox); have GW299 := qg hg (by repeat with_reducible first|exact HB.out|apply qx|apply qv|apply qw|refine qs ?_ (by assumption)); have GE299 := GW299; replace HB := Aside0.mk (below_step (by repeat with_reducible first|exact HB.out|apply qx|apply qv|apply qw|refine qs ?_ (by assumption)) hb); have NB297_299 := qn BK297 hg; have NB299_297 := qm BK297 hg; replace BK297 := qb BK297 hb; have NB298_299 := qn BK298 hg; have NB299_298 := qm BK298 hg; replace BK298 := qb BK298 hb; clear hb hbox hg; have hnb28 := NB297_298.out; have hnc28 := NB298_297.out; have hnb29 := NB297_299.out; have hnc29 := NB299_297.out; have hcz30_0 : w27.cell? ⟨gb297, 0, none⟩ = some (.bool a0_0) := qc BK297 0; have hcz30_1 : w27.cell? ⟨gb297, 1, none⟩ = some (.slice A0_1 l0_1.length c0_1) := qc BK297 1; have hfz30_0 := blk_frozen BK297.out 0; have hfz30_1 := blk_frozen BK297.out 1; have hnb31 := NB298_299.out; have hnc31 := NB299_298.out; have hcz32_0 : w27.cell? ⟨gb298, 0, none⟩ = some (.bool a1_0) := qc BK298 0; have hcz32_1 : w27.cell? ⟨gb298, 1, none⟩ = some (.slice A1_1 l1_1.length c1_1) := qc BK298 1; have hfz32_0 := blk_frozen BK298.out 0; have hfz32_1 := blk_frozen BK298.out 1) | ((with_reducible refine gate_callee (f := 77) rfl ?_); refine goesL_ (some 22) rfl rfl Tryd.func77 (by kernel_rfl) rfl #[.slice A0_1 l0_1.length c0_1, .slice A1_1 l1_1.length c1_1] rfl (by (try simp only [zM, zO, zP]); first|done|rfl) ?_; (with_reducible refine (moraineref02_less.calls k _ _ l0_1 _ _ l1_1 true _ ?side1 ?side2 ?side3 ?side4 A21.out).mono ?_); (case side1 => exact qC HR0_1 HB); (case side2 => exact HC0_1.out); (case side3 => exact qC HR1_1 HB); (case side4 => exact HC1_1.out); rintro e w' ⟨rfl, ⟨nd, rfl⟩⟩; refine ⟨_, rfl, ?_⟩; (try (rw [drewN_self w27]; generalize hq_ : World.drewN w27 _ = w27; have n0_ : Aside0 (w27.heap[gb297]? = some (.cells #[.bool a0_0, .slice A0_1 l0_1.length c0_1] 34 (0, 0))) := ⟨by rw [← hq_]; exact (by (with_reducible repeat first|refine qN ?_ _|refine qW ?_|refine qA ?_ _); exact BK297.out)⟩; have n1_ : Aside0 (w27.heap[gb298]? = some (.cells #[.bool a1_0, .slice A1_1 l1_1.length c1_1] 34 (0, 0))) := ⟨by rw [← hq_]; exact (by (with_reducible repeat first|refine qN ?_ _|refine qW ?_|refine qA ?_ _); exact BK298.out)⟩; have n2_ : Aside0 (w27.heap[gb299]? = some (.cells #[.bool false, .slice none 0 0] 34 (0, 0))) := ⟨by rw [← hq_]; exact (by (with_reducible repeat first|refine qN ?_ _|refine qW ?_|refine qA ?_ _); exact BK299.out)⟩; have n3_ : Aside0 (Below w.heap.size w w27) := ⟨by rw [← hq_]; exact (by repeat with_reducible first|exact HB.out|apply qx|apply qv|apply qw|refine qs ?_ (by assumption))⟩; clear BK297 BK298 BK299 HB hq_; have BK297 := n0_; have BK298 := n1_; have BK299 := n2_; have HB := n3_; clear n0_ n1_ n2_ n3_))))
   replace BK297 := Aside0.mk (blk_drew BK297.out)
   replace BK298 := Aside0.mk (blk_drew BK298.out)
   replace BK299 := Aside0.mk (blk_drew BK299.out)
   replace HB := Aside0.mk (below_drew1 HB.out)
   refine start_ (n := 9) (S := fun w' => w'.cell? ⟨gb298, 0, none⟩ = some (.bool a1_0) ∧ w'.cell? ⟨gb298, 1, none⟩ = some (.slice A1_1 l1_1.length c1_1) ∧ w'.cell? ⟨gb297, 0, none⟩ = some (.bool a0_0) ∧ w'.cell? ⟨gb297, 1, none⟩ = some (.slice A0_1 l0_1.length c0_1)) (ds := []) #[false, false, false, false, false, false, false, false, false] (by kernel_rfl) rfl rfl ⟨qc BK298 0, qc BK298 1, qc BK297 0, qc BK297 1⟩ (fun hHeld => ?_); refine with_tabW moraineref02_Add.tab4 moraineref02_Add.bits4 (fun HT_ HW_ => ?_)
   generalize w27.drew = w33 at BK297 BK298 BK299 HB hHeld ⊢
   refine pure_ (i := 0) (N := some 23) (v := ?_) (a' := ?_) #[true, false, false, false, false, false, false, false, false] rfl rfl (any_of HT_.out (by kernel_rfl)) (fun _ _ _ h => h) (Or.inl ⟨by rfl, ?_⟩) ?_ ?_
   rotate_left
   ·intro w'
    go_simp
    with_reducible rfl
   rotate_left
   ·simp only [Act.put, zA, zB, zC, i64_w, i32_w]
    rfl
   refine pure_ (i := 2) (N := some 25) (v := ?_) (a' := ?_) #[true, false, true, false, false, false, false, false, false] rfl rfl (any_of HT_.out (by kernel_rfl)) (fun _ _ _ h => h) (Or.inl ⟨by rfl, ?_⟩) ?_ ?_
   rotate_left
   ·intro w'
    go_simp
    with_reducible rfl
   rotate_left
   ·simp only [Act.put, zA, zB, zC, i64_w, i32_w]
    rfl
   refine pure_ (i := 4) (N := some 27) (v := ?_) (a' := ?_) #[true, false, true, false, true, false, false, false, false] rfl rfl (any_of HT_.out (by kernel_rfl)) (fun _ _ _ h => h) (Or.inl ⟨by rfl, ?_⟩) ?_ ?_
   rotate_left
   ·intro w'
    go_simp
    with_reducible rfl
   rotate_left
   ·simp only [Act.put, zA, zB, zC, i64_w, i32_w]
    rfl
   refine take_ (i := 1) (N := some 24) (v := ?_) (a' := ?_) #[true, true, true, false, true, false, false, false, false] rfl rfl (take_ofW HT_.out HW_.out (by kernel_rfl)) (fun _ _ _ h => h) (Or.inl ⟨by rfl, ?_⟩) hHeld ?_ ?_
   rotate_left
   ·rintro w' ⟨s0, s1, s2, s3⟩
    go_simp
    with_reducible rfl
   rotate_left
   ·simp only [Act.put, zA, zB, zC, i64_w, i32_w]
    rfl
   refine take_ (i := 3) (N := some 26) (v := ?_) (a' := ?_) #[true, true, true, true, true, false, false, false, false] rfl rfl (take_ofW HT_.out HW_.out (by kernel_rfl)) (fun _ _ _ h => h) (Or.inl ⟨by rfl, ?_⟩) hHeld ?_ ?_
   rotate_left
   ·rintro w' ⟨s0, s1, s2, s3⟩
    go_simp
    with_reducible rfl
   rotate_left
   ·simp only [Act.put, zA, zB, zC, i64_w, i32_w]
    rfl
   refine take_ (i := 5) (N := some 28) (v := ?_) (a' := ?_) #[true, true, true, true, true, true, false, false, false] rfl rfl (take_ofW HT_.out HW_.out (by kernel_rfl)) (fun _ _ _ h => h) (Or.inl ⟨by rfl, ?_⟩) hHeld ?_ ?_
   rotate_left
   ·rintro w' ⟨s0, s1, s2, s3⟩
    go_simp
    with_reducible rfl
   rotate_left
   ·simp only [Act.put, zA, zB, zC, i64_w, i32_w]
    rfl
   refine one_ (i := 6) (N := some 29) #[true, true, true, true, true, true, true, false, false] rfl rfl (one_of HT_.out (by kernel_rfl)) (by decide) (fun K hK => ?_)
   refine goes_ Tryd.func78 (by kernel_rfl) rfl #[.slice A1_1 l1_1.length c1_1, .slice A0_1 l0_1.length c0_1] (by rfl) rfl rfl (by (try simp only [zM, zO, zP]); first|done|rfl) ?_
   with_reducible refine (moraineref02_minus.calls k _ _ l1_1 _ _ l0_1 t308 _ ?side1 ?side2 ?side3 ?side4 A23.out).mono ?_
   (case side1 => exact qC HR1_1 HB)
   (case side2 => exact HC1_1.out)
   (case side3 => exact qC HR0_1 HB)
   (case side4 => exact HC0_1.out)
   rintro e w34 ⟨v309, rfl, ho0, hb⟩
   refine ⟨_, rfl, ?_⟩
   have HO310 := Aside0.mk (Kd.R_lower ho0 (below_size (by repeat with_reducible first|exact HB.out|apply qx|apply qv|apply qw|refine qs ?_ (by assumption))))
   replace BK297 := qb BK297 hb
   replace BK298 := qb BK298 hb
   replace BK299 := qb BK299 hb
   replace HB := Aside0.mk (below_step (by repeat with_reducible first|exact HB.out|apply qx|apply qv|apply qw|refine qs ?_ (by assumption)) hb)
   (try clear hb)
   (try clear hb2)
   (try clear hk)
   (try clear hi)
   (try clear ho0)
   obtain ⟨Ao35, co35, eo35⟩ := Kd.R_slice HO310.out
   (first | subst eo35 | (injection eo35 with f1_ f2_ f3_; have f4_ := f1_.symm; have f5_ := f3_.symm; clear f1_ f2_ f3_; subst f4_; subst f5_))
   refine hK.out _ _ ⟨qc BK298 0, qc BK298 1, qc BK297 0, qc BK297 1⟩ (fun hHeld => ?_)
   clear hK K
   refine norm_ (a' := ?_) ?_ ?_
   rotate_left
   ·show Act.put _ (some 29) _ = _
    simp only [Act.put, zA, zB, zC, i64_w, i32_w]
    rfl
   refine one_ (i := 7) (N := some 30) #[true, true, true, true, true, true, true, true, false] rfl rfl (one_of HT_.out (by kernel_rfl)) (by decide) (fun K hK => ?_)
   refine goes_ Tryd.func62 (by kernel_rfl) rfl #[.bool a1_0, .slice Ao35 t308.length co35] (by rfl) rfl rfl (by (try simp only [zM, zO, zP]); first|done|rfl) ?_
   with_reducible refine (moraineref02_value.calls k a1_0 (fun k_ => some k_ = (.slice Ao35 t308.length co35 : Value).ownBlock) (.slice Ao35 t308.length co35) t308 t311 t312 w _ ?side1 ?side2 A24.out).mono ?_
   (case side1 => repeat (first | (with_reducible first | exact HB.out | apply qx | apply qv | apply qw | refine qs ?_ (by assumption)) | exact HB.out))
   (case side2 => exact Kd.R_tight rfl HO310.out)
   rintro e w36 ⟨v313, rfl, ho0, hb, hkp⟩
   refine ⟨_, rfl, ?_⟩
   have n0_ := Aside0.mk (blk_kept (by (with_reducible repeat first|refine qN ?_ _|refine qW ?_|refine qA ?_ _); exact BK297.out) hkp (fun hs_ => (fun e_ => (Kd.R_ne HO310.out BK297.out (by decide)) e_) hs_))
   have n1_ := Aside0.mk (blk_kept (by (with_reducible repeat first|refine qN ?_ _|refine qW ?_|refine qA ?_ _); exact BK298.out) hkp (fun hs_ => (fun e_ => (Kd.R_ne HO310.out BK298.out (by decide)) e_) hs_))
   have n2_ := Aside0.mk (blk_kept (by (with_reducible repeat first|refine qN ?_ _|refine qW ?_|refine qA ?_ _); exact BK299.out) hkp (fun hs_ => (fun e_ => (Kd.R_ne HO310.out BK299.out (by decide)) e_) hs_))
   have n3_ := Aside0.mk (Kd.R_mono (ok' := fun k_ => True) ho0 (fun k_ hk_ => trivial))
   have n4_ := Aside0.mk (hb)
   clear BK297
   clear BK298
   clear BK299
   clear HB
   clear HO310
   have BK297 := n0_
   have BK298 := n1_
   have BK299 := n2_
   have HO314 := n3_
   have HB := n4_
   clear n0_ n1_ n2_ n3_ n4_
   (try clear hb)
   (try clear hkp)
   (try clear ho0)
   obtain ⟨Ao38, co38, eo38⟩ := Kd.R_slice HO314.out
   (first | subst eo38 | (injection eo38 with f1_ f2_ f3_; have f4_ := f1_.symm; have f5_ := f3_.symm; clear f1_ f2_ f3_; subst f4_; subst f5_))
   refine hK.out _ _ ⟨qc BK298 0, qc BK298 1, qc BK297 0, qc BK297 1⟩ (fun hHeld => ?_)
   clear hK K
   refine norm_ (a' := ?_) ?_ ?_
   rotate_left
   ·show Act.put _ (some 30) _ = _
    simp only [Act.put, zA, zB, zC, i64_w, i32_w]
    rfl
   refine one_ (i := 8) (N := none) #[true, true, true, true, true, true, true, true, true] rfl rfl (one_of HT_.out (by kernel_rfl)) (by decide) (fun K hK => ?_)
   have hs37 : w36.cell? ⟨gb299, 0, none⟩ = some (.bool false) := qc BK299 0
   have hfs37 := blk_frozen BK299.out 0
   have hns37_0 := NB297_299.out
   have hns37_1 := NB298_299.out
   have hms37_0 := NB299_297.out
   have hms37_1 := NB299_298.out
   have hs39 : w36.cell? ⟨gb299, 1, none⟩ = some (.slice none 0 0) := qc BK299 1
   have hfs39 := blk_frozen BK299.out 1
   have hns39_0 := NB297_299.out
   have hns39_1 := NB298_299.out
   have hms39_0 := NB299_297.out
   have hms39_1 := NB299_298.out
   refine skip_ (w1 := ?_) (by rfl) rfl ?_ ?_
   rotate_left
   ·go_simp
    rfl
   refine hK.out _ _ ⟨((cell_far (p := ⟨gb299, _, none⟩) NB298_299.out _).trans (((cell_far (p := ⟨gb299, _, none⟩) NB298_299.out _).trans (hHeld.1)))), ((cell_far (p := ⟨gb299, _, none⟩) NB298_299.out _).trans (((cell_far (p := ⟨gb299, _, none⟩) NB298_299.out _).trans (hHeld.2.1)))), ((cell_far (p := ⟨gb299, _, none⟩) NB297_299.out _).trans (((cell_far (p := ⟨gb299, _, none⟩) NB297_299.out _).trans (hHeld.2.2.1)))), ((cell_far (p := ⟨gb299, _, none⟩) NB297_299.out _).trans (((cell_far (p := ⟨gb299, _, none⟩) NB297_299.out _).trans (hHeld.2.2.2))))⟩ (fun hHeld => ?_)
   clear hK K
   refine done_ (done_of HT_.out (by kernel_rfl)) ?_
   try go_wp2
   refine bodyPost_ret (results_cell_row rfl _ _ gb299 34 #[.bool t311, .slice Ao38 t312.length co38] (0, 0) _ rfl (by (with_reducible repeat first|refine qN ?_ _|refine qW ?_|refine qA ?_ _); refine blk_put (cs := #[.bool t311, .slice none 0 0]) ?_ 1 _ rfl; (with_reducible repeat first|refine qN ?_ _|refine qW ?_|refine qA ?_ _); refine blk_put (cs := #[.bool false, .slice none 0 0]) ?_ 0 _ rfl; (with_reducible repeat first|refine qN ?_ _|refine qW ?_|refine qA ?_ _); exact BK299.out) Tryd.underlying34 rfl (by kernel_rfl)) rfl ?_
   exact ⟨_, by first | rfl | (simp [errW_none, errW_some] <;> rfl) | (simp [*, errW_none, errW_some] <;> rfl), by (with_reducible repeat first|apply Kd.R_alloc|apply Kd.R_drewN|apply Kd.R_drew); exact Kd.R_mono (qz HO314 BK299 (by decide) (.bool t311) (.slice Ao38 t312.length co38)) (fun _ hk => trivial), by repeat (first | (with_reducible first | exact HB.out | apply qx | apply qv | apply qw | refine qs ?_ (by assumption)) | exact HB.out)⟩
  ·replace c22 := Bool.eq_false_iff.mpr c22
   subst c22
   have H1 : ((moraineref02_minus.f k l0_1 l1_1).bind fun t315 => ((moraineref02_value.f k a0_0 t315).bind fun bt318 => (some (bt318.1, bt318.2)))) = some (r1, r2) := by rw [if_neg (show ¬ (false = true) by decide)] at H; exact H
   clear H
   have H := H1
   clear H1
   replace H := Option.bind_eq_some_iff.mp H
   obtain ⟨t315, A400, H⟩ := H
   replace H : ((moraineref02_value.f k a0_0 t315).bind fun bt318 => (some (bt318.1, bt318.2))) = some (r1, r2) := H
   have A40 := Aside0.mk A400
   clear A400
   replace H := Option.bind_eq_some_iff.mp H
   obtain ⟨⟨t318, t319⟩, A410, H⟩ := H
   replace H : (some (t318, t319)) = some (r1, r2) := H
   have A41 := Aside0.mk A410
   clear A410
   simp only [Option.some.injEq, Prod.mk.injEq] at H
   obtain ⟨rfl, rfl⟩ := H
   go_enter Tryd.func45, Tryd.ntmps45
   try go_wp2_with (first | ((with_reducible refine gate_dst (N := 2) rfl ?_); refine box_event ?hg (N := 2) ?hd (cs := #[.bool a0_0, .slice A0_1 l0_1.length c0_1]) (t := 34) ?hr ?_; (case hd => rfl); (case hg => rfl); (case hr => go_simp <;> rfl); intro gb297 hg w42 hbox hb; have BK297 := Aside0.mk (hbox); have GW297 := qg hg (by repeat (first | (with_reducible first | exact HB.out | apply qx | apply qv | apply qw) | exact HB.out)); have GE297 := GW297; replace HB := Aside0.mk (below_step (by repeat (first | (with_reducible first | exact HB.out | apply qx | apply qv | apply qw) | exact HB.out)) hb); clear hb hbox hg) | ((with_reducible refine gate_dst (N := 3) rfl ?_); refine box_event ?hg (N := 3) ?hd (cs := #[.bool a1_0, .slice A1_1 l1_1.length c1_1]) (t := 34) ?hr ?_; (case hd => rfl); (case hg => rfl); (case hr => go_simp <;> rfl); intro gb298 hg w43 hbox hb; have BK298 := Aside0.mk (hbox); have GW298 := qg hg (by repeat (first | (with_reducible first | exact HB.out | apply qx | apply qv | apply qw | refine below_set ?_ GE297.out) | exact HB.out)); have GE298 := GW298; replace HB := Aside0.mk (below_step (by repeat (first | (with_reducible first | exact HB.out | apply qx | apply qv | apply qw | refine below_set ?_ GE297.out) | exact HB.out)) hb); have NB297_298 := qn BK297 hg; have NB298_297 := qm BK297 hg; replace BK297 := qb BK297 hb; clear hb hbox hg) | ((with_reducible refine gate_dst (N := 4) rfl ?_); refine box_event ?hg (N := 4) ?hd (cs := #[.bool false, .slice none 0 0]) (t := 34) ?hr ?_; (case hd => rfl); (case hg => rfl); (case hr => go_simp <;> rfl); intro gb299 hg w44 hbox hb; have BK299 := Aside0.mk (hbox); have GW299 := qg hg (by repeat with_reducible first|exact HB.out|apply qx|apply qv|apply qw|refine qs ?_ (by assumption)); have GE299 := GW299; replace HB := Aside0.mk (below_step (by repeat with_reducible first|exact HB.out|apply qx|apply qv|apply qw|refine qs ?_ (by assumption)) hb); have NB297_299 := qn BK297 hg; have NB299_297 := qm BK297 hg; replace BK297 := qb BK297 hb; have NB298_299 := qn BK298 hg; have NB299_298 := qm BK298 hg; replace BK298 := qb BK298 hb; clear hb hbox hg; have hnb45 := NB297_298.out; have hnc45 := NB298_297.out; have hnb46 := NB297_299.out; have hnc46 := NB299_297.out; have hcz47_0 : w44.cell? ⟨gb297, 0, none⟩ = some (.bool a0_0) := qc BK297 0; have hcz47_1 : w44.cell? ⟨gb297, 1, none⟩ = some (.slice A0_1 l0_1.length c0_1) := qc BK297 1; have hfz47_0 := blk_frozen BK297.out 0; have hfz47_1 := blk_frozen BK297.out 1; have hnb48 := NB298_299.out; have hnc48 := NB299_298.out; have hcz49_0 : w44.cell? ⟨gb298, 0, none⟩ = some (.bool a1_0) := qc BK298 0; have hcz49_1 : w44.cell? ⟨gb298, 1, none⟩ = some (.slice A1_1 l1_1.length c1_1) := qc BK298 1; have hfz49_0 := blk_frozen BK298.out 0; have hfz49_1 := blk_frozen BK298.out 1) | ((with_reducible refine gate_callee (f := 77) rfl ?_); refine goesL_ (some 22) rfl rfl Tryd.func77 (by kernel_rfl) rfl #[.slice A0_1 l0_1.length c0_1, .slice A1_1 l1_1.length c1_1] rfl (by (try simp only [zM, zO, zP]); first|done|rfl) ?_; (with_reducible refine (moraineref02_less.calls k _ _ l0_1 _ _ l1_1 false _ ?side1 ?side2 ?side3 ?side4 A21.out).mono ?_); (case side1 => exact qC HR0_1 HB); (case side2 => exact HC0_1.out); (case side3 => exact qC HR1_1 HB); (case side4 => exact HC1_1.out); rintro e w' ⟨rfl, ⟨nd, rfl⟩⟩; refine ⟨_, rfl, ?_⟩; (try (rw [drewN_self w44]; generalize hq_ : World.drewN w44 _ = w44; have n0_ : Aside0 (w44.heap[gb297]? = some (.cells #[.bool a0_0, .slice A0_1 l0_1.length c0_1] 34 (0, 0))) := ⟨by rw [← hq_]; exact (by (with_reducible repeat first|refine qN ?_ _|refine qW ?_|refine qA ?_ _); exact BK297.out)⟩; have n1_ : Aside0 (w44.heap[gb298]? = some (.cells #[.bool a1_0, .slice A1_1 l1_1.length c1_1] 34 (0, 0))) := ⟨by rw [← hq_]; exact (by (with_reducible repeat first|refine qN ?_ _|refine qW ?_|refine qA ?_ _); exact BK298.out)⟩; have n2_ : Aside0 (w44.heap[gb299]? = some (.cells #[.bool false, .slice none 0 0] 34 (0, 0))) := ⟨by rw [← hq_]; exact (by (with_reducible repeat first|refine qN ?_ _|refine qW ?_|refine qA ?_ _); exact BK299.out)⟩; have n3_ : Aside0 (Below w.heap.size w w44) := ⟨by rw [← hq_]; exact (by repeat with_reducible first|exact HB.out|apply qx|apply qv|apply qw|refine qs ?_ (by assumption))⟩; clear BK297 BK298 BK299 HB hq_; have BK297 := n0_; have BK298 := n1_; have BK299 := n2_; have HB := n3_; clear n0_ n1_ n2_ n3_))))
   replace BK297 := Aside0.mk (blk_drew BK297.out)
   replace BK298 := Aside0.mk (blk_drew BK298.out)
   replace BK299 := Aside0.mk (blk_drew BK299.out)
   replace HB := Aside0.mk (below_drew1 HB.out)
   refine start_ (n := 9) (S := fun w' => w'.cell? ⟨gb297, 0, none⟩ = some (.bool a0_0) ∧ w'.cell? ⟨gb297, 1, none⟩ = some (.slice A0_1 l0_1.length c0_1) ∧ w'.cell? ⟨gb298, 0, none⟩ = some (.bool a1_0) ∧ w'.cell? ⟨gb298, 1, none⟩ = some (.slice A1_1 l1_1.length c1_1)) (ds := []) #[false, false, false, false, false, false, false, false, false] (by kernel_rfl) rfl rfl ⟨qc BK297 0, qc BK297 1, qc BK298 0, qc BK298 1⟩ (fun hHeld => ?_); refine with_tabW moraineref02_Add.tab5 moraineref02_Add.bits5 (fun HT_ HW_ => ?_)
   generalize w44.drew = w50 at BK297 BK298 BK299 HB hHeld ⊢
   refine pure_ (i := 0) (N := some 31) (v := ?_) (a' := ?_) #[true, false, false, false, false, false, false, false, false] rfl rfl (any_of HT_.out (by kernel_rfl)) (fun _ _ _ h => h) (Or.inl ⟨by rfl, ?_⟩) ?_ ?_
   rotate_left
   ·intro w'
    go_simp
    with_reducible rfl
   rotate_left
   ·simp only [Act.put, zA, zB, zC, i64_w, i32_w]
    rfl
   refine pure_ (i := 2) (N := some 33) (v := ?_) (a' := ?_) #[true, false, true, false, false, false, false, false, false] rfl rfl (any_of HT_.out (by kernel_rfl)) (fun _ _ _ h => h) (Or.inl ⟨by rfl, ?_⟩) ?_ ?_
   rotate_left
   ·intro w'
    go_simp
    with_reducible rfl
   rotate_left
   ·simp only [Act.put, zA, zB, zC, i64_w, i32_w]
    rfl
   refine pure_ (i := 4) (N := some 35) (v := ?_) (a' := ?_) #[true, false, true, false, true, false, false, false, false] rfl rfl (any_of HT_.out (by kernel_rfl)) (fun _ _ _ h => h) (Or.inl ⟨by rfl, ?_⟩) ?_ ?_
   rotate_left
   ·intro w'
    go_simp
    with_reducible rfl
   rotate_left
   ·simp only [Act.put, zA, zB, zC, i64_w, i32_w]
    rfl
   refine take_ (i := 1) (N := some 32) (v := ?_) (a' := ?_) #[true, true, true, false, true, false, false, false, false] rfl rfl (take_ofW HT_.out HW_.out (by kernel_rfl)) (fun _ _ _ h => h) (Or.inl ⟨by rfl, ?_⟩) hHeld ?_ ?_
   rotate_left
   ·rintro w' ⟨s0, s1, s2, s3⟩
    go_simp
    with_reducible rfl
   rotate_left
   ·simp only [Act.put, zA, zB, zC, i64_w, i32_w]
    rfl
   refine take_ (i := 3) (N := some 34) (v := ?_) (a' := ?_) #[true, true, true, true, true, false, false, false, false] rfl rfl (take_ofW HT_.out HW_.out (by kernel_rfl)) (fun _ _ _ h => h) (Or.inl ⟨by rfl, ?_⟩) hHeld ?_ ?_
   rotate_left
   ·rintro w' ⟨s0, s1, s2, s3⟩
    go_simp
    with_reducible rfl
   rotate_left
   ·simp only [Act.put, zA, zB, zC, i64_w, i32_w]
    rfl
   refine take_ (i := 5) (N := some 36) (v := ?_) (a' := ?_) #[true, true, true, true, true, true, false, false, false] rfl rfl (take_ofW HT_.out HW_.out (by kernel_rfl)) (fun _ _ _ h => h) (Or.inl ⟨by rfl, ?_⟩) hHeld ?_ ?_
   rotate_left
   ·rintro w' ⟨s0, s1, s2, s3⟩
    go_simp
    with_reducible rfl
   rotate_left
   ·simp only [Act.put, zA, zB, zC, i64_w, i32_w]
    rfl
   refine one_ (i := 6) (N := some 37) #[true, true, true, true, true, true, true, false, false] rfl rfl (one_of HT_.out (by kernel_rfl)) (by decide) (fun K hK => ?_)
   refine goes_ Tryd.func78 (by kernel_rfl) rfl #[.slice A0_1 l0_1.length c0_1, .slice A1_1 l1_1.length c1_1] (by rfl) rfl rfl (by (try simp only [zM, zO, zP]); first|done|rfl) ?_
   with_reducible refine (moraineref02_minus.calls k _ _ l0_1 _ _ l1_1 t315 _ ?side1 ?side2 ?side3 ?side4 A40.out).mono ?_
   (case side1 => exact qC HR0_1 HB)
   (case side2 => exact HC0_1.out)
   (case side3 => exact qC HR1_1 HB)
   (case side4 => exact HC1_1.out)
   rintro e w51 ⟨v316, rfl, ho0, hb⟩
   refine ⟨_, rfl, ?_⟩
   have HO317 := Aside0.mk (Kd.R_lower ho0 (below_size (by repeat with_reducible first|exact HB.out|apply qx|apply qv|apply qw|refine qs ?_ (by assumption))))
   replace BK297 := qb BK297 hb
   replace BK298 := qb BK298 hb
   replace BK299 := qb BK299 hb
   replace HB := Aside0.mk (below_step (by repeat with_reducible first|exact HB.out|apply qx|apply qv|apply qw|refine qs ?_ (by assumption)) hb)
   (try clear hb)
   (try clear hb2)
   (try clear hk)
   (try clear hi)
   (try clear ho0)
   obtain ⟨Ao52, co52, eo52⟩ := Kd.R_slice HO317.out
   (first | subst eo52 | (injection eo52 with f1_ f2_ f3_; have f4_ := f1_.symm; have f5_ := f3_.symm; clear f1_ f2_ f3_; subst f4_; subst f5_))
   refine hK.out _ _ ⟨qc BK297 0, qc BK297 1, qc BK298 0, qc BK298 1⟩ (fun hHeld => ?_)
   clear hK K
   refine norm_ (a' := ?_) ?_ ?_
   rotate_left
   ·show Act.put _ (some 37) _ = _
    simp only [Act.put, zA, zB, zC, i64_w, i32_w]
    rfl
   refine one_ (i := 7) (N := some 38) #[true, true, true, true, true, true, true, true, false] rfl rfl (one_of HT_.out (by kernel_rfl)) (by decide) (fun K hK => ?_)
   refine goes_ Tryd.func62 (by kernel_rfl) rfl #[.bool a0_0, .slice Ao52 t315.length co52] (by rfl) rfl rfl (by (try simp only [zM, zO, zP]); first|done|rfl) ?_
   with_reducible refine (moraineref02_value.calls k a0_0 (fun k_ => some k_ = (.slice Ao52 t315.length co52 : Value).ownBlock) (.slice Ao52 t315.length co52) t315 t318 t319 w _ ?side1 ?side2 A41.out).mono ?_
   (case side1 => repeat (first | (with_reducible first | exact HB.out | apply qx | apply qv | apply qw | refine qs ?_ (by assumption)) | exact HB.out))
   (case side2 => exact Kd.R_tight rfl HO317.out)
   rintro e w53 ⟨v320, rfl, ho0, hb, hkp⟩
   refine ⟨_, rfl, ?_⟩
   have n0_ := Aside0.mk (blk_kept (by (with_reducible repeat first|refine qN ?_ _|refine qW ?_|refine qA ?_ _); exact BK297.out) hkp (fun hs_ => (fun e_ => (Kd.R_ne HO317.out BK297.out (by decide)) e_) hs_))
   have n1_ := Aside0.mk (blk_kept (by (with_reducible repeat first|refine qN ?_ _|refine qW ?_|refine qA ?_ _); exact BK298.out) hkp (fun hs_ => (fun e_ => (Kd.R_ne HO317.out BK298.out (by decide)) e_) hs_))
   have n2_ := Aside0.mk (blk_kept (by (with_reducible repeat first|refine qN ?_ _|refine qW ?_|refine qA ?_ _); exact BK299.out) hkp (fun hs_ => (fun e_ => (Kd.R_ne HO317.out BK299.out (by decide)) e_) hs_))
   have n3_ := Aside0.mk (Kd.R_mono (ok' := fun k_ => True) ho0 (fun k_ hk_ => trivial))
   have n4_ := Aside0.mk (hb)
   clear BK297
   clear BK298
   clear BK299
   clear HB
   clear HO317
   have BK297 := n0_
   have BK298 := n1_
   have BK299 := n2_
   have HO321 := n3_
   have HB := n4_
   clear n0_ n1_ n2_ n3_ n4_
   (try clear hb)
   (try clear hkp)
   (try clear ho0)
   obtain ⟨Ao55, co55, eo55⟩ := Kd.R_slice HO321.out
   (first | subst eo55 | (injection eo55 with f1_ f2_ f3_; have f4_ := f1_.symm; have f5_ := f3_.symm; clear f1_ f2_ f3_; subst f4_; subst f5_))
   refine hK.out _ _ ⟨qc BK297 0, qc BK297 1, qc BK298 0, qc BK298 1⟩ (fun hHeld => ?_)
   clear hK K
   refine norm_ (a' := ?_) ?_ ?_
   rotate_left
   ·show Act.put _ (some 38) _ = _
    simp only [Act.put, zA, zB, zC, i64_w, i32_w]
    rfl
   refine one_ (i := 8) (N := none) #[true, true, true, true, true, true, true, true, true] rfl rfl (one_of HT_.out (by kernel_rfl)) (by decide) (fun K hK => ?_)
   have hs54 : w53.cell? ⟨gb299, 0, none⟩ = some (.bool false) := qc BK299 0
   have hfs54 := blk_frozen BK299.out 0
   have hns54_0 := NB297_299.out
   have hns54_1 := NB298_299.out
   have hms54_0 := NB299_297.out
   have hms54_1 := NB299_298.out
   have hs56 : w53.cell? ⟨gb299, 1, none⟩ = some (.slice none 0 0) := qc BK299 1
   have hfs56 := blk_frozen BK299.out 1
   have hns56_0 := NB297_299.out
   have hns56_1 := NB298_299.out
   have hms56_0 := NB299_297.out
   have hms56_1 := NB299_298.out
   refine skip_ (w1 := ?_) (by rfl) rfl ?_ ?_
   rotate_left
   ·go_simp
    rfl
   refine hK.out _ _ ⟨((cell_far (p := ⟨gb299, _, none⟩) NB297_299.out _).trans (((cell_far (p := ⟨gb299, _, none⟩) NB297_299.out _).trans (hHeld.1)))), ((cell_far (p := ⟨gb299, _, none⟩) NB297_299.out _).trans (((cell_far (p := ⟨gb299, _, none⟩) NB297_299.out _).trans (hHeld.2.1)))), ((cell_far (p := ⟨gb299, _, none⟩) NB298_299.out _).trans (((cell_far (p := ⟨gb299, _, none⟩) NB298_299.out _).trans (hHeld.2.2.1)))), ((cell_far (p := ⟨gb299, _, none⟩) NB298_299.out _).trans (((cell_far (p := ⟨gb299, _, none⟩) NB298_299.out _).trans (hHeld.2.2.2))))⟩ (fun hHeld => ?_)
   clear hK K
   refine done_ (done_of HT_.out (by kernel_rfl)) ?_
   try go_wp2
   refine bodyPost_ret (results_cell_row rfl _ _ gb299 34 #[.bool t318, .slice Ao55 t319.length co55] (0, 0) _ rfl (by (with_reducible repeat first|refine qN ?_ _|refine qW ?_|refine qA ?_ _); refine blk_put (cs := #[.bool t318, .slice none 0 0]) ?_ 1 _ rfl; (with_reducible repeat first|refine qN ?_ _|refine qW ?_|refine qA ?_ _); refine blk_put (cs := #[.bool false, .slice none 0 0]) ?_ 0 _ rfl; (with_reducible repeat first|refine qN ?_ _|refine qW ?_|refine qA ?_ _); exact BK299.out) Tryd.underlying34 rfl (by kernel_rfl)) rfl ?_
   exact ⟨_, by first | rfl | (simp [errW_none, errW_some] <;> rfl) | (simp [*, errW_none, errW_some] <;> rfl), by (with_reducible repeat first|apply Kd.R_alloc|apply Kd.R_drewN|apply Kd.R_drew); exact Kd.R_mono (qz HO321 BK299 (by decide) (.bool t318) (.slice Ao55 t319.length co55)) (fun _ hk => trivial), by repeat (first | (with_reducible first | exact HB.out | apply qx | apply qv | apply qw | refine qs ?_ (by assumption)) | exact HB.out)⟩
def moraineref02_Turn.f (k : Nat) (a0_0 : Bool) (l0_1 : List Int) : Option (Bool × List Int) := (moraineref02_value.f k (!a0_0) l0_1).bind fun bt324 => (some (bt324.1, bt324.2))
set_option maxHeartbeats 8000000 in
set_option maxRecDepth 100000 in
theorem moraineref02_Turn.calls (k : Nat) (a0_0 : Bool) (P0_1_ : Nat → Prop) (u9000_ : Value) (l0_1 : List Int) (r1 : Bool) (r2 : List Int) (w0 w : World) (hB : Below w0.heap.size w0 w) (ho0_1 : Kd.R (Kd.int .u8) 5 w w0.heap.size P0_1_ u9000_ l0_1) (h : moraineref02_Turn.f k a0_0 l0_1 = some (r1, r2)) :
  Calls Tryd.prog 46 #[.agg #[.bool a0_0, u9000_]] w fun e w' => ∃ v1_ : Value, e = .returned (.agg #[.bool r1, v1_]) ∧ Kd.R (Kd.int .u8) 5 w' w0.heap.size (fun k_ => (P0_1_ k_ ∨ w.heap.size ≤ k_)) v1_ r2 ∧ Below w0.heap.size w0 w' ∧ Kept w w' (fun k_ => P0_1_ k_) := by
 have hu34 := Tryd.underlying34
 have HO0_1 := Aside0.mk (show Kd.R (Kd.int .u8) 5 w w0.heap.size (fun k_ => (P0_1_ k_ ∨ w.heap.size ≤ k_)) u9000_ l0_1 from Kd.R_mono ho0_1 (fun k_ hk => (.inl hk)))
 have HK := Aside0.mk (Kept.refl w (fun k_ => P0_1_ k_))
 have HW0 := Aside0.mk hB.size
 have HB := Aside0.mk hB
 clear hB
 have H : ((moraineref02_value.f k (!a0_0) l0_1).bind fun bt324 => (some (bt324.1, bt324.2))) = some (r1, r2) := h
 clear h
 replace H := Option.bind_eq_some_iff.mp H
 obtain ⟨⟨t324, t325⟩, A20, H⟩ := H
 replace H : (some (t324, t325)) = some (r1, r2) := H
 have A2 := Aside0.mk A20
 clear A20
 simp only [Option.some.injEq, Prod.mk.injEq] at H
 obtain ⟨rfl, rfl⟩ := H
 obtain ⟨Ao3, co3, eo3⟩ := Kd.R_slice HO0_1.out
 subst eo3
 go_enter Tryd.func46, Tryd.ntmps46
 go_wp2_with (first | ((with_reducible refine gate_dst (N := 1) rfl ?_); refine box_event ?hg (N := 1) ?hd (cs := #[.bool a0_0, .slice Ao3 l0_1.length co3]) (t := 34) ?hr ?_; (case hd => rfl); (case hg => rfl); (case hr => go_simp <;> rfl); intro gb322 hg w4 hbox hb; have n0_ := qr HO0_1 hb; have n1_ := Aside0.mk (Kept.below (S := (fun k_ => P0_1_ k_)) (by repeat (first | (with_reducible first | exact HK.out | apply Kept.alloc | apply Kept.drewN | apply Kept.drew) | exact HK.out)) hb); have n2_ := Aside0.mk (below_step (by repeat (first | (with_reducible first | exact HB.out | apply qx | apply qv | apply qw) | exact HB.out)) hb); have n3_ := Aside0.mk (hbox); have n4_ := Aside0.mk ((by rw [hg]; exact (by first | exact HK.out.1 | exact (show Kept w _ (fun k_ => P0_1_ k_) from by repeat (first | (with_reducible first | exact HK.out | apply Kept.alloc | apply Kept.drewN | apply Kept.drew) | exact HK.out)).1) : w.heap.size ≤ gb322)); have n5_ := Aside0.mk ((by rw [hg]; exact (below_size (by repeat (first | (with_reducible first | exact HB.out | apply qx | apply qv | apply qw) | exact HB.out))) : w0.heap.size ≤ gb322)); clear HO0_1; clear HK; clear HB; have HO0_1 := n0_; have HK := n1_; have HB := n2_; have BK322 := n3_; have GW322 := n4_; have GE322 := n5_; clear n0_ n1_ n2_ n3_ n4_ n5_; clear hb hbox hg) | ((with_reducible refine gate_dst (N := 2) rfl ?_); refine box_event ?hg (N := 2) ?hd (cs := #[.bool false, .slice none 0 0]) (t := 34) ?hr ?_; (case hd => rfl); (case hg => rfl); (case hr => go_simp <;> rfl); intro gb323 hg w5 hbox hb; have n0_ := qr HO0_1 hb; have n1_ := qb BK322 hb; have n2_ := Aside0.mk (Kept.below (S := (fun k_ => P0_1_ k_)) (by repeat (first | (with_reducible first | exact HK.out | apply Kept.alloc | apply Kept.drewN | apply Kept.drew | refine Kept.setCell ?_ (.inr GW322.out) _) | exact HK.out)) hb); have n3_ := Aside0.mk (below_step (by repeat (first | (with_reducible first | exact HB.out | apply qx | apply qv | apply qw | refine below_set ?_ GE322.out) | exact HB.out)) hb); have n4_ := Aside0.mk (hbox); have n5_ := Aside0.mk ((by rw [hg]; exact (by first | exact HK.out.1 | exact (show Kept w _ (fun k_ => P0_1_ k_) from by repeat (first | (with_reducible first | exact HK.out | apply Kept.alloc | apply Kept.drewN | apply Kept.drew | refine Kept.setCell ?_ (.inr GW322.out) _) | exact HK.out)).1) : w.heap.size ≤ gb323)); have n6_ := Aside0.mk ((by rw [hg]; exact (below_size (by repeat (first | (with_reducible first | exact HB.out | apply qx | apply qv | apply qw | refine below_set ?_ GE322.out) | exact HB.out))) : w0.heap.size ≤ gb323)); have n7_ := qn BK322 hg; have n8_ := qm BK322 hg; clear HO0_1; clear BK322; clear HK; clear HB; have HO0_1 := n0_; have BK322 := n1_; have HK := n2_; have HB := n3_; have BK323 := n4_; have GW323 := n5_; have GE323 := n6_; have NB322_323 := n7_; have NB323_322 := n8_; clear n0_ n1_ n2_ n3_ n4_ n5_ n6_ n7_ n8_; clear hb hbox hg; have hnb6 := NB322_323.out; have hnc6 := NB323_322.out; have hcz7_0 : w5.cell? ⟨gb322, 0, none⟩ = some (.bool a0_0) := qc BK322 0; have hcz7_1 : w5.cell? ⟨gb322, 1, none⟩ = some (.slice Ao3 l0_1.length co3) := qc BK322 1; have hfz7_0 := blk_frozen BK322.out 0; have hfz7_1 := blk_frozen BK322.out 1) | ((with_reducible refine gate_callee (f := 62) rfl ?_); refine goesL_ (some 8) rfl rfl Tryd.func62 (by kernel_rfl) rfl #[.bool (!a0_0), .slice Ao3 l0_1.length co3] rfl (by (try simp only [zM, zO, zP]); first|done|rfl) ?_; (with_reducible refine (moraineref02_value.calls k (!a0_0) (fun k_ => some k_ = (.slice Ao3 l0_1.length co3 : Value).ownBlock) (.slice Ao3 l0_1.length co3) l0_1 t324 t325 w0 _ ?side1 ?side2 A2.out).mono ?_); (case side1 => repeat (first | (with_reducible first | exact HB.out | apply qx | apply qv | apply qw | refine qs ?_ (by assumption)) | exact HB.out)); (case side2 => exact Kd.R_tight rfl HO0_1.out); rintro e w8 ⟨v326, rfl, ho0, hb, hkp⟩; refine ⟨_, rfl, ?_⟩; have n0_ := Aside0.mk (blk_kept (by (with_reducible repeat first|refine qN ?_ _|refine qW ?_|refine qA ?_ _); exact BK322.out) hkp (fun hs_ => (fun e_ => (Kd.R_ne HO0_1.out BK322.out (by decide)) e_) hs_)); have n1_ := Aside0.mk (blk_kept (by (with_reducible repeat first|refine qN ?_ _|refine qW ?_|refine qA ?_ _); exact BK323.out) hkp (fun hs_ => (fun e_ => (Kd.R_ne HO0_1.out BK323.out (by decide)) e_) hs_)); have n2_ := Aside0.mk (Kd.R_mono (ok' := fun k_ => (P0_1_ k_ ∨ w.heap.size ≤ k_)) ho0 (fun k_ hk_ => Or.elim hk_ (fun hs_ => (HO0_1.out.1 k_ (hs_).symm)) (fun hn_ => (.inr (Nat.le_trans (by first | exact HK.out.1 | exact (show Kept w _ (fun k_ => P0_1_ k_) from by repeat (first | (with_reducible first | exact HK.out | apply Kept.alloc | apply Kept.drewN | apply Kept.drew | refine Kept.setCell ?_ (.inr GW322.out) _ | refine Kept.setCell ?_ (.inr GW323.out) _) | exact HK.out)).1) hn_))))); have n3_ := Aside0.mk (Kept.then_ (S := (fun k_ => P0_1_ k_)) (by repeat (first | (with_reducible first | exact HK.out | apply Kept.alloc | apply Kept.drewN | apply Kept.drew | refine Kept.setCell ?_ (.inr GW322.out) _ | refine Kept.setCell ?_ (.inr GW323.out) _) | exact HK.out)) hkp (fun k_ hs_ => (fun e_ => (HO0_1.out.1 k_ e_.symm)) hs_)); have n4_ := Aside0.mk (hb); clear BK322; clear BK323; clear HK; clear HB; clear HO0_1; have BK322 := n0_; have BK323 := n1_; have HO327 := n2_; have HK := n3_; have HB := n4_; clear n0_ n1_ n2_ n3_ n4_; (try clear hb); (try clear hkp); (try clear ho0); have hcz9_0 : w8.cell? ⟨gb323, 0, none⟩ = some (.bool false) := qc BK323 0; have hcz9_1 : w8.cell? ⟨gb323, 1, none⟩ = some (.slice none 0 0) := qc BK323 1; have hfz9_0 := blk_frozen BK323.out 0; have hfz9_1 := blk_frozen BK323.out 1; obtain ⟨Ao10, co10, eo10⟩ := Kd.R_slice HO327.out; subst eo10))
 refine bodyPost_ret (results_cell_row rfl _ _ gb323 34 #[.bool t324, .slice Ao10 t325.length co10] (0, 0) _ rfl (by (with_reducible repeat first|refine qN ?_ _|refine qW ?_|refine qA ?_ _); refine blk_put (cs := #[.bool t324, .slice none 0 0]) ?_ 1 _ rfl; (with_reducible repeat first|refine qN ?_ _|refine qW ?_|refine qA ?_ _); refine blk_put (cs := #[.bool false, .slice none 0 0]) ?_ 0 _ rfl; (with_reducible repeat first|refine qN ?_ _|refine qW ?_|refine qA ?_ _); exact BK323.out) Tryd.underlying34 rfl (by kernel_rfl)) rfl ?_
 exact ⟨_, by first | rfl | (simp [errW_none, errW_some] <;> rfl) | (simp [*, errW_none, errW_some] <;> rfl), by (with_reducible repeat first|apply Kd.R_alloc|apply Kd.R_drewN|apply Kd.R_drew); exact Kd.R_mono (qz HO327 BK323 (by decide) (.bool t324) (.slice Ao10 t325.length co10)) (fun _ hk => hk.1), by repeat (first | (with_reducible first | exact HB.out | apply qx | apply qv | apply qw | refine qs ?_ (by assumption)) | exact HB.out), by repeat (first | (with_reducible first | exact HK.out | apply Kept.alloc | apply Kept.drewN | apply Kept.drew | refine Kept.setCell ?_ (.inr GW322.out) _ | refine Kept.setCell ?_ (.inr GW323.out) _) | exact HK.out)⟩
def morainelaw02_is.f (k : Nat) (a0_0 : Bool) (l0_1 : List Int) (a1 : Int) (a2_0 : Bool) (l2_1 : List Int) : Option (Bool) := (moraineref02_Num.f k a2_0 l2_1).bind fun bt360 => (if a1 = bt360.2.2 then ((moraineref02_Same.f k a0_0 l0_1 bt360.1 bt360.2.1).bind fun t366 => (some t366)) else (some false))
set_option maxHeartbeats 8000000 in
set_option maxRecDepth 100000 in
theorem morainelaw02_is.calls (k : Nat) (a0_0 : Bool) (A0_1 : Option Addr) (c0_1 : Nat) (l0_1 : List Int) (a1 : Int) (a2_0 : Bool) (A2_1 : Option Addr) (c2_1 : Nat) (l2_1 : List Int) (r : Bool) (w : World) (hr0_1 : Kd.C (Kd.int .u32) w A0_1 l0_1.length l0_1) (hc0_1 : l0_1.length ≤ c0_1) (hr2_1 : Kd.C (Kd.int .u8) w A2_1 l2_1.length l2_1) (hc2_1 : l2_1.length ≤ c2_1) (h : morainelaw02_is.f k a0_0 l0_1 a1 a2_0 l2_1 = some r) :
  Calls Tryd.prog 27 #[.agg #[.bool a0_0, .slice A0_1 l0_1.length c0_1], .int .i64 a1, .agg #[.bool a2_0, .slice A2_1 l2_1.length c2_1]] w fun e w' => e = .returned (.bool r) ∧ Below w.heap.size w w' := by
 have hu25 := Tryd.underlying25
 have hu34 := Tryd.underlying34
 have HR0_1 := Aside0.mk hr0_1
 have HC0_1 := Aside0.mk hc0_1
 clear hr0_1 hc0_1
 have HR2_1 := Aside0.mk hr2_1
 have HC2_1 := Aside0.mk hc2_1
 clear hr2_1 hc2_1
 have HB := Aside0.mk (Below.refl w.heap.size w)
 have H : ((moraineref02_Num.f k a2_0 l2_1).bind fun bt360 => (if a1 = bt360.2.2 then ((moraineref02_Same.f k a0_0 l0_1 bt360.1 bt360.2.1).bind fun t366 => (some t366)) else (some false))) = some r := h
 clear h
 replace H := Option.bind_eq_some_iff.mp H
 obtain ⟨⟨t360, t361, t364⟩, A40, H⟩ := H
 replace H : (if a1 = t364 then ((moraineref02_Same.f k a0_0 l0_1 t360 t361).bind fun t366 => (some t366)) else (some false)) = some r := H
 have A4 := Aside0.mk A40
 clear A40
 by_cases c5 : a1 = t364
 ·rw [if_pos c5] at H
  have c5b0 : (a1 == t364) = true := beq_iff_eq.mpr c5
  have c5b1 : (a1 != t364) = false := bne_eq_false_iff_eq.mpr c5
  clear c5
  replace H := Option.bind_eq_some_iff.mp H
  obtain ⟨t366, A60, H⟩ := H
  replace H : (some t366) = some r := H
  have A6 := Aside0.mk A60
  clear A60
  obtain rfl := Option.some.inj H
  go_enter Tryd.func27, Tryd.ntmps27
  go_wp2_with (first | ((with_reducible refine gate_dst (N := 3) rfl ?_); refine box_event ?hg (N := 3) ?hd (cs := #[.bool a0_0, .slice A0_1 l0_1.length c0_1]) (t := 25) ?hr ?_; (case hd => rfl); (case hg => rfl); (case hr => go_simp <;> rfl); intro gb358 hg w7 hbox hb; have BK358 := Aside0.mk (hbox); have GW358 := qg hg (by repeat (first | (with_reducible first | exact HB.out | apply qx | apply qv | apply qw) | exact HB.out)); have GE358 := GW358; replace HB := Aside0.mk (below_step (by repeat (first | (with_reducible first | exact HB.out | apply qx | apply qv | apply qw) | exact HB.out)) hb); clear hb hbox hg) | ((with_reducible refine gate_dst (N := 5) rfl ?_); refine box_event ?hg (N := 5) ?hd (cs := #[.bool a2_0, .slice A2_1 l2_1.length c2_1]) (t := 34) ?hr ?_; (case hd => rfl); (case hg => rfl); (case hr => go_simp <;> rfl); intro gb359 hg w8 hbox hb; have BK359 := Aside0.mk (hbox); have GW359 := qg hg (by repeat (first | (with_reducible first | exact HB.out | apply qx | apply qv | apply qw | refine below_set ?_ GE358.out) | exact HB.out)); have GE359 := GW359; replace HB := Aside0.mk (below_step (by repeat (first | (with_reducible first | exact HB.out | apply qx | apply qv | apply qw | refine below_set ?_ GE358.out) | exact HB.out)) hb); have NB358_359 := qn BK358 hg; have NB359_358 := qm BK358 hg; replace BK358 := qb BK358 hb; clear hb hbox hg; have hnb9 := NB359_358.out; have hnc9 := NB358_359.out; have hcz10_0 : w8.cell? ⟨gb359, 0, none⟩ = some (.bool a2_0) := qc BK359 0; have hcz10_1 : w8.cell? ⟨gb359, 1, none⟩ = some (.slice A2_1 l2_1.length c2_1) := qc BK359 1; have hfz10_0 := blk_frozen BK359.out 0; have hfz10_1 := blk_frozen BK359.out 1) | ((with_reducible refine gate_callee (f := 52) rfl ?_); refine goesL_ (some 11) rfl rfl Tryd.func52 (by kernel_rfl) rfl #[.agg #[.bool a2_0, .slice A2_1 l2_1.length c2_1]] rfl (by (try simp only [zM, zO, zP]); first|done|rfl) ?_; (with_reducible refine (moraineref02_Num.calls k a2_0 _ _ l2_1 t360 t361 t364 _ ?side1 ?side2 A4.out).mono ?_); (case side1 => exact qC HR2_1 HB); (case side2 => exact HC2_1.out); rintro e w11 ⟨v362, rfl, ho0, hb⟩; refine ⟨_, rfl, ?_⟩; have HO363 := Aside0.mk (Kd.R_lower ho0 (below_size (by repeat with_reducible first|exact HB.out|apply qx|apply qv|apply qw|refine qs ?_ (by assumption)))); replace BK358 := qb BK358 hb; replace BK359 := qb BK359 hb; replace HB := Aside0.mk (below_step (by repeat with_reducible first|exact HB.out|apply qx|apply qv|apply qw|refine qs ?_ (by assumption)) hb); (try clear hb); (try clear hb2); (try clear hk); (try clear hi); (try clear ho0)) | ((with_reducible refine gate_dst (N := 7) rfl ?_); refine box_event ?hg (N := 7) ?hd (cs := #[.bool false, .slice none 0 0]) (t := 25) ?hr ?_; (case hd => rfl); (case hg => rfl); (case hr => go_simp <;> rfl); intro gb365 hg w12 hbox hb; replace HO363 := qr HO363 hb; have BK365 := Aside0.mk (hbox); have GW365 := qg hg (by repeat with_reducible first|exact HB.out|apply qx|apply qv|apply qw|refine qs ?_ (by assumption)); have GE365 := GW365; replace HB := Aside0.mk (below_step (by repeat with_reducible first|exact HB.out|apply qx|apply qv|apply qw|refine qs ?_ (by assumption)) hb); have NB358_365 := qn BK358 hg; have NB365_358 := qm BK358 hg; replace BK358 := qb BK358 hb; have NB359_365 := qn BK359 hg; have NB365_359 := qm BK359 hg; replace BK359 := qb BK359 hb; clear hb hbox hg; have hnb13 := NB365_358.out; have hnc13 := NB358_365.out; have hnb14 := NB365_359.out; have hnc14 := NB359_365.out; have hcz15_0 : w12.cell? ⟨gb365, 0, none⟩ = some (.bool false) := qc BK365 0; have hcz15_1 : w12.cell? ⟨gb365, 1, none⟩ = some (.slice none 0 0) := qc BK365 1; have hfz15_0 := blk_frozen BK365.out 0; have hfz15_1 := blk_frozen BK365.out 1; obtain ⟨Ao16, co16, eo16⟩ := Kd.R_slice HO363.out; subst eo16; have hcz17_0 : w12.cell? ⟨gb358, 0, none⟩ = some (.bool a0_0) := qc BK358 0; have hcz17_1 : w12.cell? ⟨gb358, 1, none⟩ = some (.slice A0_1 l0_1.length c0_1) := qc BK358 1; have hfz17_0 := blk_frozen BK358.out 0; have hfz17_1 := blk_frozen BK358.out 1) | (go_at_call 17; (with_reducible refine (moraineref02_Same.calls k a0_0 _ _ l0_1 t360 _ _ t361 t366 _ ?side1 ?side2 ?side3 ?side4 A6.out).mono ?_); (case side1 => exact Kd.C_below HR0_1.out (by repeat with_reducible first|exact HB.out|apply qx|apply qv|apply qw|refine qs ?_ (by assumption))); (case side2 => exact HC0_1.out); (case side3 => refine (Kd.R_reads' (e := 63) (base := w.heap.size) (ok := fun k_ => True) (n := t361.length) (c := co16) ?_).2.2; exact (by (with_reducible repeat first|apply Kd.R_alloc|apply Kd.R_drewN|apply Kd.R_drew); exact (Kd.R_mono (qz HO363 BK365 (by decide) (.bool t360) (.slice Ao16 t361.length co16)) (fun _ h_ => h_.1)))); (case side4 => exact (Kd.R_reads' HO363.out).2.1); rintro e w18 ⟨rfl, hb⟩; have n0_ := Aside0.mk (Kd.R_below (by (with_reducible repeat first|apply Kd.R_alloc|apply Kd.R_drewN|apply Kd.R_drew); exact (Kd.R_mono (qz HO363 BK365 (by decide) (.bool t360) (.slice Ao16 t361.length co16)) (fun _ h_ => h_.1))) hb); have n1_ := Aside0.mk (blk_below (g := gb358) (o := .cells #[.bool a0_0, .slice A0_1 l0_1.length c0_1] 25 (0, 0)) (by (with_reducible repeat first|refine qN ?_ _|refine qW ?_|refine qA ?_ _); refine qf ?_ NB358_365; (with_reducible repeat first|refine qN ?_ _|refine qW ?_|refine qA ?_ _); exact BK358.out) hb); have n2_ := Aside0.mk (blk_below (g := gb359) (o := .cells #[.bool a2_0, .slice A2_1 l2_1.length c2_1] 34 (0, 0)) (by (with_reducible repeat first|refine qN ?_ _|refine qW ?_|refine qA ?_ _); refine qf ?_ NB359_365; (with_reducible repeat first|refine qN ?_ _|refine qW ?_|refine qA ?_ _); exact BK359.out) hb); have n3_ := Aside0.mk (blk_below (g := gb365) (o := .cells #[.bool t360, .slice Ao16 t361.length co16] 25 (0, 0)) (by (with_reducible repeat first|refine qN ?_ _|refine qW ?_|refine qA ?_ _); refine blk_put (cs := #[.bool t360, .slice none 0 0]) ?_ 1 _ rfl; (with_reducible repeat first|refine qN ?_ _|refine qW ?_|refine qA ?_ _); refine blk_put (cs := #[.bool false, .slice none 0 0]) ?_ 0 _ rfl; (with_reducible repeat first|refine qN ?_ _|refine qW ?_|refine qA ?_ _); exact BK365.out) hb); have n4_ := Aside0.mk (below_step (by repeat with_reducible first|exact HB.out|apply qx|apply qv|apply qw|refine qs ?_ (by assumption)) hb); clear HO363; clear BK358; clear BK359; clear BK365; clear HB; have HO363 := n0_; have BK358 := n1_; have BK359 := n2_; have BK365 := n3_; have HB := n4_; clear n0_ n1_ n2_ n3_ n4_; (try clear hb); (try clear hb2); (try clear hk); (try clear hi)))
  go_ret
  exact ⟨by first | rfl | (simp [errW_none, errW_some] <;> rfl) | (simp [*, errW_none, errW_some] <;> rfl), by repeat (first | (with_reducible first | exact HB.out | apply qx | apply qv | apply qw | refine qs ?_ (by assumption)) | exact HB.out)⟩
 ·rw [if_neg c5] at H
  have c5b0 : (a1 == t364) = false := beq_eq_false_iff_ne.mpr c5
  have c5b1 : (a1 != t364) = true := bne_iff_ne.mpr c5
  obtain rfl := Option.some.inj H
  go_enter Tryd.func27, Tryd.ntmps27
  go_wp2_with (first | ((with_reducible refine gate_dst (N := 3) rfl ?_); refine box_event ?hg (N := 3) ?hd (cs := #[.bool a0_0, .slice A0_1 l0_1.length c0_1]) (t := 25) ?hr ?_; (case hd => rfl); (case hg => rfl); (case hr => go_simp <;> rfl); intro gb358 hg w19 hbox hb; have BK358 := Aside0.mk (hbox); have GW358 := qg hg (by repeat (first | (with_reducible first | exact HB.out | apply qx | apply qv | apply qw) | exact HB.out)); have GE358 := GW358; replace HB := Aside0.mk (below_step (by repeat (first | (with_reducible first | exact HB.out | apply qx | apply qv | apply qw) | exact HB.out)) hb); clear hb hbox hg) | ((with_reducible refine gate_dst (N := 5) rfl ?_); refine box_event ?hg (N := 5) ?hd (cs := #[.bool a2_0, .slice A2_1 l2_1.length c2_1]) (t := 34) ?hr ?_; (case hd => rfl); (case hg => rfl); (case hr => go_simp <;> rfl); intro gb359 hg w20 hbox hb; have BK359 := Aside0.mk (hbox); have GW359 := qg hg (by repeat (first | (with_reducible first | exact HB.out | apply qx | apply qv | apply qw | refine below_set ?_ GE358.out) | exact HB.out)); have GE359 := GW359; replace HB := Aside0.mk (below_step (by repeat (first | (with_reducible first | exact HB.out | apply qx | apply qv | apply qw | refine below_set ?_ GE358.out) | exact HB.out)) hb); have NB358_359 := qn BK358 hg; have NB359_358 := qm BK358 hg; replace BK358 := qb BK358 hb; clear hb hbox hg; have hnb21 := NB359_358.out; have hnc21 := NB358_359.out; have hcz22_0 : w20.cell? ⟨gb359, 0, none⟩ = some (.bool a2_0) := qc BK359 0; have hcz22_1 : w20.cell? ⟨gb359, 1, none⟩ = some (.slice A2_1 l2_1.length c2_1) := qc BK359 1; have hfz22_0 := blk_frozen BK359.out 0; have hfz22_1 := blk_frozen BK359.out 1) | ((with_reducible refine gate_callee (f := 52) rfl ?_); refine goesL_ (some 11) rfl rfl Tryd.func52 (by kernel_rfl) rfl #[.agg #[.bool a2_0, .slice A2_1 l2_1.length c2_1]] rfl (by (try simp only [zM, zO, zP]); first|done|rfl) ?_; (with_reducible refine (moraineref02_Num.calls k a2_0 _ _ l2_1 t360 t361 t364 _ ?side1 ?side2 A4.out).mono ?_); (case side1 => exact qC HR2_1 HB); (case side2 => exact HC2_1.out); rintro e w23 ⟨v362, rfl, ho0, hb⟩; refine ⟨_, rfl, ?_⟩; have HO363 := Aside0.mk (Kd.R_lower ho0 (below_size (by repeat with_reducible first|exact HB.out|apply qx|apply qv|apply qw|refine qs ?_ (by assumption)))); replace BK358 := qb BK358 hb; replace BK359 := qb BK359 hb; replace HB := Aside0.mk (below_step (by repeat with_reducible first|exact HB.out|apply qx|apply qv|apply qw|refine qs ?_ (by assumption)) hb); (try clear hb); (try clear hb2); (try clear hk); (try clear hi); (try clear ho0)) | ((with_reducible refine gate_dst (N := 7) rfl ?_); refine box_event ?hg (N := 7) ?hd (cs := #[.bool false, .slice none 0 0]) (t := 25) ?hr ?_; (case hd => rfl); (case hg => rfl); (case hr => go_simp <;> rfl); intro gb365 hg w24 hbox hb; replace HO363 := qr HO363 hb; have BK365 := Aside0.mk (hbox); have GW365 := qg hg (by repeat with_reducible first|exact HB.out|apply qx|apply qv|apply qw|refine qs ?_ (by assumption)); have GE365 := GW365; replace HB := Aside0.mk (below_step (by repeat with_reducible first|exact HB.out|apply qx|apply qv|apply qw|refine qs ?_ (by assumption)) hb); have NB358_365 := qn BK358 hg; have NB365_358 := qm BK358 hg; replace BK358 := qb BK358 hb; have NB359_365 := qn BK359 hg; have NB365_359 := qm BK359 hg; replace BK359 := qb BK359 hb; clear hb hbox hg; have hnb25 := NB365_358.out; have hnc25 := NB358_365.out; have hnb26 := NB365_359.out; have hnc26 := NB359_365.out; have hcz27_0 : w24.cell? ⟨gb365, 0, none⟩ = some (.bool false) := qc BK365 0; have hcz27_1 : w24.cell? ⟨gb365, 1, none⟩ = some (.slice none 0 0) := qc BK365 1; have hfz27_0 := blk_frozen BK365.out 0; have hfz27_1 := blk_frozen BK365.out 1; obtain ⟨Ao28, co28, eo28⟩ := Kd.R_slice HO363.out; subst eo28))
  go_ret
  exact ⟨by first | rfl | (simp [errW_none, errW_some] <;> rfl) | (simp [*, errW_none, errW_some] <;> rfl), by repeat (first | (with_reducible first | exact HB.out | apply qx | apply qv | apply qw | refine qs ?_ (by assumption)) | exact HB.out)⟩
def morainelaw02_long.f (a0_0 : Bool) (l0_1 : List Int) : Option (Bool) := some (decide ((l0_1.length : Int) > 60))
set_option maxHeartbeats 8000000 in
set_option maxRecDepth 100000 in
theorem morainelaw02_long.calls (a0_0 : Bool) (A0_1 : Option Addr) (c0_1 : Nat) (l0_1 : List Int) (r : Bool) (w : World) (hr0_1 : Kd.C (Kd.int .u32) w A0_1 l0_1.length l0_1) (hc0_1 : l0_1.length ≤ c0_1) (h : morainelaw02_long.f a0_0 l0_1 = some r) :
  Calls Tryd.prog 21 #[.agg #[.bool a0_0, .slice A0_1 l0_1.length c0_1]] w fun e w' => e = .returned (.bool r) ∧ Below w.heap.size w w' := by
 have hu25 := Tryd.underlying25
 have HR0_1 := Aside0.mk hr0_1
 have HC0_1 := Aside0.mk hc0_1
 clear hr0_1 hc0_1
 have HB := Aside0.mk (Below.refl w.heap.size w)
 have H : (some (decide ((l0_1.length : Int) > 60))) = some r := h
 clear h
 obtain rfl := Option.some.inj H
 go_enter Tryd.func21, Tryd.ntmps21
 go_wp2_with (first | ((with_reducible refine gate_dst (N := 1) rfl ?_); refine box_event ?hg (N := 1) ?hd (cs := #[.bool a0_0, .slice A0_1 l0_1.length c0_1]) (t := 25) ?hr ?_; (case hd => rfl); (case hg => rfl); (case hr => go_simp <;> rfl); intro gb367 hg w2 hbox hb; have BK367 := Aside0.mk (hbox); have GW367 := qg hg (by repeat (first | (with_reducible first | exact HB.out | apply qx | apply qv | apply qw) | exact HB.out)); have GE367 := GW367; replace HB := Aside0.mk (below_step (by repeat (first | (with_reducible first | exact HB.out | apply qx | apply qv | apply qw) | exact HB.out)) hb); clear hb hbox hg; have hcz3_0 : w2.cell? ⟨gb367, 0, none⟩ = some (.bool a0_0) := qc BK367 0; have hcz3_1 : w2.cell? ⟨gb367, 1, none⟩ = some (.slice A0_1 l0_1.length c0_1) := qc BK367 1; have hfz3_0 := blk_frozen BK367.out 0; have hfz3_1 := blk_frozen BK367.out 1))
 go_ret
 exact ⟨by first | rfl | (simp [errW_none, errW_some] <;> rfl) | (simp [*, errW_none, errW_some] <;> rfl), by repeat (first | (with_reducible first | exact HB.out | apply qx | apply qv | apply qw | refine below_set ?_ GE367.out) | exact HB.out)⟩
end Go.Proofs.YthhpnlbeniihhaaDoor.PRef
namespace Go.Proofs.YthhpnlbeniihhaaDoor.RefC
open Go.RowKit Go.Proofs.YthhpnlbeniihhaaDoorW.PrintWords Go.Proofs.YthhpnlbeniihhaaDoorW.PrintLast Go.Proofs.YthhpnlbeniihhaaDoorW.PrintMore Go.Proofs.YthhpnlbeniihhaaDoor.Limb Go.Proofs.YthhpnlbeniihhaaDoor.Bit Go.Proofs.YthhpnlbeniihhaaDoor.NumA Go.Proofs.YthhpnlbeniihhaaDoor.NumE Go.Proofs.YthhpnlbeniihhaaDoor.NumG Go.Proofs.YthhpnlbeniihhaaDoor.NumJ Go.Proofs.YthhpnlbeniihhaaDoor.RefA Go.Proofs.YthhpnlbeniihhaaDoor.RefB Go.Proofs.YthhpnlbeniihhaaDoor.PRef
set_option linter.unusedVariables false
set_option linter.unusedSimpArgs false
/-- A whole number's sign and bits. -/
def vb (z : Int) : Bool := decide (z < 0)
def vl (z : Int) : List Int := Bit.bits z.natAbs
theorem ok_vl (z : Int) : OkB (vl z) := ok_bits _
theorem tr_vl (z : Int) : tr (vl z) = vl z := by unfold vl; rw [tr_bits (ok_bits _), bv_bits]
theorem bv_vl (z : Int) : bv (vl z) = z.natAbs := bv_bits _
theorem v_mk (b : Bool) (n : Nat) (z : Int) (hn : z.natAbs = n) (hb : n ≠ 0 → b = decide (z < 0)) : (b && decide (n ≠ 0), Bit.bits n) = (vb z, vl z) := by
  subst hn
  unfold vb vl
  by_cases h : z.natAbs = 0
  · have : z = 0 := by omega
    subst this; simp
  · rw [hb h]; simp [h]
theorem Value_at (neg : Bool) (l : List Int) (ok : OkL l) (hl : l.length < 1099511627776) : Ev (fun k => moraineref02_Value.f k neg l) (vb (val neg l), vl (val neg l)) := by
  have h := Value_ev neg l ok hl
  rw [v_mk neg (mag l) (val neg l) (by unfold val; cases neg <;> simp) (fun h => by unfold val; cases neg <;> simp; omega)] at h
  exact h
theorem bits_pos (n : Nat) : decide (0 < (Bit.bits n).length) = decide (n ≠ 0) := by
  rw [decide_eq_decide]
  have := bits_len n 0
  rw [Nat.pow_zero] at this
  omega
theorem value_bits (b : Bool) (n : Nat) (h : (Bit.bits n).length < 4611686018427387904) (z : Int) (hn : z.natAbs = n) (hb : n ≠ 0 → b = decide (z < 0)) : Ev (fun k => moraineref02_value.f k b (Bit.bits n)) (vb z, vl z) := by
  have hv := value_ev b (Bit.bits n) h
  rw [tr_bits (ok_bits n), bv_bits, bits_pos, v_mk b n z hn hb] at hv
  exact hv
theorem Turn_at (z : Int) (h : (vl z).length < 4611686018427387904) : Ev (fun k => moraineref02_Turn.f k (vb z) (vl z)) (vb (-z), vl (-z)) := by
  unfold moraineref02_Turn.f
  refine Ev.rbind (value_bits (!vb z) z.natAbs h (-z) (by omega) (fun h0 => by unfold vb; rw [← decide_not, decide_eq_decide]; omega)) (Ev.now _)
theorem len_sum {m n L : Nat} (hm : (Bit.bits m).length ≤ L) (hn : (Bit.bits n).length ≤ L) : (Bit.bits (m + n)).length ≤ L + 1 := by
  rw [bits_len] at *
  rw [Nat.pow_succ]; omega
theorem len_less {m n L : Nat} (h : m ≤ n) (hn : (Bit.bits n).length ≤ L) : (Bit.bits m).length ≤ L := by
  rw [bits_len] at *; omega
theorem Add_at (y z : Int) (L : Nat) (hL : L < 70368744177664) (hy : (vl y).length ≤ L) (hz : (vl z).length ≤ L) : Ev (fun k => moraineref02_Add.f k (vb y) (vl y) (vb z) (vl z)) (vb (y + z), vl (y + z)) := by
  unfold moraineref02_Add.f
  by_cases hs : vb y = vb z
  · simp only [show (vb y == vb z) = true by simp [hs], if_true]
    have hp := plus_ev (vl y) (vl z) (ok_vl y) (ok_vl z) (by omega) (by omega)
    rw [bv_vl, bv_vl] at hp
    have hd : (y < 0) ↔ (z < 0) := by unfold vb at hs; rw [decide_eq_decide] at hs; exact hs
    have hl := len_sum (m := y.natAbs) (n := z.natAbs) hy hz
    refine Ev.rbind hp (Ev.rbind (value_bits (vb y) (y.natAbs + z.natAbs) (by omega) (y + z) (by omega) (fun h0 => by unfold vb; rw [decide_eq_decide]; omega)) (Ev.now _))
  · simp only [show (vb y == vb z) = false by simpa using hs, Bool.false_eq_true, if_false]
    have hless := less_ev (vl y) (vl z) (ok_vl y) (ok_vl z) (tr_vl y) (tr_vl z) (by omega) (by omega)
    rw [bv_vl, bv_vl] at hless
    have hd : ¬ ((y < 0) ↔ (z < 0)) := by unfold vb at hs; rw [decide_eq_decide] at hs; exact hs
    refine Ev.rbind hless ?_
    by_cases hlt : y.natAbs < z.natAbs
    · simp only [decide_eq_true hlt, if_true]
      have hm := minus_ev (vl z) (vl y) (ok_vl z) (ok_vl y) (by omega) (by rw [bv_vl, bv_vl]; omega)
      rw [bv_vl, bv_vl] at hm
      have hl := len_less (m := z.natAbs - y.natAbs) (n := z.natAbs) (by omega) hz
      refine Ev.rbind hm (Ev.rbind (value_bits (vb z) (z.natAbs - y.natAbs) (by omega) (y + z) (by omega) (fun h0 => by unfold vb; rw [decide_eq_decide]; omega)) (Ev.now _))
    · simp only [decide_eq_false hlt, Bool.false_eq_true, if_false]
      have hm := minus_ev (vl y) (vl z) (ok_vl y) (ok_vl z) (by omega) (by rw [bv_vl, bv_vl]; omega)
      rw [bv_vl, bv_vl] at hm
      have hl := len_less (m := y.natAbs - z.natAbs) (n := y.natAbs) (by omega) hy
      refine Ev.rbind hm (Ev.rbind (value_bits (vb y) (y.natAbs - z.natAbs) (by omega) (y + z) (by omega) (fun h0 => by unfold vb; rw [decide_eq_decide]; omega)) (Ev.now _))
theorem Cmp_at (y z : Int) (hy : (vl y).length < 70368744177664) (hz : (vl z).length < 70368744177664) : Ev (fun k => moraineref02_Cmp.f k (vb y) (vl y) (vb z) (vl z)) (cmpI y z) := by
  unfold moraineref02_Cmp.f
  by_cases hs : vb y = vb z
  · simp only [show (vb y != vb z) = false by simp [hs], Bool.false_eq_true, if_false]
    have h1 := less_ev (vl y) (vl z) (ok_vl y) (ok_vl z) (tr_vl y) (tr_vl z) hy hz
    have h2 := less_ev (vl z) (vl y) (ok_vl z) (ok_vl y) (tr_vl z) (tr_vl y) hz hy
    rw [bv_vl, bv_vl] at h1 h2
    have hd : (y < 0) ↔ (z < 0) := by unfold vb at hs; rw [decide_eq_decide] at hs; exact hs
    refine Ev.rbind h1 (Ev.rbind h2 ?_)
    have hj : ∀ s g : Bool, Ev (fun k => moraineref02_Cmp.j0 k s g) (if s = true then -1 else if g = true then 1 else 0) := by
      intro s g
      refine Ev.step (f := fun _ => some (if s = true then -1 else if g = true then 1 else 0)) (fun k => ?_) (Ev.now _)
      rw [moraineref02_Cmp.j0]
      cases s <;> cases g <;> rfl
    by_cases hn : y < 0
    · simp only [show vb y = true from decide_eq_true hn, if_true]
      refine (congrArg (Ev _) ?_).mp (hj (decide (z.natAbs < y.natAbs)) (decide (y.natAbs < z.natAbs)))
      unfold cmpI
      simp only [decide_eq_true_eq]
      split <;> split <;> (try split) <;> omega
    · simp only [show vb y = false from decide_eq_false hn, Bool.false_eq_true, if_false]
      refine (congrArg (Ev _) ?_).mp (hj (decide (y.natAbs < z.natAbs)) (decide (z.natAbs < y.natAbs)))
      unfold cmpI
      simp only [decide_eq_true_eq]
      split <;> split <;> (try split) <;> omega
  · simp only [show (vb y != vb z) = true by simpa using hs, if_true]
    have hd : ¬ ((y < 0) ↔ (z < 0)) := by unfold vb at hs; rw [decide_eq_decide] at hs; exact hs
    by_cases hn : y < 0
    · simp only [show vb y = true from decide_eq_true hn, if_true]
      rw [show cmpI y z = -1 from if_pos (by omega)]
      exact Ev.now _
    · simp only [show vb y = false from decide_eq_false hn, Bool.false_eq_true, if_false]
      rw [show cmpI y z = 1 by unfold cmpI; rw [if_neg (by omega), if_pos (by omega)]]
      exact Ev.now _
end Go.Proofs.YthhpnlbeniihhaaDoor.RefC
namespace Go.Proofs.YthhpnlbeniihhaaDoor.RefD
end Go.Proofs.YthhpnlbeniihhaaDoor.RefD
namespace Go.Proofs.YthhpnlbeniihhaaDoor.RefE
open Go.RowKit Go.Proofs.YthhpnlbeniihhaaDoorW.PrintWords Go.Proofs.YthhpnlbeniihhaaDoorW.PrintLast Go.Proofs.YthhpnlbeniihhaaDoorW.PrintMore Go.Proofs.YthhpnlbeniihhaaDoor.Limb Go.Proofs.YthhpnlbeniihhaaDoor.Bit Go.Proofs.YthhpnlbeniihhaaDoor.NumA Go.Proofs.YthhpnlbeniihhaaDoor.NumB Go.Proofs.YthhpnlbeniihhaaDoor.NumE Go.Proofs.YthhpnlbeniihhaaDoor.NumG Go.Proofs.YthhpnlbeniihhaaDoor.NumJ Go.Proofs.YthhpnlbeniihhaaDoor.Quo Go.Proofs.YthhpnlbeniihhaaDoor.Plain Go.Proofs.YthhpnlbeniihhaaDoor.RefA Go.Proofs.YthhpnlbeniihhaaDoor.RefB Go.Proofs.YthhpnlbeniihhaaDoor.RefC Go.Proofs.YthhpnlbeniihhaaDoor.RefD Go.Proofs.YthhpnlbeniihhaaDoor.PRef
set_option linter.unusedVariables false
set_option linter.unusedSimpArgs false
theorem or_word (x t : Nat) (hx : x < 2 ^ t) (ht : t < 32) : Go.bits .or .u32 (x : Int) (shl .u32 1 (t : Int)) = ((x + 2 ^ t : Nat) : Int) := by
  have hp : (2 : Nat) ^ t < 2 ^ 32 := Nat.pow_lt_pow_right (by decide) ht
  have e : shl .u32 1 (t : Int) = ((2 ^ t : Nat) : Int) := by
    unfold shl
    rw [Int.toNat_natCast, Nat.min_eq_left (by show t ≤ 32; omega), Int.one_mul, IntKind.wrap_u32]
    have : ((2 : Int) ^ t) = ((2 ^ t : Nat) : Int) := by rw [Int.natCast_pow]; rfl
    rw [this]
    omega
  have hor : x ||| 2 ^ t = x + 2 ^ t := by
    have := Nat.two_pow_add_eq_or_of_lt hx 1
    rw [Nat.mul_one] at this
    rw [Nat.or_comm, ← this, Nat.add_comm]
  have h1 : x < 4294967296 := by omega
  rw [e, u32_or _ _ (by omega) (by omega) (by omega) (by omega), Int.toNat_natCast, Int.toNat_natCast, hor]
theorem num_last (z : Int) (M : List Int) (ok : OkL M) (hl : M.length = ((vl z).length + 31) / 32) (hm : mag M = z.natAbs) : M = sl z := by
  have ht : tr M = sl z := by unfold sl; rw [tr_limbs ok, hm]
  rw [← ht]
  have hle := tr_len_le M
  have hge : M.length ≤ (tr M).length := by
    by_cases h0 : (vl z).length = 0
    · omega
    · have hb : ¬ ((vl z).length ≤ (vl z).length - 1) := by omega
      have hb2 : ¬ (z.natAbs < 2 ^ ((vl z).length - 1)) := fun h => hb ((bits_len z.natAbs _).mpr h)
      have hq : ¬ ((tr M).length ≤ M.length - 1) := by
        intro h
        rw [ht] at h
        unfold sl at h
        rw [limbs_len] at h
        refine hb2 (Nat.lt_of_lt_of_le h ?_)
        rw [show (4294967296 : Nat) = 2 ^ 32 from rfl, ← Nat.pow_mul]
        exact Nat.pow_le_pow_right (by decide) (by omega)
      omega
  rw [← tr_take M, List.take_of_length_le hge]
theorem w_div (i : Nat) (h : i < 4611686018427387904) : wrap64 (Int.tdiv (i : Int) 32) = ((i / 32 : Nat) : Int) := by
  rw [Int.tdiv_eq_ediv_of_nonneg (by omega), w64s (by omega) (by omega)]; omega
theorem t_mod (i : Nat) : Int.tmod (i : Int) 32 = ((i % 32 : Nat) : Int) := by rw [Int.tmod_eq_emod_of_nonneg (by omega)]; omega
theorem okL_app {M : List Int} (h : OkL M) : OkL (M ++ [0]) := by
  intro x hx
  rcases List.mem_append.mp hx with hx | hx
  · exact h x hx
  · obtain rfl : x = 0 := by simpa using hx
    decide
theorem okL_set {M : List Int} (h : OkL M) (q : Nat) {x : Nat} (hx : x < 4294967296) : OkL (M.set q (x : Int)) := by
  intro y hy
  rcases List.mem_or_eq_of_mem_set hy with hy | rfl
  · exact h y hy
  · omega
theorem mag_app (M : List Int) : mag (M ++ [0]) = mag M := by rw [mag_append]; simp [mag]
/-- One bit set into a row of limbs that stands below it. -/
theorem set_up {M : List Int} (ok : OkL M) (i : Nat) (hq : i / 32 < M.length) (hm : mag M < 2 ^ i) :
    nl M (i / 32) < 2 ^ (i % 32) ∧ mag (M.set (i / 32) ((nl M (i / 32) + 2 ^ (i % 32) : Nat) : Int)) = mag M + 2 ^ i := by
  have hp := pow_split i
  have h1 : nl M (i / 32) < 2 ^ (i % 32) := by
    rw [← mag_limb ok]
    refine Nat.lt_of_le_of_lt (Nat.mod_le _ _) ?_
    rw [Nat.div_lt_iff_lt_mul (Nat.pow_pos (by decide)), Nat.mul_comm, ← hp]
    exact hm
  refine ⟨h1, ?_⟩
  have hs := mag_set M (i / 32) ((nl M (i / 32) + 2 ^ (i % 32) : Nat) : Int) hq
  rw [Int.toNat_natCast, Nat.mul_add, ← hp] at hs
  omega
theorem num_step (z : Int) (hz : (vl z).length ≤ 1536) (i k : Nat) (hi : i < (vl z).length) (M : List Int) (hM : M.length = i / 32 + 1) (ok : OkL M) (hm : mag M = bv ((vl z).take i)) (R : Bool × List Int × Int)
    (h : ∀ N : List Int, N.length = i / 32 + 1 → OkL N → mag N = bv ((vl z).take (i + 1)) → moraineref02_Num.l0 k ((i + 1 : Nat) : Int) (vb z) (vl z) (vb z) N = some R) :
    (if (rd (vl z) (i : Int)) = 1 then (if 0 ≤ (wrap64 (Int.tdiv (i : Int) 32)) then (if (wrap64 (Int.tdiv (i : Int) 32)) < (M.length : Int) then (if 0 ≤ (Int.tmod (i : Int) 32) then (moraineref02_Num.l0 k (wrap64 ((i : Int) + 1)) (vb z) (vl z) (vb z) (M.set ((wrap64 (Int.tdiv (i : Int) 32)) : Int).toNat (Go.bits .or .u32 (rd M (wrap64 (Int.tdiv (i : Int) 32))) (shl .u32 1 (Int.tmod (i : Int) 32))))) else (none)) else (none)) else (none)) else (moraineref02_Num.l0 k (wrap64 ((i : Int) + 1)) (vb z) (vl z) (vb z) M)) = some R := by
  have hb := nl_le (ok_vl z) i
  have hrd : rd (vl z) (i : Int) = ((nl (vl z) i : Nat) : Int) := (nl_cast (OkB.okL (ok_vl z)) i).symm
  have hlt := bv_take_lt (ok_vl z) i (by omega)
  have hn := bv_take_next (vl z) i
  rw [w_div i (by omega), t_mod, w_next i (by omega), hrd]
  by_cases h1 : nl (vl z) i = 1
  · obtain ⟨hs1, hs2⟩ := set_up ok i (by omega) (by rw [hm]; exact hlt)
    have hw : nl M (i / 32) + 2 ^ (i % 32) < 4294967296 := by
      have : (2 : Nat) ^ (i % 32) ≤ 2 ^ 31 := Nat.pow_le_pow_right (by decide) (by omega)
      omega
    rw [if_pos (by omega), if_pos (by omega), if_pos (by omega), if_pos (by omega), ← nl_cast ok, or_word _ _ hs1 (by omega), Int.toNat_natCast]
    exact h _ (by rw [List.length_set]; exact hM) (okL_set ok _ hw) (by rw [hs2, hm, hn, h1]; omega)
  · have h0 : nl (vl z) i = 0 := by omega
    rw [if_neg (by omega)]
    exact h M hM ok (by rw [hm, hn, h0]; omega)
theorem num_loop (z : Int) (hz : (vl z).length ≤ 1536) (d : Nat) : ∀ (i k : Nat) (M : List Int), i + d = (vl z).length → d < k → M.length = (i + 31) / 32 → OkL M → mag M = bv ((vl z).take i) →
    moraineref02_Num.l0 k (i : Int) (vb z) (vl z) (vb z) M = some (vb z, sl z, 0) := by
  induction d with
  | zero =>
    intro i k M hi hk hM ok hm
    obtain ⟨k, rfl⟩ : ∃ j, k = j + 1 := ⟨k - 1, by omega⟩
    obtain rfl : i = (vl z).length := by omega
    rw [List.take_length, bv_vl] at hm
    rw [moraineref02_Num.l0, if_neg (by omega), num_last z M ok hM hm]
  | succ d ih =>
    intro i k M hi hk hM ok hm
    obtain ⟨k, rfl⟩ : ∃ j, k = j + 1 := ⟨k - 1, by omega⟩
    have hlt : i < (vl z).length := by omega
    have next : ∀ N : List Int, N.length = i / 32 + 1 → OkL N → mag N = bv ((vl z).take (i + 1)) → moraineref02_Num.l0 k ((i + 1 : Nat) : Int) (vb z) (vl z) (vb z) N = some (vb z, sl z, 0) :=
      fun N hN oN mN => ih (i + 1) k N (by omega) (by omega) (by omega) oN mN
    rw [moraineref02_Num.l0, if_pos (by omega)]
    by_cases h0 : i % 32 = 0
    · rw [if_pos (by rw [t_mod]; omega), if_pos (by omega), bsome, if_pos (by omega)]
      exact num_step z hz i k hlt (M ++ [0]) (by rw [List.length_append, List.length_singleton]; omega) (okL_app ok) (by rw [mag_app]; exact hm) _ next
    · rw [if_neg (by rw [t_mod]; omega), if_pos (by omega)]
      exact num_step z hz i k hlt M (by omega) ok hm _ next
theorem pow_words (n k m : Nat) (h : m = 32 * k) : n < 2 ^ m ↔ n < 4294967296 ^ k := by
  subst h
  rw [Nat.pow_mul]
/-- Num: a number of limbs, or 'too big'. -/
theorem Num_at (z : Int) : moraineref02_Num.f ((vl z).length + 1) (vb z) (vl z) = some (mkI z) := by
  unfold moraineref02_Num.f
  have hlen : (vl z).length ≤ 1536 ↔ Fits z := (bits_len z.natAbs 1536).trans (pow_words z.natAbs 48 1536 rfl)
  by_cases h : (vl z).length ≤ 1536
  · rw [if_neg (by omega), mkI_fits (hlen.mp h)]
    exact num_loop z h (vl z).length 0 _ [] (by omega) (by omega) rfl (fun x hx => by cases hx) (by simp [bv, mag])
  · rw [if_pos (by omega), mkI_big (fun hf => h (hlen.mpr hf))]
end Go.Proofs.YthhpnlbeniihhaaDoor.RefE
namespace Go.Proofs.YthhpnlbeniihhaaDoor
open Go.RowKit Go.Proofs.YthhpnlbeniihhaaDoorW.PrintWords Go.Proofs.YthhpnlbeniihhaaDoorW.PrintLast Go.Proofs.YthhpnlbeniihhaaDoorW.PrintMore Go.Proofs.YthhpnlbeniihhaaDoor.NumG Go.Proofs.YthhpnlbeniihhaaDoor.NumA
set_option linter.unusedVariables false
theorem same_loop (a b : Bool) (l m : List Int) (hl : l.length = m.length) (hb : l.length < 1073741824) : ∀ (d i k : Nat), i + d = l.length → d < k → (l.take i = m.take i) →
    PRef.moraineref02_Same.l0 k (i : Int) a l b m = some (decide (l = m)) := by
  intro d
  induction d with
  | zero =>
    intro i k hi hk ht
    obtain ⟨k, rfl⟩ : ∃ j, k = j + 1 := ⟨k - 1, by omega⟩
    rw [PRef.moraineref02_Same.l0, if_neg (by omega)]
    have : l = m := by
      have e1 : l.take i = l := List.take_of_length_le (by omega)
      have e2 : m.take i = m := List.take_of_length_le (by omega)
      rw [e1, e2] at ht; exact ht
    rw [decide_eq_true this]
  | succ d ih =>
    intro i k hi hk ht
    obtain ⟨k, rfl⟩ : ∃ j, k = j + 1 := ⟨k - 1, by omega⟩
    have h1 : i < l.length := by omega
    have h2 : i < m.length := by omega
    rw [PRef.moraineref02_Same.l0, if_pos (by omega), if_pos (by omega), if_pos (by omega), rd_nat l i h1, rd_nat m i h2]
    by_cases he : l[i] = m[i]
    · rw [if_pos he, show wrap64 ((i : Int) + 1) = ((i + 1 : Nat) : Int) by unfold wrap64; omega]
      refine ih (i + 1) k (by omega) (by omega) ?_
      rw [List.take_succ_eq_append_getElem h1, List.take_succ_eq_append_getElem h2, ht, he]
    · rw [if_neg he, decide_eq_false]
      intro hlm
      subst hlm
      exact he rfl
def moraineref02_Same.f (a0_0 : Bool) (l0_1 : List Int) (a1_0 : Bool) (l1_1 : List Int) : Option Bool := if l0_1.length < 1073741824 then some (decide (a0_0 = a1_0 ∧ l0_1 = l1_1)) else none
theorem same_eq (a b : Bool) (l m : List Int) (hb : l.length < 1073741824) : PRef.moraineref02_Same.f (l.length + 2) a l b m = some (decide (a = b ∧ l = m)) := by
  unfold PRef.moraineref02_Same.f
  by_cases hab : a = b
  · subst hab
    rw [if_neg (by simp)]
    by_cases hl : l.length = m.length
    · rw [show ((l.length : Int) != (m.length : Int)) = false by rw [hl]; simp, PRef.moraineref02_Same.j0, if_neg (by decide)]
      refine (same_loop a a l m hl hb l.length 0 (l.length + 1) (by omega) (by omega) (by simp)).trans ?_
      simp
    · rw [show ((l.length : Int) != (m.length : Int)) = true by rw [bne_iff_ne]; omega, PRef.moraineref02_Same.j0, if_pos rfl, decide_eq_false]
      rintro ⟨-, rfl⟩
      exact hl rfl
  · rw [if_pos (by simpa using hab), PRef.moraineref02_Same.j0, if_pos rfl, decide_eq_false]
    rintro ⟨h, -⟩
    exact hab h
theorem moraineref02_Same.calls (a0_0 : Bool) (A0_1 : Option Addr) (c0_1 : Nat) (l0_1 : List Int) (a1_0 : Bool) (A1_1 : Option Addr) (c1_1 : Nat) (l1_1 : List Int) (r : Bool) (w : World) (hr0_1 : Kd.C (Kd.int .u32) w A0_1 l0_1.length l0_1) (hc0_1 : l0_1.length ≤ c0_1) (hr1_1 : Kd.C (Kd.int .u32) w A1_1 l1_1.length l1_1) (hc1_1 : l1_1.length ≤ c1_1) (h : moraineref02_Same.f a0_0 l0_1 a1_0 l1_1 = some r) :
    Calls Tryd.prog 17 #[.agg #[.bool a0_0, .slice A0_1 l0_1.length c0_1], .agg #[.bool a1_0, .slice A1_1 l1_1.length c1_1]] w fun e w' => e = .returned (.bool r) ∧ Below w.heap.size w w' := by
  unfold moraineref02_Same.f at h
  by_cases hb : l0_1.length < 1073741824
  · rw [if_pos hb] at h
    exact PRef.moraineref02_Same.calls (l0_1.length + 2) a0_0 A0_1 c0_1 l0_1 a1_0 A1_1 c1_1 l1_1 r w hr0_1 hc0_1 hr1_1 hc1_1 ((same_eq _ _ _ _ hb).trans h)
  · rw [if_neg hb] at h; cases h
end Go.Proofs.YthhpnlbeniihhaaDoor
namespace Go.Proofs.YthhpnlbeniihhaaDoor.Raw
open Go.Proofs.YthhpnlbeniihhaaDoor Go.Proofs.YthhpnlbeniihhaaDoor.Limb Go.Proofs.YthhpnlbeniihhaaDoor.NumA Go.Proofs.YthhpnlbeniihhaaDoor.NumB Go.Proofs.YthhpnlbeniihhaaDoor.NumC Go.Proofs.YthhpnlbeniihhaaDoor.NumJ Go.Proofs.YthhpnlbeniihhaaDoor.NumS Go.Proofs.YthhpnlbeniihhaaDoor.NumU Go.Proofs.YthhpnlbeniihhaaDoor.Vals Go.Proofs.YthhpnlbeniihhaaDoor.Plain
section
variable {n : Bool} {l : List Int} (h : okN l)
include h
end
section
variable {n1 n2 : Bool} {l m : List Int} (h1 : okN l) (h2 : okN m)
include h1 h2
theorem cmp_raw : num_Cmp.f n1 l n2 m = some (cmpI (val n1 l) (val n2 m)) := by unfold num_Cmp.f; rw [if_pos ⟨h1, h2⟩]
theorem add_raw : num_Add.f n1 l n2 m = some (mkI (val n1 l + val n2 m)) := by unfold num_Add.f; rw [if_pos ⟨h1, h2⟩]
theorem sub_raw : num_Sub.f n1 l n2 m = some (mkI (val n1 l - val n2 m)) := by unfold num_Sub.f; rw [if_pos ⟨h1, h2⟩]
end
/-- A row's number is as small as its row is short. -/
theorem val_lt {n : Bool} {l : List Int} (h : OkL l) {k : Nat} (hk : l.length ≤ k) : (val n l).natAbs < 4294967296 ^ k := by
  rw [natAbs_val]
  exact Nat.lt_of_lt_of_le (mag_lt h) (Nat.pow_le_pow_right (by decide) hk)
theorem okN_nil : okN [] := ⟨fun x hx => (by cases hx), by decide⟩
/-- mkI's row, whatever the number. -/
theorem okN_mkI (z : Int) : okN (mkI z).2.1 := by
  by_cases h : Fits z
  · rw [mkI_fits h]; exact okN_sl h
  · rw [mkI_big h]; exact okN_nil
theorem aw : (morainelaw02_awake.f).bind (fun t => some t) = some true := rfl
end Go.Proofs.YthhpnlbeniihhaaDoor.Raw
-- Printed by a program of this session's (wip/tools/printr.py, over the kit's print program).
namespace Go.Proofs.YthhpnlbeniihhaaDoor.PRef
open Go.RowKit Go.Proofs.YthhpnlbeniihhaaDoorW.PrintWords Go.Proofs.YthhpnlbeniihhaaDoorW.PrintLast Go.Proofs.YthhpnlbeniihhaaDoorW.PrintMore
attribute [local go_sem] max2_int min2_int max_two min_two max_three min_three max_four min_four   -- for this text's walks alone
set_option linter.unusedVariables false
set_option linter.unusedSimpArgs false
def morainelaw02_spoil.l0 : Nat → Int → Bool → List Int → Option (List Int)
 | 0, _, _, _ => none
 | k + 1, x2, x369000, x369001 => if x2 < (x369001.length : Int) then (if 0 ≤ x2 then (morainelaw02_spoil.l0 k (wrap64 (x2 + 1)) x369000 (x369001.set (x2 : Int).toNat (((rd x369001 x2) + 1) % 4294967296))) else (none)) else (some x369001)
def morainelaw02_spoil.f (k : Nat) (a0_0 : Bool) (l0_1 : List Int) : Option (List Int) := morainelaw02_spoil.l0 k 0 a0_0 l0_1
set_option maxHeartbeats 8000000 in
set_option maxRecDepth 100000 in
theorem morainelaw02_spoil.calls (k : Nat) (a0_0 : Bool) (P0_1_ : Nat → Prop) (u9000_ : Value) (l0_1 : List Int) (r : List Int) (w0 w : World) (hB : Below w0.heap.size w0 w) (ho0_1 : Kd.R (Kd.int .u32) 63 w w0.heap.size P0_1_ u9000_ l0_1) (h : morainelaw02_spoil.f k a0_0 l0_1 = some r) :
  Calls Tryd.prog 33 #[.agg #[.bool a0_0, u9000_]] w fun e w' => e = .returned (.tuple #[]) ∧ Kd.R (Kd.int .u32) 63 w' w0.heap.size (fun k_ => (P0_1_ k_ ∨ w.heap.size ≤ k_)) u9000_ r ∧ Below w0.heap.size w0 w' ∧ Kept w w' (fun k_ => P0_1_ k_) := by
 have hu25 := Tryd.underlying25
 have HO0_1 := Aside0.mk (show Kd.R (Kd.int .u32) 63 w w0.heap.size (fun k_ => (P0_1_ k_ ∨ w.heap.size ≤ k_)) u9000_ l0_1 from Kd.R_mono ho0_1 (fun k_ hk => (.inl hk)))
 have HK := Aside0.mk (Kept.refl w (fun k_ => P0_1_ k_))
 have HW0 := Aside0.mk hB.size
 have HB := Aside0.mk hB
 clear hB
 have H : (morainelaw02_spoil.l0 k 0 a0_0 l0_1) = some r := h
 clear h
 have H' := Aside0.mk H
 clear H
 obtain ⟨Ao2, co2, eo2⟩ := Kd.R_slice HO0_1.out
 subst eo2
 go_enter Tryd.func33, Tryd.ntmps33
 go_wp2_with (first | ((with_reducible refine gate_dst (N := 1) rfl ?_); refine box_event ?hg (N := 1) ?hd (cs := #[.bool a0_0, .slice Ao2 l0_1.length co2]) (t := 25) ?hr ?_; (case hd => rfl); (case hg => rfl); (case hr => go_simp <;> rfl); intro gb368 hg w3 hbox hb; have n0_ := qr HO0_1 hb; have n1_ := Aside0.mk (Kept.below (S := (fun k_ => P0_1_ k_)) (by repeat (first | (with_reducible first | exact HK.out | apply Kept.alloc | apply Kept.drewN | apply Kept.drew) | exact HK.out)) hb); have n2_ := Aside0.mk (below_step (by repeat (first | (with_reducible first | exact HB.out | apply qx | apply qv | apply qw) | exact HB.out)) hb); have n3_ := Aside0.mk (hbox); have n4_ := Aside0.mk ((by rw [hg]; exact (by first | exact HK.out.1 | exact (show Kept w _ (fun k_ => P0_1_ k_) from by repeat (first | (with_reducible first | exact HK.out | apply Kept.alloc | apply Kept.drewN | apply Kept.drew) | exact HK.out)).1) : w.heap.size ≤ gb368)); have n5_ := Aside0.mk ((by rw [hg]; exact (below_size (by repeat (first | (with_reducible first | exact HB.out | apply qx | apply qv | apply qw) | exact HB.out))) : w0.heap.size ≤ gb368)); clear HO0_1; clear HK; clear HB; have HO0_1 := n0_; have HK := n1_; have HB := n2_; have BK368 := n3_; have GW368 := n4_; have GE368 := n5_; clear n0_ n1_ n2_ n3_ n4_ n5_; clear hb hbox hg))
 go_loopg [2] k (fun kq v2 w' => ∃ (x2_1 : Int) (x369001_1 : List Int), v2 = .int .i64 x2_1 ∧ Aside0 (morainelaw02_spoil.l0 kq x2_1 a0_0 x369001_1 = some r) ∧ Aside0 (kq ≤ k) ∧ Aside0 (Kd.R (Kd.int .u32) 63 w' w0.heap.size (fun k_ => (P0_1_ k_ ∨ w.heap.size ≤ k_)) (.slice Ao2 l0_1.length co2) x369001_1) ∧ Aside0 (w'.heap[gb368]? = some (.cells #[.bool a0_0, (.slice Ao2 l0_1.length co2)] 25 (0, 0))) ∧ Aside0 (Kept w w' (fun k_ => P0_1_ k_)) ∧ Aside0 (Below w0.heap.size w0 w'))
 case atStart => exact ⟨(0), (l0_1), (by first | rfl | (simp; done) | (simp [*]; done)), H', ⟨Nat.le_refl _⟩, ⟨qq HO0_1⟩, ⟨qk BK368⟩, ⟨by repeat (first | (with_reducible first | exact HK.out | apply Kept.alloc | apply Kept.drewN | apply Kept.drew | refine Kept.setCell ?_ (.inr GW368.out) _) | exact HK.out)⟩, ⟨by repeat (first | (with_reducible first | exact HB.out | apply qx | apply qv | apply qw | refine below_set ?_ GE368.out) | exact HB.out)⟩⟩
 case round =>
  clear H'
  try clear p2
  try clear c3
  obtain ⟨x2_1, x369001_1, rfl, HA, HK1, HO_369001, BK368, HK, HB⟩ := hrel
  have hl369001_1 := (Kd.R_reads' HO_369001.out).1
  rw [hl369001_1] at HO_369001
  (try simp only [hl369001_1])
  (try simp only [hl369001_1] at BK368)
  cases gk with
  | zero => exact absurd HA.out (by simp [morainelaw02_spoil.l0])
  | succ k1 =>
   have H := HA.out
   clear HA
   simp only [morainelaw02_spoil.l0] at H
   by_cases c4 : x2_1 < (x369001_1.length : Int)
   ·rw [if_pos c4] at H
    have c4b0 : decide (x2_1 < (x369001_1.length : Int)) = true := decide_eq_true c4
    clear c4
    by_cases c5 : 0 ≤ x2_1
    ·rw [if_pos c5] at H
     have c5b0 : decide (0 ≤ x2_1) = true := decide_eq_true c5
     clear c5
     obtain ⟨y370, hy370⟩ : ∃ y_ : List Int, y_ = (x369001_1.set (x2_1 : Int).toNat (((rd x369001_1 x2_1) + 1) % 4294967296)) := ⟨_, rfl⟩
     replace H : (morainelaw02_spoil.l0 k1 (wrap64 (x2_1 + 1)) a0_0 y370) = some r := by first | (rw [hy370]; with_reducible exact H) | (have H2_ := (Option.bind_some _ _).symm.trans H; rw [hy370]; with_reducible exact H2_) | (have H2_ := (Option.bind_some _ _).symm.trans H; with_reducible exact H2_) | with_reducible exact H | (rw [hy370]; exact H) | exact H
     have Ny370 := Aside0.mk hy370
     clear hy370
     have H' := Aside0.mk H
     clear H
     have hcz7_0 : wr.cell? ⟨gb368, 0, none⟩ = some (.bool a0_0) := qc BK368 0
     have hcz7_1 : wr.cell? ⟨gb368, 1, none⟩ = some (.slice Ao2 x369001_1.length co2) := qc BK368 1
     have hfz7_0 := blk_frozen BK368.out 0
     have hfz7_1 := blk_frozen BK368.out 1
     have p369 : 0 ≤ (x2_1 : Int) := of_decide_eq_true (by first | (with_reducible assumption) | assumption)
     have q369 : x2_1 < (x369001_1.length : Int) := of_decide_eq_true (by first | (with_reducible assumption) | assumption)
     obtain ⟨ad369, e369, hx369_0⟩ := Kd.at_int (Kd.R_reads' HO_369001.out).2.2 x2_1 p369 q369
     cases e369
     replace p369 := eq_true p369
     replace q369 := eq_true q369
     have p6 : 0 ≤ (x2_1 : Int) := of_decide_eq_true (by first | (with_reducible assumption) | assumption)
     have q6 : (x2_1 : Int) < ((x369001_1.length : Int) : Int) := of_decide_eq_true (by first | (with_reducible assumption) | assumption)
     obtain ⟨go6, co6, eo6, gb6, gl6, cl6, HG6⟩ := Kd.R_form HO_369001.out (by omega)
     (first | cases eo6 | (injection eo6 with ea_ en_ ec_; (first | subst ea_ | (injection ea_ with ea_; subst ea_)); subst ec_; clear en_))
     have GB6 := Aside0.mk gb6
     have GG6 := Aside0.mk HG6
     clear gb6 gl6 HG6
     have HMgo6 := Aside0.mk (show (P0_1_ go6 ∨ w.heap.size ≤ go6) from (HO_369001.out.1 _ rfl))
     (first | simp only [add_plain] at hx369_0 | skip)
     obtain ⟨hx6_0, hf6_0⟩ := Kd.R_celln 0 HO_369001.out (x2_1 : Int) p6 q6
     replace p6 := eq_true p6
     replace q6 := eq_true q6
     have HP8 := Kd.R_putg HO_369001.out (x2_1 : Int) (((rd x369001_1 x2_1) + 1) % 4294967296)
     go_wp2_with (first | ((with_reducible refine gate_store (t := 63) (p := 16) rfl ?_); refine store_event (t := 63) (p := 16) (v := ?vo_w9) (w1 := (wr.setCell ⟨go6, (x2_1 : Int).toNat, none⟩ (.int .u32 (((rd x369001_1 x2_1) + 1) % 4294967296)))) ?hg ?ho ?hn ?hr ?_; (case ho => rfl); (case hg => rfl); (case hn => rfl); (case hr => first | (go_simp; done) | (go_simp; rfl)); intro w9 hw; have hg : wr.grownBy w9 (some go6) := (by rw [hw]; exact HP8.2); have hp_ : Kd.R (Kd.int .u32) 63 w9 w0.heap.size (fun k_ => (P0_1_ k_ ∨ w.heap.size ≤ k_)) (.slice (some ⟨go6, 0, none⟩) x369001_1.length co2) y370 := (by rw [hw, Ny370.out]; exact HP8.1); clear HP8; have n0_ := Aside0.mk (hp_); have n1_ := Aside0.mk (blk_grown (g := gb368) (o := .cells #[.bool a0_0, .slice (some ⟨go6, 0, none⟩) x369001_1.length co2] 25 (0, 0)) (by (with_reducible repeat first|refine qN ?_ _|refine qW ?_|refine qA ?_ _); exact BK368.out) hg (Kd.R_ne HO_369001.out BK368.out (by decide))); have n2_ := Aside0.mk ((by rw [hw]; exact below_set (HB.out) GB6.out : Below w0.heap.size w0 w9)); have n3_ := Aside0.mk (Kept.of_grown (S := (fun k_ => P0_1_ k_)) hg (by repeat (first | (with_reducible first | exact HK.out | apply Kept.alloc | apply Kept.drewN | apply Kept.drew | refine Kept.setCell ?_ (.inr GW368.out) _) | exact HK.out)) (fun k_ e_ => (HO_369001.out.1 k_ e_))); clear HO_369001; clear BK368; clear HB; clear HK; have HO_369001 := n0_; have BK368 := n1_; have HB := n2_; have HK := n3_; clear n0_ n1_ n2_ n3_; clear hg hw hp_))
     (try simp only [← hl369001_1])
     go_roundg k1
     case measure => have := HK1.out; omega
     case rel => exact ⟨(wrap64 (x2_1 + 1)), (y370), (by first | rfl | (simp; done) | (simp [*]; done)), H', ⟨by have := HK1.out; omega⟩, ⟨by (try simp only [hl369001_1]); (with_reducible repeat first|apply Kd.R_alloc|apply Kd.R_drewN|apply Kd.R_drew); exact HO_369001.out⟩, ⟨by (try simp only [hl369001_1]); (with_reducible repeat first|refine qN ?_ _|refine qW ?_|refine qA ?_ _); exact BK368.out⟩, ⟨by repeat (first | (with_reducible first | exact HK.out | apply Kept.alloc | apply Kept.drewN | apply Kept.drew | refine Kept.setCell ?_ (.inr GW368.out) _) | exact HK.out)⟩, ⟨by repeat (first | (with_reducible first | exact HB.out | apply qx | apply qv | apply qw | refine below_set ?_ GE368.out) | exact HB.out)⟩⟩
    ·rw [if_neg c5] at H
     exact absurd H (by simp)
   ·rw [if_neg c4] at H
    have c4b0 : decide (x2_1 < (x369001_1.length : Int)) = false := decide_eq_false c4
    clear c4
    obtain rfl := Option.some.inj H
    have hcz10_0 : wr.cell? ⟨gb368, 0, none⟩ = some (.bool a0_0) := qc BK368 0
    have hcz10_1 : wr.cell? ⟨gb368, 1, none⟩ = some (.slice Ao2 x369001_1.length co2) := qc BK368 1
    have hfz10_0 := blk_frozen BK368.out 0
    have hfz10_1 := blk_frozen BK368.out 1
    go_wp2
    first | go_end0 | ((try simp only [Exit.inBlock, Exit.then]); refine bodyPost_ret (results_none rfl _ _ _) rfl ?_)
    exact ⟨by first | rfl | (simp [errW_none, errW_some] <;> rfl) | (simp [*, errW_none, errW_some] <;> rfl), (by first | exact (by (with_reducible repeat first|apply Kd.R_alloc|apply Kd.R_drewN|apply Kd.R_drew); exact HO_369001.out) | (simp only [hl369001_1]; exact (by (with_reducible repeat first|apply Kd.R_alloc|apply Kd.R_drewN|apply Kd.R_drew); exact HO_369001.out))), by repeat (first | (with_reducible first | exact HB.out | apply qx | apply qv | apply qw | refine below_set ?_ GE368.out) | exact HB.out), by repeat (first | (with_reducible first | exact HK.out | apply Kept.alloc | apply Kept.drewN | apply Kept.drew | refine Kept.setCell ?_ (.inr GW368.out) _) | exact HK.out)⟩
end Go.Proofs.YthhpnlbeniihhaaDoor.PRef
namespace Go.Proofs.YthhpnlbeniihhaaDoor
open Go.RowKit Go.Proofs.YthhpnlbeniihhaaDoorW.PrintWords Go.Proofs.YthhpnlbeniihhaaDoorW.PrintLast Go.Proofs.YthhpnlbeniihhaaDoorW.PrintMore Go.Proofs.YthhpnlbeniihhaaDoor.Limb Go.Proofs.YthhpnlbeniihhaaDoor.Bit Go.Proofs.YthhpnlbeniihhaaDoor.NumA Go.Proofs.YthhpnlbeniihhaaDoor.NumB Go.Proofs.YthhpnlbeniihhaaDoor.NumE Go.Proofs.YthhpnlbeniihhaaDoor.NumG Go.Proofs.YthhpnlbeniihhaaDoor.NumJ Go.Proofs.YthhpnlbeniihhaaDoor.Plain Go.Proofs.YthhpnlbeniihhaaDoor.RefA Go.Proofs.YthhpnlbeniihhaaDoor.RefB Go.Proofs.YthhpnlbeniihhaaDoor.RefC Go.Proofs.YthhpnlbeniihhaaDoor.RefD Go.Proofs.YthhpnlbeniihhaaDoor.RefE
set_option linter.unusedVariables false
set_option linter.unusedSimpArgs false
/-- A sign and bits as a whole number. -/
def bval (b : Bool) (l : List Int) : Int := if b then -(bv l : Int) else (bv l : Int)
/-- Bits without noughts at the end, no sign of nought, few of them. -/
def canV (b : Bool) (l : List Int) : Prop := l.length < 1073741824 ∧ l = Bit.bits (bv l) ∧ (b = true → bv l ≠ 0)
instance instCanV (b : Bool) (l : List Int) : Decidable (canV b l) := by unfold canV; infer_instance
theorem bval_v (z : Int) : bval (vb z) (vl z) = z := by
  unfold bval
  rw [bv_vl]
  unfold vb
  by_cases h : z < 0 <;> simp [h] <;> omega
theorem canV.as_ {b : Bool} {l : List Int} (h : canV b l) : ∃ z, b = vb z ∧ l = vl z ∧ (vl z).length < 1073741824 := by
  refine ⟨bval b l, ?_, ?_, ?_⟩
  · unfold vb bval
    cases b with
    | true => have := h.2.2 rfl; simp; omega
    | false => simp
  · unfold vl bval
    rw [show (if b = true then -(bv l : Int) else (bv l : Int)).natAbs = bv l by cases b <;> simp]
    exact h.2.1
  · unfold vl bval
    rw [show (if b = true then -(bv l : Int) else (bv l : Int)).natAbs = bv l by cases b <;> simp, ← h.2.1]
    exact h.1
theorem canV_v {z : Int} (h : (vl z).length < 1073741824) : canV (vb z) (vl z) := by
  refine ⟨h, by rw [bv_vl]; rfl, fun hb => ?_⟩
  rw [bv_vl]
  unfold vb at hb
  have := of_decide_eq_true hb
  omega
def moraineref02_Value.f (a0_0 : Bool) (l0_1 : List Int) : Option (Bool × List Int) := if okN l0_1 then some (vb (val a0_0 l0_1), vl (val a0_0 l0_1)) else none
theorem moraineref02_Value.calls (a0_0 : Bool) (A0_1 : Option Addr) (c0_1 : Nat) (l0_1 : List Int) (r1 : Bool) (r2 : List Int) (w : World) (hr0_1 : Kd.C (Kd.int .u32) w A0_1 l0_1.length l0_1) (hc0_1 : l0_1.length ≤ c0_1) (h : moraineref02_Value.f a0_0 l0_1 = some (r1, r2)) :
    Calls Tryd.prog 24 #[.agg #[.bool a0_0, .slice A0_1 l0_1.length c0_1]] w fun e w' => ∃ v1_ : Value, e = .returned (.agg #[.bool r1, v1_]) ∧ Kd.R (Kd.int .u8) 5 w' w.heap.size (fun _ => True) v1_ r2 ∧ Below w.heap.size w w' := by
  unfold moraineref02_Value.f at h
  by_cases hg : okN l0_1
  · rw [if_pos hg] at h
    obtain ⟨k, hk⟩ := (Value_at a0_0 l0_1 hg.1 (by have := hg.2; omega)).rounds
    exact PRef.moraineref02_Value.calls k a0_0 A0_1 c0_1 l0_1 r1 r2 w hr0_1 hc0_1 (hk.trans h)
  · rw [if_neg hg] at h; cases h
def moraineref02_Copy.f (a0_0 : Bool) (l0_1 : List Int) : Option (Bool × List Int) := if l0_1.length < 1073741824 then some (a0_0, l0_1) else none
theorem moraineref02_Copy.calls (a0_0 : Bool) (A0_1 : Option Addr) (c0_1 : Nat) (l0_1 : List Int) (r1 : Bool) (r2 : List Int) (w : World) (hr0_1 : Kd.C (Kd.int .u32) w A0_1 l0_1.length l0_1) (hc0_1 : l0_1.length ≤ c0_1) (h : moraineref02_Copy.f a0_0 l0_1 = some (r1, r2)) :
    Calls Tryd.prog 28 #[.agg #[.bool a0_0, .slice A0_1 l0_1.length c0_1]] w fun e w' => ∃ v1_ : Value, e = .returned (.agg #[.bool r1, v1_]) ∧ Kd.R (Kd.int .u32) 63 w' w.heap.size (fun _ => True) v1_ r2 ∧ Below w.heap.size w w' := by
  unfold moraineref02_Copy.f at h
  by_cases hg : l0_1.length < 1073741824
  · rw [if_pos hg] at h
    refine PRef.moraineref02_Copy.calls a0_0 A0_1 c0_1 l0_1 r1 r2 w hr0_1 hc0_1 (Eq.trans ?_ h)
    unfold PRef.moraineref02_Copy.f
    rw [bsome, if_pos (by rw [List.length_nil]; omega)]
    rfl
  · rw [if_neg hg] at h; cases h
def moraineref02_Add.f (a0_0 : Bool) (l0_1 : List Int) (a1_0 : Bool) (l1_1 : List Int) : Option (Bool × List Int) := if canV a0_0 l0_1 ∧ canV a1_0 l1_1 then some (vb (bval a0_0 l0_1 + bval a1_0 l1_1), vl (bval a0_0 l0_1 + bval a1_0 l1_1)) else none
theorem moraineref02_Add.calls (a0_0 : Bool) (A0_1 : Option Addr) (c0_1 : Nat) (l0_1 : List Int) (a1_0 : Bool) (A1_1 : Option Addr) (c1_1 : Nat) (l1_1 : List Int) (r1 : Bool) (r2 : List Int) (w : World) (hr0_1 : Kd.C (Kd.int .u8) w A0_1 l0_1.length l0_1) (hc0_1 : l0_1.length ≤ c0_1) (hr1_1 : Kd.C (Kd.int .u8) w A1_1 l1_1.length l1_1) (hc1_1 : l1_1.length ≤ c1_1) (h : moraineref02_Add.f a0_0 l0_1 a1_0 l1_1 = some (r1, r2)) :
    Calls Tryd.prog 45 #[.agg #[.bool a0_0, .slice A0_1 l0_1.length c0_1], .agg #[.bool a1_0, .slice A1_1 l1_1.length c1_1]] w fun e w' => ∃ v1_ : Value, e = .returned (.agg #[.bool r1, v1_]) ∧ Kd.R (Kd.int .u8) 5 w' w.heap.size (fun _ => True) v1_ r2 ∧ Below w.heap.size w w' := by
  unfold moraineref02_Add.f at h
  by_cases hg : canV a0_0 l0_1 ∧ canV a1_0 l1_1
  · rw [if_pos hg] at h
    obtain ⟨y, rfl, rfl, ly⟩ := hg.1.as_
    obtain ⟨z, rfl, rfl, lz⟩ := hg.2.as_
    rw [bval_v, bval_v] at h
    obtain ⟨k, hk⟩ := (Add_at y z 1073741824 (by decide) (by omega) (by omega)).rounds
    exact PRef.moraineref02_Add.calls k _ A0_1 c0_1 _ _ A1_1 c1_1 _ r1 r2 w hr0_1 hc0_1 hr1_1 hc1_1 (hk.trans h)
  · rw [if_neg hg] at h; cases h
def moraineref02_Cmp.f (a0_0 : Bool) (l0_1 : List Int) (a1_0 : Bool) (l1_1 : List Int) : Option Int := if canV a0_0 l0_1 ∧ canV a1_0 l1_1 then some (cmpI (bval a0_0 l0_1) (bval a1_0 l1_1)) else none
theorem moraineref02_Cmp.calls (a0_0 : Bool) (A0_1 : Option Addr) (c0_1 : Nat) (l0_1 : List Int) (a1_0 : Bool) (A1_1 : Option Addr) (c1_1 : Nat) (l1_1 : List Int) (r : Int) (w : World) (hr0_1 : Kd.C (Kd.int .u8) w A0_1 l0_1.length l0_1) (hc0_1 : l0_1.length ≤ c0_1) (hr1_1 : Kd.C (Kd.int .u8) w A1_1 l1_1.length l1_1) (hc1_1 : l1_1.length ≤ c1_1) (h : moraineref02_Cmp.f a0_0 l0_1 a1_0 l1_1 = some r) :
    Calls Tryd.prog 44 #[.agg #[.bool a0_0, .slice A0_1 l0_1.length c0_1], .agg #[.bool a1_0, .slice A1_1 l1_1.length c1_1]] w fun e w' => e = .returned (.int .i64 r) ∧ Below w.heap.size w w' := by
  unfold moraineref02_Cmp.f at h
  by_cases hg : canV a0_0 l0_1 ∧ canV a1_0 l1_1
  · rw [if_pos hg] at h
    obtain ⟨y, rfl, rfl, ly⟩ := hg.1.as_
    obtain ⟨z, rfl, rfl, lz⟩ := hg.2.as_
    rw [bval_v, bval_v] at h
    obtain ⟨k, hk⟩ := (Cmp_at y z (by omega) (by omega)).rounds
    exact PRef.moraineref02_Cmp.calls k _ A0_1 c0_1 _ _ A1_1 c1_1 _ r w hr0_1 hc0_1 hr1_1 hc1_1 (hk.trans h)
  · rw [if_neg hg] at h; cases h
def moraineref02_Num.f (a0_0 : Bool) (l0_1 : List Int) : Option (Bool × List Int × Int) := if canV a0_0 l0_1 then some (mkI (bval a0_0 l0_1)) else none
theorem moraineref02_Num.calls (a0_0 : Bool) (A0_1 : Option Addr) (c0_1 : Nat) (l0_1 : List Int) (r1 : Bool) (r2 : List Int) (r3 : Int) (w : World) (hr0_1 : Kd.C (Kd.int .u8) w A0_1 l0_1.length l0_1) (hc0_1 : l0_1.length ≤ c0_1) (h : moraineref02_Num.f a0_0 l0_1 = some (r1, r2, r3)) :
    Calls Tryd.prog 52 #[.agg #[.bool a0_0, .slice A0_1 l0_1.length c0_1]] w fun e w' => ∃ v1_ : Value, e = .returned (.tuple #[.agg #[.bool r1, v1_], .int .i64 r3]) ∧ Kd.R (Kd.int .u32) 63 w' w.heap.size (fun _ => True) v1_ r2 ∧ Below w.heap.size w w' := by
  unfold moraineref02_Num.f at h
  by_cases hg : canV a0_0 l0_1
  · rw [if_pos hg] at h
    obtain ⟨z, rfl, rfl, lz⟩ := hg.as_
    rw [bval_v] at h
    exact PRef.moraineref02_Num.calls _ _ A0_1 c0_1 _ r1 r2 r3 w hr0_1 hc0_1 ((Num_at z).trans h)
  · rw [if_neg hg] at h; cases h
end Go.Proofs.YthhpnlbeniihhaaDoor
namespace Go.Proofs.YthhpnlbeniihhaaDoor
open Go.RowKit Go.Proofs.YthhpnlbeniihhaaDoorW.PrintWords Go.Proofs.YthhpnlbeniihhaaDoorW.PrintLast Go.Proofs.YthhpnlbeniihhaaDoorW.PrintMore Go.Proofs.YthhpnlbeniihhaaDoor.Limb Go.Proofs.YthhpnlbeniihhaaDoor.Bit Go.Proofs.YthhpnlbeniihhaaDoor.NumJ Go.Proofs.YthhpnlbeniihhaaDoor.RefC
set_option linter.unusedVariables false
def moraineref02_Turn.f (a0_0 : Bool) (l0_1 : List Int) : Option (Bool × List Int) := if canV a0_0 l0_1 then some (vb (-bval a0_0 l0_1), vl (-bval a0_0 l0_1)) else none
theorem moraineref02_Turn.calls (a0_0 : Bool) (P0_1_ : Nat → Prop) (u9000_ : Value) (l0_1 : List Int) (r1 : Bool) (r2 : List Int) (w0 w : World) (hB : Below w0.heap.size w0 w) (ho0_1 : Kd.R (Kd.int .u8) 5 w w0.heap.size P0_1_ u9000_ l0_1) (h : moraineref02_Turn.f a0_0 l0_1 = some (r1, r2)) :
    Calls Tryd.prog 46 #[.agg #[.bool a0_0, u9000_]] w fun e w' => ∃ v1_ : Value, e = .returned (.agg #[.bool r1, v1_]) ∧ Kd.R (Kd.int .u8) 5 w' w0.heap.size (fun k_ => (P0_1_ k_ ∨ w.heap.size ≤ k_)) v1_ r2 ∧ Below w0.heap.size w0 w' ∧ Kept w w' (fun k_ => P0_1_ k_) := by
  unfold moraineref02_Turn.f at h
  by_cases hg : canV a0_0 l0_1
  · rw [if_pos hg] at h
    obtain ⟨z, rfl, rfl, lz⟩ := hg.as_
    rw [bval_v] at h
    obtain ⟨k, hk⟩ := (Turn_at z (by omega)).rounds
    exact PRef.moraineref02_Turn.calls k _ P0_1_ u9000_ _ r1 r2 w0 w hB ho0_1 (hk.trans h)
  · rw [if_neg hg] at h; cases h
end Go.Proofs.YthhpnlbeniihhaaDoor
-- Printed by a program of this session's (wip/tools/printr.py, over the kit's print program).
namespace Go.Proofs.YthhpnlbeniihhaaDoor.PNumAdds
open Go.RowKit Go.Proofs.YthhpnlbeniihhaaDoorW.PrintWords Go.Proofs.YthhpnlbeniihhaaDoorW.PrintLast Go.Proofs.YthhpnlbeniihhaaDoorW.PrintMore
attribute [local go_sem] max2_int min2_int max_two min_two max_three min_three max_four min_four   -- for this text's walks alone
set_option linter.unusedVariables false
set_option linter.unusedSimpArgs false
def errW : Option Int → Value
  | none => .nilIface
  | some c => .iface 0 (.int .i64 c)
theorem errW_none : errW none = .nilIface := rfl
theorem errW_some (c : Int) : errW (some c) = .iface 0 (.int .i64 c) := rfl

-- the values' own types
end Go.Proofs.YthhpnlbeniihhaaDoor.PNumAdds
-- Printed by a program of this session's (wip/tools/printr.py, over the kit's print program).
namespace Go.Proofs.YthhpnlbeniihhaaDoor.PNumAdds
open Go.RowKit Go.Proofs.YthhpnlbeniihhaaDoorW.PrintWords Go.Proofs.YthhpnlbeniihhaaDoorW.PrintLast Go.Proofs.YthhpnlbeniihhaaDoorW.PrintMore
attribute [local go_sem] max2_int min2_int max_two min_two max_three min_three max_four min_four   -- for this text's walks alone
set_option linter.unusedVariables false
set_option linter.unusedSimpArgs false
-- given
-- given
def morainelaw02_long.f (a0_0 : Bool) (l0_1 : List Int) : Option (Bool) := some (decide ((l0_1.length : Int) > 60))
set_option maxHeartbeats 8000000 in
set_option maxRecDepth 100000 in
theorem morainelaw02_long.calls (a0_0 : Bool) (A0_1 : Option Addr) (c0_1 : Nat) (l0_1 : List Int) (r : Bool) (w : World) (hr0_1 : Kd.C (Kd.int .u32) w A0_1 l0_1.length l0_1) (hc0_1 : l0_1.length ≤ c0_1) (h : morainelaw02_long.f a0_0 l0_1 = some r) :
    Calls Tryd.prog 21 #[.agg #[.bool a0_0, .slice A0_1 l0_1.length c0_1]] w fun e w' => e = .returned (.bool r) ∧ Below w.heap.size w w' := by
  have hu25 := Tryd.underlying25
  have HR0_1 := Aside0.mk hr0_1
  have HC0_1 := Aside0.mk hc0_1
  clear hr0_1 hc0_1
  have HB := Aside0.mk (Below.refl w.heap.size w)
  have H : (some (decide ((l0_1.length : Int) > 60))) = some r := h
  clear h
  obtain rfl := Option.some.inj H
  go_enter Tryd.func21, Tryd.ntmps21
  go_wp2_with (first | ((with_reducible refine gate_dst (N := 1) rfl ?_); refine box_event ?hg (N := 1) ?hd (cs := #[.bool a0_0, .slice A0_1 l0_1.length c0_1]) (t := 25) ?hr ?_; (case hd => rfl); (case hg => rfl); (case hr => first | (go_simp; done) | (go_simp; rfl)); intro gb101 hg w2 hbox hb; have BK101 := Aside0.mk (hbox); have GW101 := qg hg (by repeat (first | (with_reducible first | exact HB.out | apply qx | apply qv | apply qw) | exact HB.out)); have GE101 := GW101; replace HB := Aside0.mk (below_step (by repeat (first | (with_reducible first | exact HB.out | apply qx | apply qv | apply qw) | exact HB.out)) hb); clear hb hbox hg; have hcz3_0 : w2.cell? ⟨gb101, 0, none⟩ = some (.bool a0_0) := qc BK101 0; have hcz3_1 : w2.cell? ⟨gb101, 1, none⟩ = some (.slice A0_1 l0_1.length c0_1) := qc BK101 1; have hfz3_0 := blk_frozen BK101.out 0; have hfz3_1 := blk_frozen BK101.out 1))
  go_ret
  exact ⟨by first | rfl | (simp [errW_none, errW_some] <;> rfl) | (simp [*, errW_none, errW_some] <;> rfl), by repeat (first | (with_reducible first | exact HB.out | apply qx | apply qv | apply qw | refine below_set ?_ GE101.out) | exact HB.out)⟩
-- given
-- given
def morainelaw02_is.f (a0_0 : Bool) (l0_1 : List Int) (a1 : Int) (a2_0 : Bool) (l2_1 : List Int) : Option (Bool) := (moraineref02_Num.f a2_0 l2_1).bind fun bt104 => (if a1 = bt104.2.2 then ((moraineref02_Same.f a0_0 l0_1 bt104.1 bt104.2.1).bind fun t110 => (some t110)) else (some false))
set_option maxHeartbeats 8000000 in
set_option maxRecDepth 100000 in
theorem morainelaw02_is.calls (a0_0 : Bool) (A0_1 : Option Addr) (c0_1 : Nat) (l0_1 : List Int) (a1 : Int) (a2_0 : Bool) (A2_1 : Option Addr) (c2_1 : Nat) (l2_1 : List Int) (r : Bool) (w : World) (hr0_1 : Kd.C (Kd.int .u32) w A0_1 l0_1.length l0_1) (hc0_1 : l0_1.length ≤ c0_1) (hr2_1 : Kd.C (Kd.int .u8) w A2_1 l2_1.length l2_1) (hc2_1 : l2_1.length ≤ c2_1) (h : morainelaw02_is.f a0_0 l0_1 a1 a2_0 l2_1 = some r) :
    Calls Tryd.prog 27 #[.agg #[.bool a0_0, .slice A0_1 l0_1.length c0_1], .int .i64 a1, .agg #[.bool a2_0, .slice A2_1 l2_1.length c2_1]] w fun e w' => e = .returned (.bool r) ∧ Below w.heap.size w w' := by
  have hu25 := Tryd.underlying25
  have hu34 := Tryd.underlying34
  have HR0_1 := Aside0.mk hr0_1
  have HC0_1 := Aside0.mk hc0_1
  clear hr0_1 hc0_1
  have HR2_1 := Aside0.mk hr2_1
  have HC2_1 := Aside0.mk hc2_1
  clear hr2_1 hc2_1
  have HB := Aside0.mk (Below.refl w.heap.size w)
  have H : ((moraineref02_Num.f a2_0 l2_1).bind fun bt104 => (if a1 = bt104.2.2 then ((moraineref02_Same.f a0_0 l0_1 bt104.1 bt104.2.1).bind fun t110 => (some t110)) else (some false))) = some r := h
  clear h
  replace H := Option.bind_eq_some_iff.mp H
  obtain ⟨⟨t104, t105, t108⟩, A40, H⟩ := H
  replace H : (if a1 = t108 then ((moraineref02_Same.f a0_0 l0_1 t104 t105).bind fun t110 => (some t110)) else (some false)) = some r := H
  have A4 := Aside0.mk A40
  clear A40
  by_cases c5 : a1 = t108
  · rw [if_pos c5] at H
    have c5b0 : (a1 == t108) = true := beq_iff_eq.mpr c5
    have c5b1 : (a1 != t108) = false := bne_eq_false_iff_eq.mpr c5
    clear c5
    replace H := Option.bind_eq_some_iff.mp H
    obtain ⟨t110, A60, H⟩ := H
    replace H : (some t110) = some r := H
    have A6 := Aside0.mk A60
    clear A60
    obtain rfl := Option.some.inj H
    go_enter Tryd.func27, Tryd.ntmps27
    go_wp2_with (first | ((with_reducible refine gate_dst (N := 3) rfl ?_); refine box_event ?hg (N := 3) ?hd (cs := #[.bool a0_0, .slice A0_1 l0_1.length c0_1]) (t := 25) ?hr ?_; (case hd => rfl); (case hg => rfl); (case hr => first | (go_simp; done) | (go_simp; rfl)); intro gb102 hg w7 hbox hb; have BK102 := Aside0.mk (hbox); have GW102 := qg hg (by repeat (first | (with_reducible first | exact HB.out | apply qx | apply qv | apply qw) | exact HB.out)); have GE102 := GW102; replace HB := Aside0.mk (below_step (by repeat (first | (with_reducible first | exact HB.out | apply qx | apply qv | apply qw) | exact HB.out)) hb); clear hb hbox hg) | ((with_reducible refine gate_dst (N := 5) rfl ?_); refine box_event ?hg (N := 5) ?hd (cs := #[.bool a2_0, .slice A2_1 l2_1.length c2_1]) (t := 34) ?hr ?_; (case hd => rfl); (case hg => rfl); (case hr => first | (go_simp; done) | (go_simp; rfl)); intro gb103 hg w8 hbox hb; have BK103 := Aside0.mk (hbox); have GW103 := qg hg (by repeat (first | (with_reducible first | exact HB.out | apply qx | apply qv | apply qw | refine below_set ?_ GE102.out) | exact HB.out)); have GE103 := GW103; replace HB := Aside0.mk (below_step (by repeat (first | (with_reducible first | exact HB.out | apply qx | apply qv | apply qw | refine below_set ?_ GE102.out) | exact HB.out)) hb); have NB102_103 := qn BK102 hg; have NB103_102 := qm BK102 hg; replace BK102 := qb BK102 hb; clear hb hbox hg; have hnb9 := NB103_102.out; have hnc9 := NB102_103.out; have hcz10_0 : w8.cell? ⟨gb103, 0, none⟩ = some (.bool a2_0) := qc BK103 0; have hcz10_1 : w8.cell? ⟨gb103, 1, none⟩ = some (.slice A2_1 l2_1.length c2_1) := qc BK103 1; have hfz10_0 := blk_frozen BK103.out 0; have hfz10_1 := blk_frozen BK103.out 1) | ((with_reducible refine gate_callee (f := 52) rfl ?_); refine goesL_ (some 11) rfl rfl Tryd.func52 (by kernel_rfl) rfl #[.agg #[.bool a2_0, .slice A2_1 l2_1.length c2_1]] rfl (by (try simp only [List.map_toArray, List.map_cons, List.map_nil]); first | done | rfl | (simp only [List.length_drop, List.length_take]; rfl)) ?_; (with_reducible refine (moraineref02_Num.calls a2_0 _ _ l2_1 t104 t105 t108 _ ?side1 ?side2 A4.out).mono ?_); (case side1 => repeat (first | exact (Kd.C_below HR2_1.out HB.out) | (with_reducible refine Kd.C_alloc ?_ _) | (with_reducible refine Kd.C_drewN ?_ _) | (with_reducible refine Kd.C_drew ?_))); (case side2 => exact HC2_1.out); rintro e w11 ⟨v106, rfl, ho0, hb⟩; refine ⟨_, rfl, ?_⟩; have HO107 := Aside0.mk (Kd.R_lower ho0 (below_size (by repeat (first | (with_reducible first | exact HB.out | apply qx | apply qv | apply qw | refine qs ?_ (by assumption)) | exact HB.out)))); replace BK102 := qb BK102 hb; replace BK103 := qb BK103 hb; replace HB := Aside0.mk (below_step (by repeat (first | (with_reducible first | exact HB.out | apply qx | apply qv | apply qw | refine qs ?_ (by assumption)) | exact HB.out)) hb); (try clear hb); (try clear hb2); (try clear hk); (try clear hi); (try clear ho0)) | ((with_reducible refine gate_dst (N := 7) rfl ?_); refine box_event ?hg (N := 7) ?hd (cs := #[.bool false, .slice none 0 0]) (t := 25) ?hr ?_; (case hd => rfl); (case hg => rfl); (case hr => first | (go_simp; done) | (go_simp; rfl)); intro gb109 hg w12 hbox hb; replace HO107 := qr HO107 hb; have BK109 := Aside0.mk (hbox); have GW109 := qg hg (by repeat (first | (with_reducible first | exact HB.out | apply qx | apply qv | apply qw | refine qs ?_ (by assumption)) | exact HB.out)); have GE109 := GW109; replace HB := Aside0.mk (below_step (by repeat (first | (with_reducible first | exact HB.out | apply qx | apply qv | apply qw | refine qs ?_ (by assumption)) | exact HB.out)) hb); have NB102_109 := qn BK102 hg; have NB109_102 := qm BK102 hg; replace BK102 := qb BK102 hb; have NB103_109 := qn BK103 hg; have NB109_103 := qm BK103 hg; replace BK103 := qb BK103 hb; clear hb hbox hg; have hnb13 := NB109_102.out; have hnc13 := NB102_109.out; have hnb14 := NB109_103.out; have hnc14 := NB103_109.out; have hcz15_0 : w12.cell? ⟨gb109, 0, none⟩ = some (.bool false) := qc BK109 0; have hcz15_1 : w12.cell? ⟨gb109, 1, none⟩ = some (.slice none 0 0) := qc BK109 1; have hfz15_0 := blk_frozen BK109.out 0; have hfz15_1 := blk_frozen BK109.out 1; obtain ⟨Ao16, co16, eo16⟩ := Kd.R_slice HO107.out; subst eo16; have hcz17_0 : w12.cell? ⟨gb102, 0, none⟩ = some (.bool a0_0) := qc BK102 0; have hcz17_1 : w12.cell? ⟨gb102, 1, none⟩ = some (.slice A0_1 l0_1.length c0_1) := qc BK102 1; have hfz17_0 := blk_frozen BK102.out 0; have hfz17_1 := blk_frozen BK102.out 1) | (go_at_call 17; (with_reducible refine (moraineref02_Same.calls a0_0 _ _ l0_1 t104 _ _ t105 t110 _ ?side1 ?side2 ?side3 ?side4 A6.out).mono ?_); (case side1 => exact Kd.C_below HR0_1.out (by repeat (first | (with_reducible first | exact HB.out | apply qx | apply qv | apply qw | refine qs ?_ (by assumption)) | exact HB.out))); (case side2 => exact HC0_1.out); (case side3 => refine (Kd.R_reads' (e := 63) (base := w.heap.size) (ok := fun k_ => True) (n := t105.length) (c := co16) ?_).2.2; exact (by (with_reducible repeat (first | apply Kd.R_alloc | apply Kd.R_drewN | apply Kd.R_drew)); exact (Kd.R_mono (qz HO107 BK109 (by decide) (.bool t104) (.slice Ao16 t105.length co16)) (fun _ h_ => h_.1)))); (case side4 => exact (Kd.R_reads' HO107.out).2.1); rintro e w18 ⟨rfl, hb⟩; have n0_ := Aside0.mk (Kd.R_below (by (with_reducible repeat (first | apply Kd.R_alloc | apply Kd.R_drewN | apply Kd.R_drew)); exact (Kd.R_mono (qz HO107 BK109 (by decide) (.bool t104) (.slice Ao16 t105.length co16)) (fun _ h_ => h_.1))) hb); have n1_ := Aside0.mk (blk_below (g := gb102) (o := .cells #[.bool a0_0, .slice A0_1 l0_1.length c0_1] 25 (0, 0)) (by (with_reducible repeat (first | refine qN ?_ _ | refine qW ?_ | refine qA ?_ _)); refine qf ?_ NB102_109; (with_reducible repeat (first | refine qN ?_ _ | refine qW ?_ | refine qA ?_ _)); exact BK102.out) hb); have n2_ := Aside0.mk (blk_below (g := gb103) (o := .cells #[.bool a2_0, .slice A2_1 l2_1.length c2_1] 34 (0, 0)) (by (with_reducible repeat (first | refine qN ?_ _ | refine qW ?_ | refine qA ?_ _)); refine qf ?_ NB103_109; (with_reducible repeat (first | refine qN ?_ _ | refine qW ?_ | refine qA ?_ _)); exact BK103.out) hb); have n3_ := Aside0.mk (blk_below (g := gb109) (o := .cells #[.bool t104, .slice Ao16 t105.length co16] 25 (0, 0)) (by (with_reducible repeat (first | refine qN ?_ _ | refine qW ?_ | refine qA ?_ _)); refine blk_put (cs := #[.bool t104, .slice none 0 0]) ?_ 1 _ rfl; (with_reducible repeat (first | refine qN ?_ _ | refine qW ?_ | refine qA ?_ _)); refine blk_put (cs := #[.bool false, .slice none 0 0]) ?_ 0 _ rfl; (with_reducible repeat (first | refine qN ?_ _ | refine qW ?_ | refine qA ?_ _)); exact BK109.out) hb); have n4_ := Aside0.mk (below_step (by repeat (first | (with_reducible first | exact HB.out | apply qx | apply qv | apply qw | refine qs ?_ (by assumption)) | exact HB.out)) hb); clear HO107; clear BK102; clear BK103; clear BK109; clear HB; have HO107 := n0_; have BK102 := n1_; have BK103 := n2_; have BK109 := n3_; have HB := n4_; clear n0_ n1_ n2_ n3_ n4_; (try clear hb); (try clear hb2); (try clear hk); (try clear hi)))
    go_ret
    exact ⟨by first | rfl | (simp [errW_none, errW_some] <;> rfl) | (simp [*, errW_none, errW_some] <;> rfl), by repeat (first | (with_reducible first | exact HB.out | apply qx | apply qv | apply qw | refine qs ?_ (by assumption)) | exact HB.out)⟩
  · rw [if_neg c5] at H
    have c5b0 : (a1 == t108) = false := beq_eq_false_iff_ne.mpr c5
    have c5b1 : (a1 != t108) = true := bne_iff_ne.mpr c5
    obtain rfl := Option.some.inj H
    go_enter Tryd.func27, Tryd.ntmps27
    go_wp2_with (first | ((with_reducible refine gate_dst (N := 3) rfl ?_); refine box_event ?hg (N := 3) ?hd (cs := #[.bool a0_0, .slice A0_1 l0_1.length c0_1]) (t := 25) ?hr ?_; (case hd => rfl); (case hg => rfl); (case hr => first | (go_simp; done) | (go_simp; rfl)); intro gb102 hg w19 hbox hb; have BK102 := Aside0.mk (hbox); have GW102 := qg hg (by repeat (first | (with_reducible first | exact HB.out | apply qx | apply qv | apply qw) | exact HB.out)); have GE102 := GW102; replace HB := Aside0.mk (below_step (by repeat (first | (with_reducible first | exact HB.out | apply qx | apply qv | apply qw) | exact HB.out)) hb); clear hb hbox hg) | ((with_reducible refine gate_dst (N := 5) rfl ?_); refine box_event ?hg (N := 5) ?hd (cs := #[.bool a2_0, .slice A2_1 l2_1.length c2_1]) (t := 34) ?hr ?_; (case hd => rfl); (case hg => rfl); (case hr => first | (go_simp; done) | (go_simp; rfl)); intro gb103 hg w20 hbox hb; have BK103 := Aside0.mk (hbox); have GW103 := qg hg (by repeat (first | (with_reducible first | exact HB.out | apply qx | apply qv | apply qw | refine below_set ?_ GE102.out) | exact HB.out)); have GE103 := GW103; replace HB := Aside0.mk (below_step (by repeat (first | (with_reducible first | exact HB.out | apply qx | apply qv | apply qw | refine below_set ?_ GE102.out) | exact HB.out)) hb); have NB102_103 := qn BK102 hg; have NB103_102 := qm BK102 hg; replace BK102 := qb BK102 hb; clear hb hbox hg; have hnb21 := NB103_102.out; have hnc21 := NB102_103.out; have hcz22_0 : w20.cell? ⟨gb103, 0, none⟩ = some (.bool a2_0) := qc BK103 0; have hcz22_1 : w20.cell? ⟨gb103, 1, none⟩ = some (.slice A2_1 l2_1.length c2_1) := qc BK103 1; have hfz22_0 := blk_frozen BK103.out 0; have hfz22_1 := blk_frozen BK103.out 1) | ((with_reducible refine gate_callee (f := 52) rfl ?_); refine goesL_ (some 11) rfl rfl Tryd.func52 (by kernel_rfl) rfl #[.agg #[.bool a2_0, .slice A2_1 l2_1.length c2_1]] rfl (by (try simp only [List.map_toArray, List.map_cons, List.map_nil]); first | done | rfl | (simp only [List.length_drop, List.length_take]; rfl)) ?_; (with_reducible refine (moraineref02_Num.calls a2_0 _ _ l2_1 t104 t105 t108 _ ?side1 ?side2 A4.out).mono ?_); (case side1 => repeat (first | exact (Kd.C_below HR2_1.out HB.out) | (with_reducible refine Kd.C_alloc ?_ _) | (with_reducible refine Kd.C_drewN ?_ _) | (with_reducible refine Kd.C_drew ?_))); (case side2 => exact HC2_1.out); rintro e w23 ⟨v106, rfl, ho0, hb⟩; refine ⟨_, rfl, ?_⟩; have HO107 := Aside0.mk (Kd.R_lower ho0 (below_size (by repeat (first | (with_reducible first | exact HB.out | apply qx | apply qv | apply qw | refine qs ?_ (by assumption)) | exact HB.out)))); replace BK102 := qb BK102 hb; replace BK103 := qb BK103 hb; replace HB := Aside0.mk (below_step (by repeat (first | (with_reducible first | exact HB.out | apply qx | apply qv | apply qw | refine qs ?_ (by assumption)) | exact HB.out)) hb); (try clear hb); (try clear hb2); (try clear hk); (try clear hi); (try clear ho0)) | ((with_reducible refine gate_dst (N := 7) rfl ?_); refine box_event ?hg (N := 7) ?hd (cs := #[.bool false, .slice none 0 0]) (t := 25) ?hr ?_; (case hd => rfl); (case hg => rfl); (case hr => first | (go_simp; done) | (go_simp; rfl)); intro gb109 hg w24 hbox hb; replace HO107 := qr HO107 hb; have BK109 := Aside0.mk (hbox); have GW109 := qg hg (by repeat (first | (with_reducible first | exact HB.out | apply qx | apply qv | apply qw | refine qs ?_ (by assumption)) | exact HB.out)); have GE109 := GW109; replace HB := Aside0.mk (below_step (by repeat (first | (with_reducible first | exact HB.out | apply qx | apply qv | apply qw | refine qs ?_ (by assumption)) | exact HB.out)) hb); have NB102_109 := qn BK102 hg; have NB109_102 := qm BK102 hg; replace BK102 := qb BK102 hb; have NB103_109 := qn BK103 hg; have NB109_103 := qm BK103 hg; replace BK103 := qb BK103 hb; clear hb hbox hg; have hnb25 := NB109_102.out; have hnc25 := NB102_109.out; have hnb26 := NB109_103.out; have hnc26 := NB103_109.out; have hcz27_0 : w24.cell? ⟨gb109, 0, none⟩ = some (.bool false) := qc BK109 0; have hcz27_1 : w24.cell? ⟨gb109, 1, none⟩ = some (.slice none 0 0) := qc BK109 1; have hfz27_0 := blk_frozen BK109.out 0; have hfz27_1 := blk_frozen BK109.out 1; obtain ⟨Ao28, co28, eo28⟩ := Kd.R_slice HO107.out; subst eo28))
    go_ret
    exact ⟨by first | rfl | (simp [errW_none, errW_some] <;> rfl) | (simp [*, errW_none, errW_some] <;> rfl), by repeat (first | (with_reducible first | exact HB.out | apply qx | apply qv | apply qw | refine qs ?_ (by assumption)) | exact HB.out)⟩
-- given
def morainelaw02_spoil.l0 : Nat → Int → Bool → List Int → Option (List Int)
  | 0, _, _, _ => none
  | k + 1, x2, x112000, x112001 => if x2 < (x112001.length : Int) then (if 0 ≤ x2 then (morainelaw02_spoil.l0 k (wrap64 (x2 + 1)) x112000 (x112001.set (x2 : Int).toNat (((rd x112001 x2) + 1) % 4294967296))) else (none)) else (some x112001)
def morainelaw02_spoil.f (k : Nat) (a0_0 : Bool) (l0_1 : List Int) : Option (List Int) := morainelaw02_spoil.l0 k 0 a0_0 l0_1
set_option maxHeartbeats 8000000 in
set_option maxRecDepth 100000 in
theorem morainelaw02_spoil.calls (k : Nat) (a0_0 : Bool) (P0_1_ : Nat → Prop) (u9000_ : Value) (l0_1 : List Int) (r : List Int) (w0 w : World) (hB : Below w0.heap.size w0 w) (ho0_1 : Kd.R (Kd.int .u32) 63 w w0.heap.size P0_1_ u9000_ l0_1) (h : morainelaw02_spoil.f k a0_0 l0_1 = some r) :
    Calls Tryd.prog 33 #[.agg #[.bool a0_0, u9000_]] w fun e w' => e = .returned (.tuple #[]) ∧ Kd.R (Kd.int .u32) 63 w' w0.heap.size (fun k_ => (P0_1_ k_ ∨ w.heap.size ≤ k_)) u9000_ r ∧ Below w0.heap.size w0 w' ∧ Kept w w' (fun k_ => P0_1_ k_) := by
  have hu25 := Tryd.underlying25
  have HO0_1 := Aside0.mk (show Kd.R (Kd.int .u32) 63 w w0.heap.size (fun k_ => (P0_1_ k_ ∨ w.heap.size ≤ k_)) u9000_ l0_1 from Kd.R_mono ho0_1 (fun k_ hk => (.inl hk)))
  have HK := Aside0.mk (Kept.refl w (fun k_ => P0_1_ k_))
  have HW0 := Aside0.mk hB.size
  have HB := Aside0.mk hB
  clear hB
  have H : (morainelaw02_spoil.l0 k 0 a0_0 l0_1) = some r := h
  clear h
  have H' := Aside0.mk H
  clear H
  obtain ⟨Ao2, co2, eo2⟩ := Kd.R_slice HO0_1.out
  subst eo2
  go_enter Tryd.func33, Tryd.ntmps33
  go_wp2_with (first | ((with_reducible refine gate_dst (N := 1) rfl ?_); refine box_event ?hg (N := 1) ?hd (cs := #[.bool a0_0, .slice Ao2 l0_1.length co2]) (t := 25) ?hr ?_; (case hd => rfl); (case hg => rfl); (case hr => first | (go_simp; done) | (go_simp; rfl)); intro gb111 hg w3 hbox hb; have n0_ := qr HO0_1 hb; have n1_ := Aside0.mk (Kept.below (S := (fun k_ => P0_1_ k_)) (by repeat (first | (with_reducible first | exact HK.out | apply Kept.alloc | apply Kept.drewN | apply Kept.drew) | exact HK.out)) hb); have n2_ := Aside0.mk (below_step (by repeat (first | (with_reducible first | exact HB.out | apply qx | apply qv | apply qw) | exact HB.out)) hb); have n3_ := Aside0.mk (hbox); have n4_ := Aside0.mk ((by rw [hg]; exact (by first | exact HK.out.1 | exact (show Kept w _ (fun k_ => P0_1_ k_) from by repeat (first | (with_reducible first | exact HK.out | apply Kept.alloc | apply Kept.drewN | apply Kept.drew) | exact HK.out)).1) : w.heap.size ≤ gb111)); have n5_ := Aside0.mk ((by rw [hg]; exact (below_size (by repeat (first | (with_reducible first | exact HB.out | apply qx | apply qv | apply qw) | exact HB.out))) : w0.heap.size ≤ gb111)); clear HO0_1; clear HK; clear HB; have HO0_1 := n0_; have HK := n1_; have HB := n2_; have BK111 := n3_; have GW111 := n4_; have GE111 := n5_; clear n0_ n1_ n2_ n3_ n4_ n5_; clear hb hbox hg))
  go_loopg [2] k (fun kq v2 w' => ∃ (x2_1 : Int) (x112001_1 : List Int), v2 = .int .i64 x2_1 ∧ Aside0 (morainelaw02_spoil.l0 kq x2_1 a0_0 x112001_1 = some r) ∧ Aside0 (kq ≤ k) ∧ Aside0 (Kd.R (Kd.int .u32) 63 w' w0.heap.size (fun k_ => (P0_1_ k_ ∨ w.heap.size ≤ k_)) (.slice Ao2 l0_1.length co2) x112001_1) ∧ Aside0 (w'.heap[gb111]? = some (.cells #[.bool a0_0, (.slice Ao2 l0_1.length co2)] 25 (0, 0))) ∧ Aside0 (Kept w w' (fun k_ => P0_1_ k_)) ∧ Aside0 (Below w0.heap.size w0 w'))
  case atStart => exact ⟨(0), (l0_1), (by first | rfl | (simp; done) | (simp [*]; done)), H', ⟨Nat.le_refl _⟩, ⟨qq HO0_1⟩, ⟨qk BK111⟩, ⟨by repeat (first | (with_reducible first | exact HK.out | apply Kept.alloc | apply Kept.drewN | apply Kept.drew | refine Kept.setCell ?_ (.inr GW111.out) _) | exact HK.out)⟩, ⟨by repeat (first | (with_reducible first | exact HB.out | apply qx | apply qv | apply qw | refine below_set ?_ GE111.out) | exact HB.out)⟩⟩
  case round =>
    clear H'
    try clear p2
    try clear c3
    obtain ⟨x2_1, x112001_1, rfl, HA, HK1, HO_112001, BK111, HK, HB⟩ := hrel
    have hl112001_1 := (Kd.R_reads' HO_112001.out).1
    rw [hl112001_1] at HO_112001
    (try simp only [hl112001_1])
    (try simp only [hl112001_1] at BK111)
    cases gk with
    | zero => exact absurd HA.out (by simp [morainelaw02_spoil.l0])
    | succ k1 =>
      have H := HA.out
      clear HA
      simp only [morainelaw02_spoil.l0] at H
      by_cases c4 : x2_1 < (x112001_1.length : Int)
      · rw [if_pos c4] at H
        have c4b0 : decide (x2_1 < (x112001_1.length : Int)) = true := decide_eq_true c4
        clear c4
        by_cases c5 : 0 ≤ x2_1
        · rw [if_pos c5] at H
          have c5b0 : decide (0 ≤ x2_1) = true := decide_eq_true c5
          clear c5
          obtain ⟨y113, hy113⟩ : ∃ y_ : List Int, y_ = (x112001_1.set (x2_1 : Int).toNat (((rd x112001_1 x2_1) + 1) % 4294967296)) := ⟨_, rfl⟩
          replace H : (morainelaw02_spoil.l0 k1 (wrap64 (x2_1 + 1)) a0_0 y113) = some r := by first | (rw [hy113]; with_reducible exact H) | (have H2_ := (Option.bind_some _ _).symm.trans H; rw [hy113]; with_reducible exact H2_) | (have H2_ := (Option.bind_some _ _).symm.trans H; with_reducible exact H2_) | with_reducible exact H | (rw [hy113]; exact H) | exact H
          have Ny113 := Aside0.mk hy113
          clear hy113
          have H' := Aside0.mk H
          clear H
          have hcz7_0 : wr.cell? ⟨gb111, 0, none⟩ = some (.bool a0_0) := qc BK111 0
          have hcz7_1 : wr.cell? ⟨gb111, 1, none⟩ = some (.slice Ao2 x112001_1.length co2) := qc BK111 1
          have hfz7_0 := blk_frozen BK111.out 0
          have hfz7_1 := blk_frozen BK111.out 1
          have p112 : 0 ≤ (x2_1 : Int) := of_decide_eq_true (by first | (with_reducible assumption) | assumption)
          have q112 : x2_1 < (x112001_1.length : Int) := of_decide_eq_true (by first | (with_reducible assumption) | assumption)
          obtain ⟨ad112, e112, hx112_0⟩ := Kd.at_int (Kd.R_reads' HO_112001.out).2.2 x2_1 p112 q112
          cases e112
          replace p112 := eq_true p112
          replace q112 := eq_true q112
          have p6 : 0 ≤ (x2_1 : Int) := of_decide_eq_true (by first | (with_reducible assumption) | assumption)
          have q6 : (x2_1 : Int) < ((x112001_1.length : Int) : Int) := of_decide_eq_true (by first | (with_reducible assumption) | assumption)
          obtain ⟨go6, co6, eo6, gb6, gl6, cl6, HG6⟩ := Kd.R_form HO_112001.out (by omega)
          (first | cases eo6 | (injection eo6 with ea_ en_ ec_; (first | subst ea_ | (injection ea_ with ea_; subst ea_)); subst ec_; clear en_))
          have GB6 := Aside0.mk gb6
          have GG6 := Aside0.mk HG6
          clear gb6 gl6 HG6
          have HMgo6 := Aside0.mk (show (P0_1_ go6 ∨ w.heap.size ≤ go6) from (HO_112001.out.1 _ rfl))
          (first | simp only [add_plain] at hx112_0 | skip)
          obtain ⟨hx6_0, hf6_0⟩ := Kd.R_celln 0 HO_112001.out (x2_1 : Int) p6 q6
          replace p6 := eq_true p6
          replace q6 := eq_true q6
          have HP8 := Kd.R_putg HO_112001.out (x2_1 : Int) (((rd x112001_1 x2_1) + 1) % 4294967296)
          go_wp2_with (first | ((with_reducible refine gate_store (t := 63) (p := 16) rfl ?_); refine store_event (t := 63) (p := 16) (v := ?vo_w9) (w1 := (wr.setCell ⟨go6, (x2_1 : Int).toNat, none⟩ (.int .u32 (((rd x112001_1 x2_1) + 1) % 4294967296)))) ?hg ?ho ?hn ?hr ?_; (case ho => rfl); (case hg => rfl); (case hn => rfl); (case hr => first | (go_simp; done) | (go_simp; rfl)); intro w9 hw; have hg : wr.grownBy w9 (some go6) := (by rw [hw]; exact HP8.2); have hp_ : Kd.R (Kd.int .u32) 63 w9 w0.heap.size (fun k_ => (P0_1_ k_ ∨ w.heap.size ≤ k_)) (.slice (some ⟨go6, 0, none⟩) x112001_1.length co2) y113 := (by rw [hw, Ny113.out]; exact HP8.1); clear HP8; have n0_ := Aside0.mk (hp_); have n1_ := Aside0.mk (blk_grown (g := gb111) (o := .cells #[.bool a0_0, .slice (some ⟨go6, 0, none⟩) x112001_1.length co2] 25 (0, 0)) (by (with_reducible repeat (first | refine qN ?_ _ | refine qW ?_ | refine qA ?_ _)); exact BK111.out) hg (Kd.R_ne HO_112001.out BK111.out (by decide))); have n2_ := Aside0.mk ((by rw [hw]; exact below_set (HB.out) GB6.out : Below w0.heap.size w0 w9)); have n3_ := Aside0.mk (Kept.of_grown (S := (fun k_ => P0_1_ k_)) hg (by repeat (first | (with_reducible first | exact HK.out | apply Kept.alloc | apply Kept.drewN | apply Kept.drew | refine Kept.setCell ?_ (.inr GW111.out) _) | exact HK.out)) (fun k_ e_ => (HO_112001.out.1 k_ e_))); clear HO_112001; clear BK111; clear HB; clear HK; have HO_112001 := n0_; have BK111 := n1_; have HB := n2_; have HK := n3_; clear n0_ n1_ n2_ n3_; clear hg hw hp_))
          (try simp only [← hl112001_1])
          go_roundg k1
          case measure => have := HK1.out; omega
          case rel => exact ⟨(wrap64 (x2_1 + 1)), (y113), (by first | rfl | (simp; done) | (simp [*]; done)), H', ⟨by have := HK1.out; omega⟩, ⟨by (try simp only [hl112001_1]); (with_reducible repeat (first | apply Kd.R_alloc | apply Kd.R_drewN | apply Kd.R_drew)); exact HO_112001.out⟩, ⟨by (try simp only [hl112001_1]); (with_reducible repeat (first | refine qN ?_ _ | refine qW ?_ | refine qA ?_ _)); exact BK111.out⟩, ⟨by repeat (first | (with_reducible first | exact HK.out | apply Kept.alloc | apply Kept.drewN | apply Kept.drew | refine Kept.setCell ?_ (.inr GW111.out) _) | exact HK.out)⟩, ⟨by repeat (first | (with_reducible first | exact HB.out | apply qx | apply qv | apply qw | refine below_set ?_ GE111.out) | exact HB.out)⟩⟩
        · rw [if_neg c5] at H
          exact absurd H (by simp)
      · rw [if_neg c4] at H
        have c4b0 : decide (x2_1 < (x112001_1.length : Int)) = false := decide_eq_false c4
        clear c4
        obtain rfl := Option.some.inj H
        have hcz10_0 : wr.cell? ⟨gb111, 0, none⟩ = some (.bool a0_0) := qc BK111 0
        have hcz10_1 : wr.cell? ⟨gb111, 1, none⟩ = some (.slice Ao2 x112001_1.length co2) := qc BK111 1
        have hfz10_0 := blk_frozen BK111.out 0
        have hfz10_1 := blk_frozen BK111.out 1
        go_wp2
        first | go_end0 | ((try simp only [Exit.inBlock, Exit.then]); refine bodyPost_ret (results_none rfl _ _ _) rfl ?_)
        exact ⟨by first | rfl | (simp [errW_none, errW_some] <;> rfl) | (simp [*, errW_none, errW_some] <;> rfl), (by first | exact (by (with_reducible repeat (first | apply Kd.R_alloc | apply Kd.R_drewN | apply Kd.R_drew)); exact HO_112001.out) | (simp only [hl112001_1]; exact (by (with_reducible repeat (first | apply Kd.R_alloc | apply Kd.R_drewN | apply Kd.R_drew)); exact HO_112001.out))), by repeat (first | (with_reducible first | exact HB.out | apply qx | apply qv | apply qw | refine below_set ?_ GE111.out) | exact HB.out), by repeat (first | (with_reducible first | exact HK.out | apply Kept.alloc | apply Kept.drewN | apply Kept.drew | refine Kept.setCell ?_ (.inr GW111.out) _) | exact HK.out)⟩
-- given
-- given
-- given
-- given
-- given
-- given
end Go.Proofs.YthhpnlbeniihhaaDoor.PNumAdds
