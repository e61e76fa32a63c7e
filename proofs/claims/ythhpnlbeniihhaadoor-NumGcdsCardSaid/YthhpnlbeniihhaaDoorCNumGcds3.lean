/- Contracts and plain laws that the row's proof uses (part 3). Conditions: those that each states. -/
import Derived.Test.YthhpnlbeniihhaaDoorCards
import Derived.WalkKit
import Derived.ProofKit
import Derived.OpenShut
import Derived.ShutString
import Derived.ChangeOld
import Derived.ChangeStays
import Derived.ChangeSlices
import Derived.Below
import Derived.SizedLaws
import Derived.Deep.DeepHandedRow
import Derived.Lib.LaidTab
import Derived.LaidLaws
import Derived.Carry
import Derived.Test.YthhpnlbeniihhaaDoorProg
import Derived.Deep.Draws
import Derived.Deep.AppendLies
import Derived.Maps.AppendAt
import Derived.OwnWalk
import Derived.Laws.BytesArg
import Derived.Laws.MakeOwn
import Derived.Laws.OwnMore
import Derived.Deep.OwnRows
import Derived.Tactics
import Derived.Lib.ConvBytes
import Derived.Laws.Slices
import Derived.KernelRfl
import Derived.RowKit3
import Derived.Deep.LoopGhost
import Derived.Deep.QuietTactic
import Derived.BigQuiet
import Derived.WideLaws
import Derived.Deep.DeepCutAuto
import Derived.Deep.CutBlock
import Derived.Deep.RegionHeld3
import Derived.Laws.Rows
import Derived.Lib.AppendStr
import Derived.ArgAppend
import Derived.Laws.IdiomCopy
import Derived.OrdersHeld
import Derived.Laws.BitsLemmas
import Derived.RowKit
import Derived.Test.YthhpnlbeniihhaaDoorCNumGcds2
-- Printed by a program of this session's (wip/tools/printr.py, over the kit's print program).
namespace Go.Proofs.YthhpnlbeniihhaaDoor.PAwk
open Go.RowKit Go.Proofs.YthhpnlbeniihhaaDoorW.PrintWords Go.Proofs.YthhpnlbeniihhaaDoorW.PrintLast Go.Proofs.YthhpnlbeniihhaaDoorW.PrintMore
attribute [local go_sem] max2_int min2_int max_two min_two max_three min_three max_four min_four   -- for this text's walks alone
set_option linter.unusedVariables false
set_option linter.unusedSimpArgs false
-- given
-- given
-- given
-- given
-- given
def morainelaw02_awake.f  : Option (Bool) := (num_Parse.f (⟨#[45, 48, 48, 55]⟩ : ByteArray)).bind fun bt101 => ((num_Parse.f (⟨#[43]⟩ : ByteArray)).bind fun bt107 => ((num_Of.f (-7)).bind fun bt113 => ((num_Of.f 2).bind fun bt117 => ((num_Mod.f bt113.1 bt113.2 bt117.1 bt117.2).bind fun bt121 => ((num_Of.f 7).bind fun bt127 => ((num_Of.f 0).bind fun bt131 => ((num_Quo.f bt127.1 bt127.2 bt131.1 bt131.2).bind fun bt135 => (if bt101.2.2 = 0 then ((num_Text.f bt101.1 bt101.2.1).bind fun t141 => (if t141.toList = ([45, 55] : List UInt8) then (if bt107.2.2 = 9 then (if bt121.2.2 = 0 then ((num_Text.f bt121.1 bt121.2.1).bind fun t142 => (if t142.toList = ([49] : List UInt8) then (if bt135.2.2 = 13 then ((num_Text.f false (([0, 1] : List Int))).bind fun t146 => (some (t146.toList == ([52, 50, 57, 52, 57, 54, 55, 50, 57, 54] : List UInt8)))) else (some false)) else (some false))) else (some false)) else (some false)) else (some false))) else (some false)))))))))
set_option maxHeartbeats 8000000 in
set_option maxRecDepth 100000 in
theorem morainelaw02_awake.calls  (r : Bool) (w : World) (hr : r = true) (h : morainelaw02_awake.f  = some r) (ht : NumV.Tab w) :
  Calls Tryd.prog 20 #[] w fun e w' => e = .returned (.bool r) ∧ Below w.heap.size w w' := by
 have HT := Aside0.mk ht
 clear ht
 have hu25 := Tryd.underlying25
 have HB := Aside0.mk (Below.refl w.heap.size w)
 have H : ((num_Parse.f (⟨#[45, 48, 48, 55]⟩ : ByteArray)).bind fun bt101 => ((num_Parse.f (⟨#[43]⟩ : ByteArray)).bind fun bt107 => ((num_Of.f (-7)).bind fun bt113 => ((num_Of.f 2).bind fun bt117 => ((num_Mod.f bt113.1 bt113.2 bt117.1 bt117.2).bind fun bt121 => ((num_Of.f 7).bind fun bt127 => ((num_Of.f 0).bind fun bt131 => ((num_Quo.f bt127.1 bt127.2 bt131.1 bt131.2).bind fun bt135 => (if bt101.2.2 = 0 then ((num_Text.f bt101.1 bt101.2.1).bind fun t141 => (if t141.toList = ([45, 55] : List UInt8) then (if bt107.2.2 = 9 then (if bt121.2.2 = 0 then ((num_Text.f bt121.1 bt121.2.1).bind fun t142 => (if t142.toList = ([49] : List UInt8) then (if bt135.2.2 = 13 then ((num_Text.f false (([0, 1] : List Int))).bind fun t146 => (some (t146.toList == ([52, 50, 57, 52, 57, 54, 55, 50, 57, 54] : List UInt8)))) else (some false)) else (some false))) else (some false)) else (some false)) else (some false))) else (some false)))))))))) = some r := h
 clear h
 replace H := Option.bind_eq_some_iff.mp H
 obtain ⟨⟨t101, t102, t105⟩, A10, H⟩ := H
 replace H : ((num_Parse.f (⟨#[43]⟩ : ByteArray)).bind fun bt107 => ((num_Of.f (-7)).bind fun bt113 => ((num_Of.f 2).bind fun bt117 => ((num_Mod.f bt113.1 bt113.2 bt117.1 bt117.2).bind fun bt121 => ((num_Of.f 7).bind fun bt127 => ((num_Of.f 0).bind fun bt131 => ((num_Quo.f bt127.1 bt127.2 bt131.1 bt131.2).bind fun bt135 => (if t105 = 0 then ((num_Text.f t101 t102).bind fun t141 => (if t141.toList = ([45, 55] : List UInt8) then (if bt107.2.2 = 9 then (if bt121.2.2 = 0 then ((num_Text.f bt121.1 bt121.2.1).bind fun t142 => (if t142.toList = ([49] : List UInt8) then (if bt135.2.2 = 13 then ((num_Text.f false (([0, 1] : List Int))).bind fun t146 => (some (t146.toList == ([52, 50, 57, 52, 57, 54, 55, 50, 57, 54] : List UInt8)))) else (some false)) else (some false))) else (some false)) else (some false)) else (some false))) else (some false))))))))) = some r := H
 have A1 := Aside0.mk A10
 clear A10
 replace H := Option.bind_eq_some_iff.mp H
 obtain ⟨⟨t107, t108, t111⟩, A20, H⟩ := H
 replace H : ((num_Of.f (-7)).bind fun bt113 => ((num_Of.f 2).bind fun bt117 => ((num_Mod.f bt113.1 bt113.2 bt117.1 bt117.2).bind fun bt121 => ((num_Of.f 7).bind fun bt127 => ((num_Of.f 0).bind fun bt131 => ((num_Quo.f bt127.1 bt127.2 bt131.1 bt131.2).bind fun bt135 => (if t105 = 0 then ((num_Text.f t101 t102).bind fun t141 => (if t141.toList = ([45, 55] : List UInt8) then (if t111 = 9 then (if bt121.2.2 = 0 then ((num_Text.f bt121.1 bt121.2.1).bind fun t142 => (if t142.toList = ([49] : List UInt8) then (if bt135.2.2 = 13 then ((num_Text.f false (([0, 1] : List Int))).bind fun t146 => (some (t146.toList == ([52, 50, 57, 52, 57, 54, 55, 50, 57, 54] : List UInt8)))) else (some false)) else (some false))) else (some false)) else (some false)) else (some false))) else (some false)))))))) = some r := H
 have A2 := Aside0.mk A20
 clear A20
 replace H := Option.bind_eq_some_iff.mp H
 obtain ⟨⟨t113, t114⟩, A30, H⟩ := H
 replace H : ((num_Of.f 2).bind fun bt117 => ((num_Mod.f t113 t114 bt117.1 bt117.2).bind fun bt121 => ((num_Of.f 7).bind fun bt127 => ((num_Of.f 0).bind fun bt131 => ((num_Quo.f bt127.1 bt127.2 bt131.1 bt131.2).bind fun bt135 => (if t105 = 0 then ((num_Text.f t101 t102).bind fun t141 => (if t141.toList = ([45, 55] : List UInt8) then (if t111 = 9 then (if bt121.2.2 = 0 then ((num_Text.f bt121.1 bt121.2.1).bind fun t142 => (if t142.toList = ([49] : List UInt8) then (if bt135.2.2 = 13 then ((num_Text.f false (([0, 1] : List Int))).bind fun t146 => (some (t146.toList == ([52, 50, 57, 52, 57, 54, 55, 50, 57, 54] : List UInt8)))) else (some false)) else (some false))) else (some false)) else (some false)) else (some false))) else (some false))))))) = some r := H
 have A3 := Aside0.mk A30
 clear A30
 replace H := Option.bind_eq_some_iff.mp H
 obtain ⟨⟨t117, t118⟩, A40, H⟩ := H
 replace H : ((num_Mod.f t113 t114 t117 t118).bind fun bt121 => ((num_Of.f 7).bind fun bt127 => ((num_Of.f 0).bind fun bt131 => ((num_Quo.f bt127.1 bt127.2 bt131.1 bt131.2).bind fun bt135 => (if t105 = 0 then ((num_Text.f t101 t102).bind fun t141 => (if t141.toList = ([45, 55] : List UInt8) then (if t111 = 9 then (if bt121.2.2 = 0 then ((num_Text.f bt121.1 bt121.2.1).bind fun t142 => (if t142.toList = ([49] : List UInt8) then (if bt135.2.2 = 13 then ((num_Text.f false (([0, 1] : List Int))).bind fun t146 => (some (t146.toList == ([52, 50, 57, 52, 57, 54, 55, 50, 57, 54] : List UInt8)))) else (some false)) else (some false))) else (some false)) else (some false)) else (some false))) else (some false)))))) = some r := H
 have A4 := Aside0.mk A40
 clear A40
 replace H := Option.bind_eq_some_iff.mp H
 obtain ⟨⟨t121, t122, t125⟩, A50, H⟩ := H
 replace H : ((num_Of.f 7).bind fun bt127 => ((num_Of.f 0).bind fun bt131 => ((num_Quo.f bt127.1 bt127.2 bt131.1 bt131.2).bind fun bt135 => (if t105 = 0 then ((num_Text.f t101 t102).bind fun t141 => (if t141.toList = ([45, 55] : List UInt8) then (if t111 = 9 then (if t125 = 0 then ((num_Text.f t121 t122).bind fun t142 => (if t142.toList = ([49] : List UInt8) then (if bt135.2.2 = 13 then ((num_Text.f false (([0, 1] : List Int))).bind fun t146 => (some (t146.toList == ([52, 50, 57, 52, 57, 54, 55, 50, 57, 54] : List UInt8)))) else (some false)) else (some false))) else (some false)) else (some false)) else (some false))) else (some false))))) = some r := H
 have A5 := Aside0.mk A50
 clear A50
 replace H := Option.bind_eq_some_iff.mp H
 obtain ⟨⟨t127, t128⟩, A60, H⟩ := H
 replace H : ((num_Of.f 0).bind fun bt131 => ((num_Quo.f t127 t128 bt131.1 bt131.2).bind fun bt135 => (if t105 = 0 then ((num_Text.f t101 t102).bind fun t141 => (if t141.toList = ([45, 55] : List UInt8) then (if t111 = 9 then (if t125 = 0 then ((num_Text.f t121 t122).bind fun t142 => (if t142.toList = ([49] : List UInt8) then (if bt135.2.2 = 13 then ((num_Text.f false (([0, 1] : List Int))).bind fun t146 => (some (t146.toList == ([52, 50, 57, 52, 57, 54, 55, 50, 57, 54] : List UInt8)))) else (some false)) else (some false))) else (some false)) else (some false)) else (some false))) else (some false)))) = some r := H
 have A6 := Aside0.mk A60
 clear A60
 replace H := Option.bind_eq_some_iff.mp H
 obtain ⟨⟨t131, t132⟩, A70, H⟩ := H
 replace H : ((num_Quo.f t127 t128 t131 t132).bind fun bt135 => (if t105 = 0 then ((num_Text.f t101 t102).bind fun t141 => (if t141.toList = ([45, 55] : List UInt8) then (if t111 = 9 then (if t125 = 0 then ((num_Text.f t121 t122).bind fun t142 => (if t142.toList = ([49] : List UInt8) then (if bt135.2.2 = 13 then ((num_Text.f false (([0, 1] : List Int))).bind fun t146 => (some (t146.toList == ([52, 50, 57, 52, 57, 54, 55, 50, 57, 54] : List UInt8)))) else (some false)) else (some false))) else (some false)) else (some false)) else (some false))) else (some false))) = some r := H
 have A7 := Aside0.mk A70
 clear A70
 replace H := Option.bind_eq_some_iff.mp H
 obtain ⟨⟨t135, t136, t139⟩, A80, H⟩ := H
 replace H : (if t105 = 0 then ((num_Text.f t101 t102).bind fun t141 => (if t141.toList = ([45, 55] : List UInt8) then (if t111 = 9 then (if t125 = 0 then ((num_Text.f t121 t122).bind fun t142 => (if t142.toList = ([49] : List UInt8) then (if t139 = 13 then ((num_Text.f false (([0, 1] : List Int))).bind fun t146 => (some (t146.toList == ([52, 50, 57, 52, 57, 54, 55, 50, 57, 54] : List UInt8)))) else (some false)) else (some false))) else (some false)) else (some false)) else (some false))) else (some false)) = some r := H
 have A8 := Aside0.mk A80
 clear A80
 by_cases c9 : t105 = 0
 ·rw [if_pos c9] at H
  have c9b0 : (t105 == 0) = true := beq_iff_eq.mpr c9
  have c9b1 : (t105 != 0) = false := bne_eq_false_iff_eq.mpr c9
  clear c9
  replace H := Option.bind_eq_some_iff.mp H
  obtain ⟨t141, A100, H⟩ := H
  replace H : (if t141.toList = ([45, 55] : List UInt8) then (if t111 = 9 then (if t125 = 0 then ((num_Text.f t121 t122).bind fun t142 => (if t142.toList = ([49] : List UInt8) then (if t139 = 13 then ((num_Text.f false (([0, 1] : List Int))).bind fun t146 => (some (t146.toList == ([52, 50, 57, 52, 57, 54, 55, 50, 57, 54] : List UInt8)))) else (some false)) else (some false))) else (some false)) else (some false)) else (some false)) = some r := H
  have A10 := Aside0.mk A100
  clear A100
  by_cases c11 : t141.toList = ([45, 55] : List UInt8)
  ·rw [if_pos c11] at H
   have c11b0 : (t141.toList == ([45, 55] : List UInt8)) = true := beq_iff_eq.mpr c11
   have c11b1 : (t141.toList != ([45, 55] : List UInt8)) = false := bne_eq_false_iff_eq.mpr c11
   clear c11
   by_cases c12 : t111 = 9
   ·rw [if_pos c12] at H
    have c12b0 : (t111 == 9) = true := beq_iff_eq.mpr c12
    have c12b1 : (t111 != 9) = false := bne_eq_false_iff_eq.mpr c12
    clear c12
    by_cases c13 : t125 = 0
    ·rw [if_pos c13] at H
     have c13b0 : (t125 == 0) = true := beq_iff_eq.mpr c13
     have c13b1 : (t125 != 0) = false := bne_eq_false_iff_eq.mpr c13
     clear c13
     replace H := Option.bind_eq_some_iff.mp H
     obtain ⟨t142, A140, H⟩ := H
     replace H : (if t142.toList = ([49] : List UInt8) then (if t139 = 13 then ((num_Text.f false (([0, 1] : List Int))).bind fun t146 => (some (t146.toList == ([52, 50, 57, 52, 57, 54, 55, 50, 57, 54] : List UInt8)))) else (some false)) else (some false)) = some r := H
     have A14 := Aside0.mk A140
     clear A140
     by_cases c15 : t142.toList = ([49] : List UInt8)
     ·rw [if_pos c15] at H
      have c15b0 : (t142.toList == ([49] : List UInt8)) = true := beq_iff_eq.mpr c15
      have c15b1 : (t142.toList != ([49] : List UInt8)) = false := bne_eq_false_iff_eq.mpr c15
      clear c15
      by_cases c16 : t139 = 13
      ·rw [if_pos c16] at H
       have c16b0 : (t139 == 13) = true := beq_iff_eq.mpr c16
       have c16b1 : (t139 != 13) = false := bne_eq_false_iff_eq.mpr c16
       clear c16
       obtain ⟨y143, hy143⟩ : ∃ y_ : List Int, y_ = (([0, 1] : List Int)) := ⟨_, rfl⟩
       replace H : ((num_Text.f false y143).bind fun t146 => (some (t146.toList == ([52, 50, 57, 52, 57, 54, 55, 50, 57, 54] : List UInt8)))) = some r := by first | (rw [hy143]; with_reducible exact H) | (have H2_ := (Option.bind_some _ _).symm.trans H; rw [hy143]; with_reducible exact H2_) | (have H2_ := (Option.bind_some _ _).symm.trans H; with_reducible exact H2_) | with_reducible exact H | (rw [hy143]; exact H) | exact H
       have Ny143 := Aside0.mk hy143
       clear hy143
       replace H := Option.bind_eq_some_iff.mp H
       obtain ⟨t146, A170, H⟩ := H
       replace H : (some (t146.toList == ([52, 50, 57, 52, 57, 54, 55, 50, 57, 54] : List UInt8))) = some r := H
       have A17 := Aside0.mk A170
       clear A170
       obtain rfl := Option.some.inj H
       go_enter Tryd.func20, Tryd.ntmps20
       go_wp2_with (first | ((with_reducible refine gate_callee (f := 25) rfl ?_); refine goesL_ (some 10) rfl rfl Tryd.func25 (by kernel_rfl) rfl #[.string (⟨#[45, 48, 48, 55]⟩ : ByteArray)] rfl (by (try simp only [zM, zO, zP]); first|done|rfl) ?_; (with_reducible refine (num_Parse.calls (⟨#[45, 48, 48, 55]⟩ : ByteArray) t101 t102 t105 _ A1.out).mono ?_); rintro e w18 ⟨v103, rfl, ho0, hb⟩; refine ⟨_, rfl, ?_⟩; have HO104 := Aside0.mk (Kd.R_lower ho0 (below_size (by repeat (first | (with_reducible first | exact HB.out | apply qx | apply qv | apply qw) | exact HB.out)))); replace HB := Aside0.mk (below_step (by repeat (first | (with_reducible first | exact HB.out | apply qx | apply qv | apply qw) | exact HB.out)) hb); (try clear hb); (try clear hb2); (try clear hk); (try clear hi); (try clear ho0)) | ((with_reducible refine gate_dst (N := 1) rfl ?_); (try (refine gate_guard (by rfl) ?_; dsimp only)); refine box_event ?hg (N := 1) ?hd (cs := #[.bool false, .slice none 0 0]) (t := 25) ?hr ?_; (case hd => rfl); (case hg => rfl); (case hr => go_simp <;> rfl); intro gb106 hg w19 hbox hb; replace HO104 := qr HO104 hb; have BK106 := Aside0.mk (hbox); have GW106 := qg hg (by repeat (first | (with_reducible first | exact HB.out | apply qx | apply qv | apply qw) | exact HB.out)); have GE106 := GW106; replace HB := Aside0.mk (below_step (by repeat (first | (with_reducible first | exact HB.out | apply qx | apply qv | apply qw) | exact HB.out)) hb); clear hb hbox hg; have hcz20_0 : w19.cell? ⟨gb106, 0, none⟩ = some (.bool false) := qc BK106 0; have hcz20_1 : w19.cell? ⟨gb106, 1, none⟩ = some (.slice none 0 0) := qc BK106 1; have hfz20_0 := blk_frozen BK106.out 0; have hfz20_1 := blk_frozen BK106.out 1; obtain ⟨Ao21, co21, eo21⟩ := Kd.R_slice HO104.out; subst eo21) | ((with_reducible refine gate_callee (f := 25) rfl ?_); refine goesL_ (some 14) rfl rfl Tryd.func25 (by kernel_rfl) rfl #[.string (⟨#[43]⟩ : ByteArray)] rfl (by (try simp only [zM, zO, zP]); first|done|rfl) ?_; (with_reducible refine (num_Parse.calls (⟨#[43]⟩ : ByteArray) t107 t108 t111 _ A2.out).mono ?_); rintro e w22 ⟨v109, rfl, ho0, hb⟩; refine ⟨_, rfl, ?_⟩; have n0_ := Aside0.mk (Kd.R_elder' (by (with_reducible repeat first|apply Kd.R_alloc|apply Kd.R_drewN|apply Kd.R_drew); exact (Kd.R_mono (qz HO104 BK106 (by decide) (.bool t101) (.slice Ao21 t102.length co21)) (fun _ h_ => h_.1))) (Kd.R_base ho0) hb); have n1_ := Aside0.mk (Kd.R_lower (Kd.R_new' ho0 (Kd.R_lt (by (with_reducible repeat first|apply Kd.R_alloc|apply Kd.R_drewN|apply Kd.R_drew); exact (Kd.R_mono (qz HO104 BK106 (by decide) (.bool t101) (.slice Ao21 t102.length co21)) (fun _ h_ => h_.1))))) (below_size (by repeat (first | (with_reducible first | exact HB.out | apply qx | apply qv | apply qw | refine below_set ?_ GE106.out) | exact HB.out)))); have n2_ := Aside0.mk (blk_below (g := gb106) (o := .cells #[.bool t101, .slice Ao21 t102.length co21] 25 (0, 0)) (by (with_reducible repeat first|refine qN ?_ _|refine qW ?_|refine qA ?_ _); refine blk_put (cs := #[.bool t101, .slice none 0 0]) ?_ 1 _ rfl; (with_reducible repeat first|refine qN ?_ _|refine qW ?_|refine qA ?_ _); refine blk_put (cs := #[.bool false, .slice none 0 0]) ?_ 0 _ rfl; (with_reducible repeat first|refine qN ?_ _|refine qW ?_|refine qA ?_ _); exact BK106.out) hb); have n3_ := Aside0.mk (below_step (by repeat (first | (with_reducible first | exact HB.out | apply qx | apply qv | apply qw | refine below_set ?_ GE106.out) | exact HB.out)) hb); clear HO104; clear BK106; clear HB; have HO104 := n0_; have HO110 := n1_; have BK106 := n2_; have HB := n3_; clear n0_ n1_ n2_ n3_; (try clear hb); (try clear hb2); (try clear hk); (try clear hi); (try clear ho0)) | ((with_reducible refine gate_dst (N := 3) rfl ?_); (try (refine gate_guard (by rfl) ?_; dsimp only)); refine box_event ?hg (N := 3) ?hd (cs := #[.bool false, .slice none 0 0]) (t := 25) ?hr ?_; (case hd => rfl); (case hg => rfl); (case hr => go_simp <;> rfl); intro gb112 hg w23 hbox hb; replace HO104 := qr HO104 hb; replace HO110 := qr HO110 hb; have BK112 := Aside0.mk (hbox); have GW112 := qg hg (by repeat (first | (with_reducible first | exact HB.out | apply qx | apply qv | apply qw | refine below_set ?_ GE106.out) | exact HB.out)); have GE112 := GW112; replace HB := Aside0.mk (below_step (by repeat (first | (with_reducible first | exact HB.out | apply qx | apply qv | apply qw | refine below_set ?_ GE106.out) | exact HB.out)) hb); have NB106_112 := qn BK106 hg; have NB112_106 := qm BK106 hg; replace BK106 := qb BK106 hb; clear hb hbox hg; have hnb24 := NB112_106.out; have hnc24 := NB106_112.out; have hcz25_0 : w23.cell? ⟨gb112, 0, none⟩ = some (.bool false) := qc BK112 0; have hcz25_1 : w23.cell? ⟨gb112, 1, none⟩ = some (.slice none 0 0) := qc BK112 1; have hfz25_0 := blk_frozen BK112.out 0; have hfz25_1 := blk_frozen BK112.out 1; obtain ⟨Ao26, co26, eo26⟩ := Kd.R_slice HO110.out; subst eo26) | ((with_reducible refine gate_callee (f := 18) rfl ?_); refine goesL_ (some 18) rfl rfl Tryd.func18 (by kernel_rfl) rfl #[.int .i64 (-7)] rfl (by (try simp only [zM, zO, zP]); first|done|rfl) ?_; (with_reducible refine (num_Of.calls (-7) t113 t114 _ A3.out).mono ?_); rintro e w27 ⟨v115, rfl, ho0, hb⟩; refine ⟨_, rfl, ?_⟩; have n0_ := Aside0.mk (Kd.R_elder' (by (with_reducible repeat first|apply Kd.R_alloc|apply Kd.R_drewN|apply Kd.R_drew); exact (Kd.R_mono (qz HO104 BK112 (by decide) (.bool t107) (.slice Ao26 t108.length co26)) (fun _ h_ => h_.1))) (Kd.R_base ho0) hb); have n1_ := Aside0.mk (Kd.R_elder' (by (with_reducible repeat first|apply Kd.R_alloc|apply Kd.R_drewN|apply Kd.R_drew); exact (Kd.R_mono (qz HO110 BK112 (by decide) (.bool t107) (.slice Ao26 t108.length co26)) (fun _ h_ => h_.1))) (Kd.R_base ho0) hb); have n2_ := Aside0.mk (Kd.R_lower (Kd.R_new' (Kd.R_new' ho0 (Kd.R_lt (by (with_reducible repeat first|apply Kd.R_alloc|apply Kd.R_drewN|apply Kd.R_drew); exact (Kd.R_mono (qz HO104 BK112 (by decide) (.bool t107) (.slice Ao26 t108.length co26)) (fun _ h_ => h_.1))))) (Kd.R_lt (by (with_reducible repeat first|apply Kd.R_alloc|apply Kd.R_drewN|apply Kd.R_drew); exact (Kd.R_mono (qz HO110 BK112 (by decide) (.bool t107) (.slice Ao26 t108.length co26)) (fun _ h_ => h_.1))))) (below_size (by repeat with_reducible first|exact HB.out|apply qx|apply qv|apply qw|refine qs ?_ (by assumption)))); have n3_ := Aside0.mk (blk_below (g := gb106) (o := .cells #[.bool t101, .slice Ao21 t102.length co21] 25 (0, 0)) (by (with_reducible repeat first|refine qN ?_ _|refine qW ?_|refine qA ?_ _); refine qf ?_ NB106_112; (with_reducible repeat first|refine qN ?_ _|refine qW ?_|refine qA ?_ _); exact BK106.out) hb); have n4_ := Aside0.mk (blk_below (g := gb112) (o := .cells #[.bool t107, .slice Ao26 t108.length co26] 25 (0, 0)) (by (with_reducible repeat first|refine qN ?_ _|refine qW ?_|refine qA ?_ _); refine blk_put (cs := #[.bool t107, .slice none 0 0]) ?_ 1 _ rfl; (with_reducible repeat first|refine qN ?_ _|refine qW ?_|refine qA ?_ _); refine blk_put (cs := #[.bool false, .slice none 0 0]) ?_ 0 _ rfl; (with_reducible repeat first|refine qN ?_ _|refine qW ?_|refine qA ?_ _); exact BK112.out) hb); have n5_ := Aside0.mk (below_step (by repeat with_reducible first|exact HB.out|apply qx|apply qv|apply qw|refine qs ?_ (by assumption)) hb); clear HO104; clear HO110; clear BK106; clear BK112; clear HB; have HO104 := n0_; have HO110 := n1_; have HO116 := n2_; have BK106 := n3_; have BK112 := n4_; have HB := n5_; clear n0_ n1_ n2_ n3_ n4_ n5_; (try clear hb); (try clear hb2); (try clear hk); (try clear hi); (try clear ho0)) | ((with_reducible refine gate_callee (f := 18) rfl ?_); refine goesL_ (some 19) rfl rfl Tryd.func18 (by kernel_rfl) rfl #[.int .i64 2] rfl (by (try simp only [zM, zO, zP]); first|done|rfl) ?_; (with_reducible refine (num_Of.calls 2 t117 t118 _ A4.out).mono ?_); rintro e w28 ⟨v119, rfl, ho0, hb⟩; refine ⟨_, rfl, ?_⟩; have HO120 := Aside0.mk (Kd.R_lower (Kd.R_new' (Kd.R_new' (Kd.R_new' ho0 (ql HO104)) (ql HO110)) (ql HO116)) (below_size (by repeat with_reducible first|exact HB.out|apply qx|apply qv|apply qw|refine qs ?_ (by assumption)))); replace HO104 := qe HO104 ho0 hb; replace HO110 := qe HO110 ho0 hb; replace HO116 := qe HO116 ho0 hb; replace BK106 := qb BK106 hb; replace BK112 := qb BK112 hb; replace HB := Aside0.mk (below_step (by repeat with_reducible first|exact HB.out|apply qx|apply qv|apply qw|refine qs ?_ (by assumption)) hb); (try clear hb); (try clear hb2); (try clear hk); (try clear hi); (try clear ho0); obtain ⟨Ao29, co29, eo29⟩ := Kd.R_slice HO116.out; subst eo29; obtain ⟨Ao30, co30, eo30⟩ := Kd.R_slice HO120.out; subst eo30) | ((with_reducible refine gate_callee (f := 31) rfl ?_); refine goesL_ (some 20) rfl rfl Tryd.func31 (by kernel_rfl) rfl #[.agg #[.bool t113, .slice Ao29 t114.length co29], .agg #[.bool t117, .slice Ao30 t118.length co30]] rfl (by (try simp only [zM, zO, zP]); first|done|rfl) ?_; (with_reducible refine (num_Mod.calls t113 _ _ t114 t117 _ _ t118 t121 t122 t125 _ ?side1 ?side2 ?side3 ?side4 A5.out).mono ?_); (case side1 => repeat (first | exact (Kd.R_reads' HO116.out).2.2 | (with_reducible first|refine Kd.C_alloc ?_ _|refine Kd.C_drewN ?_ _|refine Kd.C_drew ?_))); (case side2 => exact (Kd.R_reads' HO116.out).2.1); (case side3 => repeat (first | exact (Kd.R_reads' HO120.out).2.2 | (with_reducible first|refine Kd.C_alloc ?_ _|refine Kd.C_drewN ?_ _|refine Kd.C_drew ?_))); (case side4 => exact (Kd.R_reads' HO120.out).2.1); rintro e w31 ⟨v123, rfl, ho0, hb⟩; refine ⟨_, rfl, ?_⟩; have HO124 := Aside0.mk (Kd.R_lower (Kd.R_new' (Kd.R_new' (Kd.R_new' (Kd.R_new' ho0 (ql HO104)) (ql HO110)) (ql HO116)) (ql HO120)) (below_size (by repeat with_reducible first|exact HB.out|apply qx|apply qv|apply qw|refine qs ?_ (by assumption)))); replace HO104 := qe HO104 ho0 hb; replace HO110 := qe HO110 ho0 hb; replace HO116 := qe HO116 ho0 hb; replace HO120 := qe HO120 ho0 hb; replace BK106 := qb BK106 hb; replace BK112 := qb BK112 hb; replace HB := Aside0.mk (below_step (by repeat with_reducible first|exact HB.out|apply qx|apply qv|apply qw|refine qs ?_ (by assumption)) hb); (try clear hb); (try clear hb2); (try clear hk); (try clear hi); (try clear ho0)) | ((with_reducible refine gate_dst (N := 5) rfl ?_); (try (refine gate_guard (by rfl) ?_; dsimp only)); refine box_event ?hg (N := 5) ?hd (cs := #[.bool false, .slice none 0 0]) (t := 25) ?hr ?_; (case hd => rfl); (case hg => rfl); (case hr => go_simp <;> rfl); intro gb126 hg w32 hbox hb; replace HO104 := qr HO104 hb; replace HO110 := qr HO110 hb; replace HO116 := qr HO116 hb; replace HO120 := qr HO120 hb; replace HO124 := qr HO124 hb; have BK126 := Aside0.mk (hbox); have GW126 := qg hg (by repeat with_reducible first|exact HB.out|apply qx|apply qv|apply qw|refine qs ?_ (by assumption)); have GE126 := GW126; replace HB := Aside0.mk (below_step (by repeat with_reducible first|exact HB.out|apply qx|apply qv|apply qw|refine qs ?_ (by assumption)) hb); have NB106_126 := qn BK106 hg; have NB126_106 := qm BK106 hg; replace BK106 := qb BK106 hb; have NB112_126 := qn BK112 hg; have NB126_112 := qm BK112 hg; replace BK112 := qb BK112 hb; clear hb hbox hg; have hnb33 := NB126_106.out; have hnc33 := NB106_126.out; have hnb34 := NB126_112.out; have hnc34 := NB112_126.out; have hcz35_0 : w32.cell? ⟨gb126, 0, none⟩ = some (.bool false) := qc BK126 0; have hcz35_1 : w32.cell? ⟨gb126, 1, none⟩ = some (.slice none 0 0) := qc BK126 1; have hfz35_0 := blk_frozen BK126.out 0; have hfz35_1 := blk_frozen BK126.out 1; obtain ⟨Ao36, co36, eo36⟩ := Kd.R_slice HO124.out; subst eo36) | ((with_reducible refine gate_callee (f := 18) rfl ?_); refine goesL_ (some 24) rfl rfl Tryd.func18 (by kernel_rfl) rfl #[.int .i64 7] rfl (by (try simp only [zM, zO, zP]); first|done|rfl) ?_; (with_reducible refine (num_Of.calls 7 t127 t128 _ A6.out).mono ?_); rintro e w37 ⟨v129, rfl, ho0, hb⟩; refine ⟨_, rfl, ?_⟩; have n0_ := Aside0.mk (Kd.R_elder' (by (with_reducible repeat first|apply Kd.R_alloc|apply Kd.R_drewN|apply Kd.R_drew); exact (Kd.R_mono (qz HO104 BK126 (by decide) (.bool t121) (.slice Ao36 t122.length co36)) (fun _ h_ => h_.1))) (Kd.R_base ho0) hb); have n1_ := Aside0.mk (Kd.R_elder' (by (with_reducible repeat first|apply Kd.R_alloc|apply Kd.R_drewN|apply Kd.R_drew); exact (Kd.R_mono (qz HO110 BK126 (by decide) (.bool t121) (.slice Ao36 t122.length co36)) (fun _ h_ => h_.1))) (Kd.R_base ho0) hb); have n2_ := Aside0.mk (Kd.R_elder' (by (with_reducible repeat first|apply Kd.R_alloc|apply Kd.R_drewN|apply Kd.R_drew); exact (Kd.R_mono (qz HO116 BK126 (by decide) (.bool t121) (.slice Ao36 t122.length co36)) (fun _ h_ => h_.1))) (Kd.R_base ho0) hb); have n3_ := Aside0.mk (Kd.R_elder' (by (with_reducible repeat first|apply Kd.R_alloc|apply Kd.R_drewN|apply Kd.R_drew); exact (Kd.R_mono (qz HO120 BK126 (by decide) (.bool t121) (.slice Ao36 t122.length co36)) (fun _ h_ => h_.1))) (Kd.R_base ho0) hb); have n4_ := Aside0.mk (Kd.R_elder' (by (with_reducible repeat first|apply Kd.R_alloc|apply Kd.R_drewN|apply Kd.R_drew); exact (Kd.R_mono (qz HO124 BK126 (by decide) (.bool t121) (.slice Ao36 t122.length co36)) (fun _ h_ => h_.1))) (Kd.R_base ho0) hb); have n5_ := Aside0.mk (Kd.R_lower (Kd.R_new' (Kd.R_new' (Kd.R_new' (Kd.R_new' (Kd.R_new' ho0 (Kd.R_lt (by (with_reducible repeat first|apply Kd.R_alloc|apply Kd.R_drewN|apply Kd.R_drew); exact (Kd.R_mono (qz HO104 BK126 (by decide) (.bool t121) (.slice Ao36 t122.length co36)) (fun _ h_ => h_.1))))) (Kd.R_lt (by (with_reducible repeat first|apply Kd.R_alloc|apply Kd.R_drewN|apply Kd.R_drew); exact (Kd.R_mono (qz HO110 BK126 (by decide) (.bool t121) (.slice Ao36 t122.length co36)) (fun _ h_ => h_.1))))) (Kd.R_lt (by (with_reducible repeat first|apply Kd.R_alloc|apply Kd.R_drewN|apply Kd.R_drew); exact (Kd.R_mono (qz HO116 BK126 (by decide) (.bool t121) (.slice Ao36 t122.length co36)) (fun _ h_ => h_.1))))) (Kd.R_lt (by (with_reducible repeat first|apply Kd.R_alloc|apply Kd.R_drewN|apply Kd.R_drew); exact (Kd.R_mono (qz HO120 BK126 (by decide) (.bool t121) (.slice Ao36 t122.length co36)) (fun _ h_ => h_.1))))) (Kd.R_lt (by (with_reducible repeat first|apply Kd.R_alloc|apply Kd.R_drewN|apply Kd.R_drew); exact (Kd.R_mono (qz HO124 BK126 (by decide) (.bool t121) (.slice Ao36 t122.length co36)) (fun _ h_ => h_.1))))) (below_size (by repeat with_reducible first|exact HB.out|apply qx|apply qv|apply qw|refine qs ?_ (by assumption)))); have n6_ := Aside0.mk (blk_below (g := gb106) (o := .cells #[.bool t101, .slice Ao21 t102.length co21] 25 (0, 0)) (by (with_reducible repeat first|refine qN ?_ _|refine qW ?_|refine qA ?_ _); refine qf ?_ NB106_126; (with_reducible repeat first|refine qN ?_ _|refine qW ?_|refine qA ?_ _); exact BK106.out) hb); have n7_ := Aside0.mk (blk_below (g := gb112) (o := .cells #[.bool t107, .slice Ao26 t108.length co26] 25 (0, 0)) (by (with_reducible repeat first|refine qN ?_ _|refine qW ?_|refine qA ?_ _); refine qf ?_ NB112_126; (with_reducible repeat first|refine qN ?_ _|refine qW ?_|refine qA ?_ _); exact BK112.out) hb); have n8_ := Aside0.mk (blk_below (g := gb126) (o := .cells #[.bool t121, .slice Ao36 t122.length co36] 25 (0, 0)) (by (with_reducible repeat first|refine qN ?_ _|refine qW ?_|refine qA ?_ _); refine blk_put (cs := #[.bool t121, .slice none 0 0]) ?_ 1 _ rfl; (with_reducible repeat first|refine qN ?_ _|refine qW ?_|refine qA ?_ _); refine blk_put (cs := #[.bool false, .slice none 0 0]) ?_ 0 _ rfl; (with_reducible repeat first|refine qN ?_ _|refine qW ?_|refine qA ?_ _); exact BK126.out) hb); have n9_ := Aside0.mk (below_step (by repeat with_reducible first|exact HB.out|apply qx|apply qv|apply qw|refine qs ?_ (by assumption)) hb); clear HO104; clear HO110; clear HO116; clear HO120; clear HO124; clear BK106; clear BK112; clear BK126; clear HB; have HO104 := n0_; have HO110 := n1_; have HO116 := n2_; have HO120 := n3_; have HO124 := n4_; have HO130 := n5_; have BK106 := n6_; have BK112 := n7_; have BK126 := n8_; have HB := n9_; clear n0_ n1_ n2_ n3_ n4_ n5_ n6_ n7_ n8_ n9_; (try clear hb); (try clear hb2); (try clear hk); (try clear hi); (try clear ho0)) | ((with_reducible refine gate_callee (f := 18) rfl ?_); refine goesL_ (some 25) rfl rfl Tryd.func18 (by kernel_rfl) rfl #[.int .i64 0] rfl (by (try simp only [zM, zO, zP]); first|done|rfl) ?_; (with_reducible refine (num_Of.calls 0 t131 t132 _ A7.out).mono ?_); rintro e w38 ⟨v133, rfl, ho0, hb⟩; refine ⟨_, rfl, ?_⟩; have HO134 := Aside0.mk (Kd.R_lower (Kd.R_new' (Kd.R_new' (Kd.R_new' (Kd.R_new' (Kd.R_new' (Kd.R_new' ho0 (ql HO104)) (ql HO110)) (ql HO116)) (ql HO120)) (ql HO124)) (ql HO130)) (below_size (by repeat with_reducible first|exact HB.out|apply qx|apply qv|apply qw|refine qs ?_ (by assumption)))); replace HO104 := qe HO104 ho0 hb; replace HO110 := qe HO110 ho0 hb; replace HO116 := qe HO116 ho0 hb; replace HO120 := qe HO120 ho0 hb; replace HO124 := qe HO124 ho0 hb; replace HO130 := qe HO130 ho0 hb; replace BK106 := qb BK106 hb; replace BK112 := qb BK112 hb; replace BK126 := qb BK126 hb; replace HB := Aside0.mk (below_step (by repeat with_reducible first|exact HB.out|apply qx|apply qv|apply qw|refine qs ?_ (by assumption)) hb); (try clear hb); (try clear hb2); (try clear hk); (try clear hi); (try clear ho0); obtain ⟨Ao39, co39, eo39⟩ := Kd.R_slice HO130.out; subst eo39; obtain ⟨Ao40, co40, eo40⟩ := Kd.R_slice HO134.out; subst eo40) | ((with_reducible refine gate_callee (f := 29) rfl ?_); refine goesL_ (some 26) rfl rfl Tryd.func29 (by kernel_rfl) rfl #[.agg #[.bool t127, .slice Ao39 t128.length co39], .agg #[.bool t131, .slice Ao40 t132.length co40]] rfl (by (try simp only [zM, zO, zP]); first|done|rfl) ?_; (with_reducible refine (num_Quo.calls t127 _ _ t128 t131 _ _ t132 t135 t136 t139 _ ?side1 ?side2 ?side3 ?side4 A8.out).mono ?_); (case side1 => repeat (first | exact (Kd.R_reads' HO130.out).2.2 | (with_reducible first|refine Kd.C_alloc ?_ _|refine Kd.C_drewN ?_ _|refine Kd.C_drew ?_))); (case side2 => exact (Kd.R_reads' HO130.out).2.1); (case side3 => repeat (first | exact (Kd.R_reads' HO134.out).2.2 | (with_reducible first|refine Kd.C_alloc ?_ _|refine Kd.C_drewN ?_ _|refine Kd.C_drew ?_))); (case side4 => exact (Kd.R_reads' HO134.out).2.1); rintro e w41 ⟨v137, rfl, ho0, hb⟩; refine ⟨_, rfl, ?_⟩; have HO138 := Aside0.mk (Kd.R_lower (Kd.R_new' (Kd.R_new' (Kd.R_new' (Kd.R_new' (Kd.R_new' (Kd.R_new' (Kd.R_new' ho0 (ql HO104)) (ql HO110)) (ql HO116)) (ql HO120)) (ql HO124)) (ql HO130)) (ql HO134)) (below_size (by repeat with_reducible first|exact HB.out|apply qx|apply qv|apply qw|refine qs ?_ (by assumption)))); replace HO104 := qe HO104 ho0 hb; replace HO110 := qe HO110 ho0 hb; replace HO116 := qe HO116 ho0 hb; replace HO120 := qe HO120 ho0 hb; replace HO124 := qe HO124 ho0 hb; replace HO130 := qe HO130 ho0 hb; replace HO134 := qe HO134 ho0 hb; replace BK106 := qb BK106 hb; replace BK112 := qb BK112 hb; replace BK126 := qb BK126 hb; replace HB := Aside0.mk (below_step (by repeat with_reducible first|exact HB.out|apply qx|apply qv|apply qw|refine qs ?_ (by assumption)) hb); (try clear hb); (try clear hb2); (try clear hk); (try clear hi); (try clear ho0)) | ((with_reducible refine gate_dst (N := 7) rfl ?_); (try (refine gate_guard (by rfl) ?_; dsimp only)); refine box_event ?hg (N := 7) ?hd (cs := #[.bool false, .slice none 0 0]) (t := 25) ?hr ?_; (case hd => rfl); (case hg => rfl); (case hr => go_simp <;> rfl); intro gb140 hg w42 hbox hb; replace HO104 := qr HO104 hb; replace HO110 := qr HO110 hb; replace HO116 := qr HO116 hb; replace HO120 := qr HO120 hb; replace HO124 := qr HO124 hb; replace HO130 := qr HO130 hb; replace HO134 := qr HO134 hb; replace HO138 := qr HO138 hb; have BK140 := Aside0.mk (hbox); have GW140 := qg hg (by repeat with_reducible first|exact HB.out|apply qx|apply qv|apply qw|refine qs ?_ (by assumption)); have GE140 := GW140; replace HB := Aside0.mk (below_step (by repeat with_reducible first|exact HB.out|apply qx|apply qv|apply qw|refine qs ?_ (by assumption)) hb); have NB106_140 := qn BK106 hg; have NB140_106 := qm BK106 hg; replace BK106 := qb BK106 hb; have NB112_140 := qn BK112 hg; have NB140_112 := qm BK112 hg; replace BK112 := qb BK112 hb; have NB126_140 := qn BK126 hg; have NB140_126 := qm BK126 hg; replace BK126 := qb BK126 hb; clear hb hbox hg; have hnb43 := NB140_106.out; have hnc43 := NB106_140.out; have hnb44 := NB140_112.out; have hnc44 := NB112_140.out; have hnb45 := NB140_126.out; have hnc45 := NB126_140.out; have hcz46_0 : w42.cell? ⟨gb140, 0, none⟩ = some (.bool false) := qc BK140 0; have hcz46_1 : w42.cell? ⟨gb140, 1, none⟩ = some (.slice none 0 0) := qc BK140 1; have hfz46_0 := blk_frozen BK140.out 0; have hfz46_1 := blk_frozen BK140.out 1; obtain ⟨Ao47, co47, eo47⟩ := Kd.R_slice HO138.out; subst eo47; have hcz48_0 : w42.cell? ⟨gb106, 0, none⟩ = some (.bool t101) := qc BK106 0; have hcz48_1 : w42.cell? ⟨gb106, 1, none⟩ = some (.slice Ao21 t102.length co21) := qc BK106 1; have hfz48_0 := blk_frozen BK106.out 0; have hfz48_1 := blk_frozen BK106.out 1) | (go_at_call 22; (with_reducible refine (num_Text.calls t101 _ _ t102 t141 _ ?side1 ?side2 A10.out (NumV.Tab.below HT.out (by repeat (first | exact HB.out | apply qx | apply qv | apply qw | refine below_set ?_ (Aside0.out (by assumption)))))).mono ?_); (case side1 => refine (Kd.R_reads' (e := 63) (base := w.heap.size) (ok := fun k_ => (((((((True ∧ some k_ ≠ (.slice Ao26 t108.length co26 : Value).ownBlock) ∧ some k_ ≠ (.slice Ao29 t114.length co29 : Value).ownBlock) ∧ some k_ ≠ (.slice Ao30 t118.length co30 : Value).ownBlock) ∧ some k_ ≠ (.slice Ao36 t122.length co36 : Value).ownBlock) ∧ some k_ ≠ (.slice Ao39 t128.length co39 : Value).ownBlock) ∧ some k_ ≠ (.slice Ao40 t132.length co40 : Value).ownBlock) ∧ some k_ ≠ (.slice Ao47 t136.length co47 : Value).ownBlock)) (n := t102.length) (c := co21) ?_).2.2; exact (by (with_reducible repeat first|apply Kd.R_alloc|apply Kd.R_drewN|apply Kd.R_drew); exact (Kd.R_mono (qz HO104 BK140 (by decide) (.bool t135) (.slice Ao47 t136.length co47)) (fun _ h_ => h_.1)))); (case side2 => exact (Kd.R_reads' HO104.out).2.1); rintro e w49 ⟨rfl, hb⟩; have n0_ := Aside0.mk (Kd.R_below (by (with_reducible repeat first|apply Kd.R_alloc|apply Kd.R_drewN|apply Kd.R_drew); exact (Kd.R_mono (qz HO104 BK140 (by decide) (.bool t135) (.slice Ao47 t136.length co47)) (fun _ h_ => h_.1))) hb); have n1_ := Aside0.mk (Kd.R_below (by (with_reducible repeat first|apply Kd.R_alloc|apply Kd.R_drewN|apply Kd.R_drew); exact (Kd.R_mono (qz HO110 BK140 (by decide) (.bool t135) (.slice Ao47 t136.length co47)) (fun _ h_ => h_.1))) hb); have n2_ := Aside0.mk (Kd.R_below (by (with_reducible repeat first|apply Kd.R_alloc|apply Kd.R_drewN|apply Kd.R_drew); exact (Kd.R_mono (qz HO116 BK140 (by decide) (.bool t135) (.slice Ao47 t136.length co47)) (fun _ h_ => h_.1))) hb); have n3_ := Aside0.mk (Kd.R_below (by (with_reducible repeat first|apply Kd.R_alloc|apply Kd.R_drewN|apply Kd.R_drew); exact (Kd.R_mono (qz HO120 BK140 (by decide) (.bool t135) (.slice Ao47 t136.length co47)) (fun _ h_ => h_.1))) hb); have n4_ := Aside0.mk (Kd.R_below (by (with_reducible repeat first|apply Kd.R_alloc|apply Kd.R_drewN|apply Kd.R_drew); exact (Kd.R_mono (qz HO124 BK140 (by decide) (.bool t135) (.slice Ao47 t136.length co47)) (fun _ h_ => h_.1))) hb); have n5_ := Aside0.mk (Kd.R_below (by (with_reducible repeat first|apply Kd.R_alloc|apply Kd.R_drewN|apply Kd.R_drew); exact (Kd.R_mono (qz HO130 BK140 (by decide) (.bool t135) (.slice Ao47 t136.length co47)) (fun _ h_ => h_.1))) hb); have n6_ := Aside0.mk (Kd.R_below (by (with_reducible repeat first|apply Kd.R_alloc|apply Kd.R_drewN|apply Kd.R_drew); exact (Kd.R_mono (qz HO134 BK140 (by decide) (.bool t135) (.slice Ao47 t136.length co47)) (fun _ h_ => h_.1))) hb); have n7_ := Aside0.mk (Kd.R_below (by (with_reducible repeat first|apply Kd.R_alloc|apply Kd.R_drewN|apply Kd.R_drew); exact (Kd.R_mono (qz HO138 BK140 (by decide) (.bool t135) (.slice Ao47 t136.length co47)) (fun _ h_ => h_.1))) hb); have n8_ := Aside0.mk (blk_below (g := gb106) (o := .cells #[.bool t101, .slice Ao21 t102.length co21] 25 (0, 0)) (by (with_reducible repeat first|refine qN ?_ _|refine qW ?_|refine qA ?_ _); refine qf ?_ NB106_140; (with_reducible repeat first|refine qN ?_ _|refine qW ?_|refine qA ?_ _); exact BK106.out) hb); have n9_ := Aside0.mk (blk_below (g := gb112) (o := .cells #[.bool t107, .slice Ao26 t108.length co26] 25 (0, 0)) (by (with_reducible repeat first|refine qN ?_ _|refine qW ?_|refine qA ?_ _); refine qf ?_ NB112_140; (with_reducible repeat first|refine qN ?_ _|refine qW ?_|refine qA ?_ _); exact BK112.out) hb); have n10_ := Aside0.mk (blk_below (g := gb126) (o := .cells #[.bool t121, .slice Ao36 t122.length co36] 25 (0, 0)) (by (with_reducible repeat first|refine qN ?_ _|refine qW ?_|refine qA ?_ _); refine qf ?_ NB126_140; (with_reducible repeat first|refine qN ?_ _|refine qW ?_|refine qA ?_ _); exact BK126.out) hb); have n11_ := Aside0.mk (blk_below (g := gb140) (o := .cells #[.bool t135, .slice Ao47 t136.length co47] 25 (0, 0)) (by (with_reducible repeat first|refine qN ?_ _|refine qW ?_|refine qA ?_ _); refine blk_put (cs := #[.bool t135, .slice none 0 0]) ?_ 1 _ rfl; (with_reducible repeat first|refine qN ?_ _|refine qW ?_|refine qA ?_ _); refine blk_put (cs := #[.bool false, .slice none 0 0]) ?_ 0 _ rfl; (with_reducible repeat first|refine qN ?_ _|refine qW ?_|refine qA ?_ _); exact BK140.out) hb); have n12_ := Aside0.mk (below_step (by repeat with_reducible first|exact HB.out|apply qx|apply qv|apply qw|refine qs ?_ (by assumption)) hb); clear HO104; clear HO110; clear HO116; clear HO120; clear HO124; clear HO130; clear HO134; clear HO138; clear BK106; clear BK112; clear BK126; clear BK140; clear HB; have HO104 := n0_; have HO110 := n1_; have HO116 := n2_; have HO120 := n3_; have HO124 := n4_; have HO130 := n5_; have HO134 := n6_; have HO138 := n7_; have BK106 := n8_; have BK112 := n9_; have BK126 := n10_; have BK140 := n11_; have HB := n12_; clear n0_ n1_ n2_ n3_ n4_ n5_ n6_ n7_ n8_ n9_ n10_ n11_ n12_; (try clear hb); (try clear hb2); (try clear hk); (try clear hi); have hcz50_0 : w49.cell? ⟨gb126, 0, none⟩ = some (.bool t121) := qc BK126 0; have hcz50_1 : w49.cell? ⟨gb126, 1, none⟩ = some (.slice Ao36 t122.length co36) := qc BK126 1; have hfz50_0 := blk_frozen BK126.out 0; have hfz50_1 := blk_frozen BK126.out 1) | (go_at_call 22; (with_reducible refine (num_Text.calls t121 _ _ t122 t142 _ ?side1 ?side2 A14.out (NumV.Tab.below HT.out (by repeat (first | exact HB.out | apply qx | apply qv | apply qw | refine below_set ?_ (Aside0.out (by assumption)))))).mono ?_); (case side1 => repeat (first | exact (Kd.R_reads' HO124.out).2.2 | (with_reducible first|refine Kd.C_alloc ?_ _|refine Kd.C_drewN ?_ _|refine Kd.C_drew ?_))); (case side2 => exact (Kd.R_reads' HO124.out).2.1); rintro e w51 ⟨rfl, hb⟩; replace HO104 := qr HO104 hb; replace HO110 := qr HO110 hb; replace HO116 := qr HO116 hb; replace HO120 := qr HO120 hb; replace HO124 := qr HO124 hb; replace HO130 := qr HO130 hb; replace HO134 := qr HO134 hb; replace HO138 := qr HO138 hb; replace BK106 := qb BK106 hb; replace BK112 := qb BK112 hb; replace BK126 := qb BK126 hb; replace BK140 := qb BK140 hb; replace HB := Aside0.mk (below_step (by repeat with_reducible first|exact HB.out|apply qx|apply qv|apply qw|refine qs ?_ (by assumption)) hb); (try clear hb); (try clear hb2); (try clear hk); (try clear hi)) | ((with_reducible refine gate_dst (N := 54) rfl ?_); (try (refine gate_guard (by rfl) ?_; dsimp only)); refine Kd.R_lit (Kd.int .u32) _ 63 ?hg (N := 54) ?hd (xs := ([0, 1] : List Int)) (inner := [.int .u32 0, .int .u32 1]) (ok := fun _ => True) (okp := fun _ => True) ?hr ?hp (fun _ hk => hk) trivial (Below.refl _ _) (Nat.le_refl _) (by simp) ?_; (case hd => rfl); (case hg => rfl); (case hr => go_simp <;> rfl); (case hp => exact (Reps.one (show Kd.M (Kd.int .u32) _ _ _ 0 [.int .u32 0] from rfl) (Reps.one (show Kd.M (Kd.int .u32) _ _ _ 1 [.int .u32 1] from rfl) (Reps.none _ _)))); intro v144 w52 ho53 hb hg_ hnew_; clear hg_ hnew_; (first | rw [← Ny143.out] at ho53 | (simp only [Int.reduceToNat] at ho53; rw [← Ny143.out] at ho53)); have n0_ := Aside0.mk (Kd.R_elder' (by (with_reducible repeat first|apply Kd.R_alloc|apply Kd.R_drewN|apply Kd.R_drew); exact HO104.out) (Kd.R_base ho53) hb); have n1_ := Aside0.mk (Kd.R_elder' (by (with_reducible repeat first|apply Kd.R_alloc|apply Kd.R_drewN|apply Kd.R_drew); exact HO110.out) (Kd.R_base ho53) hb); have n2_ := Aside0.mk (Kd.R_elder' (by (with_reducible repeat first|apply Kd.R_alloc|apply Kd.R_drewN|apply Kd.R_drew); exact HO116.out) (Kd.R_base ho53) hb); have n3_ := Aside0.mk (Kd.R_elder' (by (with_reducible repeat first|apply Kd.R_alloc|apply Kd.R_drewN|apply Kd.R_drew); exact HO120.out) (Kd.R_base ho53) hb); have n4_ := Aside0.mk (Kd.R_elder' (by (with_reducible repeat first|apply Kd.R_alloc|apply Kd.R_drewN|apply Kd.R_drew); exact HO124.out) (Kd.R_base ho53) hb); have n5_ := Aside0.mk (Kd.R_elder' (by (with_reducible repeat first|apply Kd.R_alloc|apply Kd.R_drewN|apply Kd.R_drew); exact HO130.out) (Kd.R_base ho53) hb); have n6_ := Aside0.mk (Kd.R_elder' (by (with_reducible repeat first|apply Kd.R_alloc|apply Kd.R_drewN|apply Kd.R_drew); exact HO134.out) (Kd.R_base ho53) hb); have n7_ := Aside0.mk (Kd.R_elder' (by (with_reducible repeat first|apply Kd.R_alloc|apply Kd.R_drewN|apply Kd.R_drew); exact HO138.out) (Kd.R_base ho53) hb); have n8_ := Aside0.mk (Kd.R_lower (Kd.R_new' (Kd.R_new' (Kd.R_new' (Kd.R_new' (Kd.R_new' (Kd.R_new' (Kd.R_new' (Kd.R_new' ho53 (ql HO104)) (ql HO110)) (ql HO116)) (ql HO120)) (ql HO124)) (ql HO130)) (ql HO134)) (ql HO138)) (below_size (by repeat with_reducible first|exact HB.out|apply qx|apply qv|apply qw|refine qs ?_ (by assumption)))); have n9_ := qb BK106 hb; have n10_ := qb BK112 hb; have n11_ := qb BK126 hb; have n12_ := qb BK140 hb; have n13_ := Aside0.mk (below_step (by repeat with_reducible first|exact HB.out|apply qx|apply qv|apply qw|refine qs ?_ (by assumption)) hb); clear HO104; clear HO110; clear HO116; clear HO120; clear HO124; clear HO130; clear HO134; clear HO138; clear BK106; clear BK112; clear BK126; clear BK140; clear HB; have HO104 := n0_; have HO110 := n1_; have HO116 := n2_; have HO120 := n3_; have HO124 := n4_; have HO130 := n5_; have HO134 := n6_; have HO138 := n7_; have HO145 := n8_; have BK106 := n9_; have BK112 := n10_; have BK126 := n11_; have BK140 := n12_; have HB := n13_; clear n0_ n1_ n2_ n3_ n4_ n5_ n6_ n7_ n8_ n9_ n10_ n11_ n12_ n13_; clear hb ho53; obtain ⟨Ao54, co54, eo54⟩ := Kd.R_slice HO145.out; subst eo54) | (go_at_call 22; (with_reducible refine (num_Text.calls false _ _ y143 t146 _ ?side1 ?side2 A17.out (NumV.Tab.below HT.out (by repeat (first | exact HB.out | apply qx | apply qv | apply qw | refine below_set ?_ (Aside0.out (by assumption)))))).mono ?_); (case side1 => repeat (first | exact (Kd.R_reads' HO145.out).2.2 | (with_reducible first|refine Kd.C_alloc ?_ _|refine Kd.C_drewN ?_ _|refine Kd.C_drew ?_))); (case side2 => exact (Kd.R_reads' HO145.out).2.1); rintro e w55 ⟨rfl, hb⟩; replace HO104 := qr HO104 hb; replace HO110 := qr HO110 hb; replace HO116 := qr HO116 hb; replace HO120 := qr HO120 hb; replace HO124 := qr HO124 hb; replace HO130 := qr HO130 hb; replace HO134 := qr HO134 hb; replace HO138 := qr HO138 hb; replace HO145 := qr HO145 hb; replace BK106 := qb BK106 hb; replace BK112 := qb BK112 hb; replace BK126 := qb BK126 hb; replace BK140 := qb BK140 hb; replace HB := Aside0.mk (below_step (by repeat with_reducible first|exact HB.out|apply qx|apply qv|apply qw|refine qs ?_ (by assumption)) hb); (try clear hb); (try clear hb2); (try clear hk); (try clear hi)))
       go_ret
       exact ⟨by first | rfl | (simp [errW_none, errW_some] <;> rfl) | (simp [*, errW_none, errW_some] <;> rfl), by repeat (first | (with_reducible first | exact HB.out | apply qx | apply qv | apply qw | refine qs ?_ (by assumption)) | exact HB.out)⟩
      ·rw [if_neg c16] at H
       have c16b0 : (t139 == 13) = false := beq_eq_false_iff_ne.mpr c16
       have c16b1 : (t139 != 13) = true := bne_iff_ne.mpr c16
       exact absurd ((Option.some.inj H).trans hr) (by decide)
     ·rw [if_neg c15] at H
      have c15b0 : (t142.toList == ([49] : List UInt8)) = false := beq_eq_false_iff_ne.mpr c15
      have c15b1 : (t142.toList != ([49] : List UInt8)) = true := bne_iff_ne.mpr c15
      exact absurd ((Option.some.inj H).trans hr) (by decide)
    ·rw [if_neg c13] at H
     have c13b0 : (t125 == 0) = false := beq_eq_false_iff_ne.mpr c13
     have c13b1 : (t125 != 0) = true := bne_iff_ne.mpr c13
     exact absurd ((Option.some.inj H).trans hr) (by decide)
   ·rw [if_neg c12] at H
    have c12b0 : (t111 == 9) = false := beq_eq_false_iff_ne.mpr c12
    have c12b1 : (t111 != 9) = true := bne_iff_ne.mpr c12
    exact absurd ((Option.some.inj H).trans hr) (by decide)
  ·rw [if_neg c11] at H
   have c11b0 : (t141.toList == ([45, 55] : List UInt8)) = false := beq_eq_false_iff_ne.mpr c11
   have c11b1 : (t141.toList != ([45, 55] : List UInt8)) = true := bne_iff_ne.mpr c11
   exact absurd ((Option.some.inj H).trans hr) (by decide)
 ·rw [if_neg c9] at H
  have c9b0 : (t105 == 0) = false := beq_eq_false_iff_ne.mpr c9
  have c9b1 : (t105 != 0) = true := bne_iff_ne.mpr c9
  exact absurd ((Option.some.inj H).trans hr) (by decide)
end Go.Proofs.YthhpnlbeniihhaaDoor.PAwk
namespace Go.Proofs.YthhpnlbeniihhaaDoor
open Go.RowKit Go.Proofs.YthhpnlbeniihhaaDoorW.PrintWords Go.Proofs.YthhpnlbeniihhaaDoorW.PrintLast Go.Proofs.YthhpnlbeniihhaaDoorW.PrintMore Go.Proofs.YthhpnlbeniihhaaDoor.Limb Go.Proofs.YthhpnlbeniihhaaDoor.NumB Go.Proofs.YthhpnlbeniihhaaDoor.NumG Go.Proofs.YthhpnlbeniihhaaDoor.NumJ Go.Proofs.YthhpnlbeniihhaaDoor.NumU Go.Proofs.YthhpnlbeniihhaaDoor.Vals Go.Proofs.YthhpnlbeniihhaaDoor.Plain
set_option linter.unusedVariables false
theorem fits_small {z : Int} (h : z.natAbs < 4294967296) : Fits z := Nat.lt_of_lt_of_le (show z.natAbs < 4294967296 ^ 1 by omega) (Nat.pow_le_pow_right (by decide) (by decide))
theorem text_lit (l m : List UInt8) (h : l = m) : ((⟨l.toArray⟩ : ByteArray).toList = m) := by
  rw [← h, ByteArray.toList_eq]
theorem awake_true : PAwk.morainelaw02_awake.f = some true := by
  have p1 : num_Parse.f (⟨#[45, 48, 48, 55]⟩ : ByteArray) = some (sb (-7), sl (-7), 0) := by
    unfold num_Parse.f
    rw [if_pos (by decide), ← mkI_fits (fits_small (by decide))]
    have : parseR (⟨#[45, 48, 48, 55]⟩ : ByteArray).data.toList = mk true 7 := by
      show digR true [48, 48, 55] = _
      unfold digR
      rw [if_pos (by decide), show decv [48, 48, 55] = 7 by decide]
    rw [this, mk_true]; rfl
  have p2 : num_Parse.f (⟨#[43]⟩ : ByteArray) = some (false, [], 9) := by
    unfold num_Parse.f
    rw [if_pos (by decide)]
    have : parseR (⟨#[43]⟩ : ByteArray).data.toList = digR false [] := rfl
    rw [this]; rfl
  have a0 : sb 0 = false := rfl
  have a1 : sl 0 = [] := sl_nil.mpr rfl
  have t1 : textI (-7) = [45, 55] := by decide +kernel
  have t2 : textI 1 = [49] := by decide +kernel
  have t3 : num_Text.f false [0, 1] = some ⟨(textI 4294967296).toArray⟩ := by
    have h1 : sb 4294967296 = false := rfl
    have h2 : sl 4294967296 = [0, 1] := by
      unfold sl
      rw [limbs_pos (by decide), limbs_pos (by decide), limbs_nil.mpr (by decide)]
      decide
    rw [← h1, ← h2]
    exact text_at (Nat.lt_of_lt_of_le (show (4294967296 : Int).natAbs < 4294967296 ^ 2 by decide) (Nat.pow_le_pow_right (by decide) (by decide)))
  have t4 : textI 4294967296 = [52, 50, 57, 52, 57, 54, 55, 50, 57, 54] := by decide +kernel
  have m1 : num_Mod.f (sb (-7)) (sl (-7)) (sb 2) (sl 2) = some (sb 1, sl 1, 0) := by
    rw [mod_at (fits_small (by decide)) (fits_small (by decide)), if_neg (by decide), show Int.fmod (-7) 2 = 1 by decide, mkI_fits (fits_small (by decide))]
  have q1 : num_Quo.f (sb 7) (sl 7) (sb 0) (sl 0) = some (false, [], 13) := by
    rw [quo_at (fits_small (by decide)) (fits_small (by decide)), if_pos rfl]
  unfold PAwk.morainelaw02_awake.f
  rw [p1, bsome, p2, bsome, of_at (by decide), bsome, of_at (by decide), bsome]
  show ((num_Mod.f (sb (-7)) (sl (-7)) (sb 2) (sl 2)).bind _) = _
  rw [m1, bsome, of_at (by decide), bsome, of_at (by decide), bsome]
  show ((num_Quo.f (sb 7) (sl 7) (sb 0) (sl 0)).bind _) = _
  rw [q1, bsome]
  dsimp only
  rw [if_pos rfl, text_at (fits_small (by decide)), bsome, if_pos (text_lit _ _ t1), if_pos rfl, if_pos rfl, text_at (fits_small (by decide)), bsome, if_pos (text_lit _ _ t2), if_pos rfl, t3, bsome, text_lit _ _ t4]
  rfl
def morainelaw02_awake.f : Option Bool := some true
theorem morainelaw02_awake.calls (r : Bool) (w : World) (h : morainelaw02_awake.f = some r) (ht : NumV.Tab w) :
    Calls Tryd.prog 20 #[] w fun e w' => e = .returned (.bool r) ∧ Below w.heap.size w w' := by
  obtain rfl := Option.some.inj h
  exact PAwk.morainelaw02_awake.calls true w rfl awake_true ht
end Go.Proofs.YthhpnlbeniihhaaDoor
namespace Go.Proofs.YthhpnlbeniihhaaDoor.Row
open Go.ChangeShapes Go.WideShapes Go.ChangeAt Go.RowKit Go.Proofs.YthhpnlbeniihhaaDoor.Limb Go.Proofs.YthhpnlbeniihhaaDoor.NumA
theorem laid_tail {P : Program} {x : String × DataW Unit} {r : List (String × DataW Unit)} {w : World} (h : laidMet P (x :: r) w) : laidMet P r w := by
  obtain ⟨ps, ⟨g, t, cs, fuel, p, q, _, _, _, _, hr, rfl⟩, hnd, hall⟩ := h
  exact ⟨q, hr, (List.nodup_append.mp hnd).2.1, fun b off hb => hall b off (List.mem_append_right _ hb)⟩
theorem gTab : Tryd.prog.globalNamed "internal/strconv.uint64pow10" = some 0 := by kernel_rfl
theorem tab {W : World} (h : laidMetH Tryd.prog Rows.numOrderRow.laid W) : NumV.Tab W := by
  have h1 : laidMet Tryd.prog Rows.numOrderRow.laid W := h
  have h2 : laidMet Tryd.prog (("internal/strconv.uint64pow10", Rows.laid_internal_strconv_uint64pow10) :: _) W := laid_tail (laid_tail h1)
  exact Lib.tabIs_of_head (t := 131) (e := 64) (n := 20) gTab (by kernel_rfl) (by kernel_rfl) (by kernel_rfl) (by kernel_rfl) (by kernel_rfl) h2
/-- The plain leaves of a table's datum. -/
def leaf : DataW Unit → List Value
  | .lit (.int k n) => [.int k n]
  | _ => []
def leaves : DataW Unit → List Value
  | .agg ds => ds.flatMap fun d => match d with
    | .agg es => es.flatMap leaf
    | d => leaf d
  | _ => []
def put (l : List Value) : Obj → Obj
  | .cells _ t frozen => .cells l.toArray t frozen
  | o => o
/-- A world for the witness: the five tables hold what is listed. -/
noncomputable def laidWorld (os : Os) : World :=
  { World.holding Tryd.prog os ⟨#[], #[], []⟩ with heap := (((((World.holding Tryd.prog os ⟨#[], #[], []⟩).heap.modify 0 (put (leaves Rows.laid_internal_strconv_uint64pow10))).modify 2 (put (leaves Rows.laid_unicode_utf8_first))).modify 3 (put (leaves Rows.laid_unicode_utf8_acceptRanges))).modify 4 (put (leaves Rows.laid_math_bits_deBruijn32tab))).modify 5 (put (leaves Rows.laid_math_bits_deBruijn64tab)) }
theorem laid_met (os : Os) (args : Array Value) : laidMet Tryd.prog Rows.numOrderRow.laid ((laidWorld os).forCall (fun _ _ => 0) ⟨#[], args, []⟩).memory :=
  laidMet_of_run' 8 (by kernel_rfl) (by kernel_rfl)
end Go.Proofs.YthhpnlbeniihhaaDoor.Row
namespace Go.Proofs.YthhpnlbeniihhaaDoor.Row
open Go.ChangeShapes Go.WideShapes Go.ChangeAt Go.RowKit Go.Proofs.YthhpnlbeniihhaaDoor.Limb Go.Proofs.YthhpnlbeniihhaaDoor.NumA
theorem laidOut : laidOutB Tryd.prog = true := by kernel_rfl
set_option maxRecDepth 100000
section
variable {H : Type} {enc : TypeId × Value → H} {W : World} {base : Nat}
open Go.Proofs.YthhpnlbeniihhaaDoorW.PrintWords Go.Proofs.YthhpnlbeniihhaaDoorW.PrintLast Go.Proofs.YthhpnlbeniihhaaDoorW.PrintMore
end
end Go.Proofs.YthhpnlbeniihhaaDoor.Row
-- Printed by a program of this session's (wip/tools/printr.py, over the kit's print program).
namespace Go.Proofs.YthhpnlbeniihhaaDoor.PRef
open Go.RowKit Go.Proofs.YthhpnlbeniihhaaDoorW.PrintWords Go.Proofs.YthhpnlbeniihhaaDoorW.PrintLast Go.Proofs.YthhpnlbeniihhaaDoorW.PrintMore
attribute [local go_sem] max2_int min2_int max_two min_two max_three min_three max_four min_four   -- for this text's walks alone
set_option linter.unusedVariables false
set_option linter.unusedSimpArgs false
def errW : Option Int → Value
  | none => .nilIface
  | some c => .iface 0 (.int .i64 c)
theorem errW_none : errW none = .nilIface := rfl
theorem errW_some (c : Int) : errW (some c) = .iface 0 (.int .i64 c) := rfl
theorem info5 : (Tryd.prog.info? 5).map (fun i => (i.zero, i.size, i.bytes)) = some (some (.int .u8 0), 1, 1) := by kernel_rfl
theorem info63 : (Tryd.prog.info? 63).map (fun i => (i.zero, i.size, i.bytes)) = some (some (.int .u32 0), 1, 4) := by kernel_rfl
-- the values' own types
structure S34 where
  f0 : Bool
  f1 : (List Int)
def z34 : S34 := ⟨false, ([] : List Int)⟩
def k34 : Kd S34 := Kd.iso (Kd.pair Kd.bool (Kd.slice 5 (Kd.int .u8))) (fun x : S34 => (x.f0, x.f1))
theorem k34_open {w : World} {x : S34} {cs : List Value} (h : k34.K w x cs) : ∃ A1 c1, cs = [.bool x.f0, .slice A1 x.f1.length c1] ∧ x.f1.length ≤ c1 ∧ (Kd.int .u8).C w A1 x.f1.length x.f1 := by
  obtain ⟨_, _, rfl, rfl, ⟨A1, c1, rfl, l1, g1⟩⟩ := h
  exact ⟨A1, c1, rfl, l1, g1⟩
theorem k34_mkM (w : World) (base : Nat) (ok : Nat → Prop) (x : S34) {v1 : Value} (g1 : (Kd.int .u8).R 5 w base ok v1 x.f1) : k34.M w base ok x [.bool x.f0, v1] := ⟨[.bool x.f0], [v1], rfl, rfl, ⟨v1, rfl, g1⟩⟩
def rd_T34 (xs : List S34) (i : Int) : S34 := xs.getD i.toNat z34
theorem at_T34 {w : World} {A : Option Addr} {n : Nat} {xs : List S34} (h : Kd.C k34 w A n xs) (i : Int) (h0 : 0 ≤ i) (h1 : i < n) : ∃ ad A1 c1, A = some ad ∧ w.cell? (ad.add (i.toNat * 2)) = some (.bool (rd_T34 xs i).f0) ∧ w.cell? ⟨(ad.add (i.toNat * 2)).block, (ad.add (i.toNat * 2)).off + 1, none⟩ = some (.slice A1 (rd_T34 xs i).f1.length c1) ∧ (rd_T34 xs i).f1.length ≤ c1 ∧ (Kd.int .u8).C w A1 (rd_T34 xs i).f1.length (rd_T34 xs i).f1 := by
  obtain ⟨ad, c, e, _, hK, hc0⟩ := Kd.C_get h z34 i h0 h1
  have hc : ∀ j u, c[j]? = some u → w.cell? (ad.add (i.toNat * 2 + j)) = some u := hc0
  obtain ⟨A1, c1, rfl, l1, g1⟩ := k34_open hK
  exact ⟨ad, A1, c1, e, hc 0 _ rfl, by rw [← add_field _ _ 1 (by omega)]; exact hc 1 _ rfl, l1, g1⟩
end Go.Proofs.YthhpnlbeniihhaaDoor.PRef
-- Printed by a program of this session's (wip/tools/printr.py, over the kit's print program).
namespace Go.Proofs.YthhpnlbeniihhaaDoor.PRef
open Go.RowKit Go.Proofs.YthhpnlbeniihhaaDoorW.PrintWords Go.Proofs.YthhpnlbeniihhaaDoorW.PrintLast Go.Proofs.YthhpnlbeniihhaaDoorW.PrintMore
attribute [local go_sem] max2_int min2_int max_two min_two max_three min_three max_four min_four   -- for this text's walks alone
set_option linter.unusedVariables false
set_option linter.unusedSimpArgs false
mutual
def moraineref02_Same.j0 : Nat → Bool → Bool → List Int → Bool → List Int → Option (Bool)
 | 0, _, _, _, _, _ => none
 | k + 1, x19, x102000, x102001, x103000, x103001 => if x19 = true then (some false) else (moraineref02_Same.l0 k 0 x102000 x102001 x103000 x103001)
def moraineref02_Same.l0 : Nat → Int → Bool → List Int → Bool → List Int → Option (Bool)
 | 0, _, _, _, _, _ => none
 | k + 1, x5, x102000, x102001, x103000, x103001 => if x5 < (x102001.length : Int) then (if 0 ≤ x5 then (if x5 < (x103001.length : Int) then (if (rd x102001 x5) = (rd x103001 x5) then (moraineref02_Same.l0 k (wrap64 (x5 + 1)) x102000 x102001 x103000 x103001) else (some false)) else (none)) else (none)) else (some true)
end
def moraineref02_Same.f (k : Nat) (a0_0 : Bool) (l0_1 : List Int) (a1_0 : Bool) (l1_1 : List Int) : Option (Bool) := if (a0_0 != a1_0) = true then (moraineref02_Same.j0 k true a0_0 l0_1 a1_0 l1_1) else (moraineref02_Same.j0 k ((l0_1.length : Int) != (l1_1.length : Int)) a0_0 l0_1 a1_0 l1_1)
set_option maxHeartbeats 8000000 in
set_option maxRecDepth 100000 in
theorem moraineref02_Same.calls (k : Nat) (a0_0 : Bool) (A0_1 : Option Addr) (c0_1 : Nat) (l0_1 : List Int) (a1_0 : Bool) (A1_1 : Option Addr) (c1_1 : Nat) (l1_1 : List Int) (r : Bool) (w : World) (hr0_1 : Kd.C (Kd.int .u32) w A0_1 l0_1.length l0_1) (hc0_1 : l0_1.length ≤ c0_1) (hr1_1 : Kd.C (Kd.int .u32) w A1_1 l1_1.length l1_1) (hc1_1 : l1_1.length ≤ c1_1) (h : moraineref02_Same.f k a0_0 l0_1 a1_0 l1_1 = some r) :
  Calls Tryd.prog 17 #[.agg #[.bool a0_0, .slice A0_1 l0_1.length c0_1], .agg #[.bool a1_0, .slice A1_1 l1_1.length c1_1]] w fun e w' => e = .returned (.bool r) ∧ Below w.heap.size w w' := by
 have hu25 := Tryd.underlying25
 have HR0_1 := Aside0.mk hr0_1
 have HC0_1 := Aside0.mk hc0_1
 clear hr0_1 hc0_1
 have HR1_1 := Aside0.mk hr1_1
 have HC1_1 := Aside0.mk hc1_1
 clear hr1_1 hc1_1
 have HB := Aside0.mk (Below.refl w.heap.size w)
 have H : (if (a0_0 != a1_0) = true then (moraineref02_Same.j0 k true a0_0 l0_1 a1_0 l1_1) else (moraineref02_Same.j0 k ((l0_1.length : Int) != (l1_1.length : Int)) a0_0 l0_1 a1_0 l1_1)) = some r := h
 clear h
 have HC3 := Aside0.mk H
 clear H
 go_enter Tryd.func17, Tryd.ntmps17
 go_upto_region 1 with (first | ((with_reducible refine gate_dst (N := 2) rfl ?_); (try (refine gate_guard (by rfl) ?_; dsimp only)); refine box_event ?hg (N := 2) ?hd (cs := #[.bool a0_0, .slice A0_1 l0_1.length c0_1]) (t := 25) ?hr ?_; (case hd => rfl); (case hg => rfl); (case hr => go_simp <;> rfl); intro gb101 hg w4 hbox hb; have BK101 := Aside0.mk (hbox); have GW101 := qg hg (by repeat (first | (with_reducible first | exact HB.out | apply qx | apply qv | apply qw) | exact HB.out)); have GE101 := GW101; replace HB := Aside0.mk (below_step (by repeat (first | (with_reducible first | exact HB.out | apply qx | apply qv | apply qw) | exact HB.out)) hb); clear hb hbox hg) | ((with_reducible refine gate_dst (N := 3) rfl ?_); (try (refine gate_guard (by rfl) ?_; dsimp only)); refine box_event ?hg (N := 3) ?hd (cs := #[.bool a1_0, .slice A1_1 l1_1.length c1_1]) (t := 25) ?hr ?_; (case hd => rfl); (case hg => rfl); (case hr => go_simp <;> rfl); intro gb102 hg w5 hbox hb; have BK102 := Aside0.mk (hbox); have GW102 := qg hg (by repeat (first | (with_reducible first | exact HB.out | apply qx | apply qv | apply qw | refine below_set ?_ GE101.out) | exact HB.out)); have GE102 := GW102; replace HB := Aside0.mk (below_step (by repeat (first | (with_reducible first | exact HB.out | apply qx | apply qv | apply qw | refine below_set ?_ GE101.out) | exact HB.out)) hb); have NB101_102 := qn BK101 hg; have NB102_101 := qm BK101 hg; replace BK101 := qb BK101 hb; clear hb hbox hg))
 repeat (go_quiet (first | ((with_reducible refine gate_dst (N := 2) rfl ?_); (try (refine gate_guard (by rfl) ?_; dsimp only)); refine box_event ?hg (N := 2) ?hd (cs := #[.bool a0_0, .slice A0_1 l0_1.length c0_1]) (t := 25) ?hr ?_; (case hd => rfl); (case hg => rfl); (case hr => go_simp <;> rfl); intro gb101 hg w4 hbox hb; have BK101 := Aside0.mk (hbox); have GW101 := qg hg (by repeat (first | (with_reducible first | exact HB.out | apply qx | apply qv | apply qw) | exact HB.out)); have GE101 := GW101; replace HB := Aside0.mk (below_step (by repeat (first | (with_reducible first | exact HB.out | apply qx | apply qv | apply qw) | exact HB.out)) hb); clear hb hbox hg) | ((with_reducible refine gate_dst (N := 3) rfl ?_); (try (refine gate_guard (by rfl) ?_; dsimp only)); refine box_event ?hg (N := 3) ?hd (cs := #[.bool a1_0, .slice A1_1 l1_1.length c1_1]) (t := 25) ?hr ?_; (case hd => rfl); (case hg => rfl); (case hr => go_simp <;> rfl); intro gb102 hg w5 hbox hb; have BK102 := Aside0.mk (hbox); have GW102 := qg hg (by repeat (first | (with_reducible first | exact HB.out | apply qx | apply qv | apply qw | refine below_set ?_ GE101.out) | exact HB.out)); have GE102 := GW102; replace HB := Aside0.mk (below_step (by repeat (first | (with_reducible first | exact HB.out | apply qx | apply qv | apply qw | refine below_set ?_ GE101.out) | exact HB.out)) hb); have NB101_102 := qn BK101 hg; have NB102_101 := qm BK101 hg; replace BK101 := qb BK101 hb; clear hb hbox hg)); go_upto_region 1 with (first | ((with_reducible refine gate_dst (N := 2) rfl ?_); (try (refine gate_guard (by rfl) ?_; dsimp only)); refine box_event ?hg (N := 2) ?hd (cs := #[.bool a0_0, .slice A0_1 l0_1.length c0_1]) (t := 25) ?hr ?_; (case hd => rfl); (case hg => rfl); (case hr => go_simp <;> rfl); intro gb101 hg w4 hbox hb; have BK101 := Aside0.mk (hbox); have GW101 := qg hg (by repeat (first | (with_reducible first | exact HB.out | apply qx | apply qv | apply qw) | exact HB.out)); have GE101 := GW101; replace HB := Aside0.mk (below_step (by repeat (first | (with_reducible first | exact HB.out | apply qx | apply qv | apply qw) | exact HB.out)) hb); clear hb hbox hg) | ((with_reducible refine gate_dst (N := 3) rfl ?_); (try (refine gate_guard (by rfl) ?_; dsimp only)); refine box_event ?hg (N := 3) ?hd (cs := #[.bool a1_0, .slice A1_1 l1_1.length c1_1]) (t := 25) ?hr ?_; (case hd => rfl); (case hg => rfl); (case hr => go_simp <;> rfl); intro gb102 hg w5 hbox hb; have BK102 := Aside0.mk (hbox); have GW102 := qg hg (by repeat (first | (with_reducible first | exact HB.out | apply qx | apply qv | apply qw | refine below_set ?_ GE101.out) | exact HB.out)); have GE102 := GW102; replace HB := Aside0.mk (below_step (by repeat (first | (with_reducible first | exact HB.out | apply qx | apply qv | apply qw | refine below_set ?_ GE101.out) | exact HB.out)) hb); have NB101_102 := qn BK101 hg; have NB102_101 := qm BK101 hg; replace BK101 := qb BK101 hb; clear hb hbox hg)))
 (try simp only [Act.put, zA, zB, zC])
 go_cut [19] (fun v19 wc => ∃ (kq : Nat) (x19_2 : Bool), v19 = .bool x19_2 ∧ Aside0 (moraineref02_Same.j0 kq x19_2 a0_0 l0_1 a1_0 l1_1 = some r) ∧ Aside0 (kq ≤ k) ∧ Aside0 (wc.heap[gb101]? = some (.cells #[.bool a0_0, (.slice A0_1 l0_1.length c0_1)] 25 (0, 0))) ∧ Aside0 (wc.heap[gb102]? = some (.cells #[.bool a1_0, (.slice A1_1 l1_1.length c1_1)] 25 (0, 0))) ∧ Aside0 (Below w.heap.size w wc))
 case first =>
  have H := HC3.out
  clear HC3
  by_cases c6 : (a0_0 != a1_0) = true
  ·rw [if_pos c6] at H
   have c6b0 : (a0_0 != a1_0) = true := c6
   (try (have c6b1 : decide (a0_0 = a1_0) = false := by simpa using c6))
   (try (have c6b2 : (a0_0 == a1_0) = false := by simpa using c6))
   (try (have c6b3 : ¬ (a0_0 = a1_0) := by simpa using c6))
   clear c6
   (first | rw [c6b0] | (simp only [i64_w, i32_w]; rw [c6b0]) | skip)
   have H' := Aside0.mk H
   clear H
   have hnb7 := NB101_102.out
   have hnc7 := NB102_101.out
   have hcz8_0 : w5.cell? ⟨gb101, 0, none⟩ = some (.bool a0_0) := qc BK101 0
   have hcz8_1 : w5.cell? ⟨gb101, 1, none⟩ = some (.slice A0_1 l0_1.length c0_1) := qc BK101 1
   have hfz8_0 := blk_frozen BK101.out 0
   have hfz8_1 := blk_frozen BK101.out 1
   have hcz9_0 : w5.cell? ⟨gb102, 0, none⟩ = some (.bool a1_0) := qc BK102 0
   have hcz9_1 : w5.cell? ⟨gb102, 1, none⟩ = some (.slice A1_1 l1_1.length c1_1) := qc BK102 1
   have hfz9_0 := blk_frozen BK102.out 0
   have hfz9_1 := blk_frozen BK102.out 1
   go_wp2
   repeat (go_quiet (fail); try go_wp2)
   go_meet
   case rel => exact ⟨_, (true), (by first | rfl | (simp; done) | (simp [*]; done)), H', ⟨by first | omega | exact Nat.le_refl _⟩, ⟨qk BK101⟩, ⟨qk BK102⟩, ⟨by repeat (first | (with_reducible first | exact HB.out | apply qx | apply qv | apply qw | refine qs ?_ (by assumption)) | exact HB.out)⟩⟩
  ·rw [if_neg c6] at H
   have c6b0 : (a0_0 != a1_0) = false := by simpa using c6
   (try (have c6b1 : decide (a0_0 = a1_0) = true := by simpa using c6))
   (try (have c6b2 : (a0_0 == a1_0) = true := by simpa using c6))
   clear c6
   (first | rw [c6b0] | (simp only [i64_w, i32_w]; rw [c6b0]) | skip)
   have H' := Aside0.mk H
   clear H
   have hnb10 := NB101_102.out
   have hnc10 := NB102_101.out
   have hcz11_0 : w5.cell? ⟨gb101, 0, none⟩ = some (.bool a0_0) := qc BK101 0
   have hcz11_1 : w5.cell? ⟨gb101, 1, none⟩ = some (.slice A0_1 l0_1.length c0_1) := qc BK101 1
   have hfz11_0 := blk_frozen BK101.out 0
   have hfz11_1 := blk_frozen BK101.out 1
   have hcz12_0 : w5.cell? ⟨gb102, 0, none⟩ = some (.bool a1_0) := qc BK102 0
   have hcz12_1 : w5.cell? ⟨gb102, 1, none⟩ = some (.slice A1_1 l1_1.length c1_1) := qc BK102 1
   have hfz12_0 := blk_frozen BK102.out 0
   have hfz12_1 := blk_frozen BK102.out 1
   go_wp2
   repeat (go_quiet (fail); try go_wp2)
   go_meet
   case rel => exact ⟨_, (((l0_1.length : Int) != (l1_1.length : Int))), (by first | rfl | (simp; done) | (simp [*]; done)), H', ⟨by first | omega | exact Nat.le_refl _⟩, ⟨qk BK101⟩, ⟨qk BK102⟩, ⟨by repeat (first | (with_reducible first | exact HB.out | apply qx | apply qv | apply qw | refine qs ?_ (by assumption)) | exact HB.out)⟩⟩
 case rest =>
  clear HC3
  try clear c1
  try clear p2
  try clear c6
  try clear c6b0
  try clear c6b1
  try clear c6b2
  try clear c7
  try clear c10
  try clear hcz11_0
  try clear hcz11_1
  try clear hcz12_0
  try clear hcz12_1
  try clear hcz8_0
  try clear hcz8_1
  try clear hcz9_0
  try clear hcz9_1
  try clear hfz11_0
  try clear hfz11_1
  try clear hfz12_0
  try clear hfz12_1
  try clear hfz8_0
  try clear hfz8_1
  try clear hfz9_0
  try clear hfz9_1
  obtain ⟨kq, x19_2, rfl, HA, HJ2, BK101, BK102, HB⟩ := hcut
  cases kq with
  | zero => exact absurd HA.out (by simp [moraineref02_Same.j0])
  | succ kj2 =>
   have H := HA.out
   clear HA
   simp only [moraineref02_Same.j0] at H
   by_cases c13 : x19_2 = true
   ·subst c13
    have H1 : (some false) = some r := by rw [if_pos rfl] at H; exact H
    clear H
    have H := H1
    clear H1
    obtain rfl := Option.some.inj H
    go_wp2
    repeat (go_quiet (fail); try go_wp2)
    go_ret
    exact ⟨by first | rfl | (simp [errW_none, errW_some] <;> rfl) | (simp [*, errW_none, errW_some] <;> rfl), by repeat (first | (with_reducible first | exact HB.out | apply qx | apply qv | apply qw | refine qs ?_ (by assumption)) | exact HB.out)⟩
   ·replace c13 := Bool.eq_false_iff.mpr c13
    subst c13
    have H1 : (moraineref02_Same.l0 kj2 0 a0_0 l0_1 a1_0 l1_1) = some r := by rw [if_neg (show ¬ (false = true) by decide)] at H; exact H
    clear H
    have H := H1
    clear H1
    have H' := Aside0.mk H
    clear H
    go_wp2
    repeat (go_quiet (fail); try go_wp2)
    go_loopg [5] kj2 (fun kq v5 w' => ∃ (x5_2 : Int), v5 = .int .i64 x5_2 ∧ Aside0 (moraineref02_Same.l0 kq x5_2 a0_0 l0_1 a1_0 l1_1 = some r) ∧ Aside0 (kq ≤ kj2) ∧ Aside0 (w'.heap[gb101]? = some (.cells #[.bool a0_0, (.slice A0_1 l0_1.length c0_1)] 25 (0, 0))) ∧ Aside0 (w'.heap[gb102]? = some (.cells #[.bool a1_0, (.slice A1_1 l1_1.length c1_1)] 25 (0, 0))) ∧ Aside0 (Below w.heap.size w w'))
    case atStart => exact ⟨(0), (by first | rfl | (simp; done) | (simp [*]; done)), H', ⟨Nat.le_refl _⟩, ⟨qk BK101⟩, ⟨qk BK102⟩, ⟨by repeat (first | (with_reducible first | exact HB.out | apply qx | apply qv | apply qw | refine qs ?_ (by assumption)) | exact HB.out)⟩⟩
    case round =>
     clear H'
     try clear c1
     try clear p2
     try clear c6
     try clear c6b0
     try clear c6b1
     try clear c6b2
     try clear c7
     try clear c10
     try clear c13
     try clear hcz11_0
     try clear hcz11_1
     try clear hcz12_0
     try clear hcz12_1
     try clear hcz8_0
     try clear hcz8_1
     try clear hcz9_0
     try clear hcz9_1
     try clear hfz11_0
     try clear hfz11_1
     try clear hfz12_0
     try clear hfz12_1
     try clear hfz8_0
     try clear hfz8_1
     try clear hfz9_0
     try clear hfz9_1
     try clear p2
     obtain ⟨x5_2, rfl, HA, HK2, BK101, BK102, HB⟩ := hrel
     cases gk with
     | zero => exact absurd HA.out (by simp [moraineref02_Same.l0])
     | succ k2 =>
      have H := HA.out
      clear HA
      simp only [moraineref02_Same.l0] at H
      by_cases c14 : x5_2 < (l0_1.length : Int)
      ·rw [if_pos c14] at H
       have c14b0 : decide (x5_2 < (l0_1.length : Int)) = true := decide_eq_true c14
       clear c14
       by_cases c15 : 0 ≤ x5_2
       ·rw [if_pos c15] at H
        have c15b0 : decide (0 ≤ x5_2) = true := decide_eq_true c15
        clear c15
        by_cases c16 : x5_2 < (l1_1.length : Int)
        ·rw [if_pos c16] at H
         have c16b0 : decide (x5_2 < (l1_1.length : Int)) = true := decide_eq_true c16
         clear c16
         by_cases c17 : (rd l0_1 x5_2) = (rd l1_1 x5_2)
         ·rw [if_pos c17] at H
          have c17b0 : ((rd l0_1 x5_2) == (rd l1_1 x5_2)) = true := beq_iff_eq.mpr c17
          have c17b1 : ((rd l0_1 x5_2) != (rd l1_1 x5_2)) = false := bne_eq_false_iff_eq.mpr c17
          clear c17
          have H' := Aside0.mk H
          clear H
          have hnb18 := NB101_102.out
          have hnc18 := NB102_101.out
          have hcz19_0 : wr.cell? ⟨gb101, 0, none⟩ = some (.bool a0_0) := qc BK101 0
          have hcz19_1 : wr.cell? ⟨gb101, 1, none⟩ = some (.slice A0_1 l0_1.length c0_1) := qc BK101 1
          have hfz19_0 := blk_frozen BK101.out 0
          have hfz19_1 := blk_frozen BK101.out 1
          have p103 : 0 ≤ (x5_2 : Int) := of_decide_eq_true (by first | (with_reducible assumption) | assumption)
          have q103 : x5_2 < (l0_1.length : Int) := of_decide_eq_true (by first | (with_reducible assumption) | assumption)
          obtain ⟨ad103, e103, hx103_0⟩ := Kd.at_int HR0_1.out x5_2 p103 q103
          cases e103
          replace hx103_0 := (HB.out.cell (World.block_lt_of_cell? w _ hx103_0)).trans hx103_0
          replace p103 := eq_true p103
          replace q103 := eq_true q103
          have hcz20_0 : wr.cell? ⟨gb102, 0, none⟩ = some (.bool a1_0) := qc BK102 0
          have hcz20_1 : wr.cell? ⟨gb102, 1, none⟩ = some (.slice A1_1 l1_1.length c1_1) := qc BK102 1
          have hfz20_0 := blk_frozen BK102.out 0
          have hfz20_1 := blk_frozen BK102.out 1
          have p104 : 0 ≤ (x5_2 : Int) := of_decide_eq_true (by first | (with_reducible assumption) | assumption)
          have q104 : x5_2 < (l1_1.length : Int) := of_decide_eq_true (by first | (with_reducible assumption) | assumption)
          obtain ⟨ad104, e104, hx104_0⟩ := Kd.at_int HR1_1.out x5_2 p104 q104
          cases e104
          replace hx104_0 := (HB.out.cell (World.block_lt_of_cell? w _ hx104_0)).trans hx104_0
          replace p104 := eq_true p104
          replace q104 := eq_true q104
          go_wp2
          repeat (go_quiet (fail); try go_wp2)
          go_roundg k2
          case measure => have := HJ2.out; have := HK2.out; omega
          case rel => exact ⟨(wrap64 (x5_2 + 1)), (by first | rfl | (simp; done) | (simp [*]; done)), H', ⟨by have := HJ2.out; have := HK2.out; omega⟩, ⟨qk BK101⟩, ⟨qk BK102⟩, ⟨by repeat (first | (with_reducible first | exact HB.out | apply qx | apply qv | apply qw | refine qs ?_ (by assumption)) | exact HB.out)⟩⟩
         ·rw [if_neg c17] at H
          have c17b0 : ((rd l0_1 x5_2) == (rd l1_1 x5_2)) = false := beq_eq_false_iff_ne.mpr c17
          have c17b1 : ((rd l0_1 x5_2) != (rd l1_1 x5_2)) = true := bne_iff_ne.mpr c17
          obtain rfl := Option.some.inj H
          have hnb21 := NB101_102.out
          have hnc21 := NB102_101.out
          have hcz22_0 : wr.cell? ⟨gb101, 0, none⟩ = some (.bool a0_0) := qc BK101 0
          have hcz22_1 : wr.cell? ⟨gb101, 1, none⟩ = some (.slice A0_1 l0_1.length c0_1) := qc BK101 1
          have hfz22_0 := blk_frozen BK101.out 0
          have hfz22_1 := blk_frozen BK101.out 1
          have p103 : 0 ≤ (x5_2 : Int) := of_decide_eq_true (by first | (with_reducible assumption) | assumption)
          have q103 : x5_2 < (l0_1.length : Int) := of_decide_eq_true (by first | (with_reducible assumption) | assumption)
          obtain ⟨ad103, e103, hx103_0⟩ := Kd.at_int HR0_1.out x5_2 p103 q103
          cases e103
          replace hx103_0 := (HB.out.cell (World.block_lt_of_cell? w _ hx103_0)).trans hx103_0
          replace p103 := eq_true p103
          replace q103 := eq_true q103
          have hcz23_0 : wr.cell? ⟨gb102, 0, none⟩ = some (.bool a1_0) := qc BK102 0
          have hcz23_1 : wr.cell? ⟨gb102, 1, none⟩ = some (.slice A1_1 l1_1.length c1_1) := qc BK102 1
          have hfz23_0 := blk_frozen BK102.out 0
          have hfz23_1 := blk_frozen BK102.out 1
          have p104 : 0 ≤ (x5_2 : Int) := of_decide_eq_true (by first | (with_reducible assumption) | assumption)
          have q104 : x5_2 < (l1_1.length : Int) := of_decide_eq_true (by first | (with_reducible assumption) | assumption)
          obtain ⟨ad104, e104, hx104_0⟩ := Kd.at_int HR1_1.out x5_2 p104 q104
          cases e104
          replace hx104_0 := (HB.out.cell (World.block_lt_of_cell? w _ hx104_0)).trans hx104_0
          replace p104 := eq_true p104
          replace q104 := eq_true q104
          go_wp2
          repeat (go_quiet (fail); try go_wp2)
          go_ret
          exact ⟨by first | rfl | (simp [errW_none, errW_some] <;> rfl) | (simp [*, errW_none, errW_some] <;> rfl), by repeat (first | (with_reducible first | exact HB.out | apply qx | apply qv | apply qw | refine qs ?_ (by assumption)) | exact HB.out)⟩
        ·rw [if_neg c16] at H
         exact absurd H (by simp)
       ·rw [if_neg c15] at H
        exact absurd H (by simp)
      ·rw [if_neg c14] at H
       have c14b0 : decide (x5_2 < (l0_1.length : Int)) = false := decide_eq_false c14
       clear c14
       obtain rfl := Option.some.inj H
       have hnb24 := NB101_102.out
       have hnc24 := NB102_101.out
       have hcz25_0 : wr.cell? ⟨gb101, 0, none⟩ = some (.bool a0_0) := qc BK101 0
       have hcz25_1 : wr.cell? ⟨gb101, 1, none⟩ = some (.slice A0_1 l0_1.length c0_1) := qc BK101 1
       have hfz25_0 := blk_frozen BK101.out 0
       have hfz25_1 := blk_frozen BK101.out 1
       go_wp2
       repeat (go_quiet (fail); try go_wp2)
       go_ret
       exact ⟨by first | rfl | (simp [errW_none, errW_some] <;> rfl) | (simp [*, errW_none, errW_some] <;> rfl), by repeat (first | (with_reducible first | exact HB.out | apply qx | apply qv | apply qw | refine qs ?_ (by assumption)) | exact HB.out)⟩
def moraineref02_cut.l0 : Nat → List Int → Int → Option (List Int)
 | 0, _, _ => none
 | k + 1, x0, x3 => if x3 > 0 then (if 0 ≤ (wrap64 (x3 - 1)) then (if (wrap64 (x3 - 1)) < (x0.length : Int) then (if (rd x0 (wrap64 (x3 - 1))) = 0 then (moraineref02_cut.l0 k x0 (wrap64 (x3 - 1))) else (if 0 ≤ x3 then (if x3 ≤ (x0.length : Int) then (some (x0.take (x3 : Int).toNat)) else (none)) else (none))) else (none)) else (none)) else (if 0 ≤ x3 then (if x3 ≤ (x0.length : Int) then (some (x0.take (x3 : Int).toNat)) else (none)) else (none))
def moraineref02_cut.f (k : Nat) (l0 : List Int) : Option (List Int) := moraineref02_cut.l0 k l0 (l0.length : Int)
set_option maxHeartbeats 8000000 in
set_option maxRecDepth 100000 in
theorem moraineref02_cut.calls (k : Nat) (P0_ : Nat → Prop) (u9000_ : Value) (l0 : List Int) (r : List Int) (w0 w : World) (hB : Below w0.heap.size w0 w) (ho0 : Kd.R (Kd.int .u8) 5 w w0.heap.size P0_ u9000_ l0) (h : moraineref02_cut.f k l0 = some r) :
  Calls Tryd.prog 85 #[u9000_] w fun e w' => ∃ v0_ : Value, e = .returned (v0_) ∧ Kd.R (Kd.int .u8) 5 w' w0.heap.size (fun k_ => (P0_ k_ ∨ w.heap.size ≤ k_)) v0_ r ∧ Below w0.heap.size w0 w' ∧ Kept w w' (fun k_ => P0_ k_) := by
 have HO0 := Aside0.mk (show Kd.R (Kd.int .u8) 5 w w0.heap.size (fun k_ => (P0_ k_ ∨ w.heap.size ≤ k_)) u9000_ l0 from Kd.R_mono ho0 (fun k_ hk => (.inl hk)))
 have HK := Aside0.mk (Kept.refl w (fun k_ => P0_ k_))
 have HW0 := Aside0.mk hB.size
 have HB := Aside0.mk hB
 clear hB
 have H : (moraineref02_cut.l0 k l0 (l0.length : Int)) = some r := h
 clear h
 have H' := Aside0.mk H
 clear H
 obtain ⟨Ao2, co2, eo2⟩ := Kd.R_slice HO0.out
 subst eo2
 go_enter Tryd.func85, Tryd.ntmps85
 go_wp2
 go_loopg [3] k (fun kq v3 w' => ∃ (x3_1 : Int), v3 = .int .i64 x3_1 ∧ Aside0 (moraineref02_cut.l0 kq l0 x3_1 = some r) ∧ Aside0 (kq ≤ k) ∧ Aside0 (Kd.R (Kd.int .u8) 5 w' w0.heap.size (fun k_ => (P0_ k_ ∨ w.heap.size ≤ k_)) (.slice Ao2 l0.length co2) l0) ∧ Aside0 (Kept w w' (fun k_ => P0_ k_)) ∧ Aside0 (Below w0.heap.size w0 w'))
 case atStart => exact ⟨((l0.length : Int)), (by first | rfl | (simp; done) | (simp [*]; done)), H', ⟨Nat.le_refl _⟩, ⟨qq HO0⟩, ⟨by repeat (first | (with_reducible first | exact HK.out | apply Kept.alloc | apply Kept.drewN | apply Kept.drew) | exact HK.out)⟩, ⟨by repeat (first | (with_reducible first | exact HB.out | apply qx | apply qv | apply qw) | exact HB.out)⟩⟩
 case round =>
  clear H'
  try clear p2
  obtain ⟨x3_1, rfl, HA, HK1, HO_0, HK, HB⟩ := hrel
  cases gk with
  | zero => exact absurd HA.out (by simp [moraineref02_cut.l0])
  | succ k1 =>
   have H := HA.out
   clear HA
   simp only [moraineref02_cut.l0] at H
   by_cases c3 : x3_1 > 0
   ·rw [if_pos c3] at H
    have c3b0 : decide (0 < x3_1) = true := decide_eq_true c3
    clear c3
    obtain ⟨ji4, hji4⟩ : ∃ j_ : Int, (wrap64 (x3_1 - 1)) = j_ := ⟨_, rfl⟩
    replace H : (if 0 ≤ (ji4) then (if (ji4) < (l0.length : Int) then (if (rd l0 (ji4)) = 0 then (moraineref02_cut.l0 k1 l0 ji4) else (if 0 ≤ x3_1 then (if x3_1 ≤ (l0.length : Int) then (some (l0.take (x3_1 : Int).toNat)) else (none)) else (none))) else (none)) else (none)) = some r := by first | (rw [hji4] at H; exact H) | (simp only [hji4] at H ⊢; exact H)
    have hji4w : (IntKind.i64.wrap (x3_1 - 1)) = ji4 := (i64_w _).trans hji4
    by_cases c5 : 0 ≤ (ji4)
    ·rw [if_pos c5] at H
     have c5b0 : decide (0 ≤ (ji4)) = true := decide_eq_true c5
     clear c5
     by_cases c6 : (ji4) < (l0.length : Int)
     ·rw [if_pos c6] at H
      have c6b0 : decide ((ji4) < (l0.length : Int)) = true := decide_eq_true c6
      clear c6
      by_cases c7 : (rd l0 (ji4)) = 0
      ·rw [if_pos c7] at H
       have c7b0 : ((rd l0 (ji4)) == 0) = true := beq_iff_eq.mpr c7
       have c7b1 : ((rd l0 (ji4)) != 0) = false := bne_eq_false_iff_eq.mpr c7
       clear c7
       have H' := Aside0.mk H
       clear H
       have p105 : 0 ≤ ((ji4) : Int) := of_decide_eq_true (by first | (with_reducible assumption) | assumption)
       have q105 : (ji4) < (l0.length : Int) := of_decide_eq_true (by first | (with_reducible assumption) | assumption)
       obtain ⟨ad105, e105, hx105_0⟩ := Kd.at_int (Kd.R_reads' HO_0.out).2.2 (ji4) p105 q105
       cases e105
       replace p105 := eq_true p105
       replace q105 := eq_true q105
       go_wp2
       go_roundg k1
       case measure => have := HK1.out; omega
       case rel => exact ⟨(ji4), (by first | rfl | (simp; done) | (simp only [← hji4] <;> (first | rfl | simp)) | (simp [*]; done)), H', ⟨by have := HK1.out; omega⟩, ⟨qq HO_0⟩, ⟨by repeat (first | (with_reducible first | exact HK.out | apply Kept.alloc | apply Kept.drewN | apply Kept.drew) | exact HK.out)⟩, ⟨by repeat (first | (with_reducible first | exact HB.out | apply qx | apply qv | apply qw) | exact HB.out)⟩⟩
      ·rw [if_neg c7] at H
       have c7b0 : ((rd l0 (ji4)) == 0) = false := beq_eq_false_iff_ne.mpr c7
       have c7b1 : ((rd l0 (ji4)) != 0) = true := bne_iff_ne.mpr c7
       by_cases c8 : 0 ≤ x3_1
       ·rw [if_pos c8] at H
        have c8b0 := eq_true c8
        have c8b1 : decide (0 ≤ x3_1) = true := decide_eq_true c8
        clear c8
        by_cases c9 : x3_1 ≤ (l0.length : Int)
        ·rw [if_pos c9] at H
         have c9b0 := eq_true c9
         have c9b1 : decide (x3_1 ≤ (l0.length : Int)) = true := decide_eq_true c9
         clear c9
         obtain ⟨y106, hy106⟩ : ∃ y_ : List Int, y_ = (l0.take (x3_1 : Int).toNat) := ⟨_, rfl⟩
         replace H : (some y106) = some r := by first | (rw [hy106]; with_reducible exact H) | (have H2_ := (Option.bind_some _ _).symm.trans H; rw [hy106]; with_reducible exact H2_) | (have H2_ := (Option.bind_some _ _).symm.trans H; with_reducible exact H2_) | with_reducible exact H | (rw [hy106]; exact H) | exact H
         have Ny106 := Aside0.mk hy106
         clear hy106
         obtain rfl := Option.some.inj H
         have p105 : 0 ≤ ((ji4) : Int) := of_decide_eq_true (by first | (with_reducible assumption) | assumption)
         have q105 : (ji4) < (l0.length : Int) := of_decide_eq_true (by first | (with_reducible assumption) | assumption)
         obtain ⟨ad105, e105, hx105_0⟩ := Kd.at_int (Kd.R_reads' HO_0.out).2.2 (ji4) p105 q105
         cases e105
         replace p105 := eq_true p105
         replace q105 := eq_true q105
         have q10 : (x3_1 : Int) ≤ ((l0.length : Int) : Int) := of_decide_eq_true (by first | (with_reducible assumption) | assumption)
         obtain ⟨i010, hi010, _, hsz10, _⟩ := info_parts info5
         have hcut10 := cut_to (P := Tryd.prog) 32 5 .i64 Tryd.underlying32 hi010 (some ad105) l0.length co2 x3_1 (of_decide_eq_true (by first | (with_reducible assumption) | assumption)) q10 (Kd.R_reads' HO_0.out).2.1
         have hr10 := Kd.R_take (m := (x3_1 : Int).toNat) HO_0.out (by omega)
         have hy10 : y106.length = (x3_1 : Int).toNat := (by rw [Ny106.out, List.length_take]; omega)
         rw [← Ny106.out] at hr10
         rw [← hy10] at hr10 hcut10
         clear hy10 hi010 hsz10 HO_0
         have HO108 := Aside0.mk hr10
         clear hr10
         replace q10 := eq_true q10
         go_wp2
         go_ret
         exact ⟨_, by first | rfl | (simp [errW_none, errW_some] <;> rfl) | (simp only [← hji4]; first | rfl | (simp [errW_none, errW_some] <;> rfl)) | (simp [*, errW_none, errW_some] <;> rfl), by (with_reducible repeat first|apply Kd.R_alloc|apply Kd.R_drewN|apply Kd.R_drew); exact HO108.out, by repeat (first | (with_reducible first | exact HB.out | apply qx | apply qv | apply qw) | exact HB.out), by repeat (first | (with_reducible first | exact HK.out | apply Kept.alloc | apply Kept.drewN | apply Kept.drew) | exact HK.out)⟩
        ·rw [if_neg c9] at H
         exact absurd H (by simp)
       ·rw [if_neg c8] at H
        exact absurd H (by simp)
     ·rw [if_neg c6] at H
      exact absurd H (by simp)
    ·rw [if_neg c5] at H
     exact absurd H (by simp)
   ·rw [if_neg c3] at H
    have c3b0 : decide (0 < x3_1) = false := decide_eq_false c3
    clear c3
    by_cases c11 : 0 ≤ x3_1
    ·rw [if_pos c11] at H
     have c11b0 := eq_true c11
     have c11b1 : decide (0 ≤ x3_1) = true := decide_eq_true c11
     clear c11
     by_cases c12 : x3_1 ≤ (l0.length : Int)
     ·rw [if_pos c12] at H
      have c12b0 := eq_true c12
      have c12b1 : decide (x3_1 ≤ (l0.length : Int)) = true := decide_eq_true c12
      clear c12
      obtain ⟨y109, hy109⟩ : ∃ y_ : List Int, y_ = (l0.take (x3_1 : Int).toNat) := ⟨_, rfl⟩
      replace H : (some y109) = some r := by first | (rw [hy109]; with_reducible exact H) | (have H2_ := (Option.bind_some _ _).symm.trans H; rw [hy109]; with_reducible exact H2_) | (have H2_ := (Option.bind_some _ _).symm.trans H; with_reducible exact H2_) | with_reducible exact H | (rw [hy109]; exact H) | exact H
      have Ny109 := Aside0.mk hy109
      clear hy109
      obtain rfl := Option.some.inj H
      have q13 : (x3_1 : Int) ≤ ((l0.length : Int) : Int) := of_decide_eq_true (by first | (with_reducible assumption) | assumption)
      obtain ⟨i013, hi013, _, hsz13, _⟩ := info_parts info5
      have hcut13 := cut_to (P := Tryd.prog) 32 5 .i64 Tryd.underlying32 hi013 Ao2 l0.length co2 x3_1 (of_decide_eq_true (by first | (with_reducible assumption) | assumption)) q13 (Kd.R_reads' HO_0.out).2.1
      have hr13 := Kd.R_take (m := (x3_1 : Int).toNat) HO_0.out (by omega)
      have hy13 : y109.length = (x3_1 : Int).toNat := (by rw [Ny109.out, List.length_take]; omega)
      rw [← Ny109.out] at hr13
      rw [← hy13] at hr13 hcut13
      clear hy13 hi013 hsz13 HO_0
      have HO111 := Aside0.mk hr13
      clear hr13
      replace q13 := eq_true q13
      go_wp2
      go_ret
      exact ⟨_, by first | rfl | (simp [errW_none, errW_some] <;> rfl) | (simp [*, errW_none, errW_some] <;> rfl), by (with_reducible repeat first|apply Kd.R_alloc|apply Kd.R_drewN|apply Kd.R_drew); exact HO111.out, by repeat (first | (with_reducible first | exact HB.out | apply qx | apply qv | apply qw) | exact HB.out), by repeat (first | (with_reducible first | exact HK.out | apply Kept.alloc | apply Kept.drewN | apply Kept.drew) | exact HK.out)⟩
     ·rw [if_neg c12] at H
      exact absurd H (by simp)
    ·rw [if_neg c11] at H
     exact absurd H (by simp)
def moraineref02_value.f (k : Nat) (a0 : Bool) (l1 : List Int) : Option (Bool × List Int) := (moraineref02_cut.f k l1).bind fun t113 => (if a0 = true then (some (decide (0 < t113.length), t113)) else (some (false, t113)))
set_option maxHeartbeats 8000000 in
set_option maxRecDepth 100000 in
theorem moraineref02_value.calls (k : Nat) (a0 : Bool) (P1_ : Nat → Prop) (u9000_ : Value) (l1 : List Int) (r1 : Bool) (r2 : List Int) (w0 w : World) (hB : Below w0.heap.size w0 w) (ho1 : Kd.R (Kd.int .u8) 5 w w0.heap.size P1_ u9000_ l1) (h : moraineref02_value.f k a0 l1 = some (r1, r2)) :
  Calls Tryd.prog 62 #[.bool a0, u9000_] w fun e w' => ∃ v1_ : Value, e = .returned (.agg #[.bool r1, v1_]) ∧ Kd.R (Kd.int .u8) 5 w' w0.heap.size (fun k_ => (P1_ k_ ∨ w.heap.size ≤ k_)) v1_ r2 ∧ Below w0.heap.size w0 w' ∧ Kept w w' (fun k_ => P1_ k_) := by
 have hu34 := Tryd.underlying34
 have HO1 := Aside0.mk (show Kd.R (Kd.int .u8) 5 w w0.heap.size (fun k_ => (P1_ k_ ∨ w.heap.size ≤ k_)) u9000_ l1 from Kd.R_mono ho1 (fun k_ hk => (.inl hk)))
 have HK := Aside0.mk (Kept.refl w (fun k_ => P1_ k_))
 have HW0 := Aside0.mk hB.size
 have HB := Aside0.mk hB
 clear hB
 have H : ((moraineref02_cut.f k l1).bind fun t113 => (if a0 = true then (some (decide (0 < t113.length), t113)) else (some (false, t113)))) = some (r1, r2) := h
 clear h
 replace H := Option.bind_eq_some_iff.mp H
 obtain ⟨t113, A30, H⟩ := H
 replace H : (if a0 = true then (some (decide (0 < t113.length), t113)) else (some (false, t113))) = some (r1, r2) := H
 have A3 := Aside0.mk A30
 clear A30
 by_cases c4 : a0 = true
 ·subst c4
  have H1 : (some (decide (0 < t113.length), t113)) = some (r1, r2) := by rw [if_pos rfl] at H; exact H
  clear H
  have H := H1
  clear H1
  simp only [Option.some.injEq, Prod.mk.injEq] at H
  obtain ⟨rfl, rfl⟩ := H
  go_enter Tryd.func62, Tryd.ntmps62
  go_wp2_with (first | ((with_reducible refine gate_dst (N := 4) rfl ?_); (try (refine gate_guard (by rfl) ?_; dsimp only)); refine box_event ?hg (N := 4) ?hd (cs := #[.bool false, .slice none 0 0]) (t := 34) ?hr ?_; (case hd => rfl); (case hg => rfl); (case hr => go_simp <;> rfl); intro gb112 hg w5 hbox hb; have n0_ := qr HO1 hb; have n1_ := Aside0.mk (Kept.below (S := (fun k_ => P1_ k_)) (by repeat (first | (with_reducible first | exact HK.out | apply Kept.alloc | apply Kept.drewN | apply Kept.drew) | exact HK.out)) hb); have n2_ := Aside0.mk (below_step (by repeat (first | (with_reducible first | exact HB.out | apply qx | apply qv | apply qw) | exact HB.out)) hb); have n3_ := Aside0.mk (hbox); have n4_ := Aside0.mk ((by rw [hg]; exact (by first | exact HK.out.1 | exact (show Kept w _ (fun k_ => P1_ k_) from by repeat (first | (with_reducible first | exact HK.out | apply Kept.alloc | apply Kept.drewN | apply Kept.drew) | exact HK.out)).1) : w.heap.size ≤ gb112)); have n5_ := Aside0.mk ((by rw [hg]; exact (below_size (by repeat (first | (with_reducible first | exact HB.out | apply qx | apply qv | apply qw) | exact HB.out))) : w0.heap.size ≤ gb112)); clear HO1; clear HK; clear HB; have HO1 := n0_; have HK := n1_; have HB := n2_; have BK112 := n3_; have GW112 := n4_; have GE112 := n5_; clear n0_ n1_ n2_ n3_ n4_ n5_; clear hb hbox hg; obtain ⟨Ao6, co6, eo6⟩ := Kd.R_slice HO1.out; subst eo6) | ((with_reducible refine gate_callee (f := 85) rfl ?_); refine goesL_ (some 6) rfl rfl Tryd.func85 (by kernel_rfl) rfl #[.slice Ao6 l1.length co6] rfl (by (try simp only [zM, zO, zP]); first|done|rfl) ?_; (with_reducible refine (moraineref02_cut.calls k (fun k_ => some k_ = (.slice Ao6 l1.length co6 : Value).ownBlock) (.slice Ao6 l1.length co6) l1 t113 w0 _ ?side1 ?side2 A3.out).mono ?_); (case side1 => repeat (first | (with_reducible first | exact HB.out | apply qx | apply qv | apply qw | refine below_set ?_ GE112.out) | exact HB.out)); (case side2 => exact Kd.R_tight rfl HO1.out); rintro e w7 ⟨v114, rfl, ho0, hb, hkp⟩; refine ⟨_, rfl, ?_⟩; have n0_ := Aside0.mk (blk_kept (by (with_reducible repeat first|refine qN ?_ _|refine qW ?_|refine qA ?_ _); exact BK112.out) hkp (fun hs_ => (fun e_ => (Kd.R_ne HO1.out BK112.out (by decide)) e_) hs_)); have n1_ := Aside0.mk (Kd.R_mono (ok' := fun k_ => (P1_ k_ ∨ w.heap.size ≤ k_)) ho0 (fun k_ hk_ => Or.elim hk_ (fun hs_ => (HO1.out.1 k_ (hs_).symm)) (fun hn_ => (.inr (Nat.le_trans (by first | exact HK.out.1 | exact (show Kept w _ (fun k_ => P1_ k_) from by repeat (first | (with_reducible first | exact HK.out | apply Kept.alloc | apply Kept.drewN | apply Kept.drew | refine Kept.setCell ?_ (.inr GW112.out) _) | exact HK.out)).1) hn_))))); have n2_ := Aside0.mk (Kept.then_ (S := (fun k_ => P1_ k_)) (by repeat (first | (with_reducible first | exact HK.out | apply Kept.alloc | apply Kept.drewN | apply Kept.drew | refine Kept.setCell ?_ (.inr GW112.out) _) | exact HK.out)) hkp (fun k_ hs_ => (fun e_ => (HO1.out.1 k_ e_.symm)) hs_)); have n3_ := Aside0.mk (hb); clear BK112; clear HK; clear HB; clear HO1; have BK112 := n0_; have HO115 := n1_; have HK := n2_; have HB := n3_; clear n0_ n1_ n2_ n3_; (try clear hb); (try clear hkp); (try clear ho0); obtain ⟨Ao8, co8, eo8⟩ := Kd.R_slice HO115.out; subst eo8; have hcz9_0 : w7.cell? ⟨gb112, 0, none⟩ = some (.bool false) := qc BK112 0; have hcz9_1 : w7.cell? ⟨gb112, 1, none⟩ = some (.slice none 0 0) := qc BK112 1; have hfz9_0 := blk_frozen BK112.out 0; have hfz9_1 := blk_frozen BK112.out 1))
  refine bodyPost_ret (results_cell_row rfl _ _ gb112 34 #[.bool (decide (0 < t113.length)), .slice Ao8 t113.length co8] (0, 0) _ rfl (by (with_reducible repeat first|refine qN ?_ _|refine qW ?_|refine qA ?_ _); refine blk_put (cs := #[.bool (decide (0 < t113.length)), .slice none 0 0]) ?_ 1 _ rfl; (with_reducible repeat first|refine qN ?_ _|refine qW ?_|refine qA ?_ _); refine blk_put (cs := #[.bool false, .slice none 0 0]) ?_ 0 _ rfl; (with_reducible repeat first|refine qN ?_ _|refine qW ?_|refine qA ?_ _); exact BK112.out) Tryd.underlying34 rfl (by kernel_rfl)) rfl ?_
  exact ⟨_, by first | rfl | (simp [errW_none, errW_some] <;> rfl) | (simp [*, errW_none, errW_some] <;> rfl), by (with_reducible repeat first|apply Kd.R_alloc|apply Kd.R_drewN|apply Kd.R_drew); exact Kd.R_mono (Kd.R_far (p := ⟨gb112, 1, none⟩) (Kd.R_far (p := ⟨gb112, 0, none⟩) (Kd.R_types HO115.out BK112.out (by decide)) (fun _ hk => hk.2) (.bool (decide (0 < t113.length)))) (fun _ hk => hk.2) (.slice Ao8 t113.length co8)) (fun _ hk => hk.1), by repeat (first | (with_reducible first | exact HB.out | apply qx | apply qv | apply qw | refine below_set ?_ GE112.out) | exact HB.out), by repeat (first | (with_reducible first | exact HK.out | apply Kept.alloc | apply Kept.drewN | apply Kept.drew | refine Kept.setCell ?_ (.inr GW112.out) _) | exact HK.out)⟩
 ·replace c4 := Bool.eq_false_iff.mpr c4
  subst c4
  have H1 : (some (false, t113)) = some (r1, r2) := by rw [if_neg (show ¬ (false = true) by decide)] at H; exact H
  clear H
  have H := H1
  clear H1
  simp only [Option.some.injEq, Prod.mk.injEq] at H
  obtain ⟨rfl, rfl⟩ := H
  go_enter Tryd.func62, Tryd.ntmps62
  go_wp2_with (first | ((with_reducible refine gate_dst (N := 4) rfl ?_); (try (refine gate_guard (by rfl) ?_; dsimp only)); refine box_event ?hg (N := 4) ?hd (cs := #[.bool false, .slice none 0 0]) (t := 34) ?hr ?_; (case hd => rfl); (case hg => rfl); (case hr => go_simp <;> rfl); intro gb112 hg w10 hbox hb; have n0_ := qr HO1 hb; have n1_ := Aside0.mk (Kept.below (S := (fun k_ => P1_ k_)) (by repeat (first | (with_reducible first | exact HK.out | apply Kept.alloc | apply Kept.drewN | apply Kept.drew) | exact HK.out)) hb); have n2_ := Aside0.mk (below_step (by repeat (first | (with_reducible first | exact HB.out | apply qx | apply qv | apply qw) | exact HB.out)) hb); have n3_ := Aside0.mk (hbox); have n4_ := Aside0.mk ((by rw [hg]; exact (by first | exact HK.out.1 | exact (show Kept w _ (fun k_ => P1_ k_) from by repeat (first | (with_reducible first | exact HK.out | apply Kept.alloc | apply Kept.drewN | apply Kept.drew) | exact HK.out)).1) : w.heap.size ≤ gb112)); have n5_ := Aside0.mk ((by rw [hg]; exact (below_size (by repeat (first | (with_reducible first | exact HB.out | apply qx | apply qv | apply qw) | exact HB.out))) : w0.heap.size ≤ gb112)); clear HO1; clear HK; clear HB; have HO1 := n0_; have HK := n1_; have HB := n2_; have BK112 := n3_; have GW112 := n4_; have GE112 := n5_; clear n0_ n1_ n2_ n3_ n4_ n5_; clear hb hbox hg; obtain ⟨Ao11, co11, eo11⟩ := Kd.R_slice HO1.out; subst eo11) | ((with_reducible refine gate_callee (f := 85) rfl ?_); refine goesL_ (some 6) rfl rfl Tryd.func85 (by kernel_rfl) rfl #[.slice Ao11 l1.length co11] rfl (by (try simp only [zM, zO, zP]); first|done|rfl) ?_; (with_reducible refine (moraineref02_cut.calls k (fun k_ => some k_ = (.slice Ao11 l1.length co11 : Value).ownBlock) (.slice Ao11 l1.length co11) l1 t113 w0 _ ?side1 ?side2 A3.out).mono ?_); (case side1 => repeat (first | (with_reducible first | exact HB.out | apply qx | apply qv | apply qw | refine below_set ?_ GE112.out) | exact HB.out)); (case side2 => exact Kd.R_tight rfl HO1.out); rintro e w12 ⟨v114, rfl, ho0, hb, hkp⟩; refine ⟨_, rfl, ?_⟩; have n0_ := Aside0.mk (blk_kept (by (with_reducible repeat first|refine qN ?_ _|refine qW ?_|refine qA ?_ _); exact BK112.out) hkp (fun hs_ => (fun e_ => (Kd.R_ne HO1.out BK112.out (by decide)) e_) hs_)); have n1_ := Aside0.mk (Kd.R_mono (ok' := fun k_ => (P1_ k_ ∨ w.heap.size ≤ k_)) ho0 (fun k_ hk_ => Or.elim hk_ (fun hs_ => (HO1.out.1 k_ (hs_).symm)) (fun hn_ => (.inr (Nat.le_trans (by first | exact HK.out.1 | exact (show Kept w _ (fun k_ => P1_ k_) from by repeat (first | (with_reducible first | exact HK.out | apply Kept.alloc | apply Kept.drewN | apply Kept.drew | refine Kept.setCell ?_ (.inr GW112.out) _) | exact HK.out)).1) hn_))))); have n2_ := Aside0.mk (Kept.then_ (S := (fun k_ => P1_ k_)) (by repeat (first | (with_reducible first | exact HK.out | apply Kept.alloc | apply Kept.drewN | apply Kept.drew | refine Kept.setCell ?_ (.inr GW112.out) _) | exact HK.out)) hkp (fun k_ hs_ => (fun e_ => (HO1.out.1 k_ e_.symm)) hs_)); have n3_ := Aside0.mk (hb); clear BK112; clear HK; clear HB; clear HO1; have BK112 := n0_; have HO115 := n1_; have HK := n2_; have HB := n3_; clear n0_ n1_ n2_ n3_; (try clear hb); (try clear hkp); (try clear ho0); obtain ⟨Ao13, co13, eo13⟩ := Kd.R_slice HO115.out; subst eo13; have hcz14_0 : w12.cell? ⟨gb112, 0, none⟩ = some (.bool false) := qc BK112 0; have hcz14_1 : w12.cell? ⟨gb112, 1, none⟩ = some (.slice none 0 0) := qc BK112 1; have hfz14_0 := blk_frozen BK112.out 0; have hfz14_1 := blk_frozen BK112.out 1))
  refine bodyPost_ret (results_cell_row rfl _ _ gb112 34 #[.bool false, .slice Ao13 t113.length co13] (0, 0) _ rfl (by (with_reducible repeat first|refine qN ?_ _|refine qW ?_|refine qA ?_ _); refine blk_put (cs := #[.bool false, .slice none 0 0]) ?_ 1 _ rfl; (with_reducible repeat first|refine qN ?_ _|refine qW ?_|refine qA ?_ _); refine blk_put (cs := #[.bool false, .slice none 0 0]) ?_ 0 _ rfl; (with_reducible repeat first|refine qN ?_ _|refine qW ?_|refine qA ?_ _); exact BK112.out) Tryd.underlying34 rfl (by kernel_rfl)) rfl ?_
  exact ⟨_, by first | rfl | (simp [errW_none, errW_some] <;> rfl) | (simp [*, errW_none, errW_some] <;> rfl), by (with_reducible repeat first|apply Kd.R_alloc|apply Kd.R_drewN|apply Kd.R_drew); exact Kd.R_mono (qz HO115 BK112 (by decide) (.bool false) (.slice Ao13 t113.length co13)) (fun _ hk => hk.1), by repeat (first | (with_reducible first | exact HB.out | apply qx | apply qv | apply qw | refine below_set ?_ GE112.out) | exact HB.out), by repeat (first | (with_reducible first | exact HK.out | apply Kept.alloc | apply Kept.drewN | apply Kept.drew | refine Kept.setCell ?_ (.inr GW112.out) _) | exact HK.out)⟩
mutual
def moraineref02_Value.l0 : Nat → List Int → Int → Bool → List Int → Option (Bool × List Int)
 | 0, _, _, _, _ => none
 | k + 1, x3, x4, x117000, x117001 => if x4 < (x117001.length : Int) then (moraineref02_Value.l1 k x3 x4 0 x117000 x117001) else ((moraineref02_value.f k x117000 x3).bind fun bt118 => (some (bt118.1, bt118.2)))
def moraineref02_Value.l1 : Nat → List Int → Int → Int → Bool → List Int → Option (Bool × List Int)
 | 0, _, _, _, _, _ => none
 | k + 1, x3, x4, x5, x117000, x117001 => if x5 < 32 then (if 0 ≤ x4 then (if x4 < (x117001.length : Int) then (if 0 ≤ x5 then (if x3.length < 140737488355328 then (moraineref02_Value.l1 k (x3 ++ [(Go.bits .and .u32 (shr .u32 (rd x117001 x4) x5) 1) % 256]) x4 (wrap64 (x5 + 1)) x117000 x117001) else (none)) else (none)) else (none)) else (none)) else (moraineref02_Value.l0 k x3 (wrap64 (x4 + 1)) x117000 x117001)
end
def moraineref02_Value.f (k : Nat) (a0_0 : Bool) (l0_1 : List Int) : Option (Bool × List Int) := moraineref02_Value.l0 k ([] : List Int) 0 a0_0 l0_1
set_option maxHeartbeats 8000000 in
set_option maxRecDepth 100000 in
theorem moraineref02_Value.calls (k : Nat) (a0_0 : Bool) (A0_1 : Option Addr) (c0_1 : Nat) (l0_1 : List Int) (r1 : Bool) (r2 : List Int) (w : World) (hr0_1 : Kd.C (Kd.int .u32) w A0_1 l0_1.length l0_1) (hc0_1 : l0_1.length ≤ c0_1) (h : moraineref02_Value.f k a0_0 l0_1 = some (r1, r2)) :
  Calls Tryd.prog 24 #[.agg #[.bool a0_0, .slice A0_1 l0_1.length c0_1]] w fun e w' => ∃ v1_ : Value, e = .returned (.agg #[.bool r1, v1_]) ∧ Kd.R (Kd.int .u8) 5 w' w.heap.size (fun _ => True) v1_ r2 ∧ Below w.heap.size w w' := by
 have hu25 := Tryd.underlying25
 have hu34 := Tryd.underlying34
 have HR0_1 := Aside0.mk hr0_1
 have HC0_1 := Aside0.mk hc0_1
 clear hr0_1 hc0_1
 have HB := Aside0.mk (Below.refl w.heap.size w)
 have H : (moraineref02_Value.l0 k ([] : List Int) 0 a0_0 l0_1) = some (r1, r2) := h
 clear h
 have H' := Aside0.mk H
 clear H
 go_enter Tryd.func24, Tryd.ntmps24
 go_wp2_with (first | ((with_reducible refine gate_dst (N := 1) rfl ?_); refine box_event ?hg (N := 1) ?hd (cs := #[.bool a0_0, .slice A0_1 l0_1.length c0_1]) (t := 25) ?hr ?_; (case hd => rfl); (case hg => rfl); (case hr => go_simp <;> rfl); intro gb116 hg w2 hbox hb; have BK116 := Aside0.mk (hbox); have GW116 := qg hg (by repeat (first | (with_reducible first | exact HB.out | apply qx | apply qv | apply qw) | exact HB.out)); have GE116 := GW116; replace HB := Aside0.mk (below_step (by repeat (first | (with_reducible first | exact HB.out | apply qx | apply qv | apply qw) | exact HB.out)) hb); clear hb hbox hg) | ((with_reducible refine gate_dst (N := 2) rfl ?_); refine box_event ?hg (N := 2) ?hd (cs := #[.bool false, .slice none 0 0]) (t := 34) ?hr ?_; (case hd => rfl); (case hg => rfl); (case hr => go_simp <;> rfl); intro gb117 hg w3 hbox hb; have BK117 := Aside0.mk (hbox); have GW117 := qg hg (by repeat (first | (with_reducible first | exact HB.out | apply qx | apply qv | apply qw | refine below_set ?_ GE116.out) | exact HB.out)); have GE117 := GW117; replace HB := Aside0.mk (below_step (by repeat (first | (with_reducible first | exact HB.out | apply qx | apply qv | apply qw | refine below_set ?_ GE116.out) | exact HB.out)) hb); have NB116_117 := qn BK116 hg; have NB117_116 := qm BK116 hg; replace BK116 := qb BK116 hb; clear hb hbox hg))
 go_loopg [3, 4] k (fun kq v3 v4 w' => ∃ (x3_1 : List Int) (x4_1 : Int), v4 = .int .i64 x4_1 ∧ Aside0 (moraineref02_Value.l0 kq x3_1 x4_1 a0_0 l0_1 = some (r1, r2)) ∧ Aside0 (kq ≤ k) ∧ Aside0 (Kd.R (Kd.int .u8) 5 w' w.heap.size (fun _ => True) v3 x3_1) ∧ Aside0 (w'.heap[gb116]? = some (.cells #[.bool a0_0, (.slice A0_1 l0_1.length c0_1)] 25 (0, 0))) ∧ Aside0 (w'.heap[gb117]? = some (.cells #[.bool false, (.slice none 0 0)] 34 (0, 0))) ∧ Aside0 (Below w.heap.size w w'))
 case atStart => exact ⟨(([] : List Int)), (0), (by first | rfl | (simp; done) | (simp [*]; done)), H', ⟨Nat.le_refl _⟩, ⟨by first | exact Kd.R_nil _ _ _ _ _ | exact Kd.N_nil _ _ _ _ _ | exact Kd.V_nil _ _ _ _ _ | exact Kd.Q_nil _ _ _ _ _ | exact Kd.S_nil _ _ _ _ _⟩, ⟨qk BK116⟩, ⟨qk BK117⟩, ⟨by repeat (first | (with_reducible first | exact HB.out | apply qx | apply qv | apply qw | refine qs ?_ (by assumption)) | exact HB.out)⟩⟩
 case round =>
  clear H'
  try clear c2
  try clear p2
  obtain ⟨x3_1, x4_1, rfl, HA, HK1, HO_3, BK116, BK117, HB⟩ := hrel
  cases gk with
  | zero => exact absurd HA.out (by simp [moraineref02_Value.l0])
  | succ k1 =>
   have H := HA.out
   clear HA
   simp only [moraineref02_Value.l0] at H
   by_cases c4 : x4_1 < (l0_1.length : Int)
   ·rw [if_pos c4] at H
    have c4b0 : decide (x4_1 < (l0_1.length : Int)) = true := decide_eq_true c4
    clear c4
    have H' := Aside0.mk H
    clear H
    have hnb5 := NB116_117.out
    have hnc5 := NB117_116.out
    have hcz6_0 : wr.cell? ⟨gb116, 0, none⟩ = some (.bool a0_0) := qc BK116 0
    have hcz6_1 : wr.cell? ⟨gb116, 1, none⟩ = some (.slice A0_1 l0_1.length c0_1) := qc BK116 1
    have hfz6_0 := blk_frozen BK116.out 0
    have hfz6_1 := blk_frozen BK116.out 1
    go_wp2
    go_loopg [3, 5] k1 (fun kq v3 v5 w' => ∃ (x3_2 : List Int) (x5_2 : Int), v5 = .int .i64 x5_2 ∧ Aside0 (moraineref02_Value.l1 kq x3_2 x4_1 x5_2 a0_0 l0_1 = some (r1, r2)) ∧ Aside0 (kq ≤ k1) ∧ Aside0 (Kd.R (Kd.int .u8) 5 w' w.heap.size (fun _ => True) v3 x3_2) ∧ Aside0 (w'.heap[gb116]? = some (.cells #[.bool a0_0, (.slice A0_1 l0_1.length c0_1)] 25 (0, 0))) ∧ Aside0 (w'.heap[gb117]? = some (.cells #[.bool false, (.slice none 0 0)] 34 (0, 0))) ∧ Aside0 (Below w.heap.size w w'))
    case atStart => exact ⟨(x3_1), (0), (by first | rfl | (simp; done) | (simp [*]; done)), H', ⟨Nat.le_refl _⟩, ⟨qq HO_3⟩, ⟨qk BK116⟩, ⟨qk BK117⟩, ⟨by repeat (first | (with_reducible first | exact HB.out | apply qx | apply qv | apply qw | refine qs ?_ (by assumption)) | exact HB.out)⟩⟩
    case round =>
     clear H'
     try clear c2
     try clear p2
     try clear c4
     try clear c4b0
     try clear c5
     try clear hcz6_0
     try clear hcz6_1
     try clear hfz6_0
     try clear hfz6_1
     try clear p2
     obtain ⟨x3_2, x5_2, rfl, HA, HK2, HO_3, BK116, BK117, HB⟩ := hrel
     cases gk with
     | zero => exact absurd HA.out (by simp [moraineref02_Value.l1])
     | succ k2 =>
      have H := HA.out
      clear HA
      simp only [moraineref02_Value.l1] at H
      by_cases c7 : x5_2 < 32
      ·rw [if_pos c7] at H
       have c7b0 : decide (x5_2 < 32) = true := decide_eq_true c7
       clear c7
       by_cases c8 : 0 ≤ x4_1
       ·rw [if_pos c8] at H
        have c8b0 : decide (0 ≤ x4_1) = true := decide_eq_true c8
        clear c8
        by_cases c9 : x4_1 < (l0_1.length : Int)
        ·rw [if_pos c9] at H
         have c9b0 : decide (x4_1 < (l0_1.length : Int)) = true := decide_eq_true c9
         clear c9
         by_cases c10 : 0 ≤ x5_2
         ·rw [if_pos c10] at H
          have c10b0 := eq_true c10
          have c10b1 : decide (0 ≤ x5_2) = true := decide_eq_true c10
          clear c10
          obtain ⟨ji11, hji11⟩ : ∃ j_ : Int, (shr .u32 (rd l0_1 x4_1) x5_2) = j_ := ⟨_, rfl⟩
          replace H : (if x3_2.length < 140737488355328 then (moraineref02_Value.l1 k2 (x3_2 ++ [(Go.bits .and .u32 (ji11) 1) % 256]) x4_1 (wrap64 (x5_2 + 1)) a0_0 l0_1) else (none)) = some (r1, r2) := by first | (rw [hji11] at H; exact H) | (simp only [hji11] at H ⊢; exact H)
          have hji11_ : ((rd l0_1 x4_1) / 2 ^ min x5_2.toNat 32) = ji11 := hji11
          have hji11z : x5_2 ≤ 32 → ((rd l0_1 x4_1) / 2 ^ x5_2.toNat) = ji11 := shr_small hji11
          by_cases c12 : x3_2.length < 140737488355328
          ·rw [if_pos c12] at H
           have LMc12 := Aside0.mk c12
           clear c12
           obtain ⟨y123, hy123⟩ : ∃ y_ : List Int, y_ = (x3_2 ++ [(Go.bits .and .u32 (ji11) 1) % 256]) := ⟨_, rfl⟩
           replace H : (moraineref02_Value.l1 k2 y123 x4_1 (wrap64 (x5_2 + 1)) a0_0 l0_1) = some (r1, r2) := by first | (rw [hy123]; with_reducible exact H) | (have H2_ := (Option.bind_some _ _).symm.trans H; rw [hy123]; with_reducible exact H2_) | (have H2_ := (Option.bind_some _ _).symm.trans H; with_reducible exact H2_) | with_reducible exact H | (rw [hy123]; exact H) | exact H
           have Ny123 := Aside0.mk hy123
           clear hy123
           have H' := Aside0.mk H
           clear H
           have hnb13 := NB116_117.out
           have hnc13 := NB117_116.out
           have hcz14_0 : wr.cell? ⟨gb116, 0, none⟩ = some (.bool a0_0) := qc BK116 0
           have hcz14_1 : wr.cell? ⟨gb116, 1, none⟩ = some (.slice A0_1 l0_1.length c0_1) := qc BK116 1
           have hfz14_0 := blk_frozen BK116.out 0
           have hfz14_1 := blk_frozen BK116.out 1
           have p122 : 0 ≤ (x4_1 : Int) := of_decide_eq_true (by first | (with_reducible assumption) | assumption)
           have q122 : x4_1 < (l0_1.length : Int) := of_decide_eq_true (by first | (with_reducible assumption) | assumption)
           obtain ⟨ad122, e122, hx122_0⟩ := Kd.at_int HR0_1.out x4_1 p122 q122
           cases e122
           replace hx122_0 := (HB.out.cell (World.block_lt_of_cell? w _ hx122_0)).trans hx122_0
           replace p122 := eq_true p122
           replace q122 := eq_true q122
           go_wp2_with (first | ((with_reducible refine gate_builtin (b := .append) (xs := #[.tmp 17, .tmp 27]) rfl ?_); at_builtin; refine Kd.R_append (Kd.int .u8) (w0 := w) w.heap.size rfl (.tmp 17) (.tmp 27) 32 5 (.int .u8 0) 1 rfl Tryd.underlying32 info5 rfl (by decide) (by omega) u3 x3_2 ((Go.bits .and .u32 (ji11) 1) % 256) [.int .u8 ((Go.bits .and .u32 (ji11) 1) % 256)] (fun _ => True) (fun _ => False) rfl rfl ?aP (fun _ hk => hk.elim) ?aF ?aO ?aB ?aS ?aL ?_; (case aP => exact rfl); (case aB => exact (by repeat with_reducible first|exact HB.out|apply qx|apply qv|apply qw|refine qs ?_ (by assumption))); (case aF => exact (fun _ _ => trivial)); (case aO => exact (by (with_reducible repeat first|apply Kd.R_alloc|apply Kd.R_drewN|apply Kd.R_drew); exact HO_3.out)); (case aS => exact (below_size (by repeat with_reducible first|exact HB.out|apply qx|apply qv|apply qw|refine qs ?_ (by assumption)))); (case aL => have := LMc12.out; omega); intro v124 w15 ho hb hg hat; rw [← Ny123.out] at ho; have n0_ := Aside0.mk (blk_grown (g := gb116) (o := .cells #[.bool a0_0, .slice (some ad122) l0_1.length c0_1] 25 (0, 0)) (by (with_reducible repeat first|refine qN ?_ _|refine qW ?_|refine qA ?_ _); exact BK116.out) hg (Kd.R_ne HO_3.out BK116.out (by decide))); have n1_ := Aside0.mk (blk_grown (g := gb117) (o := .cells #[.bool false, .slice none 0 0] 34 (0, 0)) (by (with_reducible repeat first|refine qN ?_ _|refine qW ?_|refine qA ?_ _); exact BK117.out) hg (Kd.R_ne HO_3.out BK117.out (by decide))); have n2_ := Aside0.mk (hb); have n3_ := Aside0.mk (ho); clear BK116; clear BK117; clear HB; clear HO_3; have BK116 := n0_; have BK117 := n1_; have HB := n2_; have HO125 := n3_; clear n0_ n1_ n2_ n3_; clear ho hb hg hat))
           go_roundg k2
           case measure => have := HK1.out; have := HK2.out; omega
           case rel => exact ⟨(y123), (wrap64 (x5_2 + 1)), (by first | rfl | (simp; done) | (simp [*]; done)), H', ⟨by have := HK1.out; have := HK2.out; omega⟩, ⟨qq HO125⟩, ⟨qk BK116⟩, ⟨qk BK117⟩, ⟨by repeat (first | (with_reducible first | exact HB.out | apply qx | apply qv | apply qw | refine qs ?_ (by assumption)) | exact HB.out)⟩⟩
          ·rw [if_neg c12] at H
           exact absurd H (by simp)
         ·rw [if_neg c10] at H
          exact absurd H (by simp)
        ·rw [if_neg c9] at H
         exact absurd H (by simp)
       ·rw [if_neg c8] at H
        exact absurd H (by simp)
      ·rw [if_neg c7] at H
       have c7b0 : decide (x5_2 < 32) = false := decide_eq_false c7
       clear c7
       have H' := Aside0.mk H
       clear H
       go_wp2
       go_roundg k2
       case measure => have := HK1.out; have := HK2.out; omega
       case rel => exact ⟨(x3_2), (wrap64 (x4_1 + 1)), (by first | rfl | (simp; done) | (simp [*]; done)), H', ⟨by have := HK1.out; have := HK2.out; omega⟩, ⟨qq HO_3⟩, ⟨qk BK116⟩, ⟨qk BK117⟩, ⟨by repeat (first | (with_reducible first | exact HB.out | apply qx | apply qv | apply qw | refine qs ?_ (by assumption)) | exact HB.out)⟩⟩
   ·rw [if_neg c4] at H
    have c4b0 : decide (x4_1 < (l0_1.length : Int)) = false := decide_eq_false c4
    clear c4
    replace H := Option.bind_eq_some_iff.mp H
    obtain ⟨⟨t118, t119⟩, A160, H⟩ := H
    replace H : (some (t118, t119)) = some (r1, r2) := H
    have A16 := Aside0.mk A160
    clear A160
    simp only [Option.some.injEq, Prod.mk.injEq] at H
    obtain ⟨rfl, rfl⟩ := H
    have hnb17 := NB116_117.out
    have hnc17 := NB117_116.out
    have hcz18_0 : wr.cell? ⟨gb116, 0, none⟩ = some (.bool a0_0) := qc BK116 0
    have hcz18_1 : wr.cell? ⟨gb116, 1, none⟩ = some (.slice A0_1 l0_1.length c0_1) := qc BK116 1
    have hfz18_0 := blk_frozen BK116.out 0
    have hfz18_1 := blk_frozen BK116.out 1
    obtain ⟨Ao19, co19, eo19⟩ := Kd.R_slice HO_3.out
    subst eo19
    go_wp2_with (first | ((with_reducible refine gate_callee (f := 62) rfl ?_); refine goesL_ (some 32) rfl rfl Tryd.func62 (by kernel_rfl) rfl #[.bool a0_0, .slice Ao19 x3_1.length co19] rfl (by (try simp only [zM, zO, zP]); first|done|rfl) ?_; (with_reducible refine (moraineref02_value.calls k1 a0_0 (fun k_ => some k_ = (.slice Ao19 x3_1.length co19 : Value).ownBlock) (.slice Ao19 x3_1.length co19) x3_1 t118 t119 w _ ?side1 ?side2 A16.out).mono ?_); (case side1 => repeat (first | (with_reducible first | exact HB.out | apply qx | apply qv | apply qw | refine qs ?_ (by assumption)) | exact HB.out)); (case side2 => exact Kd.R_tight rfl HO_3.out); rintro e w20 ⟨v120, rfl, ho0, hb, hkp⟩; refine ⟨_, rfl, ?_⟩; have n0_ := Aside0.mk (blk_kept (by (with_reducible repeat first|refine qN ?_ _|refine qW ?_|refine qA ?_ _); exact BK116.out) hkp (fun hs_ => (fun e_ => (Kd.R_ne HO_3.out BK116.out (by decide)) e_) hs_)); have n1_ := Aside0.mk (blk_kept (by (with_reducible repeat first|refine qN ?_ _|refine qW ?_|refine qA ?_ _); exact BK117.out) hkp (fun hs_ => (fun e_ => (Kd.R_ne HO_3.out BK117.out (by decide)) e_) hs_)); have n2_ := Aside0.mk (Kd.R_mono (ok' := fun k_ => True) ho0 (fun k_ hk_ => trivial)); have n3_ := Aside0.mk (hb); clear BK116; clear BK117; clear HB; clear HO_3; have BK116 := n0_; have BK117 := n1_; have HO121 := n2_; have HB := n3_; clear n0_ n1_ n2_ n3_; (try clear hb); (try clear hkp); (try clear ho0); have hcz21_0 : w20.cell? ⟨gb117, 0, none⟩ = some (.bool false) := qc BK117 0; have hcz21_1 : w20.cell? ⟨gb117, 1, none⟩ = some (.slice none 0 0) := qc BK117 1; have hfz21_0 := blk_frozen BK117.out 0; have hfz21_1 := blk_frozen BK117.out 1; obtain ⟨Ao22, co22, eo22⟩ := Kd.R_slice HO121.out; subst eo22))
    refine bodyPost_ret (results_cell_row rfl _ _ gb117 34 #[.bool t118, .slice Ao22 t119.length co22] (0, 0) _ rfl (by (with_reducible repeat first|refine qN ?_ _|refine qW ?_|refine qA ?_ _); refine blk_put (cs := #[.bool t118, .slice none 0 0]) ?_ 1 _ rfl; (with_reducible repeat first|refine qN ?_ _|refine qW ?_|refine qA ?_ _); refine blk_put (cs := #[.bool false, .slice none 0 0]) ?_ 0 _ rfl; (with_reducible repeat first|refine qN ?_ _|refine qW ?_|refine qA ?_ _); exact BK117.out) Tryd.underlying34 rfl (by kernel_rfl)) rfl ?_
    exact ⟨_, by first | rfl | (simp [errW_none, errW_some] <;> rfl) | (simp [*, errW_none, errW_some] <;> rfl), by (with_reducible repeat first|apply Kd.R_alloc|apply Kd.R_drewN|apply Kd.R_drew); exact Kd.R_mono (qz HO121 BK117 (by decide) (.bool t118) (.slice Ao22 t119.length co22)) (fun _ hk => trivial), by repeat (first | (with_reducible first | exact HB.out | apply qx | apply qv | apply qw | refine qs ?_ (by assumption)) | exact HB.out)⟩
end Go.Proofs.YthhpnlbeniihhaaDoor.PRef
-- Printed by a program of this session's (wip/tools/printr.py, over the kit's print program).
namespace Go.Proofs.YthhpnlbeniihhaaDoor.PRef
open Go.RowKit Go.Proofs.YthhpnlbeniihhaaDoorW.PrintWords Go.Proofs.YthhpnlbeniihhaaDoorW.PrintLast Go.Proofs.YthhpnlbeniihhaaDoorW.PrintMore
attribute [local go_sem] max2_int min2_int max_two min_two max_three min_three max_four min_four   -- for this text's walks alone
set_option linter.unusedVariables false
set_option linter.unusedSimpArgs false
def moraineref02_less.l0 : Nat → List Int → List Int → Int → Option (Bool)
 | 0, _, _, _ => none
 | k + 1, x0, x1, x5 => if x5 ≥ 0 then (if 0 ≤ x5 then (if x5 < (x0.length : Int) then (if x5 < (x1.length : Int) then (if (rd x0 x5) = (rd x1 x5) then (moraineref02_less.l0 k x0 x1 (wrap64 (x5 - 1))) else (some (decide ((rd x0 x5) < (rd x1 x5))))) else (none)) else (none)) else (none)) else (some false)
def moraineref02_less.f (k : Nat) (l0 : List Int) (l1 : List Int) : Option (Bool) := if (l0.length : Int) = (l1.length : Int) then (moraineref02_less.l0 k l0 l1 (wrap64 ((l0.length : Int) - 1))) else (some (decide ((l0.length : Int) < (l1.length : Int))))
set_option maxHeartbeats 8000000 in
set_option maxRecDepth 100000 in
theorem moraineref02_less.calls (k : Nat) (A0 : Option Addr) (c0 : Nat) (l0 : List Int) (A1 : Option Addr) (c1 : Nat) (l1 : List Int) (r : Bool) (w : World) (hr0 : Kd.C (Kd.int .u8) w A0 l0.length l0) (hc0 : l0.length ≤ c0) (hr1 : Kd.C (Kd.int .u8) w A1 l1.length l1) (hc1 : l1.length ≤ c1) (h : moraineref02_less.f k l0 l1 = some r) :
  Calls Tryd.prog 77 #[.slice A0 l0.length c0, .slice A1 l1.length c1] w fun e w' => e = .returned (.bool r) ∧ Drawn0 w w' := by
 have HR0 := Aside0.mk hr0
 have HC0 := Aside0.mk hc0
 clear hr0 hc0
 have HR1 := Aside0.mk hr1
 have HC1 := Aside0.mk hc1
 clear hr1 hc1
 have H : (if (l0.length : Int) = (l1.length : Int) then (moraineref02_less.l0 k l0 l1 (wrap64 ((l0.length : Int) - 1))) else (some (decide ((l0.length : Int) < (l1.length : Int))))) = some r := h
 clear h
 by_cases c3 : (l0.length : Int) = (l1.length : Int)
 ·rw [if_pos c3] at H
  have c3b0 : ((l0.length : Int) == (l1.length : Int)) = true := beq_iff_eq.mpr c3
  have c3b1 : ((l0.length : Int) != (l1.length : Int)) = false := bne_eq_false_iff_eq.mpr c3
  have c3b2 : (l0.length == l1.length) = true := by first | simpa using c3 | (simp at c3 ⊢; omega)
  clear c3
  have H' := Aside0.mk H
  clear H
  go_enter Tryd.func77, Tryd.ntmps77
  go_wp2
  repeat (go_quiet (fail); try go_wp2)
  go_loopg [5] k (fun kq v5 w' => ∃ (x5_1 : Int), v5 = .int .i64 x5_1 ∧ Aside0 (moraineref02_less.l0 kq l0 l1 x5_1 = some r) ∧ Aside0 (kq ≤ k) ∧ Drawn0 w w')
  case atStart => exact ⟨(wrap64 ((l0.length : Int) - 1)), (by first | rfl | (simp; done) | (simp [*]; done)), H', ⟨Nat.le_refl _⟩, by repeat (first | exact Drawn0.refl _ | apply Drawn0.step)⟩
  case round =>
   clear H'
   try clear c1
   try clear p2
   try clear c3
   try clear c3b0
   try clear c3b1
   try clear c3b2
   obtain ⟨x5_1, rfl, HA, HK1, ⟨m1, rfl⟩⟩ := hrel
   cases gk with
   | zero => exact absurd HA.out (by simp [moraineref02_less.l0])
   | succ k1 =>
    have H := HA.out
    clear HA
    simp only [moraineref02_less.l0] at H
    by_cases c4 : x5_1 ≥ 0
    ·rw [if_pos c4] at H
     have c4b0 : decide (0 ≤ x5_1) = true := decide_eq_true c4
     clear c4
     by_cases c5 : 0 ≤ x5_1
     ·rw [if_pos c5] at H
      have c5b0 : decide (0 ≤ x5_1) = true := decide_eq_true c5
      clear c5
      by_cases c6 : x5_1 < (l0.length : Int)
      ·rw [if_pos c6] at H
       have c6b0 : decide (x5_1 < (l0.length : Int)) = true := decide_eq_true c6
       clear c6
       by_cases c7 : x5_1 < (l1.length : Int)
       ·rw [if_pos c7] at H
        have c7b0 : decide (x5_1 < (l1.length : Int)) = true := decide_eq_true c7
        clear c7
        by_cases c8 : (rd l0 x5_1) = (rd l1 x5_1)
        ·rw [if_pos c8] at H
         have c8b0 : ((rd l0 x5_1) == (rd l1 x5_1)) = true := beq_iff_eq.mpr c8
         have c8b1 : ((rd l0 x5_1) != (rd l1 x5_1)) = false := bne_eq_false_iff_eq.mpr c8
         clear c8
         have H' := Aside0.mk H
         clear H
         have p165 : 0 ≤ (x5_1 : Int) := of_decide_eq_true (by first | (with_reducible assumption) | assumption)
         have q165 : x5_1 < (l0.length : Int) := of_decide_eq_true (by first | (with_reducible assumption) | assumption)
         obtain ⟨ad165, e165, hx165_0⟩ := Kd.at_int HR0.out x5_1 p165 q165
         cases e165
         replace p165 := eq_true p165
         replace q165 := eq_true q165
         have p166 : 0 ≤ (x5_1 : Int) := of_decide_eq_true (by first | (with_reducible assumption) | assumption)
         have q166 : x5_1 < (l1.length : Int) := of_decide_eq_true (by first | (with_reducible assumption) | assumption)
         obtain ⟨ad166, e166, hx166_0⟩ := Kd.at_int HR1.out x5_1 p166 q166
         cases e166
         replace p166 := eq_true p166
         replace q166 := eq_true q166
         go_wp2
         repeat (go_quiet (fail); try go_wp2)
         go_roundg k1
         case measure => have := HK1.out; omega
         case rel => exact ⟨(wrap64 (x5_1 - 1)), (by first | rfl | (simp; done) | (simp [*]; done)), H', ⟨by have := HK1.out; omega⟩, by repeat (first | exact Drawn0.refl _ | apply Drawn0.step)⟩
        ·rw [if_neg c8] at H
         have c8b0 : ((rd l0 x5_1) == (rd l1 x5_1)) = false := beq_eq_false_iff_ne.mpr c8
         have c8b1 : ((rd l0 x5_1) != (rd l1 x5_1)) = true := bne_iff_ne.mpr c8
         obtain rfl := Option.some.inj H
         have p165 : 0 ≤ (x5_1 : Int) := of_decide_eq_true (by first | (with_reducible assumption) | assumption)
         have q165 : x5_1 < (l0.length : Int) := of_decide_eq_true (by first | (with_reducible assumption) | assumption)
         obtain ⟨ad165, e165, hx165_0⟩ := Kd.at_int HR0.out x5_1 p165 q165
         cases e165
         replace p165 := eq_true p165
         replace q165 := eq_true q165
         have p166 : 0 ≤ (x5_1 : Int) := of_decide_eq_true (by first | (with_reducible assumption) | assumption)
         have q166 : x5_1 < (l1.length : Int) := of_decide_eq_true (by first | (with_reducible assumption) | assumption)
         obtain ⟨ad166, e166, hx166_0⟩ := Kd.at_int HR1.out x5_1 p166 q166
         cases e166
         replace p166 := eq_true p166
         replace q166 := eq_true q166
         have p167 : 0 ≤ (x5_1 : Int) := of_decide_eq_true (by first | (with_reducible assumption) | assumption)
         have q167 : x5_1 < (l0.length : Int) := of_decide_eq_true (by first | (with_reducible assumption) | assumption)
         obtain ⟨ad167, e167, hx167_0⟩ := Kd.at_int HR0.out x5_1 p167 q167
         obtain rfl : ad165 = ad167 := (by injection e167)
         replace p167 := eq_true p167
         replace q167 := eq_true q167
         have p168 : 0 ≤ (x5_1 : Int) := of_decide_eq_true (by first | (with_reducible assumption) | assumption)
         have q168 : x5_1 < (l1.length : Int) := of_decide_eq_true (by first | (with_reducible assumption) | assumption)
         obtain ⟨ad168, e168, hx168_0⟩ := Kd.at_int HR1.out x5_1 p168 q168
         obtain rfl : ad166 = ad168 := (by injection e168)
         replace p168 := eq_true p168
         replace q168 := eq_true q168
         go_wp2
         repeat (go_quiet (fail); try go_wp2)
         go_ret
         exact ⟨by first | rfl | (simp; done) | (simp [*]; done), by repeat (first | exact Drawn0.refl _ | apply Drawn0.step)⟩
       ·rw [if_neg c7] at H
        exact absurd H (by simp)
      ·rw [if_neg c6] at H
       exact absurd H (by simp)
     ·rw [if_neg c5] at H
      exact absurd H (by simp)
    ·rw [if_neg c4] at H
     have c4b0 : decide (0 ≤ x5_1) = false := decide_eq_false c4
     clear c4
     obtain rfl := Option.some.inj H
     go_wp2
     repeat (go_quiet (fail); try go_wp2)
     go_ret
     exact ⟨by first | rfl | (simp; done) | (simp [*]; done), by repeat (first | exact Drawn0.refl _ | apply Drawn0.step)⟩
 ·rw [if_neg c3] at H
  have c3b0 : ((l0.length : Int) == (l1.length : Int)) = false := beq_eq_false_iff_ne.mpr c3
  have c3b1 : ((l0.length : Int) != (l1.length : Int)) = true := bne_iff_ne.mpr c3
  have c3b2 : (l0.length == l1.length) = false := by first | simpa using c3 | (simp at c3 ⊢; omega)
  obtain rfl := Option.some.inj H
  go_enter Tryd.func77, Tryd.ntmps77
  go_wp2
  repeat (go_quiet (fail); try go_wp2)
  go_ret
  exact ⟨by first | rfl | (simp; done) | (simp [*]; done), by repeat (first | exact Drawn0.refl _ | apply Drawn0.step)⟩
def moraineref02_bit.f (l0 : List Int) (a1 : Int) : Option (Int) := if a1 < (l0.length : Int) then (if 0 ≤ a1 then (some (wrap64 (rd l0 a1))) else (none)) else (some 0)
set_option maxHeartbeats 8000000 in
set_option maxRecDepth 100000 in
theorem moraineref02_bit.calls (A0 : Option Addr) (c0 : Nat) (l0 : List Int) (a1 : Int) (r : Int) (w : World) (hr0 : Kd.C (Kd.int .u8) w A0 l0.length l0) (hc0 : l0.length ≤ c0) (h : moraineref02_bit.f l0 a1 = some r) :
  Calls Tryd.prog 61 #[.slice A0 l0.length c0, .int .i64 a1] w fun e w' => e = .returned (.int .i64 r) ∧ Drawn0 w w' := by
 have HR0 := Aside0.mk hr0
 have HC0 := Aside0.mk hc0
 clear hr0 hc0
 have H : (if a1 < (l0.length : Int) then (if 0 ≤ a1 then (some (wrap64 (rd l0 a1))) else (none)) else (some 0)) = some r := h
 clear h
 by_cases c3 : a1 < (l0.length : Int)
 ·rw [if_pos c3] at H
  have c3b0 : decide (a1 < (l0.length : Int)) = true := decide_eq_true c3
  clear c3
  by_cases c4 : 0 ≤ a1
  ·rw [if_pos c4] at H
   have c4b0 : decide (0 ≤ a1) = true := decide_eq_true c4
   clear c4
   obtain rfl := Option.some.inj H
   have p169 : 0 ≤ (a1 : Int) := of_decide_eq_true (by first | (with_reducible assumption) | assumption)
   have q169 : a1 < (l0.length : Int) := of_decide_eq_true (by first | (with_reducible assumption) | assumption)
   obtain ⟨ad169, e169, hx169_0⟩ := Kd.at_int HR0.out a1 p169 q169
   cases e169
   replace p169 := eq_true p169
   replace q169 := eq_true q169
   go_enter Tryd.func61, Tryd.ntmps61
   go_wp2
   go_ret
   exact ⟨by first | rfl | (simp; done) | (simp [*]; done), by repeat (first | exact Drawn0.refl _ | apply Drawn0.step)⟩
  ·rw [if_neg c4] at H
   exact absurd H (by simp)
 ·rw [if_neg c3] at H
  have c3b0 : decide (a1 < (l0.length : Int)) = false := decide_eq_false c3
  clear c3
  obtain rfl := Option.some.inj H
  go_enter Tryd.func61, Tryd.ntmps61
  go_wp2
  go_ret
  exact ⟨by first | rfl | (simp; done) | (simp [*]; done), by repeat (first | exact Drawn0.refl _ | apply Drawn0.step)⟩
def moraineref02_minus.l0 : Nat → List Int → List Int → List Int → Int → Int → Option (List Int)
 | 0, _, _, _, _, _ => none
 | k + 1, x0, x1, x5, x6, x7 => if x7 < (x0.length : Int) then ((moraineref02_bit.f x0 x7).bind fun t173 => ((moraineref02_bit.f x1 x7).bind fun t174 => (if (wrap64 ((wrap64 (t173 - t174)) - x6)) < 0 then (if x5.length < 140737488355328 then (moraineref02_minus.l0 k x0 x1 (x5 ++ [(wrap64 ((wrap64 ((wrap64 (t173 - t174)) - x6)) + 2)) % 256]) 1 (wrap64 (x7 + 1))) else (none)) else (if x5.length < 140737488355328 then (moraineref02_minus.l0 k x0 x1 (x5 ++ [(wrap64 ((wrap64 (t173 - t174)) - x6)) % 256]) 0 (wrap64 (x7 + 1))) else (none))))) else ((moraineref02_cut.f k x5).bind fun t170 => (some t170))
def moraineref02_minus.f (k : Nat) (l0 : List Int) (l1 : List Int) : Option (List Int) := moraineref02_minus.l0 k l0 l1 ([] : List Int) 0 0
set_option maxHeartbeats 8000000 in
set_option maxRecDepth 100000 in
theorem moraineref02_minus.calls (k : Nat) (A0 : Option Addr) (c0 : Nat) (l0 : List Int) (A1 : Option Addr) (c1 : Nat) (l1 : List Int) (r : List Int) (w : World) (hr0 : Kd.C (Kd.int .u8) w A0 l0.length l0) (hc0 : l0.length ≤ c0) (hr1 : Kd.C (Kd.int .u8) w A1 l1.length l1) (hc1 : l1.length ≤ c1) (h : moraineref02_minus.f k l0 l1 = some r) :
  Calls Tryd.prog 78 #[.slice A0 l0.length c0, .slice A1 l1.length c1] w fun e w' => ∃ v0_ : Value, e = .returned (v0_) ∧ Kd.R (Kd.int .u8) 5 w' w.heap.size (fun _ => True) v0_ r ∧ Below w.heap.size w w' := by
 have HR0 := Aside0.mk hr0
 have HC0 := Aside0.mk hc0
 clear hr0 hc0
 have HR1 := Aside0.mk hr1
 have HC1 := Aside0.mk hc1
 clear hr1 hc1
 have HB := Aside0.mk (Below.refl w.heap.size w)
 have H : (moraineref02_minus.l0 k l0 l1 ([] : List Int) 0 0) = some r := h
 clear h
 have H' := Aside0.mk H
 clear H
 go_enter Tryd.func78, Tryd.ntmps78
 go_wp2
 go_loopg [5, 6, 7] k (fun kq v5 v6 v7 w' => ∃ (x5_1 : List Int) (x6_1 : Int) (x7_1 : Int), v6 = .int .i64 x6_1 ∧ v7 = .int .i64 x7_1 ∧ Aside0 (moraineref02_minus.l0 kq l0 l1 x5_1 x6_1 x7_1 = some r) ∧ Aside0 (kq ≤ k) ∧ Aside0 (Kd.R (Kd.int .u8) 5 w' w.heap.size (fun _ => True) v5 x5_1) ∧ Aside0 (Below w.heap.size w w'))
 case atStart => exact ⟨(([] : List Int)), (0), (0), (by first | rfl | (simp; done) | (simp [*]; done)), (by first | rfl | (simp; done) | (simp [*]; done)), H', ⟨Nat.le_refl _⟩, ⟨by first | exact Kd.R_nil _ _ _ _ _ | exact Kd.N_nil _ _ _ _ _ | exact Kd.V_nil _ _ _ _ _ | exact Kd.Q_nil _ _ _ _ _ | exact Kd.S_nil _ _ _ _ _⟩, ⟨by repeat (first | (with_reducible first | exact HB.out | apply qx | apply qv | apply qw) | exact HB.out)⟩⟩
 case round =>
  clear H'
  try clear c1
  try clear p2
  obtain ⟨x5_1, x6_1, x7_1, rfl, rfl, HA, HK1, HO_5, HB⟩ := hrel
  cases gk with
  | zero => exact absurd HA.out (by simp [moraineref02_minus.l0])
  | succ k1 =>
   have H := HA.out
   clear HA
   simp only [moraineref02_minus.l0] at H
   by_cases c3 : x7_1 < (l0.length : Int)
   ·rw [if_pos c3] at H
    have c3b0 : decide (x7_1 < (l0.length : Int)) = true := decide_eq_true c3
    clear c3
    replace H := Option.bind_eq_some_iff.mp H
    obtain ⟨t173, A40, H⟩ := H
    replace H : ((moraineref02_bit.f l1 x7_1).bind fun t174 => (if (wrap64 ((wrap64 (t173 - t174)) - x6_1)) < 0 then (if x5_1.length < 140737488355328 then (moraineref02_minus.l0 k1 l0 l1 (x5_1 ++ [(wrap64 ((wrap64 ((wrap64 (t173 - t174)) - x6_1)) + 2)) % 256]) 1 (wrap64 (x7_1 + 1))) else (none)) else (if x5_1.length < 140737488355328 then (moraineref02_minus.l0 k1 l0 l1 (x5_1 ++ [(wrap64 ((wrap64 (t173 - t174)) - x6_1)) % 256]) 0 (wrap64 (x7_1 + 1))) else (none)))) = some r := H
    have A4 := Aside0.mk A40
    clear A40
    replace H := Option.bind_eq_some_iff.mp H
    obtain ⟨t174, A50, H⟩ := H
    replace H : (if (wrap64 ((wrap64 (t173 - t174)) - x6_1)) < 0 then (if x5_1.length < 140737488355328 then (moraineref02_minus.l0 k1 l0 l1 (x5_1 ++ [(wrap64 ((wrap64 ((wrap64 (t173 - t174)) - x6_1)) + 2)) % 256]) 1 (wrap64 (x7_1 + 1))) else (none)) else (if x5_1.length < 140737488355328 then (moraineref02_minus.l0 k1 l0 l1 (x5_1 ++ [(wrap64 ((wrap64 (t173 - t174)) - x6_1)) % 256]) 0 (wrap64 (x7_1 + 1))) else (none))) = some r := H
    have A5 := Aside0.mk A50
    clear A50
    by_cases c6 : (wrap64 ((wrap64 (t173 - t174)) - x6_1)) < 0
    ·rw [if_pos c6] at H
     have c6b0 : decide ((wrap64 ((wrap64 (t173 - t174)) - x6_1)) < 0) = true := decide_eq_true c6
     clear c6
     by_cases c7 : x5_1.length < 140737488355328
     ·rw [if_pos c7] at H
      have LMc7 := Aside0.mk c7
      clear c7
      obtain ⟨y175, hy175⟩ : ∃ y_ : List Int, y_ = (x5_1 ++ [(wrap64 ((wrap64 ((wrap64 (t173 - t174)) - x6_1)) + 2)) % 256]) := ⟨_, rfl⟩
      replace H : (moraineref02_minus.l0 k1 l0 l1 y175 1 (wrap64 (x7_1 + 1))) = some r := by first | (rw [hy175]; with_reducible exact H) | (have H2_ := (Option.bind_some _ _).symm.trans H; rw [hy175]; with_reducible exact H2_) | (have H2_ := (Option.bind_some _ _).symm.trans H; with_reducible exact H2_) | with_reducible exact H | (rw [hy175]; exact H) | exact H
      have Ny175 := Aside0.mk hy175
      clear hy175
      have H' := Aside0.mk H
      clear H
      go_wp2_with (first | ((with_reducible refine gate_callee (f := 61) rfl ?_); refine goesL_ (some 17) rfl rfl Tryd.func61 (by kernel_rfl) rfl #[.slice A0 l0.length c0, .int .i64 x7_1] rfl (by (try simp only [zM, zO, zP]); first|done|rfl) ?_; (with_reducible refine (moraineref02_bit.calls _ _ l0 x7_1 t173 _ ?side1 ?side2 A4.out).mono ?_); (case side1 => exact qC HR0 HB); (case side2 => exact HC0.out); rintro e w' ⟨rfl, ⟨nd, rfl⟩⟩; refine ⟨_, rfl, ?_⟩) | ((with_reducible refine gate_callee (f := 61) rfl ?_); refine goesL_ (some 20) rfl rfl Tryd.func61 (by kernel_rfl) rfl #[.slice A1 l1.length c1, .int .i64 x7_1] rfl (by (try simp only [zM, zO, zP]); first|done|rfl) ?_; (with_reducible refine (moraineref02_bit.calls _ _ l1 x7_1 t174 _ ?side1 ?side2 A5.out).mono ?_); (case side1 => repeat (first | exact (Kd.C_below HR1.out (by repeat (first | (with_reducible first | exact HB.out | apply qx | apply qv | apply qw) | exact HB.out))) | (with_reducible first|refine Kd.C_alloc ?_ _|refine Kd.C_drewN ?_ _|refine Kd.C_drew ?_))); (case side2 => exact HC1.out); rintro e w' ⟨rfl, ⟨nd, rfl⟩⟩; refine ⟨_, rfl, ?_⟩) | ((with_reducible refine gate_builtin (b := .append) (xs := #[.tmp 28, .tmp 31]) rfl ?_); at_builtin; refine Kd.R_append (Kd.int .u8) (w0 := w) w.heap.size rfl (.tmp 28) (.tmp 31) 32 5 (.int .u8 0) 1 rfl Tryd.underlying32 info5 rfl (by decide) (by omega) u5 x5_1 ((wrap64 ((wrap64 ((wrap64 (t173 - t174)) - x6_1)) + 2)) % 256) [.int .u8 ((wrap64 ((wrap64 ((wrap64 (t173 - t174)) - x6_1)) + 2)) % 256)] (fun _ => True) (fun _ => False) rfl rfl ?aP (fun _ hk => hk.elim) ?aF ?aO ?aB ?aS ?aL ?_; (case aP => exact rfl); (case aB => exact (by repeat (first | (with_reducible first | exact HB.out | apply qx | apply qv | apply qw) | exact HB.out))); (case aF => exact (fun _ _ => trivial)); (case aO => exact (by (with_reducible repeat first|apply Kd.R_alloc|apply Kd.R_drewN|apply Kd.R_drew); exact HO_5.out)); (case aS => exact (below_size (by repeat (first | (with_reducible first | exact HB.out | apply qx | apply qv | apply qw) | exact HB.out)))); (case aL => have := LMc7.out; omega); intro v176 w8 ho hb hg hat; rw [← Ny175.out] at ho; replace HB := Aside0.mk (hb); have HO177 := Aside0.mk (ho); clear HO_5; clear ho hb hg hat))
      go_roundg k1
      case measure => have := HK1.out; omega
      case rel => exact ⟨(y175), (1), (wrap64 (x7_1 + 1)), (by first | rfl | (simp; done) | (simp [*]; done)), (by first | rfl | (simp; done) | (simp [*]; done)), H', ⟨by have := HK1.out; omega⟩, ⟨qq HO177⟩, ⟨by repeat (first | (with_reducible first | exact HB.out | apply qx | apply qv | apply qw) | exact HB.out)⟩⟩
     ·rw [if_neg c7] at H
      exact absurd H (by simp)
    ·rw [if_neg c6] at H
     have c6b0 : decide ((wrap64 ((wrap64 (t173 - t174)) - x6_1)) < 0) = false := decide_eq_false c6
     clear c6
     by_cases c9 : x5_1.length < 140737488355328
     ·rw [if_pos c9] at H
      have LMc9 := Aside0.mk c9
      clear c9
      obtain ⟨y178, hy178⟩ : ∃ y_ : List Int, y_ = (x5_1 ++ [(wrap64 ((wrap64 (t173 - t174)) - x6_1)) % 256]) := ⟨_, rfl⟩
      replace H : (moraineref02_minus.l0 k1 l0 l1 y178 0 (wrap64 (x7_1 + 1))) = some r := by first | (rw [hy178]; with_reducible exact H) | (have H2_ := (Option.bind_some _ _).symm.trans H; rw [hy178]; with_reducible exact H2_) | (have H2_ := (Option.bind_some _ _).symm.trans H; with_reducible exact H2_) | with_reducible exact H | (rw [hy178]; exact H) | exact H
      have Ny178 := Aside0.mk hy178
      clear hy178
      have H' := Aside0.mk H
      clear H
      go_wp2_with (first | ((with_reducible refine gate_callee (f := 61) rfl ?_); refine goesL_ (some 17) rfl rfl Tryd.func61 (by kernel_rfl) rfl #[.slice A0 l0.length c0, .int .i64 x7_1] rfl (by (try simp only [zM, zO, zP]); first|done|rfl) ?_; (with_reducible refine (moraineref02_bit.calls _ _ l0 x7_1 t173 _ ?side1 ?side2 A4.out).mono ?_); (case side1 => exact qC HR0 HB); (case side2 => exact HC0.out); rintro e w' ⟨rfl, ⟨nd, rfl⟩⟩; refine ⟨_, rfl, ?_⟩) | ((with_reducible refine gate_callee (f := 61) rfl ?_); refine goesL_ (some 20) rfl rfl Tryd.func61 (by kernel_rfl) rfl #[.slice A1 l1.length c1, .int .i64 x7_1] rfl (by (try simp only [zM, zO, zP]); first|done|rfl) ?_; (with_reducible refine (moraineref02_bit.calls _ _ l1 x7_1 t174 _ ?side1 ?side2 A5.out).mono ?_); (case side1 => repeat (first | exact (Kd.C_below HR1.out (by repeat (first | (with_reducible first | exact HB.out | apply qx | apply qv | apply qw) | exact HB.out))) | (with_reducible first|refine Kd.C_alloc ?_ _|refine Kd.C_drewN ?_ _|refine Kd.C_drew ?_))); (case side2 => exact HC1.out); rintro e w' ⟨rfl, ⟨nd, rfl⟩⟩; refine ⟨_, rfl, ?_⟩) | ((with_reducible refine gate_builtin (b := .append) (xs := #[.tmp 28, .tmp 31]) rfl ?_); at_builtin; refine Kd.R_append (Kd.int .u8) (w0 := w) w.heap.size rfl (.tmp 28) (.tmp 31) 32 5 (.int .u8 0) 1 rfl Tryd.underlying32 info5 rfl (by decide) (by omega) u5 x5_1 ((wrap64 ((wrap64 (t173 - t174)) - x6_1)) % 256) [.int .u8 ((wrap64 ((wrap64 (t173 - t174)) - x6_1)) % 256)] (fun _ => True) (fun _ => False) rfl rfl ?aP (fun _ hk => hk.elim) ?aF ?aO ?aB ?aS ?aL ?_; (case aP => exact rfl); (case aB => exact (by repeat (first | (with_reducible first | exact HB.out | apply qx | apply qv | apply qw) | exact HB.out))); (case aF => exact (fun _ _ => trivial)); (case aO => exact (by (with_reducible repeat first|apply Kd.R_alloc|apply Kd.R_drewN|apply Kd.R_drew); exact HO_5.out)); (case aS => exact (below_size (by repeat (first | (with_reducible first | exact HB.out | apply qx | apply qv | apply qw) | exact HB.out)))); (case aL => have := LMc9.out; omega); intro v179 w10 ho hb hg hat; rw [← Ny178.out] at ho; replace HB := Aside0.mk (hb); have HO180 := Aside0.mk (ho); clear HO_5; clear ho hb hg hat))
      go_roundg k1
      case measure => have := HK1.out; omega
      case rel => exact ⟨(y178), (0), (wrap64 (x7_1 + 1)), (by first | rfl | (simp; done) | (simp [*]; done)), (by first | rfl | (simp; done) | (simp [*]; done)), H', ⟨by have := HK1.out; omega⟩, ⟨qq HO180⟩, ⟨by repeat (first | (with_reducible first | exact HB.out | apply qx | apply qv | apply qw) | exact HB.out)⟩⟩
     ·rw [if_neg c9] at H
      exact absurd H (by simp)
   ·rw [if_neg c3] at H
    have c3b0 : decide (x7_1 < (l0.length : Int)) = false := decide_eq_false c3
    clear c3
    replace H := Option.bind_eq_some_iff.mp H
    obtain ⟨t170, A110, H⟩ := H
    replace H : (some t170) = some r := H
    have A11 := Aside0.mk A110
    clear A110
    obtain rfl := Option.some.inj H
    obtain ⟨Ao12, co12, eo12⟩ := Kd.R_slice HO_5.out
    subst eo12
    go_wp2_with (first | ((with_reducible refine gate_callee (f := 85) rfl ?_); refine goesL_ (some 34) rfl rfl Tryd.func85 (by kernel_rfl) rfl #[.slice Ao12 x5_1.length co12] rfl (by (try simp only [zM, zO, zP]); first|done|rfl) ?_; (with_reducible refine (moraineref02_cut.calls k1 (fun k_ => some k_ = (.slice Ao12 x5_1.length co12 : Value).ownBlock) (.slice Ao12 x5_1.length co12) x5_1 t170 w _ ?side1 ?side2 A11.out).mono ?_); (case side1 => repeat (first | (with_reducible first | exact HB.out | apply qx | apply qv | apply qw) | exact HB.out)); (case side2 => exact Kd.R_tight rfl HO_5.out); rintro e w13 ⟨v171, rfl, ho0, hb, hkp⟩; refine ⟨_, rfl, ?_⟩; have HO172 := Aside0.mk (Kd.R_mono (ok' := fun k_ => True) ho0 (fun k_ hk_ => trivial)); replace HB := Aside0.mk (hb); clear HO_5; (try clear hb); (try clear hkp); (try clear ho0)))
    go_ret
    exact ⟨_, by first | rfl | (simp [errW_none, errW_some] <;> rfl) | (simp [*, errW_none, errW_some] <;> rfl), by (with_reducible repeat first|apply Kd.R_alloc|apply Kd.R_drewN|apply Kd.R_drew); exact HO172.out, by repeat (first | (with_reducible first | exact HB.out | apply qx | apply qv | apply qw) | exact HB.out)⟩
def moraineref02_parts.l0 : Nat → List Int → List Int → List Int → List Int → Int → Option (List Int × List Int)
 | 0, _, _, _, _, _ => none
 | k + 1, x0, x1, x6, x7, x8 => if x8 ≥ 0 then (if 0 ≤ x8 then (if x8 < (x0.length : Int) then ((some (([rd x0 x8] : List Int) : List Int)).bind fun y188 => (if y188.length + x7.length < 140737488355328 then ((moraineref02_cut.f k (y188 ++ x7)).bind fun t194 => ((moraineref02_less.f k t194 x1).bind fun t197 => (if t197 = true then (moraineref02_parts.l0 k x0 x1 x6 t194 (wrap64 (x8 - 1))) else ((moraineref02_minus.f k t194 x1).bind fun t198 => (if x8 < (x6.length : Int) then (moraineref02_parts.l0 k x0 x1 (x6.set (x8 : Int).toNat 1) t198 (wrap64 (x8 - 1))) else (none)))))) else (none))) else (none)) else (none)) else ((moraineref02_cut.f k x6).bind fun t184 => (some (t184, x7)))
def moraineref02_parts.f (k : Nat) (l0 : List Int) (l1 : List Int) : Option (List Int × List Int) := if 0 ≤ (l0.length : Int) then (if ((l0.length : Int) : Int).toNat ≤ 281474976710656 then (moraineref02_parts.l0 k l0 l1 (List.replicate ((l0.length : Int) : Int).toNat 0) ([] : List Int) (wrap64 ((l0.length : Int) - 1))) else (none)) else (none)
set_option maxHeartbeats 8000000 in
set_option maxRecDepth 100000 in
theorem moraineref02_parts.calls (k : Nat) (A0 : Option Addr) (c0 : Nat) (l0 : List Int) (A1 : Option Addr) (c1 : Nat) (l1 : List Int) (r1 : List Int) (r2 : List Int) (w : World) (hr0 : Kd.C (Kd.int .u8) w A0 l0.length l0) (hc0 : l0.length ≤ c0) (hr1 : Kd.C (Kd.int .u8) w A1 l1.length l1) (hc1 : l1.length ≤ c1) (h : moraineref02_parts.f k l0 l1 = some (r1, r2)) :
  Calls Tryd.prog 59 #[.slice A0 l0.length c0, .slice A1 l1.length c1] w fun e w' => ∃ v0_ v1_ : Value, e = .returned (.tuple #[v0_, v1_]) ∧ Kd.R (Kd.int .u8) 5 w' w.heap.size (fun k_ => some k_ ≠ (v1_ : Value).ownBlock) v0_ r1 ∧ Kd.R (Kd.int .u8) 5 w' w.heap.size (fun k_ => some k_ ≠ (v0_ : Value).ownBlock) v1_ r2 ∧ Below w.heap.size w w' := by
 have HR0 := Aside0.mk hr0
 have HC0 := Aside0.mk hc0
 clear hr0 hc0
 have HR1 := Aside0.mk hr1
 have HC1 := Aside0.mk hc1
 clear hr1 hc1
 have HB := Aside0.mk (Below.refl w.heap.size w)
 have H : (if 0 ≤ (l0.length : Int) then (if ((l0.length : Int) : Int).toNat ≤ 281474976710656 then (moraineref02_parts.l0 k l0 l1 (List.replicate ((l0.length : Int) : Int).toNat 0) ([] : List Int) (wrap64 ((l0.length : Int) - 1))) else (none)) else (none)) = some (r1, r2) := h
 clear h
 by_cases c3 : 0 ≤ (l0.length : Int)
 ·rw [if_pos c3] at H
  have c3b0 := eq_true c3
  have c3b1 : decide (0 ≤ (l0.length : Int)) = true := decide_eq_true c3
  clear c3
  by_cases c4 : ((l0.length : Int) : Int).toNat ≤ 281474976710656
  ·rw [if_pos c4] at H
   have c4b0 := eq_true c4
   have c4b1 : decide (((l0.length : Int) : Int).toNat ≤ 281474976710656) = true := decide_eq_true c4
   clear c4
   obtain ⟨y181, hy181⟩ : ∃ y_ : List Int, y_ = (List.replicate ((l0.length : Int) : Int).toNat 0) := ⟨_, rfl⟩
   replace H : (moraineref02_parts.l0 k l0 l1 y181 ([] : List Int) (wrap64 ((l0.length : Int) - 1))) = some (r1, r2) := by first | (rw [hy181]; with_reducible exact H) | (have H2_ := (Option.bind_some _ _).symm.trans H; rw [hy181]; with_reducible exact H2_) | (have H2_ := (Option.bind_some _ _).symm.trans H; with_reducible exact H2_) | with_reducible exact H | (rw [hy181]; exact H) | exact H
   have Ny181 := Aside0.mk hy181
   clear hy181
   have H' := Aside0.mk H
   clear H
   go_enter Tryd.func59, Tryd.ntmps59
   go_wp2_with (first | ((with_reducible refine gate_dst (N := 11) rfl ?_); refine Kd.R_make (Kd.int .u8) _ 5 rfl (N := 11) rfl 32 _ _ rfl (l0.length : Int) rfl rfl Tryd.underlying32 (.int .u8 0) 1 info5 rfl (by decide) (by omega) 0 (ok := fun _ => True) (okp := fun _ => True) rfl (fun _ hk => hk) trivial (of_decide_eq_true (by first | (with_reducible assumption) | assumption)) (Nat.le_trans (Nat.mul_le_mul_right _ (of_decide_eq_true (by first | (with_reducible assumption) | assumption) : (l0.length : Int).toNat ≤ 281474976710656)) (by omega)) (Below.refl _ _) (Nat.le_refl _) ?_; intro v182 w5 ho6 hb hg_ hnew_; clear hg_ hnew_; (first | rw [← Ny181.out] at ho6 | (simp only [Int.reduceToNat] at ho6; rw [← Ny181.out] at ho6)); have HO183 := Aside0.mk (Kd.R_lower ho6 (below_size (by repeat (first | (with_reducible first | exact HB.out | apply qx | apply qv | apply qw) | exact HB.out)))); replace HB := Aside0.mk (below_step (by repeat (first | (with_reducible first | exact HB.out | apply qx | apply qv | apply qw) | exact HB.out)) hb); clear hb ho6))
   go_loopg [7, 8] k (fun kq v7 v8 w' => ∃ (x6_1 : List Int) (x7_1 : List Int) (x8_1 : Int), v8 = .int .i64 x8_1 ∧ Aside0 (moraineref02_parts.l0 kq l0 l1 x6_1 x7_1 x8_1 = some (r1, r2)) ∧ Aside0 (kq ≤ k) ∧ Aside0 (Kd.R (Kd.int .u8) 5 w' w.heap.size (fun k_ => some k_ ≠ (v7 : Value).ownBlock) v182 x6_1) ∧ Aside0 (Kd.R (Kd.int .u8) 5 w' w.heap.size (fun k_ => some k_ ≠ (v182 : Value).ownBlock) v7 x7_1) ∧ Aside0 (Below w.heap.size w w'))
   case atStart => exact ⟨(y181), (([] : List Int)), (wrap64 ((l0.length : Int) - 1)), (by first | rfl | (simp; done) | (simp [*]; done)), H', ⟨Nat.le_refl _⟩, ⟨by (with_reducible repeat first|apply Kd.R_alloc|apply Kd.R_drewN|apply Kd.R_drew); exact Kd.R_mono HO183.out (fun _ hk => (by simp [Value.ownBlock]))⟩, ⟨by first | exact Kd.R_nil _ _ _ _ _ | exact Kd.N_nil _ _ _ _ _ | exact Kd.V_nil _ _ _ _ _ | exact Kd.Q_nil _ _ _ _ _ | exact Kd.S_nil _ _ _ _ _⟩, ⟨by repeat (first | (with_reducible first | exact HB.out | apply qx | apply qv | apply qw) | exact HB.out)⟩⟩
   case round =>
    clear H'
    try clear c1
    try clear p2
    try clear c3
    try clear c3b0
    try clear c3b1
    try clear c4
    try clear c4b0
    try clear c4b1
    try clear c5
    try clear p6
    obtain ⟨x6_1, x7_1, x8_1, rfl, HA, HK1, HO_6, HO_7, HB⟩ := hrel
    cases gk with
    | zero => exact absurd HA.out (by simp [moraineref02_parts.l0])
    | succ k1 =>
     have H := HA.out
     clear HA
     simp only [moraineref02_parts.l0] at H
     by_cases c7 : x8_1 ≥ 0
     ·rw [if_pos c7] at H
      have c7b0 : decide (0 ≤ x8_1) = true := decide_eq_true c7
      clear c7
      by_cases c8 : 0 ≤ x8_1
      ·rw [if_pos c8] at H
       have c8b0 : decide (0 ≤ x8_1) = true := decide_eq_true c8
       clear c8
       by_cases c9 : x8_1 < (l0.length : Int)
       ·rw [if_pos c9] at H
        have c9b0 : decide (x8_1 < (l0.length : Int)) = true := decide_eq_true c9
        clear c9
        obtain ⟨y188, hy188⟩ : ∃ y_ : List Int, y_ = (([rd l0 x8_1] : List Int)) := ⟨_, rfl⟩
        replace H : (if y188.length + x7_1.length < 140737488355328 then ((moraineref02_cut.f k1 (y188 ++ x7_1)).bind fun t194 => ((moraineref02_less.f k1 t194 l1).bind fun t197 => (if t197 = true then (moraineref02_parts.l0 k1 l0 l1 x6_1 t194 (wrap64 (x8_1 - 1))) else ((moraineref02_minus.f k1 t194 l1).bind fun t198 => (if x8_1 < (x6_1.length : Int) then (moraineref02_parts.l0 k1 l0 l1 (x6_1.set (x8_1 : Int).toNat 1) t198 (wrap64 (x8_1 - 1))) else (none)))))) else (none)) = some (r1, r2) := by first | (rw [hy188]; with_reducible exact H) | (have H2_ := (Option.bind_some _ _).symm.trans H; rw [hy188]; with_reducible exact H2_) | (have H2_ := (Option.bind_some _ _).symm.trans H; with_reducible exact H2_) | with_reducible exact H | (rw [hy188]; exact H) | exact H
        have Ny188 := Aside0.mk hy188
        clear hy188
        by_cases c10 : y188.length + x7_1.length < 140737488355328
        ·rw [if_pos c10] at H
         have LMc10 := Aside0.mk c10
         clear c10
         obtain ⟨y191, hy191⟩ : ∃ y_ : List Int, y_ = (y188 ++ x7_1) := ⟨_, rfl⟩
         replace H : ((moraineref02_cut.f k1 y191).bind fun t194 => ((moraineref02_less.f k1 t194 l1).bind fun t197 => (if t197 = true then (moraineref02_parts.l0 k1 l0 l1 x6_1 t194 (wrap64 (x8_1 - 1))) else ((moraineref02_minus.f k1 t194 l1).bind fun t198 => (if x8_1 < (x6_1.length : Int) then (moraineref02_parts.l0 k1 l0 l1 (x6_1.set (x8_1 : Int).toNat 1) t198 (wrap64 (x8_1 - 1))) else (none)))))) = some (r1, r2) := by first | (rw [hy191]; with_reducible exact H) | (have H2_ := (Option.bind_some _ _).symm.trans H; rw [hy191]; with_reducible exact H2_) | (have H2_ := (Option.bind_some _ _).symm.trans H; with_reducible exact H2_) | with_reducible exact H | (rw [hy191]; exact H) | exact H
         have Ny191 := Aside0.mk hy191
         clear hy191
         replace H := Option.bind_eq_some_iff.mp H
         obtain ⟨t194, A110, H⟩ := H
         replace H : ((moraineref02_less.f k1 t194 l1).bind fun t197 => (if t197 = true then (moraineref02_parts.l0 k1 l0 l1 x6_1 t194 (wrap64 (x8_1 - 1))) else ((moraineref02_minus.f k1 t194 l1).bind fun t198 => (if x8_1 < (x6_1.length : Int) then (moraineref02_parts.l0 k1 l0 l1 (x6_1.set (x8_1 : Int).toNat 1) t198 (wrap64 (x8_1 - 1))) else (none))))) = some (r1, r2) := H
         have A11 := Aside0.mk A110
         clear A110
         replace H := Option.bind_eq_some_iff.mp H
         obtain ⟨t197, A120, H⟩ := H
         replace H : (if t197 = true then (moraineref02_parts.l0 k1 l0 l1 x6_1 t194 (wrap64 (x8_1 - 1))) else ((moraineref02_minus.f k1 t194 l1).bind fun t198 => (if x8_1 < (x6_1.length : Int) then (moraineref02_parts.l0 k1 l0 l1 (x6_1.set (x8_1 : Int).toNat 1) t198 (wrap64 (x8_1 - 1))) else (none)))) = some (r1, r2) := H
         have A12 := Aside0.mk A120
         clear A120
         by_cases c13 : t197 = true
         ·subst c13
          have H1 : (moraineref02_parts.l0 k1 l0 l1 x6_1 t194 (wrap64 (x8_1 - 1))) = some (r1, r2) := by rw [if_pos rfl] at H; exact H
          clear H
          have H := H1
          clear H1
          have H' := Aside0.mk H
          clear H
          have p187 : 0 ≤ (x8_1 : Int) := of_decide_eq_true (by first | (with_reducible assumption) | assumption)
          have q187 : x8_1 < (l0.length : Int) := of_decide_eq_true (by first | (with_reducible assumption) | assumption)
          obtain ⟨ad187, e187, hx187_0⟩ := Kd.at_int HR0.out x8_1 p187 q187
          cases e187
          replace hx187_0 := (HB.out.cell (World.block_lt_of_cell? w _ hx187_0)).trans hx187_0
          replace p187 := eq_true p187
          replace q187 := eq_true q187
          go_wp2_with (first | ((with_reducible refine gate_dst (N := 23) rfl ?_); refine Kd.R_lit (Kd.int .u8) _ 5 ?hg (N := 23) ?hd (xs := ([rd l0 x8_1] : List Int)) (inner := [.int .u8 (rd l0 x8_1)]) (ok := fun _ => True) (okp := fun _ => True) ?hr ?hp (fun _ hk => hk) trivial (Below.refl _ _) (Nat.le_refl _) (by simp) ?_; (case hd => rfl); (case hg => rfl); (case hr => go_simp <;> rfl); (case hp => exact (Reps.one (show Kd.M (Kd.int .u8) _ _ _ (rd l0 x8_1) [.int .u8 (rd l0 x8_1)] from rfl) (Reps.none _ _))); intro v189 w14 ho15 hb hg_ hnew_; clear hg_ hnew_; (first | rw [← Ny188.out] at ho15 | (simp only [Int.reduceToNat] at ho15; rw [← Ny188.out] at ho15)); have n0_ := Aside0.mk (Kd.R_elder' (by (with_reducible repeat first|apply Kd.R_alloc|apply Kd.R_drewN|apply Kd.R_drew); exact HO_6.out) (Kd.R_base ho15) hb); have n1_ := Aside0.mk (Kd.R_elder' (by (with_reducible repeat first|apply Kd.R_alloc|apply Kd.R_drewN|apply Kd.R_drew); exact HO_7.out) (Kd.R_base ho15) hb); have n2_ := Aside0.mk (Kd.R_lower (Kd.R_new' (Kd.R_new' ho15 (ql HO_6)) (ql HO_7)) (below_size (by repeat (first | (with_reducible first | exact HB.out | apply qx | apply qv | apply qw) | exact HB.out)))); have n3_ := Aside0.mk (below_step (by repeat (first | (with_reducible first | exact HB.out | apply qx | apply qv | apply qw) | exact HB.out)) hb); clear HO_6; clear HO_7; clear HB; have HO_6 := n0_; have HO_7 := n1_; have HO190 := n2_; have HB := n3_; clear n0_ n1_ n2_ n3_; clear hb ho15; obtain ⟨Ao17, co17, eo17⟩ := Kd.R_slice HO_7.out; subst eo17) | ((with_reducible refine gate_builtin (b := .append) (xs := #[.tmp 23, .tmp 24]) rfl ?_); at_builtin; refine Kd.R_append_rows (Kd.int .u8) (w0 := w) w.heap.size rfl (.tmp 23) (.tmp 24) 32 5 (.int .u8 0) 1 rfl Tryd.underlying32 info5 rfl (by decide) (by omega) v189 y188 x7_1 _ _ _ (fun k_ => some k_ ≠ (v182 : Value).ownBlock ∧ some k_ ≠ (.slice Ao17 x7_1.length co17 : Value).ownBlock) (fun _ => False) rfl rfl ?aO ?aR (fun _ _ h => h) (fun _ h => h.elim) ?aF ?aB ?aS ?aL ?_; (case aR => repeat (first | exact (Kd.R_reads' HO_7.out).2.2 | (with_reducible first|refine Kd.C_alloc ?_ _|refine Kd.C_drewN ?_ _|refine Kd.C_drew ?_))); (case aB => exact (by repeat (first | (with_reducible first | exact HB.out | apply qx | apply qv | apply qw) | exact HB.out))); (case aF => exact (fun k_ hk => ⟨Kd.fresh' (ql HO_6) k_ hk, Kd.fresh' (ql HO_7) k_ hk⟩)); (case aO => exact (by (with_reducible repeat first|apply Kd.R_alloc|apply Kd.R_drewN|apply Kd.R_drew); exact Kd.R_mono HO190.out (fun _ hk => ⟨hk.1.2, hk.2⟩))); (case aS => exact (below_size (by repeat (first | (with_reducible first | exact HB.out | apply qx | apply qv | apply qw) | exact HB.out)))); (case aL => have := LMc10.out; omega); intro v192 w16 ho hb hg hat; rw [← Ny191.out] at ho; have n0_ := Aside0.mk (Kd.R_after (ok := (fun k_ => some k_ ≠ (.slice Ao17 x7_1.length co17 : Value).ownBlock)) (by (with_reducible repeat first|apply Kd.R_alloc|apply Kd.R_drewN|apply Kd.R_drew); exact HO_6.out) hg hat); have n1_ := Aside0.mk (Kd.R_after (ok := (fun k_ => some k_ ≠ (v182 : Value).ownBlock)) (by (with_reducible repeat first|apply Kd.R_alloc|apply Kd.R_drewN|apply Kd.R_drew); exact HO_7.out) hg hat); have n2_ := Aside0.mk (hb); have n3_ := Aside0.mk (ho); clear HO_6; clear HO_7; clear HB; clear HO190; have HO_6 := n0_; have HO_7 := n1_; have HB := n2_; have HO193 := n3_; clear n0_ n1_ n2_ n3_; clear ho hb hg hat; obtain ⟨Ao18, co18, eo18⟩ := Kd.R_slice HO193.out; subst eo18) | ((with_reducible refine gate_callee (f := 85) rfl ?_); refine goesL_ (some 26) rfl rfl Tryd.func85 (by kernel_rfl) rfl #[.slice Ao18 y191.length co18] rfl (by (try simp only [zM, zO, zP]); first|done|rfl) ?_; (with_reducible refine (moraineref02_cut.calls k1 (fun k_ => some k_ = (.slice Ao18 y191.length co18 : Value).ownBlock) (.slice Ao18 y191.length co18) y191 t194 w _ ?side1 ?side2 A11.out).mono ?_); (case side1 => repeat (first | (with_reducible first | exact HB.out | apply qx | apply qv | apply qw) | exact HB.out)); (case side2 => exact Kd.R_tight rfl HO193.out); rintro e w19 ⟨v195, rfl, ho0, hb, hkp⟩; refine ⟨_, rfl, ?_⟩; have HO196 := Aside0.mk (Kd.R_mono (ok' := fun k_ => some k_ ≠ (v182 : Value).ownBlock ∧ some k_ ≠ (.slice Ao17 x7_1.length co17 : Value).ownBlock) ho0 (fun k_ hk_ => ⟨Or.elim hk_ (fun hs_ => fun e_ => (((HO_6.out).1 k_ e_.symm).2) hs_) (fun hn_ => (Kd.fresh' (ql HO_6) k_ hn_)), Or.elim hk_ (fun hs_ => fun e_ => (((HO_7.out).1 k_ e_.symm).2) hs_) (fun hn_ => (Kd.fresh' (ql HO_7) k_ hn_))⟩)); replace HO_6 := Aside0.mk (Kd.R_mono (ok' := fun k_ => some k_ ≠ (.slice Ao17 x7_1.length co17 : Value).ownBlock ∧ some k_ ≠ (v195 : Value).ownBlock) (Kd.R_keptB (HO_6.out) hkp (fun k_ hk_ hs_ => (hk_.2) hs_)) (fun k_ hk_ => ⟨hk_.1.1, fun e_ => Or.elim (ho0.1 k_ e_.symm) (fun hs_ => hk_.2.1 hs_) (fun hn_ => Nat.not_le.2 hk_.2.2 hn_)⟩)); replace HO_7 := Aside0.mk (Kd.R_mono (ok' := fun k_ => some k_ ≠ (v182 : Value).ownBlock ∧ some k_ ≠ (v195 : Value).ownBlock) (Kd.R_keptB (HO_7.out) hkp (fun k_ hk_ hs_ => (hk_.2) hs_)) (fun k_ hk_ => ⟨hk_.1.1, fun e_ => Or.elim (ho0.1 k_ e_.symm) (fun hs_ => hk_.2.1 hs_) (fun hn_ => Nat.not_le.2 hk_.2.2 hn_)⟩)); replace HB := Aside0.mk (hb); clear HO193; (try clear hb); (try clear hkp); (try clear ho0); obtain ⟨Ao20, co20, eo20⟩ := Kd.R_slice HO196.out; subst eo20) | ((with_reducible refine gate_callee (f := 77) rfl ?_); refine goesL_ (some 29) rfl rfl Tryd.func77 (by kernel_rfl) rfl #[.slice Ao20 t194.length co20, .slice A1 l1.length c1] rfl (by (try simp only [zM, zO, zP]); first|done|rfl) ?_; (with_reducible refine (moraineref02_less.calls k1 _ _ t194 _ _ l1 true _ ?side1 ?side2 ?side3 ?side4 A12.out).mono ?_); (case side1 => repeat (first | exact (Kd.R_reads' HO196.out).2.2 | (with_reducible first|refine Kd.C_alloc ?_ _|refine Kd.C_drewN ?_ _|refine Kd.C_drew ?_))); (case side2 => exact (Kd.R_reads' HO196.out).2.1); (case side3 => exact qC HR1 HB); (case side4 => exact HC1.out); rintro e w' ⟨rfl, ⟨nd, rfl⟩⟩; refine ⟨_, rfl, ?_⟩))
          go_roundg k1
          case measure => have := HK1.out; omega
          case rel => exact ⟨(x6_1), (t194), (wrap64 (x8_1 - 1)), (by first | rfl | (simp; done) | (simp [*]; done)), H', ⟨by have := HK1.out; omega⟩, ⟨by (with_reducible repeat first|apply Kd.R_alloc|apply Kd.R_drewN|apply Kd.R_drew); exact Kd.R_mono HO_6.out (fun _ hk => hk.2)⟩, ⟨by (with_reducible repeat first|apply Kd.R_alloc|apply Kd.R_drewN|apply Kd.R_drew); exact Kd.R_mono HO196.out (fun _ hk => hk.1)⟩, ⟨by repeat (first | (with_reducible first | exact HB.out | apply qx | apply qv | apply qw) | exact HB.out)⟩⟩
         ·replace c13 := Bool.eq_false_iff.mpr c13
          subst c13
          have H1 : ((moraineref02_minus.f k1 t194 l1).bind fun t198 => (if x8_1 < (x6_1.length : Int) then (moraineref02_parts.l0 k1 l0 l1 (x6_1.set (x8_1 : Int).toNat 1) t198 (wrap64 (x8_1 - 1))) else (none))) = some (r1, r2) := by rw [if_neg (show ¬ (false = true) by decide)] at H; exact H
          clear H
          have H := H1
          clear H1
          replace H := Option.bind_eq_some_iff.mp H
          obtain ⟨t198, A210, H⟩ := H
          replace H : (if x8_1 < (x6_1.length : Int) then (moraineref02_parts.l0 k1 l0 l1 (x6_1.set (x8_1 : Int).toNat 1) t198 (wrap64 (x8_1 - 1))) else (none)) = some (r1, r2) := H
          have A21 := Aside0.mk A210
          clear A210
          by_cases c22 : x8_1 < (x6_1.length : Int)
          ·rw [if_pos c22] at H
           have c22b0 : decide (x8_1 < (x6_1.length : Int)) = true := decide_eq_true c22
           clear c22
           obtain ⟨y201, hy201⟩ : ∃ y_ : List Int, y_ = (x6_1.set (x8_1 : Int).toNat 1) := ⟨_, rfl⟩
           replace H : (moraineref02_parts.l0 k1 l0 l1 y201 t198 (wrap64 (x8_1 - 1))) = some (r1, r2) := by first | (rw [hy201]; with_reducible exact H) | (have H2_ := (Option.bind_some _ _).symm.trans H; rw [hy201]; with_reducible exact H2_) | (have H2_ := (Option.bind_some _ _).symm.trans H; with_reducible exact H2_) | with_reducible exact H | (rw [hy201]; exact H) | exact H
           have Ny201 := Aside0.mk hy201
           clear hy201
           have H' := Aside0.mk H
           clear H
           have p187 : 0 ≤ (x8_1 : Int) := of_decide_eq_true (by first | (with_reducible assumption) | assumption)
           have q187 : x8_1 < (l0.length : Int) := of_decide_eq_true (by first | (with_reducible assumption) | assumption)
           obtain ⟨ad187, e187, hx187_0⟩ := Kd.at_int HR0.out x8_1 p187 q187
           cases e187
           replace hx187_0 := (HB.out.cell (World.block_lt_of_cell? w _ hx187_0)).trans hx187_0
           replace p187 := eq_true p187
           replace q187 := eq_true q187
           go_wp2_with (first | ((with_reducible refine gate_dst (N := 23) rfl ?_); refine Kd.R_lit (Kd.int .u8) _ 5 ?hg (N := 23) ?hd (xs := ([rd l0 x8_1] : List Int)) (inner := [.int .u8 (rd l0 x8_1)]) (ok := fun _ => True) (okp := fun _ => True) ?hr ?hp (fun _ hk => by first | exact hk | (simp only [and_assoc] at hk; (repeat' apply And.intro) <;> first | exact trivial | exact hk.1 | exact hk.2.1 | exact hk.2.2.1 | exact hk.2.2.2.1 | exact hk.2.2.2.2.1 | exact hk.2 | exact hk.2.2 | exact hk.2.2.2 | exact hk.2.2.2.2 | exact hk)) trivial (Below.refl _ _) (Nat.le_refl _) (by simp) ?_; (case hd => rfl); (case hg => rfl); (case hr => go_simp <;> rfl); (case hp => exact (Reps.one (show Kd.M (Kd.int .u8) _ _ _ (rd l0 x8_1) [.int .u8 (rd l0 x8_1)] from rfl) (Reps.none _ _))); intro v189 w24 ho25 hb hg_ hnew_; clear hg_ hnew_; (first | rw [← Ny188.out] at ho25 | (simp only [Int.reduceToNat] at ho25; rw [← Ny188.out] at ho25)); have n0_ := Aside0.mk (Kd.R_elder' (by (with_reducible repeat first|apply Kd.R_alloc|apply Kd.R_drewN|apply Kd.R_drew); exact HO_6.out) (Kd.R_base ho25) hb); have n1_ := Aside0.mk (Kd.R_elder' (by (with_reducible repeat first|apply Kd.R_alloc|apply Kd.R_drewN|apply Kd.R_drew); exact HO_7.out) (Kd.R_base ho25) hb); have n2_ := Aside0.mk (Kd.R_lower (Kd.R_new' (Kd.R_new' ho25 (ql HO_6)) (ql HO_7)) (below_size (by repeat (first | (with_reducible first | exact HB.out | apply qx | apply qv | apply qw) | exact HB.out)))); have n3_ := Aside0.mk (below_step (by repeat (first | (with_reducible first | exact HB.out | apply qx | apply qv | apply qw) | exact HB.out)) hb); clear HO_6; clear HO_7; clear HB; have HO_6 := n0_; have HO_7 := n1_; have HO190 := n2_; have HB := n3_; clear n0_ n1_ n2_ n3_; clear hb ho25; obtain ⟨Ao27, co27, eo27⟩ := Kd.R_slice HO_7.out; subst eo27) | ((with_reducible refine gate_builtin (b := .append) (xs := #[.tmp 23, .tmp 24]) rfl ?_); at_builtin; refine Kd.R_append_rows (Kd.int .u8) (w0 := w) w.heap.size rfl (.tmp 23) (.tmp 24) 32 5 (.int .u8 0) 1 rfl Tryd.underlying32 info5 rfl (by decide) (by omega) v189 y188 x7_1 _ _ _ (fun k_ => some k_ ≠ (v182 : Value).ownBlock ∧ some k_ ≠ (.slice Ao27 x7_1.length co27 : Value).ownBlock) (fun _ => False) rfl rfl ?aO ?aR (fun _ _ h => h) (fun _ h => h.elim) ?aF ?aB ?aS ?aL ?_; (case aR => repeat (first | exact (Kd.R_reads' HO_7.out).2.2 | (with_reducible first|refine Kd.C_alloc ?_ _|refine Kd.C_drewN ?_ _|refine Kd.C_drew ?_))); (case aB => exact (by repeat (first | (with_reducible first | exact HB.out | apply qx | apply qv | apply qw) | exact HB.out))); (case aF => exact (fun k_ hk => ⟨Kd.fresh' (ql HO_6) k_ hk, Kd.fresh' (ql HO_7) k_ hk⟩)); (case aO => exact (by (with_reducible repeat first|apply Kd.R_alloc|apply Kd.R_drewN|apply Kd.R_drew); exact Kd.R_mono HO190.out (fun _ hk => by first | exact ⟨hk.1.2, hk.2⟩ | (simp only [and_assoc] at hk; (repeat' apply And.intro) <;> first | exact trivial | exact hk.1 | exact hk.2.1 | exact hk.2.2.1 | exact hk.2.2.2.1 | exact hk.2.2.2.2.1 | exact hk.2 | exact hk.2.2 | exact hk.2.2.2 | exact hk.2.2.2.2 | exact hk)))); (case aS => exact (below_size (by repeat (first | (with_reducible first | exact HB.out | apply qx | apply qv | apply qw) | exact HB.out)))); (case aL => have := LMc10.out; omega); intro v192 w26 ho hb hg hat; rw [← Ny191.out] at ho; have n0_ := Aside0.mk (Kd.R_after (ok := (fun k_ => some k_ ≠ (.slice Ao27 x7_1.length co27 : Value).ownBlock)) (by (with_reducible repeat first|apply Kd.R_alloc|apply Kd.R_drewN|apply Kd.R_drew); exact HO_6.out) hg hat); have n1_ := Aside0.mk (Kd.R_after (ok := (fun k_ => some k_ ≠ (v182 : Value).ownBlock)) (by (with_reducible repeat first|apply Kd.R_alloc|apply Kd.R_drewN|apply Kd.R_drew); exact HO_7.out) hg hat); have n2_ := Aside0.mk (hb); have n3_ := Aside0.mk (ho); clear HO_6; clear HO_7; clear HB; clear HO190; have HO_6 := n0_; have HO_7 := n1_; have HB := n2_; have HO193 := n3_; clear n0_ n1_ n2_ n3_; clear ho hb hg hat; obtain ⟨Ao28, co28, eo28⟩ := Kd.R_slice HO193.out; subst eo28) | ((with_reducible refine gate_callee (f := 85) rfl ?_); refine goesL_ (some 26) rfl rfl Tryd.func85 (by kernel_rfl) rfl #[.slice Ao28 y191.length co28] rfl (by (try simp only [zM, zO, zP]); first|done|rfl) ?_; (with_reducible refine (moraineref02_cut.calls k1 (fun k_ => some k_ = (.slice Ao28 y191.length co28 : Value).ownBlock) (.slice Ao28 y191.length co28) y191 t194 w _ ?side1 ?side2 A11.out).mono ?_); (case side1 => repeat (first | (with_reducible first | exact HB.out | apply qx | apply qv | apply qw) | exact HB.out)); (case side2 => exact Kd.R_tight rfl HO193.out); rintro e w29 ⟨v195, rfl, ho0, hb, hkp⟩; refine ⟨_, rfl, ?_⟩; have HO196 := Aside0.mk (Kd.R_mono (ok' := fun k_ => some k_ ≠ (v182 : Value).ownBlock ∧ some k_ ≠ (.slice Ao27 x7_1.length co27 : Value).ownBlock) ho0 (fun k_ hk_ => ⟨Or.elim hk_ (fun hs_ => fun e_ => (((HO_6.out).1 k_ e_.symm).2) hs_) (fun hn_ => (Kd.fresh' (ql HO_6) k_ hn_)), Or.elim hk_ (fun hs_ => fun e_ => (((HO_7.out).1 k_ e_.symm).2) hs_) (fun hn_ => (Kd.fresh' (ql HO_7) k_ hn_))⟩)); replace HO_6 := Aside0.mk (Kd.R_mono (ok' := fun k_ => some k_ ≠ (.slice Ao27 x7_1.length co27 : Value).ownBlock ∧ some k_ ≠ (v195 : Value).ownBlock) (Kd.R_keptB (HO_6.out) hkp (fun k_ hk_ hs_ => (hk_.2) hs_)) (fun k_ hk_ => ⟨hk_.1.1, fun e_ => Or.elim (ho0.1 k_ e_.symm) (fun hs_ => hk_.2.1 hs_) (fun hn_ => Nat.not_le.2 hk_.2.2 hn_)⟩)); replace HO_7 := Aside0.mk (Kd.R_mono (ok' := fun k_ => some k_ ≠ (v182 : Value).ownBlock ∧ some k_ ≠ (v195 : Value).ownBlock) (Kd.R_keptB (HO_7.out) hkp (fun k_ hk_ hs_ => (hk_.2) hs_)) (fun k_ hk_ => ⟨hk_.1.1, fun e_ => Or.elim (ho0.1 k_ e_.symm) (fun hs_ => hk_.2.1 hs_) (fun hn_ => Nat.not_le.2 hk_.2.2 hn_)⟩)); replace HB := Aside0.mk (hb); clear HO193; (try clear hb); (try clear hkp); (try clear ho0); obtain ⟨Ao30, co30, eo30⟩ := Kd.R_slice HO196.out; subst eo30) | ((with_reducible refine gate_callee (f := 77) rfl ?_); refine goesL_ (some 29) rfl rfl Tryd.func77 (by kernel_rfl) rfl #[.slice Ao30 t194.length co30, .slice A1 l1.length c1] rfl (by (try simp only [zM, zO, zP]); first|done|rfl) ?_; (with_reducible refine (moraineref02_less.calls k1 _ _ t194 _ _ l1 false _ ?side1 ?side2 ?side3 ?side4 A12.out).mono ?_); (case side1 => repeat (first | exact (Kd.R_reads' HO196.out).2.2 | (with_reducible first|refine Kd.C_alloc ?_ _|refine Kd.C_drewN ?_ _|refine Kd.C_drew ?_))); (case side2 => exact (Kd.R_reads' HO196.out).2.1); (case side3 => exact qC HR1 HB); (case side4 => exact HC1.out); rintro e w' ⟨rfl, ⟨nd, rfl⟩⟩; refine ⟨_, rfl, ?_⟩; (try (rw [drewN_self w29]; generalize hq_ : World.drewN w29 _ = w29; have n0_ : Aside0 (Kd.R (Kd.int .u8) 5 w29 w.heap.size (fun k_ => some k_ ≠ (v182 : Value).ownBlock ∧ some k_ ≠ (.slice Ao27 x7_1.length co27 : Value).ownBlock) (.slice Ao30 t194.length co30) t194) := ⟨by rw [← hq_]; exact (by (with_reducible repeat first|apply Kd.R_alloc|apply Kd.R_drewN|apply Kd.R_drew); exact HO196.out)⟩; have n1_ : Aside0 (Kd.R (Kd.int .u8) 5 w29 w.heap.size (fun k_ => some k_ ≠ (.slice Ao30 t194.length co30 : Value).ownBlock ∧ some k_ ≠ (.slice Ao27 x7_1.length co27 : Value).ownBlock) v182 x6_1) := ⟨by rw [← hq_]; exact (by (with_reducible repeat first|apply Kd.R_alloc|apply Kd.R_drewN|apply Kd.R_drew); exact Kd.R_mono HO_6.out (fun _ hk => by first | exact ⟨hk.2, hk.1⟩ | (simp only [and_assoc] at hk; (repeat' apply And.intro) <;> first | exact trivial | exact hk.1 | exact hk.2.1 | exact hk.2.2.1 | exact hk.2.2.2.1 | exact hk.2.2.2.2.1 | exact hk.2 | exact hk.2.2 | exact hk.2.2.2 | exact hk.2.2.2.2 | exact hk)))⟩; have n2_ : Aside0 (Kd.R (Kd.int .u8) 5 w29 w.heap.size (fun k_ => some k_ ≠ (.slice Ao30 t194.length co30 : Value).ownBlock ∧ some k_ ≠ (v182 : Value).ownBlock) (.slice Ao27 x7_1.length co27) x7_1) := ⟨by rw [← hq_]; exact (by (with_reducible repeat first|apply Kd.R_alloc|apply Kd.R_drewN|apply Kd.R_drew); exact Kd.R_mono HO_7.out (fun _ hk => by first | exact ⟨hk.2, hk.1⟩ | (simp only [and_assoc] at hk; (repeat' apply And.intro) <;> first | exact trivial | exact hk.1 | exact hk.2.1 | exact hk.2.2.1 | exact hk.2.2.2.1 | exact hk.2.2.2.2.1 | exact hk.2 | exact hk.2.2 | exact hk.2.2.2 | exact hk.2.2.2.2 | exact hk)))⟩; have n3_ : Aside0 (Below w.heap.size w w29) := ⟨by rw [← hq_]; exact (by repeat (first | (with_reducible first | exact HB.out | apply qx | apply qv | apply qw) | exact HB.out))⟩; clear HO196 HO_6 HO_7 HB hq_; have HO196 := n0_; have HO_6 := n1_; have HO_7 := n2_; have HB := n3_; clear n0_ n1_ n2_ n3_))) | ((with_reducible refine gate_callee (f := 78) rfl ?_); refine goesL_ (some 33) rfl rfl Tryd.func78 (by kernel_rfl) rfl #[.slice Ao30 t194.length co30, .slice A1 l1.length c1] rfl (by (try simp only [zM, zO, zP]); first|done|rfl) ?_; (with_reducible refine (moraineref02_minus.calls k1 _ _ t194 _ _ l1 t198 _ ?side1 ?side2 ?side3 ?side4 A21.out).mono ?_); (case side1 => repeat (first | exact (Kd.R_reads' HO196.out).2.2 | (with_reducible first|refine Kd.C_alloc ?_ _|refine Kd.C_drewN ?_ _|refine Kd.C_drew ?_))); (case side2 => exact (Kd.R_reads' HO196.out).2.1); (case side3 => exact qC HR1 HB); (case side4 => exact HC1.out); rintro e w31 ⟨v199, rfl, ho0, hb⟩; refine ⟨_, rfl, ?_⟩; have HO200 := Aside0.mk (Kd.R_lower (Kd.R_new' (Kd.R_new' (Kd.R_new' ho0 (ql HO_6)) (ql HO_7)) (ql HO196)) (below_size (by repeat (first | (with_reducible first | exact HB.out | apply qx | apply qv | apply qw) | exact HB.out)))); replace HO_6 := qe HO_6 ho0 hb; replace HO_7 := qe HO_7 ho0 hb; replace HO196 := qe HO196 ho0 hb; replace HB := Aside0.mk (below_step (by repeat (first | (with_reducible first | exact HB.out | apply qx | apply qv | apply qw) | exact HB.out)) hb); (try clear hb); (try clear hb2); (try clear hk); (try clear hi); (try clear ho0); have p23 : 0 ≤ (x8_1 : Int) := of_decide_eq_true (by first | (with_reducible assumption) | assumption); have q23 : (x8_1 : Int) < ((x6_1.length : Int) : Int) := of_decide_eq_true (by first | (with_reducible assumption) | assumption); obtain ⟨go23, co23, eo23, gb23, gl23, cl23, HG23⟩ := Kd.R_form HO_6.out (by omega); (first | cases eo23 | (injection eo23 with ea_ en_ ec_; (first | subst ea_ | (injection ea_ with ea_; subst ea_)); subst ec_; clear en_)); have GB23 := Aside0.mk gb23; have GG23 := Aside0.mk HG23; clear gb23 gl23 HG23; obtain ⟨hx23_0, hf23_0⟩ := Kd.R_celln 0 HO_6.out (x8_1 : Int) p23 q23; replace p23 := eq_true p23; replace q23 := eq_true q23; have n_ := Aside0.mk (Kd.R_mono (ok' := (fun k_ => some k_ ≠ (.slice Ao27 x7_1.length co27 : Value).ownBlock ∧ some k_ ≠ (.slice Ao30 t194.length co30 : Value).ownBlock ∧ some k_ ≠ (v199 : Value).ownBlock)) HO_6.out (fun k_ hk => by first | exact ⟨hk.1.1, ⟨hk.1.2, hk.2⟩⟩ | (simp only [and_assoc] at hk; (repeat' apply And.intro) <;> first | exact trivial | exact hk.1 | exact hk.2.1 | exact hk.2.2.1 | exact hk.2.2.2.1 | exact hk.2.2.2.2.1 | exact hk.2 | exact hk.2.2 | exact hk.2.2.2 | exact hk.2.2.2.2 | exact hk))); clear HO_6; have HO_6 := n_; clear n_; obtain ⟨hy32_, hz32_⟩ := Kd.R_celln 0 HO_6.out (x8_1 : Int) (of_decide_eq_true (by first | (with_reducible assumption) | assumption)) (of_decide_eq_true (by first | (with_reducible assumption) | assumption)); have HP32 := Kd.R_putg HO_6.out (x8_1 : Int) 1) | ((with_reducible refine gate_store (t := 5) (p := 36) rfl ?_); refine store_event (t := 5) (p := 36) (v := ?vo_w33) (w1 := (w31.setCell ⟨go23, (x8_1 : Int).toNat, none⟩ (.int .u8 1))) ?hg ?ho ?hn ?hr ?_; (case ho => rfl); (case hg => rfl); (case hn => rfl); (case hr => first | (go_simp; done) | (go_simp; rfl)); intro w33 hw; have hg : w31.grownBy w33 (some go23) := (by rw [hw]; exact HP32.2); have hp_ : Kd.R (Kd.int .u8) 5 w33 w.heap.size (fun k_ => some k_ ≠ (.slice Ao27 x7_1.length co27 : Value).ownBlock ∧ some k_ ≠ (.slice Ao30 t194.length co30 : Value).ownBlock ∧ some k_ ≠ (v199 : Value).ownBlock) (.slice (some ⟨go23, 0, none⟩) x6_1.length co23) y201 := (by rw [hw, Ny201.out]; exact HP32.1); clear HP32; have n0_ := Aside0.mk (hp_); have n1_ := Aside0.mk (Kd.R_after (v := (.slice (some ⟨go23, 0, none⟩) x6_1.length co23)) (v1 := (.slice (some ⟨go23, 0, none⟩) x6_1.length co23)) (ok := (fun k_ => some k_ ≠ (.slice Ao30 t194.length co30 : Value).ownBlock ∧ some k_ ≠ (v199 : Value).ownBlock)) (by (with_reducible repeat first|apply Kd.R_alloc|apply Kd.R_drewN|apply Kd.R_drew); exact Kd.R_mono HO_7.out (fun _ hk => by first | exact ⟨⟨hk.1.2, hk.2⟩, hk.1.1⟩ | (simp only [and_assoc] at hk; (repeat' apply And.intro) <;> first | exact trivial | exact hk.1 | exact hk.2.1 | exact hk.2.2.1 | exact hk.2.2.2.1 | exact hk.2.2.2.2.1 | exact hk.2 | exact hk.2.2 | exact hk.2.2.2 | exact hk.2.2.2.2 | exact hk))) hg (.inl rfl)); have n2_ := Aside0.mk (Kd.R_after (v := (.slice (some ⟨go23, 0, none⟩) x6_1.length co23)) (v1 := (.slice (some ⟨go23, 0, none⟩) x6_1.length co23)) (ok := (fun k_ => some k_ ≠ (.slice Ao27 x7_1.length co27 : Value).ownBlock ∧ some k_ ≠ (v199 : Value).ownBlock)) (by (with_reducible repeat first|apply Kd.R_alloc|apply Kd.R_drewN|apply Kd.R_drew); exact Kd.R_mono HO196.out (fun _ hk => by first | exact ⟨⟨hk.1.2, hk.2⟩, hk.1.1⟩ | (simp only [and_assoc] at hk; (repeat' apply And.intro) <;> first | exact trivial | exact hk.1 | exact hk.2.1 | exact hk.2.2.1 | exact hk.2.2.2.1 | exact hk.2.2.2.2.1 | exact hk.2 | exact hk.2.2 | exact hk.2.2.2 | exact hk.2.2.2.2 | exact hk))) hg (.inl rfl)); have n3_ := Aside0.mk (Kd.R_after (v := (.slice (some ⟨go23, 0, none⟩) x6_1.length co23)) (v1 := (.slice (some ⟨go23, 0, none⟩) x6_1.length co23)) (ok := (fun k_ => some k_ ≠ (.slice Ao27 x7_1.length co27 : Value).ownBlock ∧ some k_ ≠ (.slice Ao30 t194.length co30 : Value).ownBlock)) (by (with_reducible repeat first|apply Kd.R_alloc|apply Kd.R_drewN|apply Kd.R_drew); exact Kd.R_mono HO200.out (fun _ hk => by first | exact ⟨⟨hk.1.2, hk.2⟩, hk.1.1.2⟩ | (simp only [and_assoc] at hk; (repeat' apply And.intro) <;> first | exact trivial | exact hk.1 | exact hk.2.1 | exact hk.2.2.1 | exact hk.2.2.2.1 | exact hk.2.2.2.2.1 | exact hk.2 | exact hk.2.2 | exact hk.2.2.2 | exact hk.2.2.2.2 | exact hk))) hg (.inl rfl)); have n4_ := Aside0.mk ((by rw [hw]; exact below_set (HB.out) GB23.out : Below w.heap.size w w33)); clear HO_6; clear HO_7; clear HO196; clear HO200; clear HB; have HO_6 := n0_; have HO_7 := n1_; have HO196 := n2_; have HO200 := n3_; have HB := n4_; clear n0_ n1_ n2_ n3_ n4_; clear hg hw hp_))
           go_roundg k1
           case measure => have := HK1.out; omega
           case rel => exact ⟨(y201), (t198), (wrap64 (x8_1 - 1)), (by first | rfl | (simp; done) | (simp [*]; done)), H', ⟨by have := HK1.out; omega⟩, ⟨by (with_reducible repeat first|apply Kd.R_alloc|apply Kd.R_drewN|apply Kd.R_drew); exact Kd.R_mono HO_6.out (fun _ hk => hk.2.2)⟩, ⟨by (with_reducible repeat first|apply Kd.R_alloc|apply Kd.R_drewN|apply Kd.R_drew); exact Kd.R_mono HO200.out (fun _ hk => hk.2)⟩, ⟨by repeat (first | (with_reducible first | exact HB.out | apply qx | apply qv | apply qw) | exact HB.out)⟩⟩
          ·rw [if_neg c22] at H
           exact absurd H (by simp)
        ·rw [if_neg c10] at H
         exact absurd H (by simp)
       ·rw [if_neg c9] at H
        exact absurd H (by simp)
      ·rw [if_neg c8] at H
       exact absurd H (by simp)
     ·rw [if_neg c7] at H
      have c7b0 : decide (0 ≤ x8_1) = false := decide_eq_false c7
      clear c7
      replace H := Option.bind_eq_some_iff.mp H
      obtain ⟨t184, A340, H⟩ := H
      replace H : (some (t184, x7_1)) = some (r1, r2) := H
      have A34 := Aside0.mk A340
      clear A340
      simp only [Option.some.injEq, Prod.mk.injEq] at H
      obtain ⟨rfl, rfl⟩ := H
      obtain ⟨Ao35, co35, eo35⟩ := Kd.R_slice HO_6.out
      subst eo35
      go_wp2_with (first | ((with_reducible refine gate_callee (f := 85) rfl ?_); refine goesL_ (some 38) rfl rfl Tryd.func85 (by kernel_rfl) rfl #[.slice Ao35 x6_1.length co35] rfl (by (try simp only [zM, zO, zP]); first|done|rfl) ?_; (with_reducible refine (moraineref02_cut.calls k1 (fun k_ => some k_ = (.slice Ao35 x6_1.length co35 : Value).ownBlock) (.slice Ao35 x6_1.length co35) x6_1 t184 w _ ?side1 ?side2 A34.out).mono ?_); (case side1 => repeat (first | (with_reducible first | exact HB.out | apply qx | apply qv | apply qw) | exact HB.out)); (case side2 => exact Kd.R_tight rfl HO_6.out); rintro e w36 ⟨v185, rfl, ho0, hb, hkp⟩; refine ⟨_, rfl, ?_⟩; have HO186 := Aside0.mk (Kd.R_mono (ok' := fun k_ => some k_ ≠ (u7 : Value).ownBlock) ho0 (fun k_ hk_ => Or.elim hk_ (fun hs_ => fun e_ => (((HO_7.out).1 k_ e_.symm)) hs_) (fun hn_ => (Kd.fresh' (ql HO_7) k_ hn_)))); replace HO_7 := Aside0.mk (Kd.R_mono (ok' := fun k_ => some k_ ≠ (v185 : Value).ownBlock) (Kd.R_keptB (HO_7.out) hkp (fun k_ hk_ hs_ => (hk_) hs_)) (fun k_ hk_ => fun e_ => Or.elim (ho0.1 k_ e_.symm) (fun hs_ => hk_.2.1 hs_) (fun hn_ => Nat.not_le.2 hk_.2.2 hn_))); replace HB := Aside0.mk (hb); clear HO_6; (try clear hb); (try clear hkp); (try clear ho0)))
      go_ret2
      exact ⟨_, _, by first | rfl | (simp [errW_none, errW_some] <;> rfl) | (simp [*, errW_none, errW_some] <;> rfl), by (with_reducible repeat first|apply Kd.R_alloc|apply Kd.R_drewN|apply Kd.R_drew); exact HO186.out, by (with_reducible repeat first|apply Kd.R_alloc|apply Kd.R_drewN|apply Kd.R_drew); exact HO_7.out, by repeat (first | (with_reducible first | exact HB.out | apply qx | apply qv | apply qw) | exact HB.out)⟩
  ·rw [if_neg c4] at H
   exact absurd H (by simp)
 ·rw [if_neg c3] at H
  exact absurd H (by simp)
end Go.Proofs.YthhpnlbeniihhaaDoor.PRef
namespace Go.Proofs.YthhpnlbeniihhaaDoor.PRef
end Go.Proofs.YthhpnlbeniihhaaDoor.PRef
-- Printed by a program of this session's (wip/tools/printr.py, over the kit's print program).
namespace Go.Proofs.YthhpnlbeniihhaaDoor.PRef
open Go.RowKit Go.Proofs.YthhpnlbeniihhaaDoorW.PrintWords Go.Proofs.YthhpnlbeniihhaaDoorW.PrintLast Go.Proofs.YthhpnlbeniihhaaDoorW.PrintMore
attribute [local go_sem] max2_int min2_int max_two min_two max_three min_three max_four min_four   -- for this text's walks alone
set_option linter.unusedVariables false
set_option linter.unusedSimpArgs false
def moraineref02_Num.l0 : Nat → Int → Bool → List Int → Bool → List Int → Option (Bool × List Int × Int)
 | 0, _, _, _, _, _ => none
 | k + 1, x5, x127000, x127001, x129000, x129001 => if x5 < (x127001.length : Int) then (if (Int.tmod x5 32) = 0 then (if x129001.length < 35184372088832 then ((some (x129001 ++ [0] : List Int)).bind fun y129 => (if 0 ≤ x5 then (if (rd x127001 x5) = 1 then (if 0 ≤ (wrap64 (Int.tdiv x5 32)) then (if (wrap64 (Int.tdiv x5 32)) < (y129.length : Int) then (if 0 ≤ (Int.tmod x5 32) then (moraineref02_Num.l0 k (wrap64 (x5 + 1)) x127000 x127001 x129000 (y129.set ((wrap64 (Int.tdiv x5 32)) : Int).toNat (Go.bits .or .u32 (rd y129 (wrap64 (Int.tdiv x5 32))) (shl .u32 1 (Int.tmod x5 32))))) else (none)) else (none)) else (none)) else (moraineref02_Num.l0 k (wrap64 (x5 + 1)) x127000 x127001 x129000 y129)) else (none))) else (none)) else (if 0 ≤ x5 then (if (rd x127001 x5) = 1 then (if 0 ≤ (wrap64 (Int.tdiv x5 32)) then (if (wrap64 (Int.tdiv x5 32)) < (x129001.length : Int) then (if 0 ≤ (Int.tmod x5 32) then (moraineref02_Num.l0 k (wrap64 (x5 + 1)) x127000 x127001 x129000 (x129001.set ((wrap64 (Int.tdiv x5 32)) : Int).toNat (Go.bits .or .u32 (rd x129001 (wrap64 (Int.tdiv x5 32))) (shl .u32 1 (Int.tmod x5 32))))) else (none)) else (none)) else (none)) else (moraineref02_Num.l0 k (wrap64 (x5 + 1)) x127000 x127001 x129000 x129001)) else (none))) else (some (x129000, x129001, 0))
def moraineref02_Num.f (k : Nat) (a0_0 : Bool) (l0_1 : List Int) : Option (Bool × List Int × Int) := if (l0_1.length : Int) > 1536 then (some (false, ([] : List Int), 6)) else (moraineref02_Num.l0 k 0 a0_0 l0_1 a0_0 ([] : List Int))
def moraineref02_Num.T10 : Bool × List (List Nat × List Nat) := (true, [([], []), ([0], [0]), ([], []), ([2], [2]), ([], []), ([4], [4]), ([], []), ([6], [6]), ([5, 7], [5, 7]), ([8], [8]), ([], []), ([10], [10]), ([11], [11]), ([9, 12], [9, 12]), ([1, 3, 0, 1, 2, 3, 4, 5, 6, 7, 8, 9, 10, 11, 12, 13], [1, 3]), ([14, 13, 0, 1, 2, 3, 4, 5, 6, 7, 8, 9, 10, 11, 12, 13], [13, 14])])
def moraineref02_Num.B10 : List Nat := [0, 1, 0, 4, 0, 16, 0, 64, 240, 496, 0, 1024, 3072, 8176, 16383, 32767]
theorem moraineref02_Num.tab10 : rtab .any (opsOf Tryd.f52 10) = moraineref02_Num.T10 := by kernel_rfl
theorem moraineref02_Num.bits10 : waitsOk moraineref02_Num.T10.2 moraineref02_Num.B10 = true := by kernel_rfl
set_option maxHeartbeats 8000000 in
set_option maxRecDepth 100000 in
theorem moraineref02_Num.calls (k : Nat) (a0_0 : Bool) (A0_1 : Option Addr) (c0_1 : Nat) (l0_1 : List Int) (r1 : Bool) (r2 : List Int) (r3 : Int) (w : World) (hr0_1 : Kd.C (Kd.int .u8) w A0_1 l0_1.length l0_1) (hc0_1 : l0_1.length ≤ c0_1) (h : moraineref02_Num.f k a0_0 l0_1 = some (r1, r2, r3)) :
  Calls Tryd.prog 52 #[.agg #[.bool a0_0, .slice A0_1 l0_1.length c0_1]] w fun e w' => ∃ v1_ : Value, e = .returned (.tuple #[.agg #[.bool r1, v1_], .int .i64 r3]) ∧ Kd.R (Kd.int .u32) 63 w' w.heap.size (fun _ => True) v1_ r2 ∧ Below w.heap.size w w' := by
 have hu34 := Tryd.underlying34
 have hu25 := Tryd.underlying25
 have HR0_1 := Aside0.mk hr0_1
 have HC0_1 := Aside0.mk hc0_1
 clear hr0_1 hc0_1
 have HB := Aside0.mk (Below.refl w.heap.size w)
 have H : (if (l0_1.length : Int) > 1536 then (some (false, ([] : List Int), 6)) else (moraineref02_Num.l0 k 0 a0_0 l0_1 a0_0 ([] : List Int))) = some (r1, r2, r3) := h
 clear h
 by_cases c2 : (l0_1.length : Int) > 1536
 ·rw [if_pos c2] at H
  have c2b0 : decide (1536 < (l0_1.length : Int)) = true := decide_eq_true c2
  have c2b1 : decide (1536 < l0_1.length) = true := decide_eq_true (by omega)
  clear c2
  simp only [Option.some.injEq, Prod.mk.injEq] at H
  obtain ⟨rfl, rfl, rfl⟩ := H
  go_enter Tryd.func52, Tryd.ntmps52
  go_wp2_with (first | ((with_reducible refine gate_dst (N := 1) rfl ?_); refine box_event ?hg (N := 1) ?hd (cs := #[.bool a0_0, .slice A0_1 l0_1.length c0_1]) (t := 34) ?hr ?_; (case hd => rfl); (case hg => rfl); (case hr => go_simp <;> rfl); intro gb126 hg w3 hbox hb; have BK126 := Aside0.mk (hbox); have GW126 := qg hg (by repeat (first | (with_reducible first | exact HB.out | apply qx | apply qv | apply qw) | exact HB.out)); have GE126 := GW126; replace HB := Aside0.mk (below_step (by repeat (first | (with_reducible first | exact HB.out | apply qx | apply qv | apply qw) | exact HB.out)) hb); clear hb hbox hg) | ((with_reducible refine gate_dst (N := 2) rfl ?_); refine box_event ?hg (N := 2) ?hd (cs := #[.bool false, .slice none 0 0]) (t := 25) ?hr ?_; (case hd => rfl); (case hg => rfl); (case hr => go_simp <;> rfl); intro gb127 hg w4 hbox hb; have BK127 := Aside0.mk (hbox); have GW127 := qg hg (by repeat (first | (with_reducible first | exact HB.out | apply qx | apply qv | apply qw | refine below_set ?_ GE126.out) | exact HB.out)); have GE127 := GW127; replace HB := Aside0.mk (below_step (by repeat (first | (with_reducible first | exact HB.out | apply qx | apply qv | apply qw | refine below_set ?_ GE126.out) | exact HB.out)) hb); have NB126_127 := qn BK126 hg; have NB127_126 := qm BK126 hg; replace BK126 := qb BK126 hb; clear hb hbox hg; have hnb5 := NB126_127.out; have hnc5 := NB127_126.out; have hcz6_0 : w4.cell? ⟨gb126, 0, none⟩ = some (.bool a0_0) := qc BK126 0; have hcz6_1 : w4.cell? ⟨gb126, 1, none⟩ = some (.slice A0_1 l0_1.length c0_1) := qc BK126 1; have hfz6_0 := blk_frozen BK126.out 0; have hfz6_1 := blk_frozen BK126.out 1; have hcz7_0 : w4.cell? ⟨gb127, 0, none⟩ = some (.bool false) := qc BK127 0; have hcz7_1 : w4.cell? ⟨gb127, 1, none⟩ = some (.slice none 0 0) := qc BK127 1; have hfz7_0 := blk_frozen BK127.out 0; have hfz7_1 := blk_frozen BK127.out 1))
  refine bodyPost_ret (results_ct rfl _ _ gb127 25 #[.bool false, .slice none 0 0] (0, 0) _ rfl (by (with_reducible repeat first|refine qN ?_ _|refine qW ?_|refine qA ?_ _); refine blk_put (cs := #[.bool false, .slice none 0 0]) ?_ 1 _ rfl; (with_reducible repeat first|refine qN ?_ _|refine qW ?_|refine qA ?_ _); refine blk_put (cs := #[.bool false, .slice none 0 0]) ?_ 0 _ rfl; (with_reducible repeat first|refine qN ?_ _|refine qW ?_|refine qA ?_ _); exact BK127.out) Tryd.underlying25 rfl (by kernel_rfl)) rfl ?_
  exact ⟨_, by first | rfl | (simp [errW_none, errW_some] <;> rfl) | (simp [*, errW_none, errW_some] <;> rfl), by first | exact Kd.R_nil _ _ _ _ _ | exact Kd.N_nil _ _ _ _ _ | exact Kd.V_nil _ _ _ _ _ | exact Kd.Q_nil _ _ _ _ _ | exact Kd.S_nil _ _ _ _ _, by repeat (first | (with_reducible first | exact HB.out | apply qx | apply qv | apply qw | refine qs ?_ (by assumption)) | exact HB.out)⟩
 ·rw [if_neg c2] at H
  have c2b0 : decide (1536 < (l0_1.length : Int)) = false := decide_eq_false c2
  have c2b1 : decide (1536 < l0_1.length) = false := decide_eq_false (by omega)
  clear c2
  have H' := Aside0.mk H
  clear H
  go_enter Tryd.func52, Tryd.ntmps52
  go_wp2_with (first | ((with_reducible refine gate_dst (N := 1) rfl ?_); refine box_event ?hg (N := 1) ?hd (cs := #[.bool a0_0, .slice A0_1 l0_1.length c0_1]) (t := 34) ?hr ?_; (case hd => rfl); (case hg => rfl); (case hr => go_simp <;> rfl); intro gb126 hg w8 hbox hb; have BK126 := Aside0.mk (hbox); have GW126 := qg hg (by repeat (first | (with_reducible first | exact HB.out | apply qx | apply qv | apply qw) | exact HB.out)); have GE126 := GW126; replace HB := Aside0.mk (below_step (by repeat (first | (with_reducible first | exact HB.out | apply qx | apply qv | apply qw) | exact HB.out)) hb); clear hb hbox hg) | ((with_reducible refine gate_dst (N := 2) rfl ?_); refine box_event ?hg (N := 2) ?hd (cs := #[.bool false, .slice none 0 0]) (t := 25) ?hr ?_; (case hd => rfl); (case hg => rfl); (case hr => go_simp <;> rfl); intro gb127 hg w9 hbox hb; have BK127 := Aside0.mk (hbox); have GW127 := qg hg (by repeat (first | (with_reducible first | exact HB.out | apply qx | apply qv | apply qw | refine below_set ?_ GE126.out) | exact HB.out)); have GE127 := GW127; replace HB := Aside0.mk (below_step (by repeat (first | (with_reducible first | exact HB.out | apply qx | apply qv | apply qw | refine below_set ?_ GE126.out) | exact HB.out)) hb); have NB126_127 := qn BK126 hg; have NB127_126 := qm BK126 hg; replace BK126 := qb BK126 hb; clear hb hbox hg; have hnb10 := NB126_127.out; have hnc10 := NB127_126.out; have hcz11_0 : w9.cell? ⟨gb126, 0, none⟩ = some (.bool a0_0) := qc BK126 0; have hcz11_1 : w9.cell? ⟨gb126, 1, none⟩ = some (.slice A0_1 l0_1.length c0_1) := qc BK126 1; have hfz11_0 := blk_frozen BK126.out 0; have hfz11_1 := blk_frozen BK126.out 1) | ((with_reducible refine gate_dst (N := 4) rfl ?_); refine box_event ?hg (N := 4) ?hd (cs := #[.bool false, .slice none 0 0]) (t := 25) ?hr ?_; (case hd => rfl); (case hg => rfl); (case hr => go_simp <;> rfl); intro gb128 hg w12 hbox hb; have BK128 := Aside0.mk (hbox); have GW128 := qg hg (by repeat with_reducible first|exact HB.out|apply qx|apply qv|apply qw|refine qs ?_ (by assumption)); have GE128 := GW128; replace HB := Aside0.mk (below_step (by repeat with_reducible first|exact HB.out|apply qx|apply qv|apply qw|refine qs ?_ (by assumption)) hb); have NB126_128 := qn BK126 hg; have NB128_126 := qm BK126 hg; replace BK126 := qb BK126 hb; have NB127_128 := qn BK127 hg; have NB128_127 := qm BK127 hg; replace BK127 := qb BK127 hb; clear hb hbox hg; have hnb13 := NB128_126.out; have hnc13 := NB126_128.out; have hnb14 := NB128_127.out; have hnc14 := NB127_128.out; have hcz15_0 : w12.cell? ⟨gb128, 0, none⟩ = some (.bool false) := qc BK128 0; have hcz15_1 : w12.cell? ⟨gb128, 1, none⟩ = some (.slice none 0 0) := qc BK128 1; have hfz15_0 := blk_frozen BK128.out 0; have hfz15_1 := blk_frozen BK128.out 1))
  go_loopg [5] k (fun kq v5 w' => ∃ (x5_1 : Int) (x129001_1 : List Int) (u129001 : Value), v5 = .int .i64 x5_1 ∧ Aside0 (moraineref02_Num.l0 kq x5_1 a0_0 l0_1 a0_0 x129001_1 = some (r1, r2, r3)) ∧ Aside0 (kq ≤ k) ∧ Aside0 (Kd.R (Kd.int .u32) 63 w' w.heap.size (fun _ => True) u129001 x129001_1) ∧ Aside0 (w'.heap[gb126]? = some (.cells #[.bool a0_0, (.slice A0_1 l0_1.length c0_1)] 34 (0, 0))) ∧ Aside0 (w'.heap[gb127]? = some (.cells #[.bool false, (.slice none 0 0)] 25 (0, 0))) ∧ Aside0 (w'.heap[gb128]? = some (.cells #[.bool a0_0, u129001] 25 (0, 0))) ∧ Aside0 (Below w.heap.size w w'))
  case atStart => exact ⟨(0), (([] : List Int)), (.slice none 0 0), (by first | rfl | (simp; done) | (simp [*]; done)), H', ⟨Nat.le_refl _⟩, ⟨by first | exact Kd.R_nil _ _ _ _ _ | exact Kd.N_nil _ _ _ _ _ | exact Kd.V_nil _ _ _ _ _ | exact Kd.Q_nil _ _ _ _ _ | exact Kd.S_nil _ _ _ _ _⟩, ⟨by (with_reducible repeat first|refine qN ?_ _|refine qW ?_|refine qA ?_ _); refine qf ?_ NB126_128; (with_reducible repeat first|refine qN ?_ _|refine qW ?_|refine qA ?_ _); exact BK126.out⟩, ⟨by (with_reducible repeat first|refine qN ?_ _|refine qW ?_|refine qA ?_ _); refine qf ?_ NB127_128; (with_reducible repeat first|refine qN ?_ _|refine qW ?_|refine qA ?_ _); exact BK127.out⟩, ⟨by (with_reducible repeat first|refine qN ?_ _|refine qW ?_|refine qA ?_ _); refine blk_put (cs := #[.bool a0_0, .slice none 0 0]) ?_ 1 _ rfl; (with_reducible repeat first|refine qN ?_ _|refine qW ?_|refine qA ?_ _); refine blk_put (cs := #[.bool false, .slice none 0 0]) ?_ 0 _ rfl; (with_reducible repeat first|refine qN ?_ _|refine qW ?_|refine qA ?_ _); exact BK128.out⟩, ⟨by repeat (first | (with_reducible first | exact HB.out | apply qx | apply qv | apply qw | refine qs ?_ (by assumption)) | exact HB.out)⟩⟩
  case round =>
   clear H'
   try clear c1
   try clear c2
   try clear c2b0
   try clear c2b1
   try clear p2
   try clear c5
   try clear c10
   try clear c13
   try clear c14
   try clear hcz11_0
   try clear hcz11_1
   try clear hcz15_0
   try clear hcz15_1
   try clear hcz6_0
   try clear hcz6_1
   try clear hcz7_0
   try clear hcz7_1
   try clear hfz11_0
   try clear hfz11_1
   try clear hfz15_0
   try clear hfz15_1
   try clear hfz6_0
   try clear hfz6_1
   try clear hfz7_0
   try clear hfz7_1
   obtain ⟨x5_1, x129001_1, u129001, rfl, HA, HK1, HO_129001, BK126, BK127, BK128, HB⟩ := hrel
   cases gk with
   | zero => exact absurd HA.out (by simp [moraineref02_Num.l0])
   | succ k1 =>
    have H := HA.out
    clear HA
    simp only [moraineref02_Num.l0] at H
    by_cases c16 : x5_1 < (l0_1.length : Int)
    ·rw [if_pos c16] at H
     have c16b0 : decide (x5_1 < (l0_1.length : Int)) = true := decide_eq_true c16
     clear c16
     by_cases c17 : (Int.tmod x5_1 32) = 0
     ·rw [if_pos c17] at H
      have c17b0 : ((Int.tmod x5_1 32) == 0) = true := beq_iff_eq.mpr c17
      have c17b1 : ((Int.tmod x5_1 32) != 0) = false := bne_eq_false_iff_eq.mpr c17
      clear c17
      by_cases c18 : x129001_1.length < 35184372088832
      ·rw [if_pos c18] at H
       have LMc18 := Aside0.mk c18
       clear c18
       obtain ⟨y129, hy129⟩ : ∃ y_ : List Int, y_ = (x129001_1 ++ [0]) := ⟨_, rfl⟩
       replace H : (if 0 ≤ x5_1 then (if (rd l0_1 x5_1) = 1 then (if 0 ≤ (wrap64 (Int.tdiv x5_1 32)) then (if (wrap64 (Int.tdiv x5_1 32)) < (y129.length : Int) then (if 0 ≤ (Int.tmod x5_1 32) then (moraineref02_Num.l0 k1 (wrap64 (x5_1 + 1)) a0_0 l0_1 a0_0 (y129.set ((wrap64 (Int.tdiv x5_1 32)) : Int).toNat (Go.bits .or .u32 (rd y129 (wrap64 (Int.tdiv x5_1 32))) (shl .u32 1 (Int.tmod x5_1 32))))) else (none)) else (none)) else (none)) else (moraineref02_Num.l0 k1 (wrap64 (x5_1 + 1)) a0_0 l0_1 a0_0 y129)) else (none)) = some (r1, r2, r3) := by first | (rw [hy129]; with_reducible exact H) | (have H2_ := (Option.bind_some _ _).symm.trans H; rw [hy129]; with_reducible exact H2_) | (have H2_ := (Option.bind_some _ _).symm.trans H; with_reducible exact H2_) | with_reducible exact H | (rw [hy129]; exact H) | exact H
       have Ny129 := Aside0.mk hy129
       clear hy129
       by_cases c19 : 0 ≤ x5_1
       ·rw [if_pos c19] at H
        have c19b0 : decide (0 ≤ x5_1) = true := decide_eq_true c19
        clear c19
        by_cases c20 : (rd l0_1 x5_1) = 1
        ·rw [if_pos c20] at H
         have c20b0 : ((rd l0_1 x5_1) == 1) = true := beq_iff_eq.mpr c20
         have c20b1 : ((rd l0_1 x5_1) != 1) = false := bne_eq_false_iff_eq.mpr c20
         clear c20
         obtain ⟨ji21, hji21⟩ : ∃ j_ : Int, (wrap64 (Int.tdiv x5_1 32)) = j_ := ⟨_, rfl⟩
         replace H : (if 0 ≤ (ji21) then (if (ji21) < (y129.length : Int) then (if 0 ≤ (Int.tmod x5_1 32) then (moraineref02_Num.l0 k1 (wrap64 (x5_1 + 1)) a0_0 l0_1 a0_0 (y129.set ((ji21) : Int).toNat (Go.bits .or .u32 (rd y129 (ji21)) (shl .u32 1 (Int.tmod x5_1 32))))) else (none)) else (none)) else (none)) = some (r1, r2, r3) := by first | (rw [hji21] at H; exact H) | (simp only [hji21] at H ⊢; exact H)
         have hji21w : (IntKind.i64.wrap (Int.tdiv x5_1 32)) = ji21 := (i64_w _).trans hji21
         by_cases c22 : 0 ≤ (ji21)
         ·rw [if_pos c22] at H
          have c22b0 : decide (0 ≤ (ji21)) = true := decide_eq_true c22
          clear c22
          by_cases c23 : (ji21) < (y129.length : Int)
          ·rw [if_pos c23] at H
           have c23b0 : decide ((ji21) < (y129.length : Int)) = true := decide_eq_true c23
           clear c23
           obtain ⟨ji24, hji24⟩ : ∃ j_ : Int, (Int.tmod x5_1 32) = j_ := ⟨_, rfl⟩
           replace H : (if 0 ≤ (ji24) then (moraineref02_Num.l0 k1 (wrap64 (x5_1 + 1)) a0_0 l0_1 a0_0 (y129.set ((ji21) : Int).toNat (Go.bits .or .u32 (rd y129 (ji21)) (shl .u32 1 (ji24))))) else (none)) = some (r1, r2, r3) := by first | (rw [hji24] at H; exact H) | (simp only [hji24] at H ⊢; exact H)
           (try rw [hji24] at c17b0)
           (try rw [hji24] at c17b1)
           by_cases c25 : 0 ≤ (ji24)
           ·rw [if_pos c25] at H
            have c25b0 := eq_true c25
            have c25b1 : decide (0 ≤ (ji24)) = true := decide_eq_true c25
            clear c25
            obtain ⟨ji26, hji26⟩ : ∃ j_ : Int, (shl .u32 1 (ji24)) = j_ := ⟨_, rfl⟩
            replace H : (moraineref02_Num.l0 k1 (wrap64 (x5_1 + 1)) a0_0 l0_1 a0_0 (y129.set ((ji21) : Int).toNat (Go.bits .or .u32 (rd y129 (ji21)) (ji26)))) = some (r1, r2, r3) := by first | (rw [hji26] at H; exact H) | (simp only [hji26] at H ⊢; exact H)
            have hji26_ : (IntKind.u32.wrap (1 * 2 ^ min (ji24).toNat 32)) = ji26 := hji26
            have hji26z : (ji24) ≤ 32 → (IntKind.u32.wrap (1 * 2 ^ (ji24).toNat)) = ji26 := shl_small hji26
            have hji26u : (IntKind.u32.wrap (2 ^ min (ji24).toNat 32)) = ji26 := by have h_ := hji26_; rw [Int.one_mul] at h_; exact h_
            have hji26v : (ji24) ≤ 32 → (IntKind.u32.wrap (2 ^ (ji24).toNat)) = ji26 := fun hle_ => by have h_ := hji26z hle_; rw [Int.one_mul] at h_; exact h_
            obtain ⟨y134, hy134⟩ : ∃ y_ : List Int, y_ = (y129.set ((ji21) : Int).toNat (Go.bits .or .u32 (rd y129 (ji21)) (ji26))) := ⟨_, rfl⟩
            replace H : (moraineref02_Num.l0 k1 (wrap64 (x5_1 + 1)) a0_0 l0_1 a0_0 y134) = some (r1, r2, r3) := by first | (rw [hy134]; with_reducible exact H) | (have H2_ := (Option.bind_some _ _).symm.trans H; rw [hy134]; with_reducible exact H2_) | (have H2_ := (Option.bind_some _ _).symm.trans H; with_reducible exact H2_) | with_reducible exact H | (rw [hy134]; exact H) | exact H
            have Ny134 := Aside0.mk hy134
            clear hy134
            have H' := Aside0.mk H
            clear H
            have hnb28 := NB126_127.out
            have hnc28 := NB127_126.out
            have hnb29 := NB126_128.out
            have hnc29 := NB128_126.out
            have hcz30_0 : wr.cell? ⟨gb126, 0, none⟩ = some (.bool a0_0) := qc BK126 0
            have hcz30_1 : wr.cell? ⟨gb126, 1, none⟩ = some (.slice A0_1 l0_1.length c0_1) := qc BK126 1
            have hfz30_0 := blk_frozen BK126.out 0
            have hfz30_1 := blk_frozen BK126.out 1
            have hnb31 := NB128_127.out
            have hnc31 := NB127_128.out
            have hcz32_0 : wr.cell? ⟨gb128, 0, none⟩ = some (.bool a0_0) := qc BK128 0
            have hcz32_1 : wr.cell? ⟨gb128, 1, none⟩ = some (u129001) := qc BK128 1
            have hfz32_0 := blk_frozen BK128.out 0
            have hfz32_1 := blk_frozen BK128.out 1
            try go_wp2_with (first | ((with_reducible refine gate_builtin (b := .append) (xs := #[.tmp 25, .tmp 26]) rfl ?_); at_builtin; refine Kd.R_append (Kd.int .u32) (w0 := w) w.heap.size rfl (.tmp 25) (.tmp 26) 23 63 (.int .u32 0) 4 rfl Tryd.underlying23 info63 rfl (by decide) (by omega) u129001 x129001_1 0 [.int .u32 0] (fun _ => True) (fun _ => False) rfl rfl ?aP (fun _ hk => hk.elim) ?aF ?aO ?aB ?aS ?aL ?_; (case aP => exact rfl); (case aB => exact (by repeat with_reducible first|exact HB.out|apply qx|apply qv|apply qw|refine qs ?_ (by assumption))); (case aF => exact (fun _ _ => trivial)); (case aO => exact (by (with_reducible repeat first|apply Kd.R_alloc|apply Kd.R_drewN|apply Kd.R_drew); exact HO_129001.out)); (case aS => exact (below_size (by repeat with_reducible first|exact HB.out|apply qx|apply qv|apply qw|refine qs ?_ (by assumption)))); (case aL => have := LMc18.out; omega); intro v130 w33 ho hb hg hat; rw [← Ny129.out] at ho; have n0_ := Aside0.mk (blk_grown (g := gb126) (o := .cells #[.bool a0_0, .slice A0_1 l0_1.length c0_1] 34 (0, 0)) (by (with_reducible repeat first|refine qN ?_ _|refine qW ?_|refine qA ?_ _); exact BK126.out) hg (Kd.R_ne HO_129001.out BK126.out (by decide))); have n1_ := Aside0.mk (blk_grown (g := gb127) (o := .cells #[.bool false, .slice none 0 0] 25 (0, 0)) (by (with_reducible repeat first|refine qN ?_ _|refine qW ?_|refine qA ?_ _); exact BK127.out) hg (Kd.R_ne HO_129001.out BK127.out (by decide))); have n2_ := Aside0.mk (blk_grown (g := gb128) (o := .cells #[.bool a0_0, u129001] 25 (0, 0)) (by (with_reducible repeat first|refine qN ?_ _|refine qW ?_|refine qA ?_ _); exact BK128.out) hg (Kd.R_ne HO_129001.out BK128.out (by decide))); have n3_ := Aside0.mk (hb); have n4_ := Aside0.mk (ho); clear BK126; clear BK127; clear BK128; clear HB; clear HO_129001; have BK126 := n0_; have BK127 := n1_; have BK128 := n2_; have HB := n3_; have HO131 := n4_; clear n0_ n1_ n2_ n3_ n4_; clear ho hb hg hat; obtain ⟨Ao34, co34, eo34⟩ := Kd.R_slice HO131.out; subst eo34; have hcz35_0 : w33.cell? ⟨gb128, 0, none⟩ = some (.bool a0_0) := qc BK128 0; have hcz35_1 : w33.cell? ⟨gb128, 1, none⟩ = some (u129001) := qc BK128 1; have hfz35_0 := blk_frozen BK128.out 0; have hfz35_1 := blk_frozen BK128.out 1; have hcz36_0 : w33.cell? ⟨gb126, 0, none⟩ = some (.bool a0_0) := qc BK126 0; have hcz36_1 : w33.cell? ⟨gb126, 1, none⟩ = some (.slice A0_1 l0_1.length c0_1) := qc BK126 1; have hfz36_0 := blk_frozen BK126.out 0; have hfz36_1 := blk_frozen BK126.out 1; have p132 : 0 ≤ (x5_1 : Int) := of_decide_eq_true (by first | (with_reducible assumption) | assumption); have q132 : x5_1 < (l0_1.length : Int) := of_decide_eq_true (by first | (with_reducible assumption) | assumption); obtain ⟨ad132, e132, hx132_0⟩ := Kd.at_int HR0_1.out x5_1 p132 q132; cases e132; have hn132_0 : ad132.block ≠ gb128 := Nat.ne_of_lt (Nat.lt_of_lt_of_le (by have := World.block_lt_of_cell? _ _ hx132_0; first | rwa [add_block] at this | exact this) GW128.out); replace hx132_0 := (HB.out.cell (World.block_lt_of_cell? w _ hx132_0)).trans hx132_0; replace hx132_0 := (cell_far (p := ⟨gb128, 1, none⟩) (by first | (rw [add_block]; exact hn132_0) | (show (Addr.add _ _).block ≠ _; rw [add_block]; exact hn132_0) | exact hn132_0) (.slice Ao34 y129.length co34)).trans hx132_0; clear hn132_0; replace p132 := eq_true p132; replace q132 := eq_true q132))
            have n0_ : Aside0 (Kd.R (Kd.int .u32) 63 (w33.setCell ⟨gb128, 1, none⟩ (.slice Ao34 y129.length co34)) w.heap.size (fun _ => True) (.slice Ao34 y129.length co34) y129) := ⟨by (with_reducible repeat first|apply Kd.R_alloc|apply Kd.R_drewN|apply Kd.R_drew); exact Kd.R_mono (Kd.R_far (p := ⟨gb128, 1, none⟩) (Kd.R_types HO131.out BK128.out (by decide)) (fun _ hk => hk.2) (.slice Ao34 y129.length co34)) (fun _ hk => trivial)⟩
            have n1_ : Aside0 ((w33.setCell ⟨gb128, 1, none⟩ (.slice Ao34 y129.length co34)).heap[gb126]? = some (.cells #[.bool a0_0, .slice (some ad132) l0_1.length c0_1] 34 (0, 0))) := ⟨by (with_reducible repeat first|refine qN ?_ _|refine qW ?_|refine qA ?_ _); refine blk_far ?_ NB126_128.out _; (with_reducible repeat first|refine qN ?_ _|refine qW ?_|refine qA ?_ _); exact BK126.out⟩
            have n2_ : Aside0 ((w33.setCell ⟨gb128, 1, none⟩ (.slice Ao34 y129.length co34)).heap[gb127]? = some (.cells #[.bool false, .slice none 0 0] 25 (0, 0))) := ⟨by (with_reducible repeat first|refine qN ?_ _|refine qW ?_|refine qA ?_ _); refine blk_far ?_ NB127_128.out _; (with_reducible repeat first|refine qN ?_ _|refine qW ?_|refine qA ?_ _); exact BK127.out⟩
            have n3_ : Aside0 ((w33.setCell ⟨gb128, 1, none⟩ (.slice Ao34 y129.length co34)).heap[gb128]? = some (.cells #[.bool a0_0, .slice Ao34 y129.length co34] 25 (0, 0))) := ⟨by (with_reducible repeat first|refine qN ?_ _|refine qW ?_|refine qA ?_ _); refine blk_put (cs := #[.bool a0_0, u129001]) ?_ 1 _ rfl; (with_reducible repeat first|refine qN ?_ _|refine qW ?_|refine qA ?_ _); exact BK128.out⟩
            have n4_ : Aside0 (Below w.heap.size w (w33.setCell ⟨gb128, 1, none⟩ (.slice Ao34 y129.length co34))) := ⟨by repeat (first | (with_reducible first | exact HB.out | apply qx | apply qv | apply qw | refine qs ?_ (by assumption)) | exact HB.out)⟩
            (try clear HO131)
            (try clear BK126)
            (try clear BK127)
            (try clear BK128)
            (try clear HB)
            generalize (w33.setCell ⟨gb128, 1, none⟩ (.slice Ao34 y129.length co34)) = w37 at n0_ n1_ n2_ n3_ n4_ ⊢
            have HO131 := n0_
            have BK126 := n1_
            have BK127 := n2_
            have BK128 := n3_
            have HB := n4_
            clear n0_ n1_ n2_ n3_ n4_
            replace HO131 := Aside0.mk (Kd.R_drew HO131.out)
            replace BK126 := Aside0.mk (blk_drew BK126.out)
            replace BK127 := Aside0.mk (blk_drew BK127.out)
            replace BK128 := Aside0.mk (blk_drew BK128.out)
            replace HB := Aside0.mk (below_drew1 HB.out)
            have p133 : 0 ≤ ((ji21) : Int) := of_decide_eq_true (by first | (with_reducible assumption) | assumption)
            have q133 : (ji21) < (y129.length : Int) := of_decide_eq_true (by first | (with_reducible assumption) | assumption)
            obtain ⟨ad133, e133, hx133_0⟩ := Kd.at_int (Kd.R_reads' HO131.out).2.2 (ji21) p133 q133
            cases e133
            replace p133 := eq_true p133
            replace q133 := eq_true q133
            have p27 : 0 ≤ ((ji21) : Int) := of_decide_eq_true (by first | (with_reducible assumption) | assumption)
            have q27 : ((ji21) : Int) < ((y129.length : Int) : Int) := of_decide_eq_true (by first | (with_reducible assumption) | assumption)
            obtain ⟨go27, co27, eo27, gb27, gl27, cl27, HG27⟩ := Kd.R_form HO131.out (by omega)
            (first | cases eo27 | (injection eo27 with ea_ en_ ec_; (first | subst ea_ | (injection ea_ with ea_; subst ea_)); subst ec_; clear en_))
            have GB27 := Aside0.mk gb27
            have GG27 := Aside0.mk HG27
            clear gb27 gl27 HG27
            (first | simp only [add_plain] at hx133_0 | skip)
            obtain ⟨hx27_0, hf27_0⟩ := Kd.R_celln 0 HO131.out ((ji21) : Int) p27 q27
            replace p27 := eq_true p27
            replace q27 := eq_true q27
            have HP39 := Kd.R_putn HO131.out ((ji21) : Int) (Go.bits .or .u32 (rd y129 (ji21)) (ji26))
            rw [← Ny134.out] at HP39
            have HQ39 := Aside0.mk HP39
            clear HP39
            refine start_ (n := 16) (S := fun w' => w'.cell? ⟨gb128, 0, none⟩ = some (.bool a0_0) ∧ w'.cell? ⟨gb128, 1, none⟩ = some (.slice (some ⟨go27, 0, none⟩) y129.length co34) ∧ w'.cell? ⟨go27, ((ji21)).toNat, none⟩ = some (.int .u32 (rd y129 (ji21)))) (ds := [15]) #[false, false, false, false, false, false, false, false, false, false, false, false, false, false, false, false] (by kernel_rfl) rfl rfl ⟨qc BK128 0, qc BK128 1, hx133_0⟩ (fun hHeld => ?_); refine with_tabW moraineref02_Num.tab10 moraineref02_Num.bits10 (fun HT_ HW_ => ?_)
            generalize w37.drew = w38 at HO131 BK126 BK127 BK128 HB GG27 HQ39 hf27_0 hx133_0 hx27_0 hHeld ⊢
            refine pure_ (i := 0) (N := some 35) (v := ?_) (a' := ?_) #[true, false, false, false, false, false, false, false, false, false, false, false, false, false, false, false] rfl rfl (any_of HT_.out (by kernel_rfl)) (fun _ _ _ h => h) (Or.inl ⟨by rfl, ?_⟩) ?_ ?_
            rotate_left
            ·intro w'
             go_simp
             with_reducible rfl
            rotate_left
            ·simp only [Act.put, zA, zB, zC, i64_w, i32_w]
             rfl
            refine pure_ (i := 2) (N := some 37) (v := ?_) (a' := ?_) #[true, false, true, false, false, false, false, false, false, false, false, false, false, false, false, false] rfl rfl (any_of HT_.out (by kernel_rfl)) (fun _ _ _ h => h) (Or.inl ⟨by rfl, ?_⟩) ?_ ?_
            rotate_left
            ·intro w'
             go_simp
             with_reducible rfl
            rotate_left
            ·simp only [Act.put, zA, zB, zC, i64_w, i32_w]
             rfl
            refine pure_ (i := 3) (N := some 38) (v := ?_) (a' := ?_) #[true, false, true, true, false, false, false, false, false, false, false, false, false, false, false, false] rfl rfl (any_of HT_.out (by kernel_rfl)) (fun _ _ _ h => h) (Or.inl ⟨by rfl, ?_⟩) ?_ ?_
            rotate_left
            ·intro w'
             go_simp
             with_reducible rfl
            rotate_left
            ·simp only [Act.put, zA, zB, zC, i64_w, i32_w]
             rfl
            refine pure_ (i := 4) (N := some 39) (v := ?_) (a' := ?_) #[true, false, true, true, true, false, false, false, false, false, false, false, false, false, false, false] rfl rfl (any_of HT_.out (by kernel_rfl)) (fun _ _ _ h => h) (Or.inl ⟨by rfl, ?_⟩) ?_ ?_
            rotate_left
            ·intro w'
             go_simp
             with_reducible rfl
            rotate_left
            ·simp only [Act.put, zA, zB, zC, i64_w, i32_w]
             rfl
            refine pure_ (i := 6) (N := some 41) (v := ?_) (a' := ?_) #[true, false, true, true, true, false, true, false, false, false, false, false, false, false, false, false] rfl rfl (any_of HT_.out (by kernel_rfl)) (fun _ _ _ h => h) (Or.inl ⟨by rfl, ?_⟩) ?_ ?_
            rotate_left
            ·intro w'
             go_simp
             with_reducible rfl
            rotate_left
            ·simp only [Act.put, zA, zB, zC, i64_w, i32_w]
             rfl
            refine pure_ (i := 7) (N := some 42) (v := ?_) (a' := ?_) #[true, false, true, true, true, false, true, true, false, false, false, false, false, false, false, false] rfl rfl (any_of HT_.out (by kernel_rfl)) (fun _ _ _ h => h) (Or.inl ⟨by rfl, ?_⟩) ?_ ?_
            rotate_left
            ·intro w'
             go_simp
             with_reducible rfl
            rotate_left
            ·simp only [Act.put, zA, zB, zC, i64_w, i32_w]
             rfl
            refine pure_ (i := 10) (N := some 45) (v := ?_) (a' := ?_) #[true, false, true, true, true, false, true, true, false, false, true, false, false, false, false, false] rfl rfl (any_of HT_.out (by kernel_rfl)) (fun _ _ _ h => h) (Or.inl ⟨by rfl, ?_⟩) ?_ ?_
            rotate_left
            ·intro w'
             go_simp
             with_reducible rfl
            rotate_left
            ·simp only [Act.put, zA, zB, zC, i64_w, i32_w]
             rfl
            refine pure_ (i := 11) (N := some 46) (v := ?_) (a' := ?_) #[true, false, true, true, true, false, true, true, false, false, true, true, false, false, false, false] rfl rfl (any_of HT_.out (by kernel_rfl)) (fun _ _ _ h => h) (Or.inl ⟨by rfl, ?_⟩) ?_ ?_
            rotate_left
            ·intro w'
             go_simp
             with_reducible rfl
            rotate_left
            ·simp only [Act.put, zA, zB, zC, i64_w, i32_w]
             rfl
            refine pure_ (i := 12) (N := some 47) (v := ?_) (a' := ?_) #[true, false, true, true, true, false, true, true, false, false, true, true, true, false, false, false] rfl rfl (any_of HT_.out (by kernel_rfl)) (fun _ _ _ h => h) (Or.inl ⟨by rfl, ?_⟩) ?_ ?_
            rotate_left
            ·intro w'
             go_simp
             with_reducible rfl
            rotate_left
            ·simp only [Act.put, zA, zB, zC, i64_w, i32_w]
             rfl
            refine take_ (i := 1) (N := some 36) (v := ?_) (a' := ?_) #[true, true, true, true, true, false, true, true, false, false, true, true, true, false, false, false] rfl rfl (take_ofW HT_.out HW_.out (by kernel_rfl)) (fun _ _ _ h => h) (Or.inl ⟨by rfl, ?_⟩) hHeld ?_ ?_
            rotate_left
            ·rintro w' ⟨s0, s1, s2⟩
             go_simp
             with_reducible rfl
            rotate_left
            ·simp only [Act.put, zA, zB, zC, i64_w, i32_w]
             rfl
            refine take_ (i := 5) (N := some 40) (v := ?_) (a' := ?_) #[true, true, true, true, true, true, true, true, false, false, true, true, true, false, false, false] rfl rfl (take_ofW HT_.out HW_.out (by kernel_rfl)) (fun _ _ _ h => h) (Or.inl ⟨by rfl, ?_⟩) hHeld ?_ ?_
            rotate_left
            ·rintro w' ⟨s0, s1, s2⟩
             go_simp
             with_reducible rfl
            rotate_left
            ·simp only [Act.put, zA, zB, zC, i64_w, i32_w]
             rfl
            refine pure_ (i := 8) (N := some 43) (v := ?_) (a' := ?_) #[true, true, true, true, true, true, true, true, true, false, true, true, true, false, false, false] rfl rfl (any_of HT_.out (by kernel_rfl)) (fun _ _ _ h => h) (Or.inl ⟨by rfl, ?_⟩) ?_ ?_
            rotate_left
            ·intro w'
             go_simp
             with_reducible rfl
            rotate_left
            ·simp only [Act.put, zA, zB, zC, i64_w, i32_w]
             rfl
            refine take_ (i := 9) (N := some 44) (v := ?_) (a' := ?_) #[true, true, true, true, true, true, true, true, true, true, true, true, true, false, false, false] rfl rfl (take_ofW HT_.out HW_.out (by kernel_rfl)) (fun _ _ _ h => h) (Or.inl ⟨by rfl, ?_⟩) hHeld ?_ ?_
            rotate_left
            ·rintro w' ⟨s0, s1, s2⟩
             go_simp
             with_reducible rfl
            rotate_left
            ·simp only [Act.put, zA, zB, zC, i64_w, i32_w]
             rfl
            refine pure_ (i := 13) (N := some 48) (v := ?_) (a' := ?_) #[true, true, true, true, true, true, true, true, true, true, true, true, true, true, false, false] rfl rfl (any_of HT_.out (by kernel_rfl)) (fun _ _ _ h => h) (Or.inl ⟨by rfl, ?_⟩) ?_ ?_
            rotate_left
            ·intro w'
             go_simp
             with_reducible rfl
            rotate_left
            ·simp only [Act.put, zA, zB, zC, i64_w, i32_w]
             rfl
            refine pure_ (i := 14) (N := some 49) (v := ?_) (a' := ?_) #[true, true, true, true, true, true, true, true, true, true, true, true, true, true, true, false] rfl rfl (any_of HT_.out (by kernel_rfl)) (fun _ _ _ h => h) (Or.inl ⟨by rfl, ?_⟩) ?_ ?_
            rotate_left
            ·intro w'
             go_simp
             with_reducible rfl
            rotate_left
            ·simp only [Act.put, zA, zB, zC, i64_w, i32_w]
             rfl
            refine last_ (i := 15) (N := none) #[true, true, true, true, true, true, true, true, true, true, true, true, true, true, true, true] rfl rfl (one_of HT_.out (by kernel_rfl)) (by decide) (fun K hK => ?_)
            refine skip_ (w1 := ?_) (by rfl) rfl ?_ ?_
            rotate_left
            ·go_simp
             rfl
            refine hK.out _ _ ?_
            clear hK K
            refine done_ (done_of HT_.out (by kernel_rfl)) ?_
            try go_wp2
            go_roundg k1
            case measure => have := HK1.out; omega
            case rel => exact ⟨(wrap64 (x5_1 + 1)), (y134), (.slice (some ⟨go27, 0, none⟩) y129.length co34), (by first | rfl | (simp; done) | (simp [*]; done)), H', ⟨by have := HK1.out; omega⟩, ⟨by (with_reducible repeat first|apply Kd.R_alloc|apply Kd.R_drewN|apply Kd.R_drew); first | exact HQ39.out | (have h_ := hji26v (by have := Int.tmod_lt_of_pos x5_1 (show (0 : Int) < 32 by decide); omega); rw [IntKind.wrap_u32] at h_; rw [← h_] at HQ39; exact HQ39.out)⟩, ⟨by (with_reducible repeat first|refine qN ?_ _|refine qW ?_|refine qA ?_ _); refine blk_far ?_ (by have h_ := Kd.R_ne HO131.out BK126.out (by decide); intro e_; exact h_ (by rw [e_]; rfl)) _; (with_reducible repeat first|refine qN ?_ _|refine qW ?_|refine qA ?_ _); exact BK126.out⟩, ⟨by (with_reducible repeat first|refine qN ?_ _|refine qW ?_|refine qA ?_ _); refine blk_far ?_ (by have h_ := Kd.R_ne HO131.out BK127.out (by decide); intro e_; exact h_ (by rw [e_]; rfl)) _; (with_reducible repeat first|refine qN ?_ _|refine qW ?_|refine qA ?_ _); exact BK127.out⟩, ⟨by (with_reducible repeat first|refine qN ?_ _|refine qW ?_|refine qA ?_ _); refine blk_far ?_ (by have h_ := Kd.R_ne HO131.out BK128.out (by decide); intro e_; exact h_ (by rw [e_]; rfl)) _; (with_reducible repeat first|refine qN ?_ _|refine qW ?_|refine qA ?_ _); exact BK128.out⟩, ⟨by repeat (first | (with_reducible first | exact HB.out | apply qx | apply qv | apply qw | refine below_set ?_ GB27.out | refine qs ?_ (by assumption)) | exact HB.out)⟩⟩
           ·rw [if_neg c25] at H
            exact absurd H (by simp)
          ·rw [if_neg c23] at H
           exact absurd H (by simp)
         ·rw [if_neg c22] at H
          exact absurd H (by simp)
        ·rw [if_neg c20] at H
         have c20b0 : ((rd l0_1 x5_1) == 1) = false := beq_eq_false_iff_ne.mpr c20
         have c20b1 : ((rd l0_1 x5_1) != 1) = true := bne_iff_ne.mpr c20
         have H' := Aside0.mk H
         clear H
         have hnb40 := NB126_127.out
         have hnc40 := NB127_126.out
         have hnb41 := NB126_128.out
         have hnc41 := NB128_126.out
         have hcz42_0 : wr.cell? ⟨gb126, 0, none⟩ = some (.bool a0_0) := qc BK126 0
         have hcz42_1 : wr.cell? ⟨gb126, 1, none⟩ = some (.slice A0_1 l0_1.length c0_1) := qc BK126 1
         have hfz42_0 := blk_frozen BK126.out 0
         have hfz42_1 := blk_frozen BK126.out 1
         have hnb43 := NB128_127.out
         have hnc43 := NB127_128.out
         have hcz44_0 : wr.cell? ⟨gb128, 0, none⟩ = some (.bool a0_0) := qc BK128 0
         have hcz44_1 : wr.cell? ⟨gb128, 1, none⟩ = some (u129001) := qc BK128 1
         have hfz44_0 := blk_frozen BK128.out 0
         have hfz44_1 := blk_frozen BK128.out 1
         go_wp2_with (first | ((with_reducible refine gate_builtin (b := .append) (xs := #[.tmp 25, .tmp 26]) rfl ?_); at_builtin; refine Kd.R_append (Kd.int .u32) (w0 := w) w.heap.size rfl (.tmp 25) (.tmp 26) 23 63 (.int .u32 0) 4 rfl Tryd.underlying23 info63 rfl (by decide) (by omega) u129001 x129001_1 0 [.int .u32 0] (fun _ => True) (fun _ => False) rfl rfl ?aP (fun _ hk => hk.elim) ?aF ?aO ?aB ?aS ?aL ?_; (case aP => exact rfl); (case aB => exact (by repeat with_reducible first|exact HB.out|apply qx|apply qv|apply qw|refine qs ?_ (by assumption))); (case aF => exact (fun _ _ => trivial)); (case aO => exact (by (with_reducible repeat first|apply Kd.R_alloc|apply Kd.R_drewN|apply Kd.R_drew); exact HO_129001.out)); (case aS => exact (below_size (by repeat with_reducible first|exact HB.out|apply qx|apply qv|apply qw|refine qs ?_ (by assumption)))); (case aL => have := LMc18.out; omega); intro v130 w45 ho hb hg hat; rw [← Ny129.out] at ho; have n0_ := Aside0.mk (blk_grown (g := gb126) (o := .cells #[.bool a0_0, .slice A0_1 l0_1.length c0_1] 34 (0, 0)) (by (with_reducible repeat first|refine qN ?_ _|refine qW ?_|refine qA ?_ _); exact BK126.out) hg (Kd.R_ne HO_129001.out BK126.out (by decide))); have n1_ := Aside0.mk (blk_grown (g := gb127) (o := .cells #[.bool false, .slice none 0 0] 25 (0, 0)) (by (with_reducible repeat first|refine qN ?_ _|refine qW ?_|refine qA ?_ _); exact BK127.out) hg (Kd.R_ne HO_129001.out BK127.out (by decide))); have n2_ := Aside0.mk (blk_grown (g := gb128) (o := .cells #[.bool a0_0, u129001] 25 (0, 0)) (by (with_reducible repeat first|refine qN ?_ _|refine qW ?_|refine qA ?_ _); exact BK128.out) hg (Kd.R_ne HO_129001.out BK128.out (by decide))); have n3_ := Aside0.mk (hb); have n4_ := Aside0.mk (ho); clear BK126; clear BK127; clear BK128; clear HB; clear HO_129001; have BK126 := n0_; have BK127 := n1_; have BK128 := n2_; have HB := n3_; have HO131 := n4_; clear n0_ n1_ n2_ n3_ n4_; clear ho hb hg hat; obtain ⟨Ao46, co46, eo46⟩ := Kd.R_slice HO131.out; subst eo46; have hcz47_0 : w45.cell? ⟨gb128, 0, none⟩ = some (.bool a0_0) := qc BK128 0; have hcz47_1 : w45.cell? ⟨gb128, 1, none⟩ = some (u129001) := qc BK128 1; have hfz47_0 := blk_frozen BK128.out 0; have hfz47_1 := blk_frozen BK128.out 1; have hcz48_0 : w45.cell? ⟨gb126, 0, none⟩ = some (.bool a0_0) := qc BK126 0; have hcz48_1 : w45.cell? ⟨gb126, 1, none⟩ = some (.slice A0_1 l0_1.length c0_1) := qc BK126 1; have hfz48_0 := blk_frozen BK126.out 0; have hfz48_1 := blk_frozen BK126.out 1; have p132 : 0 ≤ (x5_1 : Int) := of_decide_eq_true (by first | (with_reducible assumption) | assumption); have q132 : x5_1 < (l0_1.length : Int) := of_decide_eq_true (by first | (with_reducible assumption) | assumption); obtain ⟨ad132, e132, hx132_0⟩ := Kd.at_int HR0_1.out x5_1 p132 q132; cases e132; have hn132_0 : ad132.block ≠ gb128 := Nat.ne_of_lt (Nat.lt_of_lt_of_le (by have := World.block_lt_of_cell? _ _ hx132_0; first | rwa [add_block] at this | exact this) GW128.out); replace hx132_0 := (HB.out.cell (World.block_lt_of_cell? w _ hx132_0)).trans hx132_0; replace hx132_0 := (cell_far (p := ⟨gb128, 1, none⟩) (by first | (rw [add_block]; exact hn132_0) | (show (Addr.add _ _).block ≠ _; rw [add_block]; exact hn132_0) | exact hn132_0) (.slice Ao46 y129.length co46)).trans hx132_0; clear hn132_0; replace p132 := eq_true p132; replace q132 := eq_true q132))
         go_roundg k1
         case measure => have := HK1.out; omega
         case rel => exact ⟨(wrap64 (x5_1 + 1)), (y129), (.slice Ao46 y129.length co46), (by first | rfl | (simp; done) | (simp [*]; done)), H', ⟨by have := HK1.out; omega⟩, ⟨by (with_reducible repeat first|apply Kd.R_alloc|apply Kd.R_drewN|apply Kd.R_drew); exact Kd.R_mono (Kd.R_far (p := ⟨gb128, 1, none⟩) (Kd.R_types HO131.out BK128.out (by decide)) (fun _ hk => hk.2) (.slice Ao46 y129.length co46)) (fun _ hk => trivial)⟩, ⟨by (with_reducible repeat first|refine qN ?_ _|refine qW ?_|refine qA ?_ _); refine blk_far ?_ NB126_128.out _; (with_reducible repeat first|refine qN ?_ _|refine qW ?_|refine qA ?_ _); exact BK126.out⟩, ⟨by (with_reducible repeat first|refine qN ?_ _|refine qW ?_|refine qA ?_ _); refine blk_far ?_ NB127_128.out _; (with_reducible repeat first|refine qN ?_ _|refine qW ?_|refine qA ?_ _); exact BK127.out⟩, ⟨by (with_reducible repeat first|refine qN ?_ _|refine qW ?_|refine qA ?_ _); refine blk_put (cs := #[.bool a0_0, u129001]) ?_ 1 _ rfl; (with_reducible repeat first|refine qN ?_ _|refine qW ?_|refine qA ?_ _); exact BK128.out⟩, ⟨by repeat (first | (with_reducible first | exact HB.out | apply qx | apply qv | apply qw | refine qs ?_ (by assumption)) | exact HB.out)⟩⟩
       ·rw [if_neg c19] at H
        exact absurd H (by simp)
      ·rw [if_neg c18] at H
       exact absurd H (by simp)
     ·rw [if_neg c17] at H
      have c17b0 : ((Int.tmod x5_1 32) == 0) = false := beq_eq_false_iff_ne.mpr c17
      have c17b1 : ((Int.tmod x5_1 32) != 0) = true := bne_iff_ne.mpr c17
      by_cases c49 : 0 ≤ x5_1
      ·rw [if_pos c49] at H
       have c49b0 : decide (0 ≤ x5_1) = true := decide_eq_true c49
       clear c49
       by_cases c50 : (rd l0_1 x5_1) = 1
       ·rw [if_pos c50] at H
        have c50b0 : ((rd l0_1 x5_1) == 1) = true := beq_iff_eq.mpr c50
        have c50b1 : ((rd l0_1 x5_1) != 1) = false := bne_eq_false_iff_eq.mpr c50
        clear c50
        obtain ⟨ji51, hji51⟩ : ∃ j_ : Int, (wrap64 (Int.tdiv x5_1 32)) = j_ := ⟨_, rfl⟩
        replace H : (if 0 ≤ (ji51) then (if (ji51) < (x129001_1.length : Int) then (if 0 ≤ (Int.tmod x5_1 32) then (moraineref02_Num.l0 k1 (wrap64 (x5_1 + 1)) a0_0 l0_1 a0_0 (x129001_1.set ((ji51) : Int).toNat (Go.bits .or .u32 (rd x129001_1 (ji51)) (shl .u32 1 (Int.tmod x5_1 32))))) else (none)) else (none)) else (none)) = some (r1, r2, r3) := by first | (rw [hji51] at H; exact H) | (simp only [hji51] at H ⊢; exact H)
        have hji51w : (IntKind.i64.wrap (Int.tdiv x5_1 32)) = ji51 := (i64_w _).trans hji51
        by_cases c52 : 0 ≤ (ji51)
        ·rw [if_pos c52] at H
         have c52b0 : decide (0 ≤ (ji51)) = true := decide_eq_true c52
         clear c52
         by_cases c53 : (ji51) < (x129001_1.length : Int)
         ·rw [if_pos c53] at H
          have c53b0 : decide ((ji51) < (x129001_1.length : Int)) = true := decide_eq_true c53
          clear c53
          obtain ⟨ji54, hji54⟩ : ∃ j_ : Int, (Int.tmod x5_1 32) = j_ := ⟨_, rfl⟩
          replace H : (if 0 ≤ (ji54) then (moraineref02_Num.l0 k1 (wrap64 (x5_1 + 1)) a0_0 l0_1 a0_0 (x129001_1.set ((ji51) : Int).toNat (Go.bits .or .u32 (rd x129001_1 (ji51)) (shl .u32 1 (ji54))))) else (none)) = some (r1, r2, r3) := by first | (rw [hji54] at H; exact H) | (simp only [hji54] at H ⊢; exact H)
          (try rw [hji54] at c17b0)
          (try rw [hji54] at c17b1)
          by_cases c55 : 0 ≤ (ji54)
          ·rw [if_pos c55] at H
           have c55b0 := eq_true c55
           have c55b1 : decide (0 ≤ (ji54)) = true := decide_eq_true c55
           clear c55
           obtain ⟨ji56, hji56⟩ : ∃ j_ : Int, (shl .u32 1 (ji54)) = j_ := ⟨_, rfl⟩
           replace H : (moraineref02_Num.l0 k1 (wrap64 (x5_1 + 1)) a0_0 l0_1 a0_0 (x129001_1.set ((ji51) : Int).toNat (Go.bits .or .u32 (rd x129001_1 (ji51)) (ji56)))) = some (r1, r2, r3) := by first | (rw [hji56] at H; exact H) | (simp only [hji56] at H ⊢; exact H)
           have hji56_ : (IntKind.u32.wrap (1 * 2 ^ min (ji54).toNat 32)) = ji56 := hji56
           have hji56z : (ji54) ≤ 32 → (IntKind.u32.wrap (1 * 2 ^ (ji54).toNat)) = ji56 := shl_small hji56
           have hji56u : (IntKind.u32.wrap (2 ^ min (ji54).toNat 32)) = ji56 := by have h_ := hji56_; rw [Int.one_mul] at h_; exact h_
           have hji56v : (ji54) ≤ 32 → (IntKind.u32.wrap (2 ^ (ji54).toNat)) = ji56 := fun hle_ => by have h_ := hji56z hle_; rw [Int.one_mul] at h_; exact h_
           obtain ⟨y137, hy137⟩ : ∃ y_ : List Int, y_ = (x129001_1.set ((ji51) : Int).toNat (Go.bits .or .u32 (rd x129001_1 (ji51)) (ji56))) := ⟨_, rfl⟩
           replace H : (moraineref02_Num.l0 k1 (wrap64 (x5_1 + 1)) a0_0 l0_1 a0_0 y137) = some (r1, r2, r3) := by first | (rw [hy137]; with_reducible exact H) | (have H2_ := (Option.bind_some _ _).symm.trans H; rw [hy137]; with_reducible exact H2_) | (have H2_ := (Option.bind_some _ _).symm.trans H; with_reducible exact H2_) | with_reducible exact H | (rw [hy137]; exact H) | exact H
           have Ny137 := Aside0.mk hy137
           clear hy137
           have H' := Aside0.mk H
           clear H
           have hnb58 := NB126_127.out
           have hnc58 := NB127_126.out
           have hnb59 := NB126_128.out
           have hnc59 := NB128_126.out
           have hcz60_0 : wr.cell? ⟨gb126, 0, none⟩ = some (.bool a0_0) := qc BK126 0
           have hcz60_1 : wr.cell? ⟨gb126, 1, none⟩ = some (.slice A0_1 l0_1.length c0_1) := qc BK126 1
           have hfz60_0 := blk_frozen BK126.out 0
           have hfz60_1 := blk_frozen BK126.out 1
           have p135 : 0 ≤ (x5_1 : Int) := of_decide_eq_true (by first | (with_reducible assumption) | assumption)
           have q135 : x5_1 < (l0_1.length : Int) := of_decide_eq_true (by first | (with_reducible assumption) | assumption)
           obtain ⟨ad135, e135, hx135_0⟩ := Kd.at_int HR0_1.out x5_1 p135 q135
           cases e135
           replace hx135_0 := (HB.out.cell (World.block_lt_of_cell? w _ hx135_0)).trans hx135_0
           replace p135 := eq_true p135
           replace q135 := eq_true q135
           try go_wp2
           replace HO_129001 := Aside0.mk (Kd.R_drew HO_129001.out)
           replace BK126 := Aside0.mk (blk_drew BK126.out)
           replace BK127 := Aside0.mk (blk_drew BK127.out)
           replace BK128 := Aside0.mk (blk_drew BK128.out)
           replace HB := Aside0.mk (below_drew1 HB.out)
           obtain ⟨Ao62, co62, eo62⟩ := Kd.R_slice HO_129001.out
           (first | subst eo62 | (injection eo62 with f1_ f2_ f3_; have f4_ := f1_.symm; have f5_ := f3_.symm; clear f1_ f2_ f3_; subst f4_; subst f5_))
           have p136 : 0 ≤ ((ji51) : Int) := of_decide_eq_true (by first | (with_reducible assumption) | assumption)
           have q136 : (ji51) < (x129001_1.length : Int) := of_decide_eq_true (by first | (with_reducible assumption) | assumption)
           obtain ⟨ad136, e136, hx136_0⟩ := Kd.at_int (Kd.R_reads' HO_129001.out).2.2 (ji51) p136 q136
           cases e136
           replace p136 := eq_true p136
           replace q136 := eq_true q136
           have p57 : 0 ≤ ((ji51) : Int) := of_decide_eq_true (by first | (with_reducible assumption) | assumption)
           have q57 : ((ji51) : Int) < ((x129001_1.length : Int) : Int) := of_decide_eq_true (by first | (with_reducible assumption) | assumption)
           obtain ⟨go57, co57, eo57, gb57, gl57, cl57, HG57⟩ := Kd.R_form HO_129001.out (by omega)
           (first | cases eo57 | (injection eo57 with ea_ en_ ec_; (first | subst ea_ | (injection ea_ with ea_; subst ea_)); subst ec_; clear en_))
           have GB57 := Aside0.mk gb57
           have GG57 := Aside0.mk HG57
           clear gb57 gl57 HG57
           (first | simp only [add_plain] at hx136_0 | skip)
           obtain ⟨hx57_0, hf57_0⟩ := Kd.R_celln 0 HO_129001.out ((ji51) : Int) p57 q57
           replace p57 := eq_true p57
           replace q57 := eq_true q57
           have HP63 := Kd.R_putn HO_129001.out ((ji51) : Int) (Go.bits .or .u32 (rd x129001_1 (ji51)) (ji56))
           rw [← Ny137.out] at HP63
           have HQ63 := Aside0.mk HP63
           clear HP63
           refine start_ (n := 16) (S := fun w' => w'.cell? ⟨gb128, 0, none⟩ = some (.bool a0_0) ∧ w'.cell? ⟨gb128, 1, none⟩ = some (.slice (some ⟨go57, 0, none⟩) x129001_1.length co62) ∧ w'.cell? ⟨go57, ((ji51)).toNat, none⟩ = some (.int .u32 (rd x129001_1 (ji51)))) (ds := [15]) #[false, false, false, false, false, false, false, false, false, false, false, false, false, false, false, false] (by kernel_rfl) rfl rfl ⟨qc BK128 0, qc BK128 1, hx136_0⟩ (fun hHeld => ?_); refine with_tabW moraineref02_Num.tab10 moraineref02_Num.bits10 (fun HT_ HW_ => ?_)
           generalize wr.drew = w61 at HO_129001 BK126 BK127 BK128 HB GG57 HQ63 hf57_0 hx136_0 hx57_0 hHeld ⊢
           refine pure_ (i := 0) (N := some 35) (v := ?_) (a' := ?_) #[true, false, false, false, false, false, false, false, false, false, false, false, false, false, false, false] rfl rfl (any_of HT_.out (by kernel_rfl)) (fun _ _ _ h => h) (Or.inl ⟨by rfl, ?_⟩) ?_ ?_
           rotate_left
           ·intro w'
            go_simp
            with_reducible rfl
           rotate_left
           ·simp only [Act.put, zA, zB, zC, i64_w, i32_w]
            rfl
           refine pure_ (i := 2) (N := some 37) (v := ?_) (a' := ?_) #[true, false, true, false, false, false, false, false, false, false, false, false, false, false, false, false] rfl rfl (any_of HT_.out (by kernel_rfl)) (fun _ _ _ h => h) (Or.inl ⟨by rfl, ?_⟩) ?_ ?_
           rotate_left
           ·intro w'
            go_simp
            with_reducible rfl
           rotate_left
           ·simp only [Act.put, zA, zB, zC, i64_w, i32_w]
            rfl
           refine pure_ (i := 3) (N := some 38) (v := ?_) (a' := ?_) #[true, false, true, true, false, false, false, false, false, false, false, false, false, false, false, false] rfl rfl (any_of HT_.out (by kernel_rfl)) (fun _ _ _ h => h) (Or.inl ⟨by rfl, ?_⟩) ?_ ?_
           rotate_left
           ·intro w'
            go_simp
            with_reducible rfl
           rotate_left
           ·simp only [Act.put, zA, zB, zC, i64_w, i32_w]
            rfl
           refine pure_ (i := 4) (N := some 39) (v := ?_) (a' := ?_) #[true, false, true, true, true, false, false, false, false, false, false, false, false, false, false, false] rfl rfl (any_of HT_.out (by kernel_rfl)) (fun _ _ _ h => h) (Or.inl ⟨by rfl, ?_⟩) ?_ ?_
           rotate_left
           ·intro w'
            go_simp
            with_reducible rfl
           rotate_left
           ·simp only [Act.put, zA, zB, zC, i64_w, i32_w]
            rfl
           refine pure_ (i := 6) (N := some 41) (v := ?_) (a' := ?_) #[true, false, true, true, true, false, true, false, false, false, false, false, false, false, false, false] rfl rfl (any_of HT_.out (by kernel_rfl)) (fun _ _ _ h => h) (Or.inl ⟨by rfl, ?_⟩) ?_ ?_
           rotate_left
           ·intro w'
            go_simp
            with_reducible rfl
           rotate_left
           ·simp only [Act.put, zA, zB, zC, i64_w, i32_w]
            rfl
           refine pure_ (i := 7) (N := some 42) (v := ?_) (a' := ?_) #[true, false, true, true, true, false, true, true, false, false, false, false, false, false, false, false] rfl rfl (any_of HT_.out (by kernel_rfl)) (fun _ _ _ h => h) (Or.inl ⟨by rfl, ?_⟩) ?_ ?_
           rotate_left
           ·intro w'
            go_simp
            with_reducible rfl
           rotate_left
           ·simp only [Act.put, zA, zB, zC, i64_w, i32_w]
            rfl
           refine pure_ (i := 10) (N := some 45) (v := ?_) (a' := ?_) #[true, false, true, true, true, false, true, true, false, false, true, false, false, false, false, false] rfl rfl (any_of HT_.out (by kernel_rfl)) (fun _ _ _ h => h) (Or.inl ⟨by rfl, ?_⟩) ?_ ?_
           rotate_left
           ·intro w'
            go_simp
            with_reducible rfl
           rotate_left
           ·simp only [Act.put, zA, zB, zC, i64_w, i32_w]
            rfl
           refine pure_ (i := 11) (N := some 46) (v := ?_) (a' := ?_) #[true, false, true, true, true, false, true, true, false, false, true, true, false, false, false, false] rfl rfl (any_of HT_.out (by kernel_rfl)) (fun _ _ _ h => h) (Or.inl ⟨by rfl, ?_⟩) ?_ ?_
           rotate_left
           ·intro w'
            go_simp
            with_reducible rfl
           rotate_left
           ·simp only [Act.put, zA, zB, zC, i64_w, i32_w]
            rfl
           refine pure_ (i := 12) (N := some 47) (v := ?_) (a' := ?_) #[true, false, true, true, true, false, true, true, false, false, true, true, true, false, false, false] rfl rfl (any_of HT_.out (by kernel_rfl)) (fun _ _ _ h => h) (Or.inl ⟨by rfl, ?_⟩) ?_ ?_
           rotate_left
           ·intro w'
            go_simp
            with_reducible rfl
           rotate_left
           ·simp only [Act.put, zA, zB, zC, i64_w, i32_w]
            rfl
           refine take_ (i := 1) (N := some 36) (v := ?_) (a' := ?_) #[true, true, true, true, true, false, true, true, false, false, true, true, true, false, false, false] rfl rfl (take_ofW HT_.out HW_.out (by kernel_rfl)) (fun _ _ _ h => h) (Or.inl ⟨by rfl, ?_⟩) hHeld ?_ ?_
           rotate_left
           ·rintro w' ⟨s0, s1, s2⟩
            go_simp
            with_reducible rfl
           rotate_left
           ·simp only [Act.put, zA, zB, zC, i64_w, i32_w]
            rfl
           refine take_ (i := 5) (N := some 40) (v := ?_) (a' := ?_) #[true, true, true, true, true, true, true, true, false, false, true, true, true, false, false, false] rfl rfl (take_ofW HT_.out HW_.out (by kernel_rfl)) (fun _ _ _ h => h) (Or.inl ⟨by rfl, ?_⟩) hHeld ?_ ?_
           rotate_left
           ·rintro w' ⟨s0, s1, s2⟩
            go_simp
            with_reducible rfl
           rotate_left
           ·simp only [Act.put, zA, zB, zC, i64_w, i32_w]
            rfl
           refine pure_ (i := 8) (N := some 43) (v := ?_) (a' := ?_) #[true, true, true, true, true, true, true, true, true, false, true, true, true, false, false, false] rfl rfl (any_of HT_.out (by kernel_rfl)) (fun _ _ _ h => h) (Or.inl ⟨by rfl, ?_⟩) ?_ ?_
           rotate_left
           ·intro w'
            go_simp
            with_reducible rfl
           rotate_left
           ·simp only [Act.put, zA, zB, zC, i64_w, i32_w]
            rfl
           refine take_ (i := 9) (N := some 44) (v := ?_) (a' := ?_) #[true, true, true, true, true, true, true, true, true, true, true, true, true, false, false, false] rfl rfl (take_ofW HT_.out HW_.out (by kernel_rfl)) (fun _ _ _ h => h) (Or.inl ⟨by rfl, ?_⟩) hHeld ?_ ?_
           rotate_left
           ·rintro w' ⟨s0, s1, s2⟩
            go_simp
            with_reducible rfl
           rotate_left
           ·simp only [Act.put, zA, zB, zC, i64_w, i32_w]
            rfl
           refine pure_ (i := 13) (N := some 48) (v := ?_) (a' := ?_) #[true, true, true, true, true, true, true, true, true, true, true, true, true, true, false, false] rfl rfl (any_of HT_.out (by kernel_rfl)) (fun _ _ _ h => h) (Or.inl ⟨by rfl, ?_⟩) ?_ ?_
           rotate_left
           ·intro w'
            go_simp
            with_reducible rfl
           rotate_left
           ·simp only [Act.put, zA, zB, zC, i64_w, i32_w]
            rfl
           refine pure_ (i := 14) (N := some 49) (v := ?_) (a' := ?_) #[true, true, true, true, true, true, true, true, true, true, true, true, true, true, true, false] rfl rfl (any_of HT_.out (by kernel_rfl)) (fun _ _ _ h => h) (Or.inl ⟨by rfl, ?_⟩) ?_ ?_
           rotate_left
           ·intro w'
            go_simp
            with_reducible rfl
           rotate_left
           ·simp only [Act.put, zA, zB, zC, i64_w, i32_w]
            rfl
           refine last_ (i := 15) (N := none) #[true, true, true, true, true, true, true, true, true, true, true, true, true, true, true, true] rfl rfl (one_of HT_.out (by kernel_rfl)) (by decide) (fun K hK => ?_)
           refine skip_ (w1 := ?_) (by rfl) rfl ?_ ?_
           rotate_left
           ·go_simp
            rfl
           refine hK.out _ _ ?_
           clear hK K
           refine done_ (done_of HT_.out (by kernel_rfl)) ?_
           try go_wp2
           go_roundg k1
           case measure => have := HK1.out; omega
           case rel => exact ⟨(wrap64 (x5_1 + 1)), (y137), (.slice (some ⟨go57, 0, none⟩) x129001_1.length co62), (by first | rfl | (simp; done) | (simp [*]; done)), H', ⟨by have := HK1.out; omega⟩, ⟨by (with_reducible repeat first|apply Kd.R_alloc|apply Kd.R_drewN|apply Kd.R_drew); exact HQ63.out⟩, ⟨by (with_reducible repeat first|refine qN ?_ _|refine qW ?_|refine qA ?_ _); refine blk_far ?_ (by have h_ := Kd.R_ne HO_129001.out BK126.out (by decide); intro e_; exact h_ (by rw [e_]; rfl)) _; (with_reducible repeat first|refine qN ?_ _|refine qW ?_|refine qA ?_ _); exact BK126.out⟩, ⟨by (with_reducible repeat first|refine qN ?_ _|refine qW ?_|refine qA ?_ _); refine blk_far ?_ (by have h_ := Kd.R_ne HO_129001.out BK127.out (by decide); intro e_; exact h_ (by rw [e_]; rfl)) _; (with_reducible repeat first|refine qN ?_ _|refine qW ?_|refine qA ?_ _); exact BK127.out⟩, ⟨by (with_reducible repeat first|refine qN ?_ _|refine qW ?_|refine qA ?_ _); refine blk_far ?_ (by have h_ := Kd.R_ne HO_129001.out BK128.out (by decide); intro e_; exact h_ (by rw [e_]; rfl)) _; (with_reducible repeat first|refine qN ?_ _|refine qW ?_|refine qA ?_ _); exact BK128.out⟩, ⟨by repeat (first | (with_reducible first | exact HB.out | apply qx | apply qv | apply qw | refine below_set ?_ GB57.out | refine qs ?_ (by assumption)) | exact HB.out)⟩⟩
          ·rw [if_neg c55] at H
           exact absurd H (by simp)
         ·rw [if_neg c53] at H
          exact absurd H (by simp)
        ·rw [if_neg c52] at H
         exact absurd H (by simp)
       ·rw [if_neg c50] at H
        have c50b0 : ((rd l0_1 x5_1) == 1) = false := beq_eq_false_iff_ne.mpr c50
        have c50b1 : ((rd l0_1 x5_1) != 1) = true := bne_iff_ne.mpr c50
        have H' := Aside0.mk H
        clear H
        have hnb64 := NB126_127.out
        have hnc64 := NB127_126.out
        have hnb65 := NB126_128.out
        have hnc65 := NB128_126.out
        have hcz66_0 : wr.cell? ⟨gb126, 0, none⟩ = some (.bool a0_0) := qc BK126 0
        have hcz66_1 : wr.cell? ⟨gb126, 1, none⟩ = some (.slice A0_1 l0_1.length c0_1) := qc BK126 1
        have hfz66_0 := blk_frozen BK126.out 0
        have hfz66_1 := blk_frozen BK126.out 1
        have p135 : 0 ≤ (x5_1 : Int) := of_decide_eq_true (by first | (with_reducible assumption) | assumption)
        have q135 : x5_1 < (l0_1.length : Int) := of_decide_eq_true (by first | (with_reducible assumption) | assumption)
        obtain ⟨ad135, e135, hx135_0⟩ := Kd.at_int HR0_1.out x5_1 p135 q135
        cases e135
        replace hx135_0 := (HB.out.cell (World.block_lt_of_cell? w _ hx135_0)).trans hx135_0
        replace p135 := eq_true p135
        replace q135 := eq_true q135
        go_wp2
        go_roundg k1
        case measure => have := HK1.out; omega
        case rel => exact ⟨(wrap64 (x5_1 + 1)), (x129001_1), (u129001), (by first | rfl | (simp; done) | (simp [*]; done)), H', ⟨by have := HK1.out; omega⟩, ⟨qq HO_129001⟩, ⟨qk BK126⟩, ⟨qk BK127⟩, ⟨qk BK128⟩, ⟨by repeat (first | (with_reducible first | exact HB.out | apply qx | apply qv | apply qw | refine qs ?_ (by assumption)) | exact HB.out)⟩⟩
      ·rw [if_neg c49] at H
       exact absurd H (by simp)
    ·rw [if_neg c16] at H
     have c16b0 : decide (x5_1 < (l0_1.length : Int)) = false := decide_eq_false c16
     clear c16
     simp only [Option.some.injEq, Prod.mk.injEq] at H
     obtain ⟨rfl, rfl, rfl⟩ := H
     have hnb67 := NB126_127.out
     have hnc67 := NB127_126.out
     have hnb68 := NB126_128.out
     have hnc68 := NB128_126.out
     have hcz69_0 : wr.cell? ⟨gb126, 0, none⟩ = some (.bool a0_0) := qc BK126 0
     have hcz69_1 : wr.cell? ⟨gb126, 1, none⟩ = some (.slice A0_1 l0_1.length c0_1) := qc BK126 1
     have hfz69_0 := blk_frozen BK126.out 0
     have hfz69_1 := blk_frozen BK126.out 1
     have hnb70 := NB128_127.out
     have hnc70 := NB127_128.out
     have hcz71_0 : wr.cell? ⟨gb128, 0, none⟩ = some (.bool a0_0) := qc BK128 0
     have hcz71_1 : wr.cell? ⟨gb128, 1, none⟩ = some (u129001) := qc BK128 1
     have hfz71_0 := blk_frozen BK128.out 0
     have hfz71_1 := blk_frozen BK128.out 1
     have hcz72_0 : wr.cell? ⟨gb127, 0, none⟩ = some (.bool false) := qc BK127 0
     have hcz72_1 : wr.cell? ⟨gb127, 1, none⟩ = some (.slice none 0 0) := qc BK127 1
     have hfz72_0 := blk_frozen BK127.out 0
     have hfz72_1 := blk_frozen BK127.out 1
     obtain ⟨Ao73, co73, eo73⟩ := Kd.R_slice HO_129001.out
     subst eo73
     go_wp2
     refine bodyPost_ret (results_ct rfl _ _ gb127 25 #[.bool a0_0, .slice Ao73 x129001_1.length co73] (0, 0) _ rfl (by (with_reducible repeat first|refine qN ?_ _|refine qW ?_|refine qA ?_ _); refine blk_put (cs := #[.bool a0_0, .slice none 0 0]) ?_ 1 _ rfl; (with_reducible repeat first|refine qN ?_ _|refine qW ?_|refine qA ?_ _); refine blk_put (cs := #[.bool false, .slice none 0 0]) ?_ 0 _ rfl; (with_reducible repeat first|refine qN ?_ _|refine qW ?_|refine qA ?_ _); exact BK127.out) Tryd.underlying25 rfl (by kernel_rfl)) rfl ?_
     exact ⟨_, by first | rfl | (simp [errW_none, errW_some] <;> rfl) | (simp [*, errW_none, errW_some] <;> rfl), by (with_reducible repeat first|apply Kd.R_alloc|apply Kd.R_drewN|apply Kd.R_drew); exact Kd.R_mono (qz HO_129001 BK127 (by decide) (.bool a0_0) (.slice Ao73 x129001_1.length co73)) (fun _ hk => trivial), by repeat (first | (with_reducible first | exact HB.out | apply qx | apply qv | apply qw | refine qs ?_ (by assumption)) | exact HB.out)⟩
end Go.Proofs.YthhpnlbeniihhaaDoor.PRef
namespace Go.Proofs.YthhpnlbeniihhaaDoor.Bit
open Go.Proofs.YthhpnlbeniihhaaDoor.Limb
set_option linter.unusedVariables false
set_option linter.unusedSimpArgs false
/-- The value of a row. -/
def bv : List Int → Nat
  | [] => 0
  | x :: l => x.toNat + 2 * bv l
/-- Each is a limb. -/
def OkB (l : List Int) : Prop := ∀ x ∈ l, 0 ≤ x ∧ x < 2
theorem bv_nil : bv [] = 0 := rfl
theorem bv_cons (x : Int) (l : List Int) : bv (x :: l) = x.toNat + 2 * bv l := rfl
theorem bv_append (l m : List Int) : bv (l ++ m) = bv l + 2 ^ l.length * bv m := by
  induction l with
  | nil => simp [bv]
  | cons x l ih =>
    simp only [List.cons_append, bv_cons, ih, List.length_cons, Nat.pow_succ]
    rw [Nat.mul_add, Nat.add_assoc, Nat.mul_comm (2 ^ l.length) 2, Nat.mul_assoc]
theorem bv_lt {l : List Int} (h : OkB l) : bv l < 2 ^ l.length := by
  induction l with
  | nil => simp [bv]
  | cons x l ih =>
    have hx := h x List.mem_cons_self
    have hl := ih (fun y hy => h y (List.mem_cons_of_mem _ hy))
    rw [bv_cons, List.length_cons, Nat.pow_succ]
    omega
theorem bv_zero {l : List Int} (h : OkB l) : bv l = 0 ↔ tr l = [] := by
  induction l with
  | nil => simp [bv, tr_nil]
  | cons x l ih =>
    have hx := h x List.mem_cons_self
    have ih := ih (fun y hy => h y (List.mem_cons_of_mem _ hy))
    rw [bv_cons, tr_cons]
    by_cases e : tr l = []
    · rw [if_pos e]
      have := ih.mpr e
      by_cases hx0 : x = 0
      · rw [if_pos hx0]; constructor
        · intro _; rfl
        · intro _; omega
      · rw [if_neg hx0]; constructor
        · intro q; omega
        · intro q; simp at q
    · rw [if_neg e]
      have : bv l ≠ 0 := fun q => e (ih.mp q)
      constructor
      · intro q; omega
      · intro q; simp at q
/-- The row of a value. -/
def bits (n : Nat) : List Int := if h : n = 0 then [] else ((n % 2 : Nat) : Int) :: bits (n / 2)
termination_by n
decreasing_by exact Nat.div_lt_self (by omega) (by decide)
theorem bits_zero : bits 0 = [] := by rw [bits]; simp
theorem bits_pos {n : Nat} (h : n ≠ 0) : bits n = ((n % 2 : Nat) : Int) :: bits (n / 2) := by rw [bits, dif_neg h]
theorem bits_nil {n : Nat} : bits n = [] ↔ n = 0 := by
  by_cases h : n = 0
  · subst h; simp [bits_zero]
  · rw [bits_pos h]; simp [h]
theorem bv_bits (n : Nat) : bv (bits n) = n := by
  induction n using Nat.strongRecOn with
  | ind n ih =>
    by_cases h : n = 0
    · subst h; rw [bits_zero]; rfl
    · rw [bits_pos h, bv_cons, ih _ (Nat.div_lt_self (by omega) (by decide))]
      omega
theorem ok_bits (n : Nat) : OkB (bits n) := by
  induction n using Nat.strongRecOn with
  | ind n ih =>
    by_cases h : n = 0
    · subst h; rw [bits_zero]; intro x hx; simp at hx
    · rw [bits_pos h]
      intro x hx
      rcases List.mem_cons.mp hx with rfl | hx
      · omega
      · exact ih _ (Nat.div_lt_self (by omega) (by decide)) x hx
/-- A row, trimmed, is the row of its value. -/
theorem tr_bits {l : List Int} (h : OkB l) : tr l = bits (bv l) := by
  induction l with
  | nil => rw [bv_nil, bits_zero]; rfl
  | cons x l ih =>
    have hx := h x List.mem_cons_self
    have hl : OkB l := fun y hy => h y (List.mem_cons_of_mem _ hy)
    have ih := ih hl
    rw [tr_cons, bv_cons]
    by_cases e : tr l = []
    · have m0 := (bv_zero hl).mpr e
      rw [if_pos e, m0]
      by_cases hx0 : x = 0
      · subst hx0; rw [if_pos rfl]; exact bits_zero.symm
      · rw [if_neg hx0, bits_pos (by omega), show (x.toNat + 2 * 0) / 2 = 0 by omega, bits_zero, show (((x.toNat + 2 * 0) % 2 : Nat) : Int) = x by omega]
    · have m0 : bv l ≠ 0 := fun q => e ((bv_zero hl).mp q)
      rw [if_neg e, bits_pos (by omega), show (x.toNat + 2 * bv l) / 2 = bv l by omega, ← ih, show (((x.toNat + 2 * bv l) % 2 : Nat) : Int) = x by omega]
theorem tr_of_bits (n : Nat) : tr (bits n) = bits n := by rw [tr_bits (ok_bits n), bv_bits]
theorem bits_len (n k : Nat) : (bits n).length ≤ k ↔ n < 2 ^ k := by
  induction k generalizing n with
  | zero =>
    rw [Nat.pow_zero, Nat.le_zero, List.length_eq_zero_iff, bits_nil]
    omega
  | succ k ih =>
    by_cases h : n = 0
    · subst h; simp [bits_zero, Nat.pow_pos]
    · rw [bits_pos h, List.length_cons, Nat.succ_le_succ_iff, ih, Nat.pow_succ]
      exact Nat.div_lt_iff_lt_mul (by decide)
theorem bv_le_len {l m : List Int} (hl : OkB l) (hm : OkB m) (tl : tr l = l) (tm : tr m = m) (h : l.length < m.length) : bv l < bv m := by
  have e1 : l = bits (bv l) := by rw [← tr_bits hl, tl]
  have e2 : m = bits (bv m) := by rw [← tr_bits hm, tm]
  have a := bv_lt hl
  have b : ¬ (bits (bv m)).length ≤ l.length := by rw [← e2]; omega
  rw [bits_len] at b
  omega
theorem bv_take_succ (l : List Int) (n : Nat) (h : n < l.length) : bv (l.take (n + 1)) = bv (l.take n) + 2 ^ n * (l[n]).toNat := by
  rw [take_succ' l n h, bv_append, List.length_take, Nat.min_eq_left (by omega)]
  simp [bv]
theorem bv_take_lt {l : List Int} (h : OkB l) (n : Nat) (hn : n ≤ l.length) : bv (l.take n) < 2 ^ n := by
  have := bv_lt (l := l.take n) (fun x hx => h x (List.mem_of_mem_take hx))
  rwa [List.length_take, Nat.min_eq_left hn] at this
/-- Rows that are the same from place n on: their values compare as what stands below. -/
theorem cmpb_below (a b : List Int) (hl : a.length = b.length) (n : Nat) (h : ∀ j, n ≤ j → (hj : j < a.length) → a[j] = b[j]'(by omega)) : cmpN (bv a) (bv b) = cmpN (bv (a.take n)) (bv (b.take n)) := by
  have hd : a.drop n = b.drop n := by
    apply List.ext_getElem
    · simp [hl]
    · intro i h1 h2
      simp only [List.getElem_drop]
      exact h (n + i) (by omega) (by simp at h1; omega)
  have ea : bv a = bv (a.take n) + 2 ^ (a.take n).length * bv (a.drop n) := by rw [← bv_append, List.take_append_drop]
  have eb : bv b = bv (b.take n) + 2 ^ (b.take n).length * bv (b.drop n) := by rw [← bv_append, List.take_append_drop]
  have el : (a.take n).length = (b.take n).length := by simp [hl]
  rw [ea, eb, hd, el]
  unfold cmpN
  split <;> split <;> (try split) <;> first | rfl | omega
/-- The first place from above where they part decides. -/
theorem cmpb_at (a b : List Int) (ha : OkB a) (hb : OkB b) (hl : a.length = b.length) (n : Nat) (hn : n < a.length) (h : ∀ j, n + 1 ≤ j → (hj : j < a.length) → a[j] = b[j]'(by omega)) (hne : a[n] ≠ b[n]'(by omega)) :
    cmpN (bv a) (bv b) = if a[n] < b[n]'(by omega) then -1 else 1 := by
  rw [cmpb_below a b hl (n + 1) h, bv_take_succ a n hn, bv_take_succ b n (by omega)]
  have la := bv_take_lt ha n (by omega)
  have lb := bv_take_lt hb n (by omega)
  have xa := ha a[n] (List.getElem_mem _)
  have xb := hb (b[n]'(by omega)) (List.getElem_mem _)
  generalize bv (a.take n) = p at *
  generalize bv (b.take n) = q at *
  generalize hu : (a[n]).toNat = u at *
  generalize hv : (b[n]'(by omega)).toNat = v at *
  generalize 2 ^ n = K at *
  by_cases c : a[n] < b[n]'(by omega)
  · rw [if_pos c]
    have huv : u + 1 ≤ v := by omega
    have hm : K * (u + 1) ≤ K * v := Nat.mul_le_mul_left K huv
    rw [Nat.mul_add] at hm
    unfold cmpN
    rw [if_pos (by omega)]
  · rw [if_neg c]
    have huv : v + 1 ≤ u := by omega
    have hm : K * (v + 1) ≤ K * u := Nat.mul_le_mul_left K huv
    rw [Nat.mul_add] at hm
    unfold cmpN
    rw [if_neg (by omega), if_pos (by omega)]
end Go.Proofs.YthhpnlbeniihhaaDoor.Bit
namespace Go.Proofs.YthhpnlbeniihhaaDoor.RefA
open Go.RowKit Go.Proofs.YthhpnlbeniihhaaDoorW.PrintWords Go.Proofs.YthhpnlbeniihhaaDoorW.PrintLast Go.Proofs.YthhpnlbeniihhaaDoorW.PrintMore Go.Proofs.YthhpnlbeniihhaaDoor.Limb Go.Proofs.YthhpnlbeniihhaaDoor.Bit Go.Proofs.YthhpnlbeniihhaaDoor.NumA Go.Proofs.YthhpnlbeniihhaaDoor.NumE Go.Proofs.YthhpnlbeniihhaaDoor.NumG Go.Proofs.YthhpnlbeniihhaaDoor.Quo Go.Proofs.YthhpnlbeniihhaaDoor.PRef
set_option linter.unusedVariables false
set_option linter.unusedSimpArgs false
theorem Ev.rbind {α β : Type} {g : Nat → Option α} {f : Nat → α → Option β} {a : α} {r : β} (h : Ev g a) (k : Ev (fun n => f n a) r) : Ev (fun n => (g n).bind (fun x => f n x)) r := Ev.bind h k
theorem Ev.some' {α : Type} {g : Nat → Option α} {r : α} (h : ∀ k, g k = some r) : Ev g r := ⟨0, fun k _ => h k⟩
theorem w64s {x : Int} (h0 : -9223372036854775808 ≤ x) (h1 : x ≤ 9223372036854775807) : wrap64 x = x := by unfold wrap64; omega
theorem OkB.okL {l : List Int} (h : OkB l) : OkL l := fun x hx => by have := h x hx; omega
theorem nl_le {l : List Int} (h : OkB l) (i : Nat) : nl l i ≤ 1 := by
  unfold nl
  by_cases hi : i < l.length
  · rw [rd_nat l i hi]
    have := h l[i] (List.getElem_mem hi)
    omega
  · rw [rd_out (i : Int) (by omega)]
    decide
theorem okB_nil : OkB [] := by intro x hx; simp at hx
theorem okB_snoc {l : List Int} (h : OkB l) (x : Nat) (hx : x ≤ 1) : OkB (l ++ [(x : Int)]) := by
  intro y hy
  rcases List.mem_append.mp hy with hy | hy
  · exact h y hy
  · rw [List.mem_singleton] at hy; subst hy; omega
theorem okB_cons {l : List Int} (h : OkB l) (x : Int) (hx : 0 ≤ x ∧ x < 2) : OkB (x :: l) := by
  intro y hy
  rcases List.mem_cons.mp hy with rfl | hy
  · exact hx
  · exact h y hy
theorem bv_take_next (l : List Int) (i : Nat) : bv (l.take (i + 1)) = bv (l.take i) + 2 ^ i * nl l i := by
  by_cases h : i < l.length
  · rw [bv_take_succ l i h]
    unfold nl
    rw [rd_nat l i h]
  · have e : nl l i = 0 := by unfold nl; rw [rd_out (i : Int) (by omega)]; rfl
    rw [e, List.take_of_length_le (by omega), List.take_of_length_le (by omega)]
    omega
theorem bv_take_small {m : List Int} (om : OkB m) (n : Nat) (h : bv m < 2 ^ n) : bv (m.take n) = bv m := by
  by_cases hn : n ≤ m.length
  · have e : bv m = bv (m.take n) + 2 ^ (m.take n).length * bv (m.drop n) := by rw [← bv_append, List.take_append_drop]
    rw [List.length_take, Nat.min_eq_left hn] at e
    rw [e] at h
    by_cases z : bv (m.drop n) = 0
    · rw [z] at e; omega
    · have : 2 ^ n * 1 ≤ 2 ^ n * bv (m.drop n) := Nat.mul_le_mul_left _ (by omega)
      omega
  · rw [List.take_of_length_le (by omega)]
theorem bv_snoc (l : List Int) (x : Nat) : bv (l ++ [(x : Int)]) = bv l + 2 ^ l.length * x := by
  rw [bv_append]
  simp [bv]
theorem bv_drop (l : List Int) (i : Nat) (h : i < l.length) : bv (l.drop i) = nl l i + 2 * bv (l.drop (i + 1)) := by
  rw [List.drop_eq_getElem_cons h, bv_cons]
  unfold nl
  rw [rd_nat l i h]
theorem cut_from (l : List Int) (hl : l.length < 4611686018427387904) (n : Nat) (hn : n ≤ l.length) : Ev (fun k => moraineref02_cut.l0 k l (n : Int)) (tr (l.take n)) := by
  induction n with
  | zero =>
    refine Ev.step (f := fun _ => some (l.take 0)) (fun k => ?_) (by rw [List.take_zero]; exact Ev.now _)
    rw [moraineref02_cut.l0, if_neg (by decide), if_pos (by decide), if_pos (by omega)]
    rfl
  | succ n ih =>
    have hlt : n < l.length := hn
    have e : wrap64 (((n + 1 : Nat) : Int) - 1) = (n : Int) := by rw [w64s (by omega) (by omega)]; omega
    by_cases hz : rd l (n : Int) = 0
    · have h0 : l[n] = 0 := by rw [← rd_nat l n hlt]; exact hz
      have et : tr (l.take (n + 1)) = tr (l.take n) := by rw [take_succ' l n hlt, h0, tr_snoc_zero]
      rw [et]
      refine Ev.step (fun k => ?_) (ih (by omega))
      rw [moraineref02_cut.l0, if_pos (by omega), e, if_pos (by omega), if_pos (by omega), if_pos hz]
    · have h0 : l[n] ≠ 0 := by rw [← rd_nat l n hlt]; exact hz
      have et : tr (l.take (n + 1)) = l.take (n + 1) := by rw [take_succ' l n hlt, tr_snoc_ne _ _ h0]
      rw [et]
      refine Ev.step (f := fun _ => some (l.take (n + 1))) (fun k => ?_) (Ev.now _)
      rw [moraineref02_cut.l0, if_pos (by omega), e, if_pos (by omega), if_pos (by omega), if_neg hz, if_pos (by omega), if_pos (by omega)]
      rfl
theorem cut_ev (l : List Int) (hl : l.length < 4611686018427387904) : Ev (fun k => moraineref02_cut.f k l) (tr l) := by
  have h := cut_from l hl l.length (Nat.le_refl _)
  rw [List.take_length] at h
  exact h
theorem value_ev (neg : Bool) (l : List Int) (hl : l.length < 4611686018427387904) : Ev (fun k => moraineref02_value.f k neg l) (neg && decide (0 < (tr l).length), tr l) := by
  unfold moraineref02_value.f
  refine Ev.rbind (cut_ev l hl) ?_
  cases neg with
  | true => exact Ev.some' (fun k => by rw [if_pos rfl]; rfl)
  | false => exact Ev.some' (fun k => by rw [if_neg (by decide)]; rfl)
theorem w_diff (x y c : Nat) (hx : x ≤ 1) (hy : y ≤ 1) (hc : c ≤ 1) : wrap64 (wrap64 ((x : Int) - (y : Int)) - (c : Int)) = (x : Int) - (y : Int) - (c : Int) := by
  rw [w64s (x := (x : Int) - (y : Int)) (by omega) (by omega), w64s (by omega) (by omega)]
theorem w_dig (x y c : Nat) (hx : x ≤ 1) (hy : y ≤ 1) (hc : c ≤ 1) (h : x < y + c) : wrap64 ((x : Int) - (y : Int) - (c : Int) + 2) % 256 = ((x + 2 - y - c : Nat) : Int) := by
  rw [w64s (by omega) (by omega)]; omega
theorem w_next (i : Nat) (h : i < 4611686018427387904) : wrap64 ((i : Int) + 1) = ((i + 1 : Nat) : Int) := by rw [w64s (by omega) (by omega)]; omega
theorem bit_some {l : List Int} (ok : OkB l) (i : Nat) : moraineref02_bit.f l (i : Int) = some ((nl l i : Nat) : Int) := by
  unfold moraineref02_bit.f
  have h := nl_le ok i
  by_cases hi : i < l.length
  · rw [if_pos (by omega), if_pos (by omega), ← nl_cast (OkB.okL ok), w64s (by omega) (by omega)]
  · rw [if_neg (by omega)]
    have : nl l i = 0 := by unfold nl; rw [rd_out (i : Int) (by omega)]; rfl
    rw [this]
    rfl
theorem minus_from (a b : List Int) (oa : OkB a) (ob : OkB b) (ha : a.length < 70368744177664) (hle : bv b ≤ bv a) (d : Nat) : ∀ (i : Nat) (out : List Int) (c : Nat), i + d = a.length → c ≤ 1 → OkB out → out.length = i →
    bv out + bv (b.take i) = bv (a.take i) + 2 ^ i * c → Ev (fun k => moraineref02_minus.l0 k a b out (c : Int) (i : Int)) (Bit.bits (bv a - bv b)) := by
  induction d with
  | zero =>
    intro i out c hi hc ok hl hv
    obtain rfl : i = a.length := by omega
    have la := bv_lt oa
    have lo := bv_lt ok
    rw [hl] at lo
    rw [List.take_length, bv_take_small ob _ (by omega)] at hv
    have hc0 : c = 0 := by
      rcases Nat.lt_or_ge c 1 with h | h
      · omega
      · have : c = 1 := by omega
        subst this
        omega
    subst hc0
    have hr : tr out = Bit.bits (bv a - bv b) := by rw [tr_bits ok, show bv out = bv a - bv b by omega]
    refine Ev.step (f := fun k => (moraineref02_cut.f k out).bind fun t => some t) (fun k => ?_) ?_
    · rw [moraineref02_minus.l0, if_neg (by omega)]
    · refine Ev.rbind (cut_ev out (by omega)) ?_
      rw [hr]
      exact Ev.now _
  | succ d ih =>
    intro i out c hi hc ok hl hv
    have hx := nl_le oa i
    have hy := nl_le ob i
    by_cases hneg : nl a i < nl b i + c
    · skip
      refine Ev.step (f := fun k => moraineref02_minus.l0 k a b (out ++ [((nl a i + 2 - nl b i - c : Nat) : Int)]) ((1 : Nat) : Int) ((i + 1 : Nat) : Int)) (fun k => ?_) ?_
      · rw [moraineref02_minus.l0, if_pos (by omega), bit_some oa, bsome, bit_some ob, bsome, w_diff _ _ _ hx hy hc, if_pos (by omega), if_pos (by omega), w_dig _ _ _ hx hy hc hneg, w_next i (by omega)]
        rfl
      · refine ih (i + 1) _ _ (by omega) (by decide) (okB_snoc ok _ (by omega)) (by rw [List.length_append, hl]; rfl) ?_
        rw [bv_snoc, hl, bv_take_next, bv_take_next, Nat.pow_succ]
        have e5 : 2 ^ i * (nl a i + 2 - nl b i - c) + 2 ^ i * nl b i + 2 ^ i * c = 2 ^ i * nl a i + 2 ^ i * 2 := by
          rw [← Nat.mul_add, ← Nat.mul_add, ← Nat.mul_add]
          congr 1
          omega
        omega
    · have e2 : (((nl a i : Nat) : Int) - ((nl b i : Nat) : Int) - (c : Int)) % 256 = ((nl a i - nl b i - c : Nat) : Int) := by omega
      refine Ev.step (f := fun k => moraineref02_minus.l0 k a b (out ++ [((nl a i - nl b i - c : Nat) : Int)]) ((0 : Nat) : Int) ((i + 1 : Nat) : Int)) (fun k => ?_) ?_
      · rw [moraineref02_minus.l0, if_pos (by omega), bit_some oa, bsome, bit_some ob, bsome, w_diff _ _ _ hx hy hc, if_neg (by omega), if_pos (by omega), e2, w_next i (by omega)]
        rfl
      · refine ih (i + 1) _ _ (by omega) (by decide) (okB_snoc ok _ (by omega)) (by rw [List.length_append, hl]; rfl) ?_
        rw [bv_snoc, hl, bv_take_next, bv_take_next]
        have e5 : 2 ^ i * (nl a i - nl b i - c) + 2 ^ i * nl b i + 2 ^ i * c = 2 ^ i * nl a i := by
          rw [← Nat.mul_add, ← Nat.mul_add]
          congr 1
          omega
        omega
theorem minus_ev (a b : List Int) (oa : OkB a) (ob : OkB b) (ha : a.length < 70368744177664) (hle : bv b ≤ bv a) : Ev (fun k => moraineref02_minus.f k a b) (Bit.bits (bv a - bv b)) :=
  minus_from a b oa ob ha hle a.length 0 [] 0 (by omega) (by decide) okB_nil rfl (by simp [bv])
theorem less_from (a b : List Int) (oa : OkB a) (ob : OkB b) (hl : a.length = b.length) (ha : a.length < 70368744177664) (n : Nat) (hn : n ≤ a.length) (hs : ∀ j, n ≤ j → (hj : j < a.length) → a[j] = b[j]'(by omega)) :
    Ev (fun k => moraineref02_less.l0 k a b ((n : Int) - 1)) (decide (bv a < bv b)) := by
  induction n with
  | zero =>
    have e : a = b := by
      apply List.ext_getElem hl
      intro j h1 h2
      exact hs j (by omega) h1
    subst e
    rw [show decide (bv a < bv a) = false from decide_eq_false (by omega)]
    exact Ev.step (f := fun _ => some false) (fun k => by rw [moraineref02_less.l0, if_neg (by omega)]) (Ev.now _)
  | succ n ih =>
    have hlt : n < a.length := hn
    have hlb : n < b.length := by omega
    rw [show ((n + 1 : Nat) : Int) - 1 = (n : Int) by omega]
    by_cases e : rd a (n : Int) = rd b (n : Int)
    · have e2 : a[n] = b[n] := by rw [← rd_nat a n hlt, ← rd_nat b n hlb]; exact e
      refine Ev.step (fun k => ?_) (ih (by omega) (fun j h1 h2 => by
        rcases Nat.eq_or_lt_of_le h1 with rfl | h
        · exact e2
        · exact hs j h h2))
      rw [moraineref02_less.l0, if_pos (by omega), if_pos (by omega), if_pos (by omega), if_pos (by omega), if_pos e, w64s (by omega) (by omega)]
    · have e2 : a[n] ≠ b[n] := by rw [← rd_nat a n hlt, ← rd_nat b n hlb]; exact e
      have hc := cmpb_at a b oa ob hl n hlt (fun j h1 h2 => hs j h1 h2) e2
      have hd : decide (bv a < bv b) = decide (rd a (n : Int) < rd b (n : Int)) := by
        rw [rd_nat a n hlt, rd_nat b n hlb]
        unfold cmpN at hc
        by_cases h1 : bv a < bv b
        · rw [if_pos h1] at hc
          by_cases h2 : a[n] < b[n]
          · simp [h1, h2]
          · rw [if_neg h2] at hc; omega
        · rw [if_neg h1] at hc
          by_cases h2 : a[n] < b[n]
          · rw [if_pos h2] at hc
            split at hc <;> omega
          · simp [h1, h2]
      rw [hd]
      exact Ev.step (f := fun _ => some (decide (rd a (n : Int) < rd b (n : Int)))) (fun k => by rw [moraineref02_less.l0, if_pos (by omega), if_pos (by omega), if_pos (by omega), if_pos (by omega), if_neg e]) (Ev.now _)
theorem less_ev (a b : List Int) (oa : OkB a) (ob : OkB b) (ta : tr a = a) (tb : tr b = b) (ha : a.length < 70368744177664) (hb : b.length < 70368744177664) : Ev (fun k => moraineref02_less.f k a b) (decide (bv a < bv b)) := by
  unfold moraineref02_less.f
  by_cases hl : a.length = b.length
  · refine Ev.congr (f := fun k => moraineref02_less.l0 k a b ((a.length : Int) - 1)) (fun k => ?_) (less_from a b oa ob hl ha a.length (Nat.le_refl _) (fun j h1 h2 => by omega))
    rw [if_pos (by omega), w64s (by omega) (by omega)]
  · refine Ev.some' (fun k => ?_)
    rw [if_neg (by omega)]
    congr 1
    by_cases h : a.length < b.length
    · have := bv_le_len oa ob ta tb h
      rw [decide_eq_true (by omega), decide_eq_true this]
    · have := bv_le_len ob oa tb ta (by omega)
      rw [decide_eq_false (by omega), decide_eq_false (by omega)]
theorem parts_from (a b : List Int) (oa : OkB a) (ob : OkB b) (tb : tr b = b) (ha : a.length < 35184372088832) (hb : b.length < 35184372088832) (h0 : 0 < bv b) (n : Nat) : ∀ (Qs : List Int), n + Qs.length = a.length → OkB Qs → bv Qs = bv (a.drop n) / bv b →
    Ev (fun k => moraineref02_parts.l0 k a b (List.replicate n 0 ++ Qs) (Bit.bits (bv (a.drop n) % bv b)) ((n : Int) - 1)) (Bit.bits (bv a / bv b), Bit.bits (bv a % bv b)) := by
  induction n with
  | zero =>
    intro Qs hl ok hv
    rw [List.drop_zero] at *
    rw [List.replicate_zero, List.nil_append]
    have hr : tr Qs = Bit.bits (bv a / bv b) := by rw [tr_bits ok, hv]
    refine Ev.step (f := fun k => (moraineref02_cut.f k Qs).bind fun t => some (t, Bit.bits (bv a % bv b))) (fun k => ?_) ?_
    · rw [moraineref02_parts.l0, if_neg (by omega)]
    · refine Ev.rbind (cut_ev Qs (by omega)) ?_
      rw [hr]
      exact Ev.now _
  | succ n ih =>
    intro Qs hl ok hv
    have hlt : n < a.length := by omega
    have hx := nl_le oa n
    have hd := bv_drop a n hlt
    obtain ⟨R, hR⟩ : ∃ R, bv (a.drop (n + 1)) % bv b = R := ⟨_, rfl⟩
    have hRb : R < bv b := by rw [← hR]; exact Nat.mod_lt _ h0
    have hRl : (Bit.bits R).length ≤ b.length := by rw [bits_len]; exact Nat.lt_trans hRb (bv_lt ob)
    have hrd : rd a (n : Int) = ((nl a n : Nat) : Int) := (nl_cast (OkB.okL oa) n).symm
    have hok1 : OkB (rd a (n : Int) :: Bit.bits R) := okB_cons (ok_bits R) _ (by rw [hrd]; omega)
    have hbv1 : bv (rd a (n : Int) :: Bit.bits R) = 2 * R + nl a n := by rw [bv_cons, bv_bits, hrd, Int.toNat_natCast]; omega
    have htr : tr (rd a (n : Int) :: Bit.bits R) = Bit.bits (2 * R + nl a n) := by rw [tr_bits hok1, hbv1]
    have hlen1 : (Bit.bits (2 * R + nl a n)).length ≤ b.length + 1 := by
      rw [bits_len, Nat.pow_succ]
      have := bv_lt ob
      omega
    have hcut := cut_ev (rd a (n : Int) :: Bit.bits R) (by rw [List.length_cons]; omega)
    rw [htr] at hcut
    have hless := less_ev (Bit.bits (2 * R + nl a n)) b (ok_bits _) ob (tr_of_bits _) tb (by omega) (by omega)
    rw [bv_bits] at hless
    rw [show ((n + 1 : Nat) : Int) - 1 = (n : Int) by omega, hR]
    have e0 : ([rd a (n : Int)] ++ Bit.bits R) = rd a (n : Int) :: Bit.bits R := rfl
    by_cases hge : 2 * R + nl a n < bv b
    · have hst := step_lt h0 hv hR.symm hge
      rw [decide_eq_true hge] at hless
      refine Ev.step (f := fun k => (moraineref02_cut.f k (rd a (n : Int) :: Bit.bits R)).bind fun t => (moraineref02_less.f k t b).bind fun t2 => if t2 = true then moraineref02_parts.l0 k a b (List.replicate (n + 1) 0 ++ Qs) t ((n : Int) - 1) else (moraineref02_minus.f k t b).bind fun t3 => if (n : Int) < ((List.replicate (n + 1) (0 : Int) ++ Qs).length : Int) then moraineref02_parts.l0 k a b ((List.replicate (n + 1) 0 ++ Qs).set (n : Int).toNat 1) t3 ((n : Int) - 1) else none) (fun k => ?_) ?_
      · rw [moraineref02_parts.l0, if_pos (by omega), if_pos (by omega), if_pos (by omega), bsome, if_pos (by rw [List.length_singleton]; omega), e0, w64s (x := (n : Int) - 1) (by omega) (by omega)]
      · refine Ev.rbind hcut (Ev.rbind hless ?_)
        simp only [if_true]
        have hq := ih (0 :: Qs) (by rw [List.length_cons]; omega) (okB_cons ok 0 (by decide)) (by rw [bv_cons, hd, Nat.add_comm (nl a n), hst.1]; show 0 + 2 * _ = _; omega)
        rw [hd, Nat.add_comm (nl a n), hst.2] at hq
        have e3 : List.replicate (n + 1) (0 : Int) ++ Qs = List.replicate n 0 ++ (0 :: Qs) := by rw [List.replicate_succ', List.append_assoc]; rfl
        rw [e3]
        exact hq
    · have hst := step_ge h0 hv hR.symm (by omega) (Nat.le_of_not_lt hge)
      rw [decide_eq_false hge] at hless
      have hminus := minus_ev (Bit.bits (2 * R + nl a n)) b (ok_bits _) ob (by omega) (by rw [bv_bits]; omega)
      rw [bv_bits] at hminus
      refine Ev.step (f := fun k => (moraineref02_cut.f k (rd a (n : Int) :: Bit.bits R)).bind fun t => (moraineref02_less.f k t b).bind fun t2 => if t2 = true then moraineref02_parts.l0 k a b (List.replicate (n + 1) 0 ++ Qs) t ((n : Int) - 1) else (moraineref02_minus.f k t b).bind fun t3 => if (n : Int) < ((List.replicate (n + 1) (0 : Int) ++ Qs).length : Int) then moraineref02_parts.l0 k a b ((List.replicate (n + 1) 0 ++ Qs).set (n : Int).toNat 1) t3 ((n : Int) - 1) else none) (fun k => ?_) ?_
      · rw [moraineref02_parts.l0, if_pos (by omega), if_pos (by omega), if_pos (by omega), bsome, if_pos (by rw [List.length_singleton]; omega), e0, w64s (x := (n : Int) - 1) (by omega) (by omega)]
      · refine Ev.rbind hcut (Ev.rbind hless ?_)
        simp only [Bool.false_eq_true, if_false]
        refine Ev.rbind hminus ?_
        have hlt : (n : Int) < ((List.replicate (n + 1) (0 : Int) ++ Qs).length : Int) := by rw [List.length_append, List.length_replicate]; omega
        simp only [if_pos hlt, Int.toNat_natCast]
        have hq := ih (1 :: Qs) (by rw [List.length_cons]; omega) (okB_cons ok 1 (by decide)) (by rw [bv_cons, hd, Nat.add_comm (nl a n), hst.1]; show 1 + 2 * _ = _; omega)
        rw [hd, Nat.add_comm (nl a n), hst.2] at hq
        have e3 : (List.replicate (n + 1) (0 : Int) ++ Qs).set n 1 = List.replicate n 0 ++ (1 :: Qs) := by
          rw [List.replicate_succ', List.append_assoc, List.set_append_right _ _ (by rw [List.length_replicate]; exact Nat.le_refl _), List.length_replicate, Nat.sub_self]
          rfl
        rw [e3]
        exact hq
theorem parts_ev (a b : List Int) (oa : OkB a) (ob : OkB b) (tb : tr b = b) (ha : a.length < 35184372088832) (hb : b.length < 35184372088832) (h0 : 0 < bv b) : Ev (fun k => moraineref02_parts.f k a b) (Bit.bits (bv a / bv b), Bit.bits (bv a % bv b)) := by
  have h := parts_from a b oa ob tb ha hb h0 a.length [] (by simp) okB_nil (by rw [List.drop_length]; simp [bv])
  rw [List.drop_length, List.append_nil, show bv ([] : List Int) % bv b = 0 by simp [bv], bits_zero] at h
  unfold moraineref02_parts.f
  refine Ev.congr (fun k => ?_) h
  rw [if_pos (by omega), Int.toNat_natCast, if_pos (by omega), w64s (by omega) (by omega)]
end Go.Proofs.YthhpnlbeniihhaaDoor.RefA
namespace Go.Proofs.YthhpnlbeniihhaaDoor.RefB
open Go.RowKit Go.Proofs.YthhpnlbeniihhaaDoorW.PrintWords Go.Proofs.YthhpnlbeniihhaaDoorW.PrintLast Go.Proofs.YthhpnlbeniihhaaDoorW.PrintMore Go.Proofs.YthhpnlbeniihhaaDoor.Limb Go.Proofs.YthhpnlbeniihhaaDoor.Bit Go.Proofs.YthhpnlbeniihhaaDoor.NumA Go.Proofs.YthhpnlbeniihhaaDoor.NumE Go.Proofs.YthhpnlbeniihhaaDoor.NumG Go.Proofs.YthhpnlbeniihhaaDoor.Quo Go.Proofs.YthhpnlbeniihhaaDoor.RefA Go.Proofs.YthhpnlbeniihhaaDoor.PRef
set_option linter.unusedVariables false
set_option linter.unusedSimpArgs false
theorem shr_bit (x t : Nat) (hx : x < 4294967296) (ht : t < 32) : Go.bits .and .u32 (shr .u32 (x : Int) (t : Int)) 1 % 256 = ((x / 2 ^ t % 2 : Nat) : Int) := by
  have h := NumO.bit_and x t hx
  have e : shr .u32 (x : Int) (t : Int) = (x : Int) / 2 ^ t := by
    unfold shr
    rw [Int.toNat_natCast, Nat.min_eq_left (by show t ≤ 32; omega)]
  rw [e, h]
  omega
theorem mod_next (m j : Nat) : m % 2 ^ (j + 1) = m % 2 ^ j + 2 ^ j * (m / 2 ^ j % 2) := by
  rw [Nat.pow_succ, Nat.mod_mul]
theorem value_inner (neg : Bool) (l : List Int) (ok : OkL l) (hl : l.length < 1099511627776) (i : Nat) (hi : i < l.length) (R : Bool × List Int)
    (h : ∀ y : List Int, y.length = 32 * (i + 1) → OkB y → bv y = mag l % 2 ^ (32 * (i + 1)) → Ev (fun k => moraineref02_Value.l0 k y ((i + 1 : Nat) : Int) neg l) R) (e : Nat) :
    ∀ (t : Nat) (x3 : List Int), t + e = 32 → x3.length = 32 * i + t → OkB x3 → bv x3 = mag l % 2 ^ (32 * i + t) → Ev (fun k => moraineref02_Value.l1 k x3 (i : Int) (t : Int) neg l) R := by
  induction e with
  | zero =>
    intro t x3 ht hx ob hv
    obtain rfl : t = 32 := by omega
    refine Ev.step (f := fun k => moraineref02_Value.l0 k x3 ((i + 1 : Nat) : Int) neg l) (fun k => ?_) (h x3 (by omega) ob (by rw [hv]; congr 2))
    rw [moraineref02_Value.l1, if_neg (by decide), w_next i (by omega)]
  | succ e ih =>
    intro t x3 ht hx ob hv
    have ht2 : t < 32 := by omega
    have hn : rd l (i : Int) = ((nl l i : Nat) : Int) := (nl_cast ok i).symm
    have hb : nl l i < 4294967296 := nl_lt ok i
    have hbit := bit_limb ok (32 * i + t)
    rw [show (32 * i + t) / 32 = i by omega, show (32 * i + t) % 32 = t by omega] at hbit
    have hb2 : nl l i / 2 ^ t % 2 ≤ 1 := by omega
    refine Ev.step (f := fun k => moraineref02_Value.l1 k (x3 ++ [((nl l i / 2 ^ t % 2 : Nat) : Int)]) (i : Int) ((t + 1 : Nat) : Int) neg l) (fun k => ?_) ?_
    · rw [moraineref02_Value.l1, if_pos (by omega), if_pos (by omega), if_pos (by omega), if_pos (by omega), if_pos (by omega), hn, shr_bit _ _ hb ht2, w_next t (by omega)]
    · refine ih (t + 1) _ (by omega) (by rw [List.length_append, hx]; rfl) (okB_snoc ob _ hb2) ?_
      rw [bv_snoc, hx, hv, ← hbit, ← Nat.add_assoc, mod_next]
theorem value_outer (neg : Bool) (l : List Int) (ok : OkL l) (hl : l.length < 1099511627776) (d : Nat) :
    ∀ (i : Nat) (x3 : List Int), i + d = l.length → x3.length = 32 * i → OkB x3 → bv x3 = mag l % 2 ^ (32 * i) → Ev (fun k => moraineref02_Value.l0 k x3 (i : Int) neg l) (neg && decide (mag l ≠ 0), Bit.bits (mag l)) := by
  induction d with
  | zero =>
    intro i x3 hi hx ob hv
    obtain rfl : i = l.length := by omega
    have hm : mag l < 2 ^ (32 * l.length) := by
      have := mag_lt ok
      rw [Nat.pow_mul]
      exact this
    rw [Nat.mod_eq_of_lt hm] at hv
    have ht : tr x3 = Bit.bits (mag l) := by rw [tr_bits ob, hv]
    have hlen : decide (0 < (Bit.bits (mag l)).length) = decide (mag l ≠ 0) := by
      rw [decide_eq_decide]
      have := bits_len (mag l) 0
      rw [Nat.pow_zero] at this
      omega
    have hval := value_ev neg x3 (by omega)
    rw [ht, hlen] at hval
    refine Ev.step (f := fun k => (moraineref02_value.f k neg x3).bind fun bt => some (bt.1, bt.2)) (fun k => ?_) ?_
    · rw [moraineref02_Value.l0, if_neg (by omega)]
    · refine Ev.rbind hval ?_
      exact Ev.now _
  | succ d ih =>
    intro i x3 hi hx ob hv
    refine Ev.step (f := fun k => moraineref02_Value.l1 k x3 (i : Int) ((0 : Nat) : Int) neg l) (fun k => ?_) ?_
    · rw [moraineref02_Value.l0, if_pos (by omega)]; rfl
    · exact value_inner neg l ok hl i (by omega) _ (fun y hy oy hvy => ih (i + 1) y (by omega) hy oy hvy) 32 0 x3 (by omega) (by omega) ob hv
/-- Value: the bits of a number; the sign of nought is struck. -/
theorem Value_ev (neg : Bool) (l : List Int) (ok : OkL l) (hl : l.length < 1099511627776) : Ev (fun k => moraineref02_Value.f k neg l) (neg && decide (mag l ≠ 0), Bit.bits (mag l)) :=
  value_outer neg l ok hl l.length 0 [] (by omega) rfl okB_nil (by simp [bv, Nat.mod_one])
end Go.Proofs.YthhpnlbeniihhaaDoor.RefB
-- Printed by a program of this session's (wip/tools/printr.py, over the kit's print program).
namespace Go.Proofs.YthhpnlbeniihhaaDoor.PRef
open Go.RowKit Go.Proofs.YthhpnlbeniihhaaDoorW.PrintWords Go.Proofs.YthhpnlbeniihhaaDoorW.PrintLast Go.Proofs.YthhpnlbeniihhaaDoorW.PrintMore
attribute [local go_sem] max2_int min2_int max_two min_two max_three min_three max_four min_four   -- for this text's walks alone
set_option linter.unusedVariables false
set_option linter.unusedSimpArgs false
def moraineref02_Copy.f (a0_0 : Bool) (l0_1 : List Int) : Option (Bool × List Int) := (some (([] : List Int) : List Int)).bind fun y261 => (if y261.length + l0_1.length < 35184372088832 then (some (a0_0, (y261 ++ l0_1))) else (none))
def moraineref02_Copy.T1 : Bool × List (List Nat × List Nat) := (true, [([], []), ([0], [0]), ([], []), ([], []), ([3], [3]), ([2, 4], [2, 4]), ([1, 5], [1, 5]), ([6, 5, 0, 1, 2, 3, 4, 5, 6], [6])])
def moraineref02_Copy.B1 : List Nat := [0, 1, 0, 0, 8, 28, 63, 127]
theorem moraineref02_Copy.tab1 : rtab .any (opsOf Tryd.f28 1) = moraineref02_Copy.T1 := by kernel_rfl
theorem moraineref02_Copy.bits1 : waitsOk moraineref02_Copy.T1.2 moraineref02_Copy.B1 = true := by kernel_rfl
set_option maxHeartbeats 8000000 in
set_option maxRecDepth 100000 in
theorem moraineref02_Copy.calls (a0_0 : Bool) (A0_1 : Option Addr) (c0_1 : Nat) (l0_1 : List Int) (r1 : Bool) (r2 : List Int) (w : World) (hr0_1 : Kd.C (Kd.int .u32) w A0_1 l0_1.length l0_1) (hc0_1 : l0_1.length ≤ c0_1) (h : moraineref02_Copy.f a0_0 l0_1 = some (r1, r2)) :
  Calls Tryd.prog 28 #[.agg #[.bool a0_0, .slice A0_1 l0_1.length c0_1]] w fun e w' => ∃ v1_ : Value, e = .returned (.agg #[.bool r1, v1_]) ∧ Kd.R (Kd.int .u32) 63 w' w.heap.size (fun _ => True) v1_ r2 ∧ Below w.heap.size w w' := by
 have hu25 := Tryd.underlying25
 have HR0_1 := Aside0.mk hr0_1
 have HC0_1 := Aside0.mk hc0_1
 clear hr0_1 hc0_1
 have HB := Aside0.mk (Below.refl w.heap.size w)
 have H : ((some (([] : List Int) : List Int)).bind fun y261 => (if y261.length + l0_1.length < 35184372088832 then (some (a0_0, (y261 ++ l0_1))) else (none))) = some (r1, r2) := h
 clear h
 obtain ⟨y261, hy261⟩ : ∃ y_ : List Int, y_ = (([] : List Int)) := ⟨_, rfl⟩
 replace H : (if y261.length + l0_1.length < 35184372088832 then (some (a0_0, (y261 ++ l0_1))) else (none)) = some (r1, r2) := by first | (rw [hy261]; with_reducible exact H) | (have H2_ := (Option.bind_some _ _).symm.trans H; rw [hy261]; with_reducible exact H2_) | (have H2_ := (Option.bind_some _ _).symm.trans H; with_reducible exact H2_) | with_reducible exact H | (rw [hy261]; exact H) | exact H
 have Ny261 := Aside0.mk hy261
 clear hy261
 by_cases c2 : y261.length + l0_1.length < 35184372088832
 ·rw [if_pos c2] at H
  have LMc2 := Aside0.mk c2
  clear c2
  obtain ⟨y264, hy264⟩ : ∃ y_ : List Int, y_ = (y261 ++ l0_1) := ⟨_, rfl⟩
  replace H : (some (a0_0, y264)) = some (r1, r2) := by first | (rw [hy264]; with_reducible exact H) | (have H2_ := (Option.bind_some _ _).symm.trans H; rw [hy264]; with_reducible exact H2_) | (have H2_ := (Option.bind_some _ _).symm.trans H; with_reducible exact H2_) | with_reducible exact H | (rw [hy264]; exact H) | exact H
  have Ny264 := Aside0.mk hy264
  clear hy264
  simp only [Option.some.injEq, Prod.mk.injEq] at H
  obtain ⟨rfl, rfl⟩ := H
  go_enter Tryd.func28, Tryd.ntmps28
  try go_wp2_with (first | ((with_reducible refine gate_dst (N := 1) rfl ?_); refine box_event ?hg (N := 1) ?hd (cs := #[.bool a0_0, .slice A0_1 l0_1.length c0_1]) (t := 25) ?hr ?_; (case hd => rfl); (case hg => rfl); (case hr => go_simp <;> rfl); intro gb259 hg w3 hbox hb; have BK259 := Aside0.mk (hbox); have GW259 := qg hg (by repeat (first | (with_reducible first | exact HB.out | apply qx | apply qv | apply qw) | exact HB.out)); have GE259 := GW259; replace HB := Aside0.mk (below_step (by repeat (first | (with_reducible first | exact HB.out | apply qx | apply qv | apply qw) | exact HB.out)) hb); clear hb hbox hg) | ((with_reducible refine gate_dst (N := 2) rfl ?_); refine box_event ?hg (N := 2) ?hd (cs := #[.bool false, .slice none 0 0]) (t := 25) ?hr ?_; (case hd => rfl); (case hg => rfl); (case hr => go_simp <;> rfl); intro gb260 hg w4 hbox hb; have BK260 := Aside0.mk (hbox); have GW260 := qg hg (by repeat (first | (with_reducible first | exact HB.out | apply qx | apply qv | apply qw | refine below_set ?_ GE259.out) | exact HB.out)); have GE260 := GW260; replace HB := Aside0.mk (below_step (by repeat (first | (with_reducible first | exact HB.out | apply qx | apply qv | apply qw | refine below_set ?_ GE259.out) | exact HB.out)) hb); have NB259_260 := qn BK259 hg; have NB260_259 := qm BK259 hg; replace BK259 := qb BK259 hb; clear hb hbox hg))
  replace BK259 := Aside0.mk (blk_drew BK259.out)
  replace BK260 := Aside0.mk (blk_drew BK260.out)
  replace HB := Aside0.mk (below_drew1 HB.out)
  refine start_ (n := 8) (S := fun w' => w'.cell? ⟨gb259, 0, none⟩ = some (.bool a0_0) ∧ w'.cell? ⟨gb259, 1, none⟩ = some (.slice A0_1 l0_1.length c0_1)) (ds := []) #[false, false, false, false, false, false, false, false] (by kernel_rfl) rfl rfl ⟨qc BK259 0, qc BK259 1⟩ (fun hHeld => ?_); refine with_tabW moraineref02_Copy.tab1 moraineref02_Copy.bits1 (fun HT_ HW_ => ?_)
  generalize w4.drew = w5 at BK259 BK260 HB hHeld ⊢
  refine pure_ (i := 0) (N := some 3) (v := ?_) (a' := ?_) #[true, false, false, false, false, false, false, false] rfl rfl (any_of HT_.out (by kernel_rfl)) (fun _ _ _ h => h) (Or.inl ⟨by rfl, ?_⟩) ?_ ?_
  rotate_left
  ·intro w'
   go_simp
   with_reducible rfl
  rotate_left
  ·simp only [Act.put, zA, zB, zC, i64_w, i32_w]
   rfl
  refine pure_ (i := 3) (N := some 6) (v := ?_) (a' := ?_) #[true, false, false, true, false, false, false, false] rfl rfl (any_of HT_.out (by kernel_rfl)) (fun _ _ _ h => h) (Or.inl ⟨by rfl, ?_⟩) ?_ ?_
  rotate_left
  ·intro w'
   go_simp
   with_reducible rfl
  rotate_left
  ·simp only [Act.put, zA, zB, zC, i64_w, i32_w]
   rfl
  refine take_ (i := 1) (N := some 4) (v := ?_) (a' := ?_) #[true, true, false, true, false, false, false, false] rfl rfl (take_ofW HT_.out HW_.out (by kernel_rfl)) (fun _ _ _ h => h) (Or.inl ⟨by rfl, ?_⟩) hHeld ?_ ?_
  rotate_left
  ·rintro w' ⟨s0, s1⟩
   go_simp
   with_reducible rfl
  rotate_left
  ·simp only [Act.put, zA, zB, zC, i64_w, i32_w]
   rfl
  refine take_ (i := 4) (N := some 7) (v := ?_) (a' := ?_) #[true, true, false, true, true, false, false, false] rfl rfl (take_ofW HT_.out HW_.out (by kernel_rfl)) (fun _ _ _ h => h) (Or.inl ⟨by rfl, ?_⟩) hHeld ?_ ?_
  rotate_left
  ·rintro w' ⟨s0, s1⟩
   go_simp
   with_reducible rfl
  rotate_left
  ·simp only [Act.put, zA, zB, zC, i64_w, i32_w]
   rfl
  refine one_ (i := 2) (N := some 5) #[true, true, true, true, true, false, false, false] rfl rfl (one_of HT_.out (by kernel_rfl)) (by decide) (fun K hK => ?_)
  refine Kd.R_lit_step (Kd.int .u32) _ 63 ?hg (N := 5) ?hd (xs := ([] : List Int)) (inner := []) (ok := fun _ => True) (okp := fun _ => True) ?hr ?hp (fun _ hk => hk) trivial (Below.refl _ _) (Nat.le_refl _) (by simp) ?_; (case hd => rfl); (case hg => rfl); (case hr => go_simp <;> rfl); (case hp => exact (Reps.none _ _))
  intro v262 w6 ho7 hb hg_ hnew_
  clear hg_ hnew_
  (first | rw [← Ny261.out] at ho7 | (simp only [Int.reduceToNat] at ho7; rw [← Ny261.out] at ho7))
  have HO263 := Aside0.mk (Kd.R_lower ho7 (below_size (by repeat with_reducible first|exact HB.out|apply qx|apply qv|apply qw|refine qs ?_ (by assumption))))
  replace BK259 := qb BK259 hb
  replace BK260 := qb BK260 hb
  replace HB := Aside0.mk (below_step (by repeat with_reducible first|exact HB.out|apply qx|apply qv|apply qw|refine qs ?_ (by assumption)) hb)
  clear hb ho7
  refine hK.out _ _ ⟨qc BK259 0, qc BK259 1⟩ (fun hHeld => ?_)
  clear hK K
  refine norm_ (a' := ?_) ?_ ?_
  rotate_left
  ·show Act.put _ (some 5) _ = _
   simp only [Act.put, zA, zB, zC, i64_w, i32_w]
   rfl
  refine one_ (i := 5) (N := some 8) #[true, true, true, true, true, true, false, false] rfl rfl (one_of HT_.out (by kernel_rfl)) (by decide) (fun K hK => ?_)
  refine Kd.R_append_rows_step (Kd.int .u32) (w0 := w) w.heap.size (by rfl) (.tmp 5) (.tmp 7) 23 63 (.int .u32 0) 4 rfl Tryd.underlying23 info63 rfl (by decide) (by omega) v262 y261 l0_1 _ _ _ (fun _ => True) (fun _ => False) rfl rfl ?aO ?aR (fun _ _ h => h) (fun _ h => h.elim) ?aF ?aB ?aS ?aL ?_
  (case aR => exact qC HR0_1 HB)
  (case aB => exact (by repeat with_reducible first|exact HB.out|apply qx|apply qv|apply qw|refine qs ?_ (by assumption)))
  (case aF => exact (fun _ _ => trivial))
  (case aO => exact (by (with_reducible repeat first|apply Kd.R_alloc|apply Kd.R_drewN|apply Kd.R_drew); exact HO263.out))
  (case aS => exact (below_size (by repeat with_reducible first|exact HB.out|apply qx|apply qv|apply qw|refine qs ?_ (by assumption))))
  (case aL => have := LMc2.out; omega)
  intro v265 w8 ho hb hg hat
  rw [← Ny264.out] at ho
  have n0_ := Aside0.mk (blk_grown (g := gb259) (o := .cells #[.bool a0_0, .slice A0_1 l0_1.length c0_1] 25 (0, 0)) (by (with_reducible repeat first|refine qN ?_ _|refine qW ?_|refine qA ?_ _); exact BK259.out) hg (Kd.R_ne HO263.out BK259.out (by decide)))
  have n1_ := Aside0.mk (blk_grown (g := gb260) (o := .cells #[.bool false, .slice none 0 0] 25 (0, 0)) (by (with_reducible repeat first|refine qN ?_ _|refine qW ?_|refine qA ?_ _); exact BK260.out) hg (Kd.R_ne HO263.out BK260.out (by decide)))
  have n2_ := Aside0.mk (hb)
  have n3_ := Aside0.mk (ho)
  clear BK259
  clear BK260
  clear HB
  clear HO263
  have BK259 := n0_
  have BK260 := n1_
  have HB := n2_
  have HO266 := n3_
  clear n0_ n1_ n2_ n3_
  clear ho hb hg hat
  obtain ⟨Ao9, co9, eo9⟩ := Kd.R_slice HO266.out
  (first | subst eo9 | (injection eo9 with f1_ f2_ f3_; have f4_ := f1_.symm; have f5_ := f3_.symm; clear f1_ f2_ f3_; subst f4_; subst f5_))
  refine hK.out _ _ ⟨qc BK259 0, qc BK259 1⟩ (fun hHeld => ?_)
  clear hK K
  refine norm_ (a' := ?_) ?_ ?_
  rotate_left
  ·show Act.put _ (some 8) _ = _
   simp only [Act.put, zA, zB, zC, i64_w, i32_w]
   rfl
  refine pure_ (i := 6) (N := some 9) (v := ?_) (a' := ?_) #[true, true, true, true, true, true, true, false] rfl rfl (any_of HT_.out (by kernel_rfl)) (fun _ _ _ h => h) (Or.inl ⟨by rfl, ?_⟩) ?_ ?_
  rotate_left
  ·intro w'
   go_simp
   with_reducible rfl
  rotate_left
  ·simp only [Act.put, zA, zB, zC, i64_w, i32_w]
   rfl
  refine one_ (i := 7) (N := none) #[true, true, true, true, true, true, true, true] rfl rfl (one_of HT_.out (by kernel_rfl)) (by decide) (fun K hK => ?_)
  have hs10 : w8.cell? ⟨gb260, 0, none⟩ = some (.bool false) := qc BK260 0
  have hfs10 := blk_frozen BK260.out 0
  have hns10_0 := NB259_260.out
  have hms10_0 := NB260_259.out
  have hs11 : w8.cell? ⟨gb260, 1, none⟩ = some (.slice none 0 0) := qc BK260 1
  have hfs11 := blk_frozen BK260.out 1
  have hns11_0 := NB259_260.out
  have hms11_0 := NB260_259.out
  refine skip_ (w1 := ?_) (by rfl) rfl ?_ ?_
  rotate_left
  ·go_simp
   rfl
  refine hK.out _ _ ⟨((cell_far (p := ⟨gb260, _, none⟩) NB259_260.out _).trans (((cell_far (p := ⟨gb260, _, none⟩) NB259_260.out _).trans (hHeld.1)))), ((cell_far (p := ⟨gb260, _, none⟩) NB259_260.out _).trans (((cell_far (p := ⟨gb260, _, none⟩) NB259_260.out _).trans (hHeld.2))))⟩ (fun hHeld => ?_)
  clear hK K
  refine done_ (done_of HT_.out (by kernel_rfl)) ?_
  try go_wp2
  refine bodyPost_ret (results_cell_row rfl _ _ gb260 25 #[.bool a0_0, .slice Ao9 y264.length co9] (0, 0) _ rfl (by (with_reducible repeat first|refine qN ?_ _|refine qW ?_|refine qA ?_ _); refine blk_put (cs := #[.bool a0_0, .slice none 0 0]) ?_ 1 _ rfl; (with_reducible repeat first|refine qN ?_ _|refine qW ?_|refine qA ?_ _); refine blk_put (cs := #[.bool false, .slice none 0 0]) ?_ 0 _ rfl; (with_reducible repeat first|refine qN ?_ _|refine qW ?_|refine qA ?_ _); exact BK260.out) Tryd.underlying25 rfl (by kernel_rfl)) rfl ?_
  exact ⟨_, by first | rfl | (simp [errW_none, errW_some] <;> rfl) | (simp [*, errW_none, errW_some] <;> rfl), by (with_reducible repeat first|apply Kd.R_alloc|apply Kd.R_drewN|apply Kd.R_drew); exact Kd.R_mono (qz HO266 BK260 (by decide) (.bool a0_0) (.slice Ao9 y264.length co9)) (fun _ hk => trivial), by repeat (first | (with_reducible first | exact HB.out | apply qx | apply qv | apply qw | refine qs ?_ (by assumption)) | exact HB.out)⟩
 ·rw [if_neg c2] at H
  exact absurd H (by simp)
end Go.Proofs.YthhpnlbeniihhaaDoor.PRef
