/- Of any two numbers: the quotient and the rests are what division says (law NumDivision). Conditions: none. -/
import Derived.Test.YthhpnlbeniihhaaDoorTie
import Derived.WalkKit
import Derived.ProofKit
import Derived.OpenShut
import Derived.Deep.DeepHandedRow
import Derived.Carry
import Derived.Test.YthhpnlbeniihhaaDoorCNumDivision3
namespace Go.Proofs.YthhpnlbeniihhaaDoor.WalkDivision
open Go.RowKit Go.Proofs.YthhpnlbeniihhaaDoorW.PrintWords Go.Proofs.YthhpnlbeniihhaaDoorW.PrintLast Go.Proofs.YthhpnlbeniihhaaDoorW.PrintMore Go.Proofs.YthhpnlbeniihhaaDoor Go.Proofs.YthhpnlbeniihhaaDoor.Limb Go.Proofs.YthhpnlbeniihhaaDoor.Bit Go.Proofs.YthhpnlbeniihhaaDoor.NumA Go.Proofs.YthhpnlbeniihhaaDoor.NumB Go.Proofs.YthhpnlbeniihhaaDoor.NumG Go.Proofs.YthhpnlbeniihhaaDoor.NumJ Go.Proofs.YthhpnlbeniihhaaDoor.Vals Go.Proofs.YthhpnlbeniihhaaDoor.Plain Go.Proofs.YthhpnlbeniihhaaDoor.Raw Go.Proofs.YthhpnlbeniihhaaDoor.Ref Go.Proofs.YthhpnlbeniihhaaDoor.RefC Go.Proofs.YthhpnlbeniihhaaDoor.LawKit
set_option linter.unusedVariables false
set_option linter.unusedSimpArgs false
theorem fmod_facts (x y : Int) (h : y ≠ 0) : (x.fmod y).natAbs < y.natAbs ∧ (x.fmod y = x.tmod y ∨ x.fmod y = x.tmod y + y) ∧ (x.fmod y ≠ 0 → (x.fmod y).sign = y.sign) ∧ (x.tmod y = 0 ↔ x.fmod y = 0) ∧ (x.tmod y).natAbs < y.natAbs ∧ (x.tmod y ≠ 0 → (x.tmod y).sign = x.sign) ∧ (x.tmod y).natAbs ≤ x.natAbs := by
  have hr : (Int.tmod x y).natAbs = x.natAbs % y.natAbs := Int.natAbs_tmod ..
  have hlt : x.natAbs % y.natAbs < y.natAbs := Nat.mod_lt _ (by omega)
  have hle : x.natAbs % y.natAbs ≤ x.natAbs := Nat.mod_le _ _
  have hs : (0 ≤ x → 0 ≤ x.tmod y) ∧ (x ≤ 0 → x.tmod y ≤ 0) := by
    constructor
    · intro h; exact Int.tmod_nonneg _ h
    · intro h
      have : 0 ≤ (-x).tmod y := Int.tmod_nonneg _ (by omega)
      rw [Int.neg_tmod] at this; omega
  have sg : ∀ a b : Int, (0 < a ∧ 0 < b) ∨ (a < 0 ∧ b < 0) → a.sign = b.sign := by
    rintro a b (⟨h1, h2⟩ | ⟨h1, h2⟩)
    · rw [Int.sign_eq_one_of_pos h1, Int.sign_eq_one_of_pos h2]
    · rw [Int.sign_eq_neg_one_of_neg h1, Int.sign_eq_neg_one_of_neg h2]
  have hf : x.fmod y = if (x < 0 ∧ 0 < y ∨ 0 ≤ x ∧ y < 0) ∧ x.tmod y ≠ 0 then x.tmod y + y else x.tmod y := by
    rw [Int.fmod_eq_tmod]
    by_cases hd : y ∣ x
    · have : x.tmod y = 0 := Int.tmod_eq_zero_of_dvd hd
      simp [hd, this]
    · have hne : x.tmod y ≠ 0 := fun h => hd (Int.dvd_of_tmod_eq_zero h)
      by_cases hx : x < 0 <;> by_cases hy : y < 0 <;> simp [hx, hy, hd, hne] <;> omega
  generalize x.tmod y = r at *
  generalize x.fmod y = m at *
  by_cases hc : (x < 0 ∧ 0 < y ∨ 0 ≤ x ∧ y < 0) ∧ r ≠ 0
  · rw [if_pos hc] at hf
    exact ⟨by omega, .inr hf, fun _ => sg _ _ (by omega), by omega, by omega, fun _ => sg _ _ (by omega), by omega⟩
  · rw [if_neg hc] at hf
    exact ⟨by omega, .inl hf, fun hm => sg _ _ (by omega), by omega, by omega, fun hm => sg _ _ (by omega), by omega⟩
theorem cmp_abs {r y : Int} (fr : Fits r) (fy : Fits y) (h : r.natAbs < y.natAbs) : num_Cmp.f false (sl r) false (sl y) = some (-1) := by
  rw [cmp_raw (okN_sl fr) (okN_sl fy)]
  unfold val
  rw [if_neg (by decide), if_neg (by decide), mag_sl, mag_sl]
  unfold cmpI
  rw [if_pos (by omega)]
theorem fits_le {a b : Int} (h : Fits b) (hle : a.natAbs ≤ b.natAbs) : Fits a := Nat.lt_of_le_of_lt hle h
set_option maxRecDepth 100000 in
set_option maxHeartbeats 16000000 in
theorem walk (n0 : Bool) (A0 : Option Addr) (c0 : Nat) (l0 : List Int) (n1 : Bool) (A1 : Option Addr) (c1 : Nat) (l1 : List Int) (w : World) (hr0 : Kd.C (Kd.int .u32) w A0 l0.length l0) (hc0 : l0.length ≤ c0) (hr1 : Kd.C (Kd.int .u32) w A1 l1.length l1) (hc1 : l1.length ≤ c1) (ok0 : OkL l0) (ok1 : OkL l1) (ht : NumV.Tab w) :
    Calls Tryd.prog 16 #[.agg #[.bool n0, .slice A0 l0.length c0], .agg #[.bool n1, .slice A1 l1.length c1]] w fun e w' => e = .returned (.bool true) ∧ Below w.heap.size w w' := by
  have HT := Aside0.mk ht
  have HR0 := Aside0.mk hr0
  have HC0 := Aside0.mk hc0
  have HR1 := Aside0.mk hr1
  have HC1 := Aside0.mk hc1
  have S1 := ((St.start w).boxed #[.bool n0, .slice A0 l0.length c0] 25 (by decide)).boxed #[.bool n1, .slice A1 l1.length c1] 25 (by decide)
  simp only [World.size_alloc] at S1
  have HS := Aside0.mk S1
  clear S1 hr0 hc0 hr1 hc1 ht
  by_cases h1 : (l0.length : Int) > 60
  · skip
    have ha := decide_eq_true h1
    clear h1
    go_enter Tryd.func16, Tryd.ntmps16
    obtain ⟨ua0, ua1⟩ := HS.out.cells 1 rfl
    go_wp2_with fail
    refine (long_calls n0 l0 A0 c0 true ha _ (HS.out.came HR0.out) HC0.out).mono ?_
    rintro e w1_ ⟨rfl, hb⟩
    clear ua0 ua1
    have HN := Aside0.mk (HS.out.call hb)
    clear HS
    have HS := HN
    clear HN
    clear hb
    go_wp2_with fail
    refine (awake_calls _ (NumV.Tab.below HT.out HS.out.below)).mono ?_
    rintro e w2_ ⟨rfl, hb⟩
    have HN := Aside0.mk (HS.out.call hb)
    clear HS
    have HS := HN
    clear HN
    clear hb
    go_wp2
    go_ret
    exact ⟨rfl, HS.out.below⟩
  · skip
    have ha := decide_eq_false h1
    by_cases h2 : (l1.length : Int) > 60
    · skip
      have hb1 := decide_eq_true h2
      clear h1 h2
      go_enter Tryd.func16, Tryd.ntmps16
      obtain ⟨ua0, ua1⟩ := HS.out.cells 1 rfl
      go_wp2_with fail
      refine (long_calls n0 l0 A0 c0 false ha _ (HS.out.came HR0.out) HC0.out).mono ?_
      rintro e w1_ ⟨rfl, hb⟩
      clear ua0 ua1
      have HN := Aside0.mk (HS.out.call hb)
      clear HS
      have HS := HN
      clear HN
      clear hb
      obtain ⟨ub0, ub1⟩ := HS.out.cells 0 rfl
      go_wp2_with fail
      refine (long_calls n1 l1 A1 c1 true hb1 _ (HS.out.came HR1.out) HC1.out).mono ?_
      rintro e w2_ ⟨rfl, hb⟩
      clear ub0 ub1
      have HN := Aside0.mk (HS.out.call hb)
      clear HS
      have HS := HN
      clear HN
      clear hb
      go_wp2_with fail
      refine (awake_calls _ (NumV.Tab.below HT.out HS.out.below)).mono ?_
      rintro e w3_ ⟨rfl, hb⟩
      have HN := Aside0.mk (HS.out.call hb)
      clear HS
      have HS := HN
      clear HN
      clear hb
      go_wp2
      go_ret
      exact ⟨rfl, HS.out.below⟩
    · skip
      have hb1 := decide_eq_false h2
      have kl : okN l0 := ⟨ok0, by omega⟩
      have km : okN l1 := ⟨ok1, by omega⟩
      have ex := norm_raw (n := n0) kl
      have ey := norm_raw (n := n1) km
      clear h1 h2 ok0 ok1
      generalize val n0 l0 = x at *
      generalize val n1 l1 = y at *
      by_cases fx : Fits x
      · skip
        rw [mkI_fits fx] at ex
        by_cases fy : Fits y
        · skip
          rw [mkI_fits fy] at ey
          have HNA := Aside0.mk ex
          have HNB := Aside0.mk ey
          by_cases y0 : y = 0
          · skip
            have HSB := Aside0.mk (show num_Sign.f (sb y) (sl y) = some 0 by rw [sign_at fy, y0]; rfl)
            clear fx fy ex ey kl km y0
            go_enter Tryd.func16, Tryd.ntmps16
            obtain ⟨ua0, ua1⟩ := HS.out.cells 1 rfl
            go_wp2_with fail
            refine (long_calls n0 l0 A0 c0 false ha _ (HS.out.came HR0.out) HC0.out).mono ?_
            rintro e w1_ ⟨rfl, hb⟩
            clear ua0 ua1
            have HN := Aside0.mk (HS.out.call hb)
            clear HS
            have HS := HN
            clear HN
            clear hb
            obtain ⟨ub0, ub1⟩ := HS.out.cells 0 rfl
            go_wp2_with fail
            refine (long_calls n1 l1 A1 c1 false hb1 _ (HS.out.came HR1.out) HC1.out).mono ?_
            rintro e w2_ ⟨rfl, hb⟩
            clear ub0 ub1
            have HN := Aside0.mk (HS.out.call hb)
            clear HS
            have HS := HN
            clear HN
            clear hb
            obtain ⟨ua0, ua1⟩ := HS.out.cells 1 rfl
            go_wp2_with fail
            refine (num_Norm.calls n0 A0 c0 l0 (sb x) (sl x) 0 _ (HS.out.came HR0.out) HC0.out HNA.out).mono ?_
            rintro e w3_ ⟨v, rfl, hR, hb⟩
            clear ua0 ua1
            obtain ⟨Ana, cna, rfl⟩ := Kd.R_slice hR
            have HN := Aside0.mk (HS.out.call32 hb hR)
            clear HS
            have HS := HN
            clear HN
            clear hb hR
            obtain ⟨ua0, ua1⟩ := HS.out.cells 1 rfl
            have fa0 := HS.out.froz 1 rfl 0
            have fa1 := HS.out.froz 1 rfl 1
            have HN := Aside0.mk (HS.out.set2 1 rfl (.bool (sb x)) (.slice Ana (sl x).length cna))
            clear HS
            have HS := HN
            clear HN
            obtain ⟨ub0, ub1⟩ := HS.out.cells 0 rfl
            go_wp2_with fail
            refine (num_Norm.calls n1 A1 c1 l1 (sb y) (sl y) 0 _ (HS.out.came HR1.out) HC1.out HNB.out).mono ?_
            rintro e w4_ ⟨v, rfl, hR, hb⟩
            clear ua0 ua1 fa0 fa1 ub0 ub1
            obtain ⟨Anb, cnb, rfl⟩ := Kd.R_slice hR
            have HN := Aside0.mk (HS.out.call32 hb hR)
            clear HS
            have HS := HN
            clear HN
            clear hb hR
            obtain ⟨ub0, ub1⟩ := HS.out.cells 0 rfl
            have fb0 := HS.out.froz 0 rfl 0
            have fb1 := HS.out.froz 0 rfl 1
            have HN := Aside0.mk (HS.out.set2 0 rfl (.bool (sb y)) (.slice Anb (sl y).length cnb))
            clear HS
            have HS := HN
            clear HN
            obtain ⟨ub0, ub1⟩ := HS.out.cells 0 rfl
            go_wp2_with fail
            refine (num_Sign.calls (sb y) Anb cnb (sl y) 0 _ (HS.out.limbs 0 rfl).2.2 (HS.out.limbs 0 rfl).2.1 HSB.out).mono ?_
            rintro e w5_ ⟨rfl, hb⟩
            clear ub0 ub1 fb0 fb1
            have HN := Aside0.mk (HS.out.call hb)
            clear HS
            have HS := HN
            clear HN
            clear hb
            go_wp2_with fail
            refine (awake_calls _ (NumV.Tab.below HT.out HS.out.below)).mono ?_
            rintro e w6_ ⟨rfl, hb⟩
            have HN := Aside0.mk (HS.out.call hb)
            clear HS
            have HS := HN
            clear HN
            clear hb
            go_wp2
            go_ret
            exact ⟨rfl, HS.out.below⟩
          · skip
            obtain ⟨e1, e2, e3, e4, e5, e6, e7⟩ := fmod_facts x y y0
            have eq1 : (Int.tdiv x y).natAbs = x.natAbs / y.natAbs := by rw [Int.natAbs_tdiv]; rfl
            have fq : Fits (Int.tdiv x y) := fits_le fx (by rw [eq1]; exact Nat.div_le_self _ _)
            have exy := Int.mul_tdiv_add_tmod x y
            have hquo := quo_at fx fy
            have hrem := rem_at fx fy
            have hmod := mod_at fx fy
            rw [if_neg y0] at hquo hrem hmod
            have hs7 : (0 ≤ x → 0 ≤ x.tmod y) ∧ (x ≤ 0 → x.tmod y ≤ 0) := by
              constructor
              · intro h; exact Int.tmod_nonneg _ h
              · intro h
                have : 0 ≤ (-x).tmod y := Int.tmod_nonneg _ (by omega)
                rw [Int.neg_tmod] at this; omega
            generalize Int.tdiv x y = q at *
            generalize Int.tmod x y = r at *
            generalize Int.fmod x y = m at *
            have ep : q * y = x - r := by rw [Int.mul_comm]; omega
            have fr : Fits r := fits_le fx e7
            have fm : Fits m := fits_le fy (by omega)
            have fp : Fits (x - r) := fits_le fx (by omega)
            have hs0 : num_Sign.f (sb y) (sl y) = some y.sign := sign_at fy
            have hmul := mul_at fq fy
            have hadd := add_at fp fr
            have hcmp := cmp_at fx fx
            have hcr := cmp_abs fr fy e5
            have hcm := cmp_abs fm fy e1
            have hsub := sub_at fm fr
            rw [ep, mkI_fits fp] at hmul
            rw [show x - r + r = x by omega, mkI_fits fx] at hadd
            rw [cmp_self] at hcmp
            rw [mkI_fits fq] at hquo
            rw [mkI_fits fr] at hrem
            rw [mkI_fits fm] at hmod
            have hsr := sign_at fr
            have hsm := sign_at fm
            have hsx := sign_at fx
            have sy0 : (y.sign == 0) = false := by rw [beq_eq_false_iff_ne]; intro h; exact y0 (Int.sign_eq_zero_iff_zero.mp h)
            have H0 := Aside0.mk hs0
            have H1 := Aside0.mk hquo
            have H2 := Aside0.mk hrem
            have H3 := Aside0.mk hmod
            have H4 := Aside0.mk hmul
            have H5 := Aside0.mk hadd
            have H6 := Aside0.mk hcmp
            have H7 := Aside0.mk hcr
            have H8 := Aside0.mk hcm
            have HFY := Aside0.mk fy
            generalize hsg : y.sign = sy at *
            have HSY := Aside0.mk hsg
            clear hsg eq1 exy ep e1 e5 e7 hs7 hs0 hquo hrem hmod hmul hadd hcmp hcr hcm fq fp kl km ex ey
            by_cases r0 : r = 0
            · skip
              have m0 : m = 0 := e4.mp r0
              rw [r0] at hsr
              rw [m0] at hsm
              rw [m0, r0, show (0 : Int) - 0 = 0 from rfl, mkI_fits fits_zero, ← m0] at hsub
              have HR := Aside0.mk (show num_Sign.f (sb r) (sl r) = some 0 by rw [r0]; exact hsr)
              have HM := Aside0.mk (show num_Sign.f (sb m) (sl m) = some 0 by rw [m0]; exact hsm)
              have HD := Aside0.mk (show num_Sub.f (sb m) (sl m) (sb r) (sl r) = some (sb 0, sl 0, 0) by rw [m0, r0]; rw [m0] at hsub; exact hsub)
              have HDS := Aside0.mk (show num_Sign.f (sb 0) (sl 0) = some 0 by rw [sign_at fits_zero]; rfl)
              clear m0 r0 hsub hsr hsm hsx e2 e3 e4 e6 fx fy fr fm y0
              go_enter Tryd.func16, Tryd.ntmps16
              obtain ⟨ua0, ua1⟩ := HS.out.cells 1 rfl
              go_wp2_with fail
              refine (long_calls n0 l0 A0 c0 false ha _ (HS.out.came HR0.out) HC0.out).mono ?_
              rintro e w1_ ⟨rfl, hb⟩
              clear ua0 ua1
              have HN := Aside0.mk (HS.out.call hb)
              clear HS
              have HS := HN
              clear HN
              clear hb
              obtain ⟨ub0, ub1⟩ := HS.out.cells 0 rfl
              go_wp2_with fail
              refine (long_calls n1 l1 A1 c1 false hb1 _ (HS.out.came HR1.out) HC1.out).mono ?_
              rintro e w2_ ⟨rfl, hb⟩
              clear ub0 ub1
              have HN := Aside0.mk (HS.out.call hb)
              clear HS
              have HS := HN
              clear HN
              clear hb
              obtain ⟨ua0, ua1⟩ := HS.out.cells 1 rfl
              go_wp2_with fail
              refine (num_Norm.calls n0 A0 c0 l0 (sb x) (sl x) 0 _ (HS.out.came HR0.out) HC0.out HNA.out).mono ?_
              rintro e w3_ ⟨v, rfl, hR, hb⟩
              clear ua0 ua1
              obtain ⟨Ana, cna, rfl⟩ := Kd.R_slice hR
              have HN := Aside0.mk (HS.out.call32 hb hR)
              clear HS
              have HS := HN
              clear HN
              clear hb hR
              obtain ⟨ua0, ua1⟩ := HS.out.cells 1 rfl
              have fa0 := HS.out.froz 1 rfl 0
              have fa1 := HS.out.froz 1 rfl 1
              have HN := Aside0.mk (HS.out.set2 1 rfl (.bool (sb x)) (.slice Ana (sl x).length cna))
              clear HS
              have HS := HN
              clear HN
              obtain ⟨ub0, ub1⟩ := HS.out.cells 0 rfl
              go_wp2_with fail
              refine (num_Norm.calls n1 A1 c1 l1 (sb y) (sl y) 0 _ (HS.out.came HR1.out) HC1.out HNB.out).mono ?_
              rintro e w4_ ⟨v, rfl, hR, hb⟩
              clear ua0 ua1 fa0 fa1 ub0 ub1
              obtain ⟨Anb, cnb, rfl⟩ := Kd.R_slice hR
              have HN := Aside0.mk (HS.out.call32 hb hR)
              clear HS
              have HS := HN
              clear HN
              clear hb hR
              obtain ⟨ub0, ub1⟩ := HS.out.cells 0 rfl
              have fb0 := HS.out.froz 0 rfl 0
              have fb1 := HS.out.froz 0 rfl 1
              have HN := Aside0.mk (HS.out.set2 0 rfl (.bool (sb y)) (.slice Anb (sl y).length cnb))
              clear HS
              have HS := HN
              clear HN
              obtain ⟨ub0, ub1⟩ := HS.out.cells 0 rfl
              go_wp2_with fail
              refine (num_Sign.calls (sb y) Anb cnb (sl y) sy _ (HS.out.limbs 0 rfl).2.2 (HS.out.limbs 0 rfl).2.1 H0.out).mono ?_
              rintro e w5_ ⟨rfl, hb⟩
              clear ub0 ub1 fb0 fb1
              have HN := Aside0.mk (HS.out.call hb)
              clear HS
              have HS := HN
              clear HN
              clear hb
              obtain ⟨ua0, ua1⟩ := HS.out.cells 1 rfl
              obtain ⟨ub0, ub1⟩ := HS.out.cells 0 rfl
              go_wp2_with fail
              refine (num_Quo.calls (sb x) Ana cna (sl x) (sb y) Anb cnb (sl y) (sb q) (sl q) 0 _ (HS.out.limbs 1 rfl).2.2 (HS.out.limbs 1 rfl).2.1 (HS.out.limbs 0 rfl).2.2 (HS.out.limbs 0 rfl).2.1 H1.out).mono ?_
              rintro e w6_ ⟨v, rfl, hR, hb⟩
              clear ua0 ua1 ub0 ub1
              obtain ⟨Aq, cq, rfl⟩ := Kd.R_slice hR
              have HN := Aside0.mk (HS.out.call32 hb hR)
              clear HS
              have HS := HN
              clear HN
              clear hb hR
              have HN := Aside0.mk (HS.out.boxed #[.bool (sb q), .slice Aq (sl q).length cq] 25 (by decide))
              clear HS
              have HS := HN
              clear HN
              obtain ⟨ua0, ua1⟩ := HS.out.cells 2 rfl
              obtain ⟨ub0, ub1⟩ := HS.out.cells 1 rfl
              go_wp2_with fail
              refine (num_Rem.calls (sb x) Ana cna (sl x) (sb y) Anb cnb (sl y) (sb r) (sl r) 0 _ (HS.out.limbs 2 rfl).2.2 (HS.out.limbs 2 rfl).2.1 (HS.out.limbs 1 rfl).2.2 (HS.out.limbs 1 rfl).2.1 H2.out).mono ?_
              rintro e w7_ ⟨v, rfl, hR, hb⟩
              clear ua0 ua1 ub0 ub1
              obtain ⟨Ar, cr, rfl⟩ := Kd.R_slice hR
              have HN := Aside0.mk (HS.out.call32 hb hR)
              clear HS
              have HS := HN
              clear HN
              clear hb hR
              have HN := Aside0.mk (HS.out.boxed #[.bool (sb r), .slice Ar (sl r).length cr] 25 (by decide))
              clear HS
              have HS := HN
              clear HN
              obtain ⟨ua0, ua1⟩ := HS.out.cells 3 rfl
              obtain ⟨ub0, ub1⟩ := HS.out.cells 2 rfl
              go_wp2_with fail
              refine (num_Mod.calls (sb x) Ana cna (sl x) (sb y) Anb cnb (sl y) (sb m) (sl m) 0 _ (HS.out.limbs 3 rfl).2.2 (HS.out.limbs 3 rfl).2.1 (HS.out.limbs 2 rfl).2.2 (HS.out.limbs 2 rfl).2.1 H3.out).mono ?_
              rintro e w8_ ⟨v, rfl, hR, hb⟩
              clear ua0 ua1 ub0 ub1
              obtain ⟨Am, cm, rfl⟩ := Kd.R_slice hR
              have HN := Aside0.mk (HS.out.call32 hb hR)
              clear HS
              have HS := HN
              clear HN
              clear hb hR
              have HN := Aside0.mk (HS.out.boxed #[.bool (sb m), .slice Am (sl m).length cm] 25 (by decide))
              clear HS
              have HS := HN
              clear HN
              obtain ⟨uq0, uq1⟩ := HS.out.cells 2 rfl
              obtain ⟨ub0, ub1⟩ := HS.out.cells 3 rfl
              go_wp2_with fail
              refine (num_Mul.calls (sb q) Aq cq (sl q) (sb y) Anb cnb (sl y) (sb (x - r)) (sl (x - r)) 0 _ (HS.out.limbs 2 rfl).2.2 (HS.out.limbs 2 rfl).2.1 (HS.out.limbs 3 rfl).2.2 (HS.out.limbs 3 rfl).2.1 H4.out).mono ?_
              rintro e w9_ ⟨v, rfl, hR, hb⟩
              clear uq0 uq1 ub0 ub1
              obtain ⟨Ap, cp, rfl⟩ := Kd.R_slice hR
              have HN := Aside0.mk (HS.out.call32 hb hR)
              clear HS
              have HS := HN
              clear HN
              clear hb hR
              have HN := Aside0.mk (HS.out.boxed #[.bool (sb (x - r)), .slice Ap (sl (x - r)).length cp] 25 (by decide))
              clear HS
              have HS := HN
              clear HN
              obtain ⟨up0, up1⟩ := HS.out.cells 0 rfl
              obtain ⟨ur0, ur1⟩ := HS.out.cells 2 rfl
              go_wp2_with fail
              refine (num_Add.calls (sb (x - r)) Ap cp (sl (x - r)) (sb r) Ar cr (sl r) (sb x) (sl x) 0 _ (HS.out.limbs 0 rfl).2.2 (HS.out.limbs 0 rfl).2.1 (HS.out.limbs 2 rfl).2.2 (HS.out.limbs 2 rfl).2.1 H5.out).mono ?_
              rintro e w10_ ⟨v, rfl, hR, hb⟩
              clear up0 up1 ur0 ur1
              obtain ⟨Ax, cx, rfl⟩ := Kd.R_slice hR
              have HN := Aside0.mk (HS.out.call32 hb hR)
              clear HS
              have HS := HN
              clear HN
              clear hb hR
              have HN := Aside0.mk (HS.out.boxed #[.bool (sb x), .slice Ax (sl x).length cx] 25 (by decide))
              clear HS
              have HS := HN
              clear HN
              obtain ⟨ux0, ux1⟩ := HS.out.cells 0 rfl
              obtain ⟨ua0, ua1⟩ := HS.out.cells 6 rfl
              go_wp2_with fail
              refine (num_Cmp.calls (sb x) Ax cx (sl x) (sb x) Ana cna (sl x) 0 _ (HS.out.limbs 0 rfl).2.2 (HS.out.limbs 0 rfl).2.1 (HS.out.limbs 6 rfl).2.2 (HS.out.limbs 6 rfl).2.1 H6.out).mono ?_
              rintro e w11_ ⟨rfl, hb⟩
              clear ux0 ux1 ua0 ua1
              have HN := Aside0.mk (HS.out.call hb)
              clear HS
              have HS := HN
              clear HN
              clear hb
              go_wp2
              have HN := Aside0.mk (HS.out.drew)
              clear HS
              have HS := HN
              clear HN
              refine start_ (n := 38) (S := fun w' => w'.cell? ⟨w7_.heap.size, 0, none⟩ = some (.bool (sb r)) ∧ w'.cell? ⟨w7_.heap.size, 1, none⟩ = some (.slice Ar (sl r).length cr) ∧ w'.cell? ⟨w.heap.size + 1, 0, none⟩ = some (.bool (sb y)) ∧ w'.cell? ⟨w.heap.size + 1, 1, none⟩ = some (.slice Anb (sl y).length cnb) ∧ w'.cell? ⟨w8_.heap.size, 0, none⟩ = some (.bool (sb m)) ∧ w'.cell? ⟨w8_.heap.size, 1, none⟩ = some (.slice Am (sl m).length cm) ∧ w'.cell? ⟨w.heap.size, 0, none⟩ = some (.bool (sb x)) ∧ w'.cell? ⟨w.heap.size, 1, none⟩ = some (.slice Ana (sl x).length cna)) (ds := []) #[false, false, false, false, false, false, false, false, false, false, false, false, false, false, false, false, false, false, false, false, false, false, false, false, false, false, false, false, false, false, false, false, false, false, false, false, false, false] (by kernel_rfl) rfl rfl ⟨(HS.out.cells 3 rfl).1, (HS.out.cells 3 rfl).2, (HS.out.cells 5 rfl).1, (HS.out.cells 5 rfl).2, (HS.out.cells 2 rfl).1, (HS.out.cells 2 rfl).2, (HS.out.cells 6 rfl).1, (HS.out.cells 6 rfl).2⟩ (fun hHeld => ?_)
              refine take_ (i := 0) (N := some 95) (v := ?_) (a' := ?_) #[true, false, false, false, false, false, false, false, false, false, false, false, false, false, false, false, false, false, false, false, false, false, false, false, false, false, false, false, false, false, false, false, false, false, false, false, false, false] rfl rfl (by kernel_rfl) (fun _ _ _ h => h) (Or.inl ⟨by rfl, ?_⟩) hHeld ?_ ?_
              rotate_left
              · rintro w' ⟨s0, s1, s2, s3, s4, s5, s6, s7⟩
                go_simp
                with_reducible rfl
              rotate_left
              · simp only [Act.put, List.setIfInBounds_toArray, List.set_cons_zero, List.set_cons_succ, i64_w, i32_w]
                rfl
              refine take_ (i := 2) (N := some 97) (v := ?_) (a' := ?_) #[true, false, true, false, false, false, false, false, false, false, false, false, false, false, false, false, false, false, false, false, false, false, false, false, false, false, false, false, false, false, false, false, false, false, false, false, false, false] rfl rfl (by kernel_rfl) (fun _ _ _ h => h) (Or.inl ⟨by rfl, ?_⟩) hHeld ?_ ?_
              rotate_left
              · rintro w' ⟨s0, s1, s2, s3, s4, s5, s6, s7⟩
                go_simp
                with_reducible rfl
              rotate_left
              · simp only [Act.put, List.setIfInBounds_toArray, List.set_cons_zero, List.set_cons_succ, i64_w, i32_w]
                rfl
              refine one_ (i := 1) (N := some 96) #[true, true, true, false, false, false, false, false, false, false, false, false, false, false, false, false, false, false, false, false, false, false, false, false, false, false, false, false, false, false, false, false, false, false, false, false, false, false] rfl rfl (by kernel_rfl) (by decide) (fun K hK => ?_)
              refine goes_ Tryd.func50 (by kernel_rfl) rfl #[.agg #[.bool (sb r), .slice Ar (sl r).length cr]] (by rfl) rfl rfl (by simp only [List.map_toArray, List.map_cons, List.map_nil]; rfl) ?_
              with_reducible refine (Hand.abs_calls (sb r) Ar cr (sl r).length _).mono ?_
              rintro e w3 ⟨rfl, hb⟩
              refine ⟨_, rfl, ?_⟩
              have HN := Aside0.mk (HS.out.call hb)
              clear HS
              have HS := HN
              clear HN
              refine hK.out _ _ ⟨(HS.out.cells 3 rfl).1, (HS.out.cells 3 rfl).2, (HS.out.cells 5 rfl).1, (HS.out.cells 5 rfl).2, (HS.out.cells 2 rfl).1, (HS.out.cells 2 rfl).2, (HS.out.cells 6 rfl).1, (HS.out.cells 6 rfl).2⟩ (fun hHeld => ?_)
              clear hK K
              refine norm_ (a' := ?_) ?_ ?_
              rotate_left
              · show Act.put _ (some 96) _ = _
                simp only [Act.put, List.setIfInBounds_toArray, List.set_cons_zero, List.set_cons_succ, i64_w, i32_w]
                rfl
              refine one_ (i := 3) (N := some 98) #[true, true, true, true, false, false, false, false, false, false, false, false, false, false, false, false, false, false, false, false, false, false, false, false, false, false, false, false, false, false, false, false, false, false, false, false, false, false] rfl rfl (by kernel_rfl) (by decide) (fun K hK => ?_)
              refine goes_ Tryd.func50 (by kernel_rfl) rfl #[.agg #[.bool (sb y), .slice Anb (sl y).length cnb]] (by rfl) rfl rfl (by simp only [List.map_toArray, List.map_cons, List.map_nil]; rfl) ?_
              with_reducible refine (Hand.abs_calls (sb y) Anb cnb (sl y).length _).mono ?_
              rintro e w3 ⟨rfl, hb⟩
              refine ⟨_, rfl, ?_⟩
              have HN := Aside0.mk (HS.out.call hb)
              clear HS
              have HS := HN
              clear HN
              refine hK.out _ _ ⟨(HS.out.cells 3 rfl).1, (HS.out.cells 3 rfl).2, (HS.out.cells 5 rfl).1, (HS.out.cells 5 rfl).2, (HS.out.cells 2 rfl).1, (HS.out.cells 2 rfl).2, (HS.out.cells 6 rfl).1, (HS.out.cells 6 rfl).2⟩ (fun hHeld => ?_)
              clear hK K
              refine norm_ (a' := ?_) ?_ ?_
              rotate_left
              · show Act.put _ (some 98) _ = _
                simp only [Act.put, List.setIfInBounds_toArray, List.set_cons_zero, List.set_cons_succ, i64_w, i32_w]
                rfl
              refine one_ (i := 4) (N := some 99) #[true, true, true, true, true, false, false, false, false, false, false, false, false, false, false, false, false, false, false, false, false, false, false, false, false, false, false, false, false, false, false, false, false, false, false, false, false, false] rfl rfl (by kernel_rfl) (by decide) (fun K hK => ?_)
              refine goes_ Tryd.func43 (by kernel_rfl) rfl #[.agg #[.bool false, .slice Ar (sl r).length cr], .agg #[.bool false, .slice Anb (sl y).length cnb]] (by rfl) rfl rfl (by simp only [List.map_toArray, List.map_cons, List.map_nil]; rfl) ?_
              with_reducible refine (num_Cmp.calls false Ar cr (sl r) false Anb cnb (sl y) (-1) _ (HS.out.limbs 3 rfl).2.2 (HS.out.limbs 3 rfl).2.1 (HS.out.limbs 5 rfl).2.2 (HS.out.limbs 5 rfl).2.1 H7.out).mono ?_
              rintro e w3 ⟨rfl, hb⟩
              refine ⟨_, rfl, ?_⟩
              have HN := Aside0.mk (HS.out.call hb)
              clear HS
              have HS := HN
              clear HN
              refine hK.out _ _ ⟨(HS.out.cells 3 rfl).1, (HS.out.cells 3 rfl).2, (HS.out.cells 5 rfl).1, (HS.out.cells 5 rfl).2, (HS.out.cells 2 rfl).1, (HS.out.cells 2 rfl).2, (HS.out.cells 6 rfl).1, (HS.out.cells 6 rfl).2⟩ (fun hHeld => ?_)
              clear hK K
              refine norm_ (a' := ?_) ?_ ?_
              rotate_left
              · show Act.put _ (some 99) _ = _
                simp only [Act.put, List.setIfInBounds_toArray, List.set_cons_zero, List.set_cons_succ, i64_w, i32_w]
                rfl
              refine pure_ (i := 5) (N := some 100) (v := ?_) (a' := ?_) #[true, true, true, true, true, true, false, false, false, false, false, false, false, false, false, false, false, false, false, false, false, false, false, false, false, false, false, false, false, false, false, false, false, false, false, false, false, false] rfl rfl (by kernel_rfl) (fun _ _ _ h => h) (Or.inl ⟨by rfl, ?_⟩) ?_ ?_
              rotate_left
              · intro w'
                go_simp
                with_reducible rfl
              rotate_left
              · simp only [Act.put, List.setIfInBounds_toArray, List.set_cons_zero, List.set_cons_succ, i64_w, i32_w]
                rfl
              refine pure_ (i := 6) (N := some 101) (v := ?_) (a' := ?_) #[true, true, true, true, true, true, true, false, false, false, false, false, false, false, false, false, false, false, false, false, false, false, false, false, false, false, false, false, false, false, false, false, false, false, false, false, false, false] rfl rfl (by kernel_rfl) (fun _ _ _ h => h) (Or.inl ⟨by rfl, ?_⟩) ?_ ?_
              rotate_left
              · intro w'
                go_simp
                with_reducible rfl
              rotate_left
              · simp only [Act.put, List.setIfInBounds_toArray, List.set_cons_zero, List.set_cons_succ, i64_w, i32_w]
                rfl
              refine take_ (i := 7) (N := some 102) (v := ?_) (a' := ?_) #[true, true, true, true, true, true, true, true, false, false, false, false, false, false, false, false, false, false, false, false, false, false, false, false, false, false, false, false, false, false, false, false, false, false, false, false, false, false] rfl rfl (by kernel_rfl) (fun _ _ _ h => h) (Or.inl ⟨by rfl, ?_⟩) hHeld ?_ ?_
              rotate_left
              · rintro w' ⟨s0, s1, s2, s3, s4, s5, s6, s7⟩
                go_simp
                with_reducible rfl
              rotate_left
              · simp only [Act.put, List.setIfInBounds_toArray, List.set_cons_zero, List.set_cons_succ, i64_w, i32_w]
                rfl
              refine take_ (i := 9) (N := some 104) (v := ?_) (a' := ?_) #[true, true, true, true, true, true, true, true, false, true, false, false, false, false, false, false, false, false, false, false, false, false, false, false, false, false, false, false, false, false, false, false, false, false, false, false, false, false] rfl rfl (by kernel_rfl) (fun _ _ _ h => h) (Or.inl ⟨by rfl, ?_⟩) hHeld ?_ ?_
              rotate_left
              · rintro w' ⟨s0, s1, s2, s3, s4, s5, s6, s7⟩
                go_simp
                with_reducible rfl
              rotate_left
              · simp only [Act.put, List.setIfInBounds_toArray, List.set_cons_zero, List.set_cons_succ, i64_w, i32_w]
                rfl
              refine one_ (i := 8) (N := some 103) #[true, true, true, true, true, true, true, true, true, true, false, false, false, false, false, false, false, false, false, false, false, false, false, false, false, false, false, false, false, false, false, false, false, false, false, false, false, false] rfl rfl (by kernel_rfl) (by decide) (fun K hK => ?_)
              refine goes_ Tryd.func50 (by kernel_rfl) rfl #[.agg #[.bool (sb m), .slice Am (sl m).length cm]] (by rfl) rfl rfl (by simp only [List.map_toArray, List.map_cons, List.map_nil]; rfl) ?_
              with_reducible refine (Hand.abs_calls (sb m) Am cm (sl m).length _).mono ?_
              rintro e w3 ⟨rfl, hb⟩
              refine ⟨_, rfl, ?_⟩
              have HN := Aside0.mk (HS.out.call hb)
              clear HS
              have HS := HN
              clear HN
              refine hK.out _ _ ⟨(HS.out.cells 3 rfl).1, (HS.out.cells 3 rfl).2, (HS.out.cells 5 rfl).1, (HS.out.cells 5 rfl).2, (HS.out.cells 2 rfl).1, (HS.out.cells 2 rfl).2, (HS.out.cells 6 rfl).1, (HS.out.cells 6 rfl).2⟩ (fun hHeld => ?_)
              clear hK K
              refine norm_ (a' := ?_) ?_ ?_
              rotate_left
              · show Act.put _ (some 103) _ = _
                simp only [Act.put, List.setIfInBounds_toArray, List.set_cons_zero, List.set_cons_succ, i64_w, i32_w]
                rfl
              refine one_ (i := 10) (N := some 105) #[true, true, true, true, true, true, true, true, true, true, true, false, false, false, false, false, false, false, false, false, false, false, false, false, false, false, false, false, false, false, false, false, false, false, false, false, false, false] rfl rfl (by kernel_rfl) (by decide) (fun K hK => ?_)
              refine goes_ Tryd.func50 (by kernel_rfl) rfl #[.agg #[.bool (sb y), .slice Anb (sl y).length cnb]] (by rfl) rfl rfl (by simp only [List.map_toArray, List.map_cons, List.map_nil]; rfl) ?_
              with_reducible refine (Hand.abs_calls (sb y) Anb cnb (sl y).length _).mono ?_
              rintro e w3 ⟨rfl, hb⟩
              refine ⟨_, rfl, ?_⟩
              have HN := Aside0.mk (HS.out.call hb)
              clear HS
              have HS := HN
              clear HN
              refine hK.out _ _ ⟨(HS.out.cells 3 rfl).1, (HS.out.cells 3 rfl).2, (HS.out.cells 5 rfl).1, (HS.out.cells 5 rfl).2, (HS.out.cells 2 rfl).1, (HS.out.cells 2 rfl).2, (HS.out.cells 6 rfl).1, (HS.out.cells 6 rfl).2⟩ (fun hHeld => ?_)
              clear hK K
              refine norm_ (a' := ?_) ?_ ?_
              rotate_left
              · show Act.put _ (some 105) _ = _
                simp only [Act.put, List.setIfInBounds_toArray, List.set_cons_zero, List.set_cons_succ, i64_w, i32_w]
                rfl
              refine one_ (i := 11) (N := some 106) #[true, true, true, true, true, true, true, true, true, true, true, true, false, false, false, false, false, false, false, false, false, false, false, false, false, false, false, false, false, false, false, false, false, false, false, false, false, false] rfl rfl (by kernel_rfl) (by decide) (fun K hK => ?_)
              refine goes_ Tryd.func43 (by kernel_rfl) rfl #[.agg #[.bool false, .slice Am (sl m).length cm], .agg #[.bool false, .slice Anb (sl y).length cnb]] (by rfl) rfl rfl (by simp only [List.map_toArray, List.map_cons, List.map_nil]; rfl) ?_
              with_reducible refine (num_Cmp.calls false Am cm (sl m) false Anb cnb (sl y) (-1) _ (HS.out.limbs 2 rfl).2.2 (HS.out.limbs 2 rfl).2.1 (HS.out.limbs 5 rfl).2.2 (HS.out.limbs 5 rfl).2.1 H8.out).mono ?_
              rintro e w3 ⟨rfl, hb⟩
              refine ⟨_, rfl, ?_⟩
              have HN := Aside0.mk (HS.out.call hb)
              clear HS
              have HS := HN
              clear HN
              refine hK.out _ _ ⟨(HS.out.cells 3 rfl).1, (HS.out.cells 3 rfl).2, (HS.out.cells 5 rfl).1, (HS.out.cells 5 rfl).2, (HS.out.cells 2 rfl).1, (HS.out.cells 2 rfl).2, (HS.out.cells 6 rfl).1, (HS.out.cells 6 rfl).2⟩ (fun hHeld => ?_)
              clear hK K
              refine norm_ (a' := ?_) ?_ ?_
              rotate_left
              · show Act.put _ (some 106) _ = _
                simp only [Act.put, List.setIfInBounds_toArray, List.set_cons_zero, List.set_cons_succ, i64_w, i32_w]
                rfl
              refine pure_ (i := 12) (N := some 107) (v := ?_) (a' := ?_) #[true, true, true, true, true, true, true, true, true, true, true, true, true, false, false, false, false, false, false, false, false, false, false, false, false, false, false, false, false, false, false, false, false, false, false, false, false, false] rfl rfl (by kernel_rfl) (fun _ _ _ h => h) (Or.inl ⟨by rfl, ?_⟩) ?_ ?_
              rotate_left
              · intro w'
                go_simp
                with_reducible rfl
              rotate_left
              · simp only [Act.put, List.setIfInBounds_toArray, List.set_cons_zero, List.set_cons_succ, i64_w, i32_w]
                rfl
              refine pure_ (i := 13) (N := some 108) (v := ?_) (a' := ?_) #[true, true, true, true, true, true, true, true, true, true, true, true, true, true, false, false, false, false, false, false, false, false, false, false, false, false, false, false, false, false, false, false, false, false, false, false, false, false] rfl rfl (by kernel_rfl) (fun _ _ _ h => h) (Or.inl ⟨by rfl, ?_⟩) ?_ ?_
              rotate_left
              · intro w'
                go_simp
                with_reducible rfl
              rotate_left
              · simp only [Act.put, List.setIfInBounds_toArray, List.set_cons_zero, List.set_cons_succ, i64_w, i32_w]
                rfl
              refine pure_ (i := 14) (N := some 109) (v := ?_) (a' := ?_) #[true, true, true, true, true, true, true, true, true, true, true, true, true, true, true, false, false, false, false, false, false, false, false, false, false, false, false, false, false, false, false, false, false, false, false, false, false, false] rfl rfl (by kernel_rfl) (fun _ _ _ h => h) (Or.inl ⟨by rfl, ?_⟩) ?_ ?_
              rotate_left
              · intro w'
                go_simp
                with_reducible rfl
              rotate_left
              · simp only [Act.put, List.setIfInBounds_toArray, List.set_cons_zero, List.set_cons_succ, i64_w, i32_w]
                rfl
              refine take_ (i := 15) (N := some 110) (v := ?_) (a' := ?_) #[true, true, true, true, true, true, true, true, true, true, true, true, true, true, true, true, false, false, false, false, false, false, false, false, false, false, false, false, false, false, false, false, false, false, false, false, false, false] rfl rfl (by kernel_rfl) (fun _ _ _ h => h) (Or.inl ⟨by rfl, ?_⟩) hHeld ?_ ?_
              rotate_left
              · rintro w' ⟨s0, s1, s2, s3, s4, s5, s6, s7⟩
                go_simp
                with_reducible rfl
              rotate_left
              · simp only [Act.put, List.setIfInBounds_toArray, List.set_cons_zero, List.set_cons_succ, i64_w, i32_w]
                rfl
              refine one_ (i := 16) (N := some 111) #[true, true, true, true, true, true, true, true, true, true, true, true, true, true, true, true, true, false, false, false, false, false, false, false, false, false, false, false, false, false, false, false, false, false, false, false, false, false] rfl rfl (by kernel_rfl) (by decide) (fun K hK => ?_)
              refine goes_ Tryd.func39 (by kernel_rfl) rfl #[.agg #[.bool (sb r), .slice Ar (sl r).length cr]] (by rfl) rfl rfl (by simp only [List.map_toArray, List.map_cons, List.map_nil]; rfl) ?_
              with_reducible refine (num_Sign.calls (sb r) Ar cr (sl r) 0 _ (HS.out.limbs 3 rfl).2.2 (HS.out.limbs 3 rfl).2.1 HR.out).mono ?_
              rintro e w3 ⟨rfl, hb⟩
              refine ⟨_, rfl, ?_⟩
              have HN := Aside0.mk (HS.out.call hb)
              clear HS
              have HS := HN
              clear HN
              refine hK.out _ _ ⟨(HS.out.cells 3 rfl).1, (HS.out.cells 3 rfl).2, (HS.out.cells 5 rfl).1, (HS.out.cells 5 rfl).2, (HS.out.cells 2 rfl).1, (HS.out.cells 2 rfl).2, (HS.out.cells 6 rfl).1, (HS.out.cells 6 rfl).2⟩ (fun hHeld => ?_)
              clear hK K
              refine norm_ (a' := ?_) ?_ ?_
              rotate_left
              · show Act.put _ (some 111) _ = _
                simp only [Act.put, List.setIfInBounds_toArray, List.set_cons_zero, List.set_cons_succ, i64_w, i32_w]
                rfl
              refine pure_ (i := 17) (N := some 112) (v := ?_) (a' := ?_) #[true, true, true, true, true, true, true, true, true, true, true, true, true, true, true, true, true, true, false, false, false, false, false, false, false, false, false, false, false, false, false, false, false, false, false, false, false, false] rfl rfl (by kernel_rfl) (fun _ _ _ h => h) (Or.inl ⟨by rfl, ?_⟩) ?_ ?_
              rotate_left
              · intro w'
                go_simp
                with_reducible rfl
              rotate_left
              · simp only [Act.put, List.setIfInBounds_toArray, List.set_cons_zero, List.set_cons_succ, i64_w, i32_w]
                rfl
              refine pure_ (i := 18) (N := some 113) (v := ?_) (a' := ?_) #[true, true, true, true, true, true, true, true, true, true, true, true, true, true, true, true, true, true, true, false, false, false, false, false, false, false, false, false, false, false, false, false, false, false, false, false, false, false] rfl rfl (by kernel_rfl) (fun _ _ _ h => h) (Or.inl ⟨by rfl, ?_⟩) ?_ ?_
              rotate_left
              · intro w'
                go_simp
                with_reducible rfl
              rotate_left
              · simp only [Act.put, List.setIfInBounds_toArray, List.set_cons_zero, List.set_cons_succ, i64_w, i32_w]
                rfl
              refine pure_ (i := 19) (N := some 114) (v := undef) (a' := ?_) #[true, true, true, true, true, true, true, true, true, true, true, true, true, true, true, true, true, true, true, true, false, false, false, false, false, false, false, false, false, false, false, false, false, false, false, false, false, false] rfl rfl (by kernel_rfl) (fun _ _ _ h => h) (Or.inr ⟨by rfl, rfl⟩) ?_ ?_
              rotate_left
              · simp only [Act.put, List.setIfInBounds_toArray, List.set_cons_zero, List.set_cons_succ, i64_w, i32_w]
                rfl
              refine pure_ (i := 20) (N := some 115) (v := undef) (a' := ?_) #[true, true, true, true, true, true, true, true, true, true, true, true, true, true, true, true, true, true, true, true, true, false, false, false, false, false, false, false, false, false, false, false, false, false, false, false, false, false] rfl rfl (by kernel_rfl) (fun _ _ _ h => h) (Or.inr ⟨by rfl, rfl⟩) ?_ ?_
              rotate_left
              · simp only [Act.put, List.setIfInBounds_toArray, List.set_cons_zero, List.set_cons_succ, i64_w, i32_w]
                rfl
              refine pure_ (i := 21) (N := some 116) (v := undef) (a' := ?_) #[true, true, true, true, true, true, true, true, true, true, true, true, true, true, true, true, true, true, true, true, true, true, false, false, false, false, false, false, false, false, false, false, false, false, false, false, false, false] rfl rfl (by kernel_rfl) (fun _ _ _ h => h) (Or.inr ⟨by rfl, rfl⟩) ?_ ?_
              rotate_left
              · simp only [Act.put, List.setIfInBounds_toArray, List.set_cons_zero, List.set_cons_succ, i64_w, i32_w]
                rfl
              refine pure_ (i := 22) (N := some 117) (v := undef) (a' := ?_) #[true, true, true, true, true, true, true, true, true, true, true, true, true, true, true, true, true, true, true, true, true, true, true, false, false, false, false, false, false, false, false, false, false, false, false, false, false, false] rfl rfl (by kernel_rfl) (fun _ _ _ h => h) (Or.inr ⟨by rfl, rfl⟩) ?_ ?_
              rotate_left
              · simp only [Act.put, List.setIfInBounds_toArray, List.set_cons_zero, List.set_cons_succ, i64_w, i32_w]
                rfl
              refine pure_ (i := 23) (N := some 118) (v := undef) (a' := ?_) #[true, true, true, true, true, true, true, true, true, true, true, true, true, true, true, true, true, true, true, true, true, true, true, true, false, false, false, false, false, false, false, false, false, false, false, false, false, false] rfl rfl (by kernel_rfl) (fun _ _ _ h => h) (Or.inr ⟨by rfl, rfl⟩) ?_ ?_
              rotate_left
              · simp only [Act.put, List.setIfInBounds_toArray, List.set_cons_zero, List.set_cons_succ, i64_w, i32_w]
                rfl
              refine pure_ (i := 24) (N := some 119) (v := ?_) (a' := ?_) #[true, true, true, true, true, true, true, true, true, true, true, true, true, true, true, true, true, true, true, true, true, true, true, true, true, false, false, false, false, false, false, false, false, false, false, false, false, false] rfl rfl (by kernel_rfl) (fun _ _ _ h => h) (Or.inl ⟨by rfl, ?_⟩) ?_ ?_
              rotate_left
              · intro w'
                go_simp
                with_reducible rfl
              rotate_left
              · simp only [Act.put, List.setIfInBounds_toArray, List.set_cons_zero, List.set_cons_succ, i64_w, i32_w]
                rfl
              refine pure_ (i := 25) (N := some 120) (v := ?_) (a' := ?_) #[true, true, true, true, true, true, true, true, true, true, true, true, true, true, true, true, true, true, true, true, true, true, true, true, true, true, false, false, false, false, false, false, false, false, false, false, false, false] rfl rfl (by kernel_rfl) (fun _ _ _ h => h) (Or.inl ⟨by rfl, ?_⟩) ?_ ?_
              rotate_left
              · intro w'
                go_simp
                with_reducible rfl
              rotate_left
              · simp only [Act.put, List.setIfInBounds_toArray, List.set_cons_zero, List.set_cons_succ, i64_w, i32_w]
                rfl
              refine pure_ (i := 26) (N := some 121) (v := ?_) (a' := ?_) #[true, true, true, true, true, true, true, true, true, true, true, true, true, true, true, true, true, true, true, true, true, true, true, true, true, true, true, false, false, false, false, false, false, false, false, false, false, false] rfl rfl (by kernel_rfl) (fun _ _ _ h => h) (Or.inl ⟨by rfl, ?_⟩) ?_ ?_
              rotate_left
              · intro w'
                go_simp
                with_reducible rfl
              rotate_left
              · simp only [Act.put, List.setIfInBounds_toArray, List.set_cons_zero, List.set_cons_succ, i64_w, i32_w]
                rfl
              refine take_ (i := 27) (N := some 122) (v := ?_) (a' := ?_) #[true, true, true, true, true, true, true, true, true, true, true, true, true, true, true, true, true, true, true, true, true, true, true, true, true, true, true, true, false, false, false, false, false, false, false, false, false, false] rfl rfl (by kernel_rfl) (fun _ _ _ h => h) (Or.inl ⟨by rfl, ?_⟩) hHeld ?_ ?_
              rotate_left
              · rintro w' ⟨s0, s1, s2, s3, s4, s5, s6, s7⟩
                go_simp
                with_reducible rfl
              rotate_left
              · simp only [Act.put, List.setIfInBounds_toArray, List.set_cons_zero, List.set_cons_succ, i64_w, i32_w]
                rfl
              refine one_ (i := 28) (N := some 123) #[true, true, true, true, true, true, true, true, true, true, true, true, true, true, true, true, true, true, true, true, true, true, true, true, true, true, true, true, true, false, false, false, false, false, false, false, false, false] rfl rfl (by kernel_rfl) (by decide) (fun K hK => ?_)
              refine goes_ Tryd.func39 (by kernel_rfl) rfl #[.agg #[.bool (sb m), .slice Am (sl m).length cm]] (by rfl) rfl rfl (by simp only [List.map_toArray, List.map_cons, List.map_nil]; rfl) ?_
              with_reducible refine (num_Sign.calls (sb m) Am cm (sl m) 0 _ (HS.out.limbs 2 rfl).2.2 (HS.out.limbs 2 rfl).2.1 HM.out).mono ?_
              rintro e w3 ⟨rfl, hb⟩
              refine ⟨_, rfl, ?_⟩
              have HN := Aside0.mk (HS.out.call hb)
              clear HS
              have HS := HN
              clear HN
              refine hK.out _ _ ⟨(HS.out.cells 3 rfl).1, (HS.out.cells 3 rfl).2, (HS.out.cells 5 rfl).1, (HS.out.cells 5 rfl).2, (HS.out.cells 2 rfl).1, (HS.out.cells 2 rfl).2, (HS.out.cells 6 rfl).1, (HS.out.cells 6 rfl).2⟩ (fun hHeld => ?_)
              clear hK K
              refine norm_ (a' := ?_) ?_ ?_
              rotate_left
              · show Act.put _ (some 123) _ = _
                simp only [Act.put, List.setIfInBounds_toArray, List.set_cons_zero, List.set_cons_succ, i64_w, i32_w]
                rfl
              refine pure_ (i := 29) (N := some 124) (v := ?_) (a' := ?_) #[true, true, true, true, true, true, true, true, true, true, true, true, true, true, true, true, true, true, true, true, true, true, true, true, true, true, true, true, true, true, false, false, false, false, false, false, false, false] rfl rfl (by kernel_rfl) (fun _ _ _ h => h) (Or.inl ⟨by rfl, ?_⟩) ?_ ?_
              rotate_left
              · intro w'
                go_simp
                with_reducible rfl
              rotate_left
              · simp only [Act.put, List.setIfInBounds_toArray, List.set_cons_zero, List.set_cons_succ, i64_w, i32_w]
                rfl
              refine pure_ (i := 30) (N := some 125) (v := ?_) (a' := ?_) #[true, true, true, true, true, true, true, true, true, true, true, true, true, true, true, true, true, true, true, true, true, true, true, true, true, true, true, true, true, true, true, false, false, false, false, false, false, false] rfl rfl (by kernel_rfl) (fun _ _ _ h => h) (Or.inl ⟨by rfl, ?_⟩) ?_ ?_
              rotate_left
              · intro w'
                go_simp
                with_reducible rfl
              rotate_left
              · simp only [Act.put, List.setIfInBounds_toArray, List.set_cons_zero, List.set_cons_succ, i64_w, i32_w]
                rfl
              refine pure_ (i := 31) (N := some 126) (v := undef) (a' := ?_) #[true, true, true, true, true, true, true, true, true, true, true, true, true, true, true, true, true, true, true, true, true, true, true, true, true, true, true, true, true, true, true, true, false, false, false, false, false, false] rfl rfl (by kernel_rfl) (fun _ _ _ h => h) (Or.inr ⟨by rfl, rfl⟩) ?_ ?_
              rotate_left
              · simp only [Act.put, List.setIfInBounds_toArray, List.set_cons_zero, List.set_cons_succ, i64_w, i32_w]
                rfl
              refine pure_ (i := 32) (N := some 127) (v := undef) (a' := ?_) #[true, true, true, true, true, true, true, true, true, true, true, true, true, true, true, true, true, true, true, true, true, true, true, true, true, true, true, true, true, true, true, true, true, false, false, false, false, false] rfl rfl (by kernel_rfl) (fun _ _ _ h => h) (Or.inr ⟨by rfl, rfl⟩) ?_ ?_
              rotate_left
              · simp only [Act.put, List.setIfInBounds_toArray, List.set_cons_zero, List.set_cons_succ, i64_w, i32_w]
                rfl
              refine pure_ (i := 33) (N := some 128) (v := undef) (a' := ?_) #[true, true, true, true, true, true, true, true, true, true, true, true, true, true, true, true, true, true, true, true, true, true, true, true, true, true, true, true, true, true, true, true, true, true, false, false, false, false] rfl rfl (by kernel_rfl) (fun _ _ _ h => h) (Or.inr ⟨by rfl, rfl⟩) ?_ ?_
              rotate_left
              · simp only [Act.put, List.setIfInBounds_toArray, List.set_cons_zero, List.set_cons_succ, i64_w, i32_w]
                rfl
              refine pure_ (i := 34) (N := some 129) (v := undef) (a' := ?_) #[true, true, true, true, true, true, true, true, true, true, true, true, true, true, true, true, true, true, true, true, true, true, true, true, true, true, true, true, true, true, true, true, true, true, true, false, false, false] rfl rfl (by kernel_rfl) (fun _ _ _ h => h) (Or.inr ⟨by rfl, rfl⟩) ?_ ?_
              rotate_left
              · simp only [Act.put, List.setIfInBounds_toArray, List.set_cons_zero, List.set_cons_succ, i64_w, i32_w]
                rfl
              refine pure_ (i := 35) (N := some 130) (v := undef) (a' := ?_) #[true, true, true, true, true, true, true, true, true, true, true, true, true, true, true, true, true, true, true, true, true, true, true, true, true, true, true, true, true, true, true, true, true, true, true, true, false, false] rfl rfl (by kernel_rfl) (fun _ _ _ h => h) (Or.inr ⟨by rfl, rfl⟩) ?_ ?_
              rotate_left
              · simp only [Act.put, List.setIfInBounds_toArray, List.set_cons_zero, List.set_cons_succ, i64_w, i32_w]
                rfl
              refine pure_ (i := 36) (N := some 131) (v := ?_) (a' := ?_) #[true, true, true, true, true, true, true, true, true, true, true, true, true, true, true, true, true, true, true, true, true, true, true, true, true, true, true, true, true, true, true, true, true, true, true, true, true, false] rfl rfl (by kernel_rfl) (fun _ _ _ h => h) (Or.inl ⟨by rfl, ?_⟩) ?_ ?_
              rotate_left
              · intro w'
                go_simp
                with_reducible rfl
              rotate_left
              · simp only [Act.put, List.setIfInBounds_toArray, List.set_cons_zero, List.set_cons_succ, i64_w, i32_w]
                rfl
              refine pure_ (i := 37) (N := some 132) (v := ?_) (a' := ?_) #[true, true, true, true, true, true, true, true, true, true, true, true, true, true, true, true, true, true, true, true, true, true, true, true, true, true, true, true, true, true, true, true, true, true, true, true, true, true] rfl rfl (by kernel_rfl) (fun _ _ _ h => h) (Or.inl ⟨by rfl, ?_⟩) ?_ ?_
              rotate_left
              · intro w'
                go_simp
                with_reducible rfl
              rotate_left
              · simp only [Act.put, List.setIfInBounds_toArray, List.set_cons_zero, List.set_cons_succ, i64_w, i32_w]
                rfl
              refine done_ (by kernel_rfl) ?_
              obtain ⟨um0, um1⟩ := HS.out.cells 2 rfl
              obtain ⟨ur0, ur1⟩ := HS.out.cells 3 rfl
              go_wp2_with fail
              refine (num_Sub.calls (sb m) Am cm (sl m) (sb r) Ar cr (sl r) (sb 0) (sl 0) 0 _ (HS.out.limbs 2 rfl).2.2 (HS.out.limbs 2 rfl).2.1 (HS.out.limbs 3 rfl).2.2 (HS.out.limbs 3 rfl).2.1 HD.out).mono ?_
              rintro e w12_ ⟨v, rfl, hR, hb⟩
              clear um0 um1 ur0 ur1
              obtain ⟨Ad, cd, rfl⟩ := Kd.R_slice hR
              have HN := Aside0.mk (HS.out.call32 hb hR)
              clear HS
              have HS := HN
              clear HN
              clear hb hR
              have HN := Aside0.mk (HS.out.boxed #[.bool (sb 0), .slice Ad (sl 0).length cd] 25 (by decide))
              clear HS
              have HS := HN
              clear HN
              obtain ⟨ud0, ud1⟩ := HS.out.cells 0 rfl
              go_wp2_with fail
              refine (num_Sign.calls (sb 0) Ad cd (sl 0) 0 _ (HS.out.limbs 0 rfl).2.2 (HS.out.limbs 0 rfl).2.1 HDS.out).mono ?_
              rintro e w13_ ⟨rfl, hb⟩
              clear ud0 ud1
              have HN := Aside0.mk (HS.out.call hb)
              clear HS
              have HS := HN
              clear HN
              clear hb
              go_wp2_with fail
              refine (awake_calls _ (NumV.Tab.below HT.out HS.out.below)).mono ?_
              rintro e w14_ ⟨rfl, hb⟩
              have HN := Aside0.mk (HS.out.call hb)
              clear HS
              have HS := HN
              clear HN
              clear hb
              go_wp2
              go_ret
              exact ⟨rfl, HS.out.below⟩
            · skip
              have m0 : m ≠ 0 := fun h => r0 (e4.mpr h)
              have sr0 : (r.sign == 0) = false := by rw [beq_eq_false_iff_ne]; intro h; exact r0 (Int.sign_eq_zero_iff_zero.mp h)
              rw [e3 m0] at hsm
              rw [← e6 r0] at hsx
              have sr1 : (r.sign != 0) = true := by rw [bne, sr0]; rfl
              have sy1 : (sy != 0) = true := by rw [bne, sy0]; rfl
              generalize r.sign = sr at *
              have HR := Aside0.mk hsr
              have HM := Aside0.mk hsm
              have HX := Aside0.mk hsx
              have HE2 := Aside0.mk e2
              have HSUB := Aside0.mk hsub
              clear m0 r0 hsub hsr hsm hsx e2 e3 e4 e6 fx fy fr fm y0
              go_enter Tryd.func16, Tryd.ntmps16
              obtain ⟨ua0, ua1⟩ := HS.out.cells 1 rfl
              go_wp2_with fail
              refine (long_calls n0 l0 A0 c0 false ha _ (HS.out.came HR0.out) HC0.out).mono ?_
              rintro e w1_ ⟨rfl, hb⟩
              clear ua0 ua1
              have HN := Aside0.mk (HS.out.call hb)
              clear HS
              have HS := HN
              clear HN
              clear hb
              obtain ⟨ub0, ub1⟩ := HS.out.cells 0 rfl
              go_wp2_with fail
              refine (long_calls n1 l1 A1 c1 false hb1 _ (HS.out.came HR1.out) HC1.out).mono ?_
              rintro e w2_ ⟨rfl, hb⟩
              clear ub0 ub1
              have HN := Aside0.mk (HS.out.call hb)
              clear HS
              have HS := HN
              clear HN
              clear hb
              obtain ⟨ua0, ua1⟩ := HS.out.cells 1 rfl
              go_wp2_with fail
              refine (num_Norm.calls n0 A0 c0 l0 (sb x) (sl x) 0 _ (HS.out.came HR0.out) HC0.out HNA.out).mono ?_
              rintro e w3_ ⟨v, rfl, hR, hb⟩
              clear ua0 ua1
              obtain ⟨Ana, cna, rfl⟩ := Kd.R_slice hR
              have HN := Aside0.mk (HS.out.call32 hb hR)
              clear HS
              have HS := HN
              clear HN
              clear hb hR
              obtain ⟨ua0, ua1⟩ := HS.out.cells 1 rfl
              have fa0 := HS.out.froz 1 rfl 0
              have fa1 := HS.out.froz 1 rfl 1
              have HN := Aside0.mk (HS.out.set2 1 rfl (.bool (sb x)) (.slice Ana (sl x).length cna))
              clear HS
              have HS := HN
              clear HN
              obtain ⟨ub0, ub1⟩ := HS.out.cells 0 rfl
              go_wp2_with fail
              refine (num_Norm.calls n1 A1 c1 l1 (sb y) (sl y) 0 _ (HS.out.came HR1.out) HC1.out HNB.out).mono ?_
              rintro e w4_ ⟨v, rfl, hR, hb⟩
              clear ua0 ua1 fa0 fa1 ub0 ub1
              obtain ⟨Anb, cnb, rfl⟩ := Kd.R_slice hR
              have HN := Aside0.mk (HS.out.call32 hb hR)
              clear HS
              have HS := HN
              clear HN
              clear hb hR
              obtain ⟨ub0, ub1⟩ := HS.out.cells 0 rfl
              have fb0 := HS.out.froz 0 rfl 0
              have fb1 := HS.out.froz 0 rfl 1
              have HN := Aside0.mk (HS.out.set2 0 rfl (.bool (sb y)) (.slice Anb (sl y).length cnb))
              clear HS
              have HS := HN
              clear HN
              obtain ⟨ub0, ub1⟩ := HS.out.cells 0 rfl
              go_wp2_with fail
              refine (num_Sign.calls (sb y) Anb cnb (sl y) sy _ (HS.out.limbs 0 rfl).2.2 (HS.out.limbs 0 rfl).2.1 H0.out).mono ?_
              rintro e w5_ ⟨rfl, hb⟩
              clear ub0 ub1 fb0 fb1
              have HN := Aside0.mk (HS.out.call hb)
              clear HS
              have HS := HN
              clear HN
              clear hb
              obtain ⟨ua0, ua1⟩ := HS.out.cells 1 rfl
              obtain ⟨ub0, ub1⟩ := HS.out.cells 0 rfl
              go_wp2_with fail
              refine (num_Quo.calls (sb x) Ana cna (sl x) (sb y) Anb cnb (sl y) (sb q) (sl q) 0 _ (HS.out.limbs 1 rfl).2.2 (HS.out.limbs 1 rfl).2.1 (HS.out.limbs 0 rfl).2.2 (HS.out.limbs 0 rfl).2.1 H1.out).mono ?_
              rintro e w6_ ⟨v, rfl, hR, hb⟩
              clear ua0 ua1 ub0 ub1
              obtain ⟨Aq, cq, rfl⟩ := Kd.R_slice hR
              have HN := Aside0.mk (HS.out.call32 hb hR)
              clear HS
              have HS := HN
              clear HN
              clear hb hR
              have HN := Aside0.mk (HS.out.boxed #[.bool (sb q), .slice Aq (sl q).length cq] 25 (by decide))
              clear HS
              have HS := HN
              clear HN
              obtain ⟨ua0, ua1⟩ := HS.out.cells 2 rfl
              obtain ⟨ub0, ub1⟩ := HS.out.cells 1 rfl
              go_wp2_with fail
              refine (num_Rem.calls (sb x) Ana cna (sl x) (sb y) Anb cnb (sl y) (sb r) (sl r) 0 _ (HS.out.limbs 2 rfl).2.2 (HS.out.limbs 2 rfl).2.1 (HS.out.limbs 1 rfl).2.2 (HS.out.limbs 1 rfl).2.1 H2.out).mono ?_
              rintro e w7_ ⟨v, rfl, hR, hb⟩
              clear ua0 ua1 ub0 ub1
              obtain ⟨Ar, cr, rfl⟩ := Kd.R_slice hR
              have HN := Aside0.mk (HS.out.call32 hb hR)
              clear HS
              have HS := HN
              clear HN
              clear hb hR
              have HN := Aside0.mk (HS.out.boxed #[.bool (sb r), .slice Ar (sl r).length cr] 25 (by decide))
              clear HS
              have HS := HN
              clear HN
              obtain ⟨ua0, ua1⟩ := HS.out.cells 3 rfl
              obtain ⟨ub0, ub1⟩ := HS.out.cells 2 rfl
              go_wp2_with fail
              refine (num_Mod.calls (sb x) Ana cna (sl x) (sb y) Anb cnb (sl y) (sb m) (sl m) 0 _ (HS.out.limbs 3 rfl).2.2 (HS.out.limbs 3 rfl).2.1 (HS.out.limbs 2 rfl).2.2 (HS.out.limbs 2 rfl).2.1 H3.out).mono ?_
              rintro e w8_ ⟨v, rfl, hR, hb⟩
              clear ua0 ua1 ub0 ub1
              obtain ⟨Am, cm, rfl⟩ := Kd.R_slice hR
              have HN := Aside0.mk (HS.out.call32 hb hR)
              clear HS
              have HS := HN
              clear HN
              clear hb hR
              have HN := Aside0.mk (HS.out.boxed #[.bool (sb m), .slice Am (sl m).length cm] 25 (by decide))
              clear HS
              have HS := HN
              clear HN
              obtain ⟨uq0, uq1⟩ := HS.out.cells 2 rfl
              obtain ⟨ub0, ub1⟩ := HS.out.cells 3 rfl
              go_wp2_with fail
              refine (num_Mul.calls (sb q) Aq cq (sl q) (sb y) Anb cnb (sl y) (sb (x - r)) (sl (x - r)) 0 _ (HS.out.limbs 2 rfl).2.2 (HS.out.limbs 2 rfl).2.1 (HS.out.limbs 3 rfl).2.2 (HS.out.limbs 3 rfl).2.1 H4.out).mono ?_
              rintro e w9_ ⟨v, rfl, hR, hb⟩
              clear uq0 uq1 ub0 ub1
              obtain ⟨Ap, cp, rfl⟩ := Kd.R_slice hR
              have HN := Aside0.mk (HS.out.call32 hb hR)
              clear HS
              have HS := HN
              clear HN
              clear hb hR
              have HN := Aside0.mk (HS.out.boxed #[.bool (sb (x - r)), .slice Ap (sl (x - r)).length cp] 25 (by decide))
              clear HS
              have HS := HN
              clear HN
              obtain ⟨up0, up1⟩ := HS.out.cells 0 rfl
              obtain ⟨ur0, ur1⟩ := HS.out.cells 2 rfl
              go_wp2_with fail
              refine (num_Add.calls (sb (x - r)) Ap cp (sl (x - r)) (sb r) Ar cr (sl r) (sb x) (sl x) 0 _ (HS.out.limbs 0 rfl).2.2 (HS.out.limbs 0 rfl).2.1 (HS.out.limbs 2 rfl).2.2 (HS.out.limbs 2 rfl).2.1 H5.out).mono ?_
              rintro e w10_ ⟨v, rfl, hR, hb⟩
              clear up0 up1 ur0 ur1
              obtain ⟨Ax, cx, rfl⟩ := Kd.R_slice hR
              have HN := Aside0.mk (HS.out.call32 hb hR)
              clear HS
              have HS := HN
              clear HN
              clear hb hR
              have HN := Aside0.mk (HS.out.boxed #[.bool (sb x), .slice Ax (sl x).length cx] 25 (by decide))
              clear HS
              have HS := HN
              clear HN
              obtain ⟨ux0, ux1⟩ := HS.out.cells 0 rfl
              obtain ⟨ua0, ua1⟩ := HS.out.cells 6 rfl
              go_wp2_with fail
              refine (num_Cmp.calls (sb x) Ax cx (sl x) (sb x) Ana cna (sl x) 0 _ (HS.out.limbs 0 rfl).2.2 (HS.out.limbs 0 rfl).2.1 (HS.out.limbs 6 rfl).2.2 (HS.out.limbs 6 rfl).2.1 H6.out).mono ?_
              rintro e w11_ ⟨rfl, hb⟩
              clear ux0 ux1 ua0 ua1
              have HN := Aside0.mk (HS.out.call hb)
              clear HS
              have HS := HN
              clear HN
              clear hb
              go_wp2
              have HN := Aside0.mk (HS.out.drew)
              clear HS
              have HS := HN
              clear HN
              refine start_ (n := 38) (S := fun w' => w'.cell? ⟨w7_.heap.size, 0, none⟩ = some (.bool (sb r)) ∧ w'.cell? ⟨w7_.heap.size, 1, none⟩ = some (.slice Ar (sl r).length cr) ∧ w'.cell? ⟨w.heap.size + 1, 0, none⟩ = some (.bool (sb y)) ∧ w'.cell? ⟨w.heap.size + 1, 1, none⟩ = some (.slice Anb (sl y).length cnb) ∧ w'.cell? ⟨w8_.heap.size, 0, none⟩ = some (.bool (sb m)) ∧ w'.cell? ⟨w8_.heap.size, 1, none⟩ = some (.slice Am (sl m).length cm) ∧ w'.cell? ⟨w.heap.size, 0, none⟩ = some (.bool (sb x)) ∧ w'.cell? ⟨w.heap.size, 1, none⟩ = some (.slice Ana (sl x).length cna)) (ds := []) #[false, false, false, false, false, false, false, false, false, false, false, false, false, false, false, false, false, false, false, false, false, false, false, false, false, false, false, false, false, false, false, false, false, false, false, false, false, false] (by kernel_rfl) rfl rfl ⟨(HS.out.cells 3 rfl).1, (HS.out.cells 3 rfl).2, (HS.out.cells 5 rfl).1, (HS.out.cells 5 rfl).2, (HS.out.cells 2 rfl).1, (HS.out.cells 2 rfl).2, (HS.out.cells 6 rfl).1, (HS.out.cells 6 rfl).2⟩ (fun hHeld => ?_)
              refine take_ (i := 0) (N := some 95) (v := ?_) (a' := ?_) #[true, false, false, false, false, false, false, false, false, false, false, false, false, false, false, false, false, false, false, false, false, false, false, false, false, false, false, false, false, false, false, false, false, false, false, false, false, false] rfl rfl (by kernel_rfl) (fun _ _ _ h => h) (Or.inl ⟨by rfl, ?_⟩) hHeld ?_ ?_
              rotate_left
              · rintro w' ⟨s0, s1, s2, s3, s4, s5, s6, s7⟩
                go_simp
                with_reducible rfl
              rotate_left
              · simp only [Act.put, List.setIfInBounds_toArray, List.set_cons_zero, List.set_cons_succ, i64_w, i32_w]
                rfl
              refine take_ (i := 2) (N := some 97) (v := ?_) (a' := ?_) #[true, false, true, false, false, false, false, false, false, false, false, false, false, false, false, false, false, false, false, false, false, false, false, false, false, false, false, false, false, false, false, false, false, false, false, false, false, false] rfl rfl (by kernel_rfl) (fun _ _ _ h => h) (Or.inl ⟨by rfl, ?_⟩) hHeld ?_ ?_
              rotate_left
              · rintro w' ⟨s0, s1, s2, s3, s4, s5, s6, s7⟩
                go_simp
                with_reducible rfl
              rotate_left
              · simp only [Act.put, List.setIfInBounds_toArray, List.set_cons_zero, List.set_cons_succ, i64_w, i32_w]
                rfl
              refine one_ (i := 1) (N := some 96) #[true, true, true, false, false, false, false, false, false, false, false, false, false, false, false, false, false, false, false, false, false, false, false, false, false, false, false, false, false, false, false, false, false, false, false, false, false, false] rfl rfl (by kernel_rfl) (by decide) (fun K hK => ?_)
              refine goes_ Tryd.func50 (by kernel_rfl) rfl #[.agg #[.bool (sb r), .slice Ar (sl r).length cr]] (by rfl) rfl rfl (by simp only [List.map_toArray, List.map_cons, List.map_nil]; rfl) ?_
              with_reducible refine (Hand.abs_calls (sb r) Ar cr (sl r).length _).mono ?_
              rintro e w3 ⟨rfl, hb⟩
              refine ⟨_, rfl, ?_⟩
              have HN := Aside0.mk (HS.out.call hb)
              clear HS
              have HS := HN
              clear HN
              refine hK.out _ _ ⟨(HS.out.cells 3 rfl).1, (HS.out.cells 3 rfl).2, (HS.out.cells 5 rfl).1, (HS.out.cells 5 rfl).2, (HS.out.cells 2 rfl).1, (HS.out.cells 2 rfl).2, (HS.out.cells 6 rfl).1, (HS.out.cells 6 rfl).2⟩ (fun hHeld => ?_)
              clear hK K
              refine norm_ (a' := ?_) ?_ ?_
              rotate_left
              · show Act.put _ (some 96) _ = _
                simp only [Act.put, List.setIfInBounds_toArray, List.set_cons_zero, List.set_cons_succ, i64_w, i32_w]
                rfl
              refine one_ (i := 3) (N := some 98) #[true, true, true, true, false, false, false, false, false, false, false, false, false, false, false, false, false, false, false, false, false, false, false, false, false, false, false, false, false, false, false, false, false, false, false, false, false, false] rfl rfl (by kernel_rfl) (by decide) (fun K hK => ?_)
              refine goes_ Tryd.func50 (by kernel_rfl) rfl #[.agg #[.bool (sb y), .slice Anb (sl y).length cnb]] (by rfl) rfl rfl (by simp only [List.map_toArray, List.map_cons, List.map_nil]; rfl) ?_
              with_reducible refine (Hand.abs_calls (sb y) Anb cnb (sl y).length _).mono ?_
              rintro e w3 ⟨rfl, hb⟩
              refine ⟨_, rfl, ?_⟩
              have HN := Aside0.mk (HS.out.call hb)
              clear HS
              have HS := HN
              clear HN
              refine hK.out _ _ ⟨(HS.out.cells 3 rfl).1, (HS.out.cells 3 rfl).2, (HS.out.cells 5 rfl).1, (HS.out.cells 5 rfl).2, (HS.out.cells 2 rfl).1, (HS.out.cells 2 rfl).2, (HS.out.cells 6 rfl).1, (HS.out.cells 6 rfl).2⟩ (fun hHeld => ?_)
              clear hK K
              refine norm_ (a' := ?_) ?_ ?_
              rotate_left
              · show Act.put _ (some 98) _ = _
                simp only [Act.put, List.setIfInBounds_toArray, List.set_cons_zero, List.set_cons_succ, i64_w, i32_w]
                rfl
              refine one_ (i := 4) (N := some 99) #[true, true, true, true, true, false, false, false, false, false, false, false, false, false, false, false, false, false, false, false, false, false, false, false, false, false, false, false, false, false, false, false, false, false, false, false, false, false] rfl rfl (by kernel_rfl) (by decide) (fun K hK => ?_)
              refine goes_ Tryd.func43 (by kernel_rfl) rfl #[.agg #[.bool false, .slice Ar (sl r).length cr], .agg #[.bool false, .slice Anb (sl y).length cnb]] (by rfl) rfl rfl (by simp only [List.map_toArray, List.map_cons, List.map_nil]; rfl) ?_
              with_reducible refine (num_Cmp.calls false Ar cr (sl r) false Anb cnb (sl y) (-1) _ (HS.out.limbs 3 rfl).2.2 (HS.out.limbs 3 rfl).2.1 (HS.out.limbs 5 rfl).2.2 (HS.out.limbs 5 rfl).2.1 H7.out).mono ?_
              rintro e w3 ⟨rfl, hb⟩
              refine ⟨_, rfl, ?_⟩
              have HN := Aside0.mk (HS.out.call hb)
              clear HS
              have HS := HN
              clear HN
              refine hK.out _ _ ⟨(HS.out.cells 3 rfl).1, (HS.out.cells 3 rfl).2, (HS.out.cells 5 rfl).1, (HS.out.cells 5 rfl).2, (HS.out.cells 2 rfl).1, (HS.out.cells 2 rfl).2, (HS.out.cells 6 rfl).1, (HS.out.cells 6 rfl).2⟩ (fun hHeld => ?_)
              clear hK K
              refine norm_ (a' := ?_) ?_ ?_
              rotate_left
              · show Act.put _ (some 99) _ = _
                simp only [Act.put, List.setIfInBounds_toArray, List.set_cons_zero, List.set_cons_succ, i64_w, i32_w]
                rfl
              refine pure_ (i := 5) (N := some 100) (v := ?_) (a' := ?_) #[true, true, true, true, true, true, false, false, false, false, false, false, false, false, false, false, false, false, false, false, false, false, false, false, false, false, false, false, false, false, false, false, false, false, false, false, false, false] rfl rfl (by kernel_rfl) (fun _ _ _ h => h) (Or.inl ⟨by rfl, ?_⟩) ?_ ?_
              rotate_left
              · intro w'
                go_simp
                with_reducible rfl
              rotate_left
              · simp only [Act.put, List.setIfInBounds_toArray, List.set_cons_zero, List.set_cons_succ, i64_w, i32_w]
                rfl
              refine pure_ (i := 6) (N := some 101) (v := ?_) (a' := ?_) #[true, true, true, true, true, true, true, false, false, false, false, false, false, false, false, false, false, false, false, false, false, false, false, false, false, false, false, false, false, false, false, false, false, false, false, false, false, false] rfl rfl (by kernel_rfl) (fun _ _ _ h => h) (Or.inl ⟨by rfl, ?_⟩) ?_ ?_
              rotate_left
              · intro w'
                go_simp
                with_reducible rfl
              rotate_left
              · simp only [Act.put, List.setIfInBounds_toArray, List.set_cons_zero, List.set_cons_succ, i64_w, i32_w]
                rfl
              refine take_ (i := 7) (N := some 102) (v := ?_) (a' := ?_) #[true, true, true, true, true, true, true, true, false, false, false, false, false, false, false, false, false, false, false, false, false, false, false, false, false, false, false, false, false, false, false, false, false, false, false, false, false, false] rfl rfl (by kernel_rfl) (fun _ _ _ h => h) (Or.inl ⟨by rfl, ?_⟩) hHeld ?_ ?_
              rotate_left
              · rintro w' ⟨s0, s1, s2, s3, s4, s5, s6, s7⟩
                go_simp
                with_reducible rfl
              rotate_left
              · simp only [Act.put, List.setIfInBounds_toArray, List.set_cons_zero, List.set_cons_succ, i64_w, i32_w]
                rfl
              refine take_ (i := 9) (N := some 104) (v := ?_) (a' := ?_) #[true, true, true, true, true, true, true, true, false, true, false, false, false, false, false, false, false, false, false, false, false, false, false, false, false, false, false, false, false, false, false, false, false, false, false, false, false, false] rfl rfl (by kernel_rfl) (fun _ _ _ h => h) (Or.inl ⟨by rfl, ?_⟩) hHeld ?_ ?_
              rotate_left
              · rintro w' ⟨s0, s1, s2, s3, s4, s5, s6, s7⟩
                go_simp
                with_reducible rfl
              rotate_left
              · simp only [Act.put, List.setIfInBounds_toArray, List.set_cons_zero, List.set_cons_succ, i64_w, i32_w]
                rfl
              refine one_ (i := 8) (N := some 103) #[true, true, true, true, true, true, true, true, true, true, false, false, false, false, false, false, false, false, false, false, false, false, false, false, false, false, false, false, false, false, false, false, false, false, false, false, false, false] rfl rfl (by kernel_rfl) (by decide) (fun K hK => ?_)
              refine goes_ Tryd.func50 (by kernel_rfl) rfl #[.agg #[.bool (sb m), .slice Am (sl m).length cm]] (by rfl) rfl rfl (by simp only [List.map_toArray, List.map_cons, List.map_nil]; rfl) ?_
              with_reducible refine (Hand.abs_calls (sb m) Am cm (sl m).length _).mono ?_
              rintro e w3 ⟨rfl, hb⟩
              refine ⟨_, rfl, ?_⟩
              have HN := Aside0.mk (HS.out.call hb)
              clear HS
              have HS := HN
              clear HN
              refine hK.out _ _ ⟨(HS.out.cells 3 rfl).1, (HS.out.cells 3 rfl).2, (HS.out.cells 5 rfl).1, (HS.out.cells 5 rfl).2, (HS.out.cells 2 rfl).1, (HS.out.cells 2 rfl).2, (HS.out.cells 6 rfl).1, (HS.out.cells 6 rfl).2⟩ (fun hHeld => ?_)
              clear hK K
              refine norm_ (a' := ?_) ?_ ?_
              rotate_left
              · show Act.put _ (some 103) _ = _
                simp only [Act.put, List.setIfInBounds_toArray, List.set_cons_zero, List.set_cons_succ, i64_w, i32_w]
                rfl
              refine one_ (i := 10) (N := some 105) #[true, true, true, true, true, true, true, true, true, true, true, false, false, false, false, false, false, false, false, false, false, false, false, false, false, false, false, false, false, false, false, false, false, false, false, false, false, false] rfl rfl (by kernel_rfl) (by decide) (fun K hK => ?_)
              refine goes_ Tryd.func50 (by kernel_rfl) rfl #[.agg #[.bool (sb y), .slice Anb (sl y).length cnb]] (by rfl) rfl rfl (by simp only [List.map_toArray, List.map_cons, List.map_nil]; rfl) ?_
              with_reducible refine (Hand.abs_calls (sb y) Anb cnb (sl y).length _).mono ?_
              rintro e w3 ⟨rfl, hb⟩
              refine ⟨_, rfl, ?_⟩
              have HN := Aside0.mk (HS.out.call hb)
              clear HS
              have HS := HN
              clear HN
              refine hK.out _ _ ⟨(HS.out.cells 3 rfl).1, (HS.out.cells 3 rfl).2, (HS.out.cells 5 rfl).1, (HS.out.cells 5 rfl).2, (HS.out.cells 2 rfl).1, (HS.out.cells 2 rfl).2, (HS.out.cells 6 rfl).1, (HS.out.cells 6 rfl).2⟩ (fun hHeld => ?_)
              clear hK K
              refine norm_ (a' := ?_) ?_ ?_
              rotate_left
              · show Act.put _ (some 105) _ = _
                simp only [Act.put, List.setIfInBounds_toArray, List.set_cons_zero, List.set_cons_succ, i64_w, i32_w]
                rfl
              refine one_ (i := 11) (N := some 106) #[true, true, true, true, true, true, true, true, true, true, true, true, false, false, false, false, false, false, false, false, false, false, false, false, false, false, false, false, false, false, false, false, false, false, false, false, false, false] rfl rfl (by kernel_rfl) (by decide) (fun K hK => ?_)
              refine goes_ Tryd.func43 (by kernel_rfl) rfl #[.agg #[.bool false, .slice Am (sl m).length cm], .agg #[.bool false, .slice Anb (sl y).length cnb]] (by rfl) rfl rfl (by simp only [List.map_toArray, List.map_cons, List.map_nil]; rfl) ?_
              with_reducible refine (num_Cmp.calls false Am cm (sl m) false Anb cnb (sl y) (-1) _ (HS.out.limbs 2 rfl).2.2 (HS.out.limbs 2 rfl).2.1 (HS.out.limbs 5 rfl).2.2 (HS.out.limbs 5 rfl).2.1 H8.out).mono ?_
              rintro e w3 ⟨rfl, hb⟩
              refine ⟨_, rfl, ?_⟩
              have HN := Aside0.mk (HS.out.call hb)
              clear HS
              have HS := HN
              clear HN
              refine hK.out _ _ ⟨(HS.out.cells 3 rfl).1, (HS.out.cells 3 rfl).2, (HS.out.cells 5 rfl).1, (HS.out.cells 5 rfl).2, (HS.out.cells 2 rfl).1, (HS.out.cells 2 rfl).2, (HS.out.cells 6 rfl).1, (HS.out.cells 6 rfl).2⟩ (fun hHeld => ?_)
              clear hK K
              refine norm_ (a' := ?_) ?_ ?_
              rotate_left
              · show Act.put _ (some 106) _ = _
                simp only [Act.put, List.setIfInBounds_toArray, List.set_cons_zero, List.set_cons_succ, i64_w, i32_w]
                rfl
              refine pure_ (i := 12) (N := some 107) (v := ?_) (a' := ?_) #[true, true, true, true, true, true, true, true, true, true, true, true, true, false, false, false, false, false, false, false, false, false, false, false, false, false, false, false, false, false, false, false, false, false, false, false, false, false] rfl rfl (by kernel_rfl) (fun _ _ _ h => h) (Or.inl ⟨by rfl, ?_⟩) ?_ ?_
              rotate_left
              · intro w'
                go_simp
                with_reducible rfl
              rotate_left
              · simp only [Act.put, List.setIfInBounds_toArray, List.set_cons_zero, List.set_cons_succ, i64_w, i32_w]
                rfl
              refine pure_ (i := 13) (N := some 108) (v := ?_) (a' := ?_) #[true, true, true, true, true, true, true, true, true, true, true, true, true, true, false, false, false, false, false, false, false, false, false, false, false, false, false, false, false, false, false, false, false, false, false, false, false, false] rfl rfl (by kernel_rfl) (fun _ _ _ h => h) (Or.inl ⟨by rfl, ?_⟩) ?_ ?_
              rotate_left
              · intro w'
                go_simp
                with_reducible rfl
              rotate_left
              · simp only [Act.put, List.setIfInBounds_toArray, List.set_cons_zero, List.set_cons_succ, i64_w, i32_w]
                rfl
              refine pure_ (i := 14) (N := some 109) (v := ?_) (a' := ?_) #[true, true, true, true, true, true, true, true, true, true, true, true, true, true, true, false, false, false, false, false, false, false, false, false, false, false, false, false, false, false, false, false, false, false, false, false, false, false] rfl rfl (by kernel_rfl) (fun _ _ _ h => h) (Or.inl ⟨by rfl, ?_⟩) ?_ ?_
              rotate_left
              · intro w'
                go_simp
                with_reducible rfl
              rotate_left
              · simp only [Act.put, List.setIfInBounds_toArray, List.set_cons_zero, List.set_cons_succ, i64_w, i32_w]
                rfl
              refine take_ (i := 15) (N := some 110) (v := ?_) (a' := ?_) #[true, true, true, true, true, true, true, true, true, true, true, true, true, true, true, true, false, false, false, false, false, false, false, false, false, false, false, false, false, false, false, false, false, false, false, false, false, false] rfl rfl (by kernel_rfl) (fun _ _ _ h => h) (Or.inl ⟨by rfl, ?_⟩) hHeld ?_ ?_
              rotate_left
              · rintro w' ⟨s0, s1, s2, s3, s4, s5, s6, s7⟩
                go_simp
                with_reducible rfl
              rotate_left
              · simp only [Act.put, List.setIfInBounds_toArray, List.set_cons_zero, List.set_cons_succ, i64_w, i32_w]
                rfl
              refine one_ (i := 16) (N := some 111) #[true, true, true, true, true, true, true, true, true, true, true, true, true, true, true, true, true, false, false, false, false, false, false, false, false, false, false, false, false, false, false, false, false, false, false, false, false, false] rfl rfl (by kernel_rfl) (by decide) (fun K hK => ?_)
              refine goes_ Tryd.func39 (by kernel_rfl) rfl #[.agg #[.bool (sb r), .slice Ar (sl r).length cr]] (by rfl) rfl rfl (by simp only [List.map_toArray, List.map_cons, List.map_nil]; rfl) ?_
              with_reducible refine (num_Sign.calls (sb r) Ar cr (sl r) sr _ (HS.out.limbs 3 rfl).2.2 (HS.out.limbs 3 rfl).2.1 HR.out).mono ?_
              rintro e w3 ⟨rfl, hb⟩
              refine ⟨_, rfl, ?_⟩
              have HN := Aside0.mk (HS.out.call hb)
              clear HS
              have HS := HN
              clear HN
              refine hK.out _ _ ⟨(HS.out.cells 3 rfl).1, (HS.out.cells 3 rfl).2, (HS.out.cells 5 rfl).1, (HS.out.cells 5 rfl).2, (HS.out.cells 2 rfl).1, (HS.out.cells 2 rfl).2, (HS.out.cells 6 rfl).1, (HS.out.cells 6 rfl).2⟩ (fun hHeld => ?_)
              clear hK K
              refine norm_ (a' := ?_) ?_ ?_
              rotate_left
              · show Act.put _ (some 111) _ = _
                simp only [Act.put, List.setIfInBounds_toArray, List.set_cons_zero, List.set_cons_succ, i64_w, i32_w]
                rfl
              refine pure_ (i := 17) (N := some 112) (v := ?_) (a' := ?_) #[true, true, true, true, true, true, true, true, true, true, true, true, true, true, true, true, true, true, false, false, false, false, false, false, false, false, false, false, false, false, false, false, false, false, false, false, false, false] rfl rfl (by kernel_rfl) (fun _ _ _ h => h) (Or.inl ⟨by rfl, ?_⟩) ?_ ?_
              rotate_left
              · intro w'
                go_simp
                with_reducible rfl
              rotate_left
              · simp only [Act.put, List.setIfInBounds_toArray, List.set_cons_zero, List.set_cons_succ, i64_w, i32_w]
                rfl
              refine pure_ (i := 18) (N := some 113) (v := ?_) (a' := ?_) #[true, true, true, true, true, true, true, true, true, true, true, true, true, true, true, true, true, true, true, false, false, false, false, false, false, false, false, false, false, false, false, false, false, false, false, false, false, false] rfl rfl (by kernel_rfl) (fun _ _ _ h => h) (Or.inl ⟨by rfl, ?_⟩) ?_ ?_
              rotate_left
              · intro w'
                go_simp
                with_reducible rfl
              rotate_left
              · simp only [Act.put, List.setIfInBounds_toArray, List.set_cons_zero, List.set_cons_succ, i64_w, i32_w]
                rfl
              refine take_ (i := 19) (N := some 114) (v := ?_) (a' := ?_) #[true, true, true, true, true, true, true, true, true, true, true, true, true, true, true, true, true, true, true, true, false, false, false, false, false, false, false, false, false, false, false, false, false, false, false, false, false, false] rfl rfl (by kernel_rfl) (fun _ _ _ h => h) (Or.inl ⟨by rfl, ?_⟩) hHeld ?_ ?_
              rotate_left
              · rintro w' ⟨s0, s1, s2, s3, s4, s5, s6, s7⟩
                go_simp
                with_reducible rfl
              rotate_left
              · simp only [Act.put, List.setIfInBounds_toArray, List.set_cons_zero, List.set_cons_succ, i64_w, i32_w]
                rfl
              refine take_ (i := 21) (N := some 116) (v := ?_) (a' := ?_) #[true, true, true, true, true, true, true, true, true, true, true, true, true, true, true, true, true, true, true, true, false, true, false, false, false, false, false, false, false, false, false, false, false, false, false, false, false, false] rfl rfl (by kernel_rfl) (fun _ _ _ h => h) (Or.inl ⟨by rfl, ?_⟩) hHeld ?_ ?_
              rotate_left
              · rintro w' ⟨s0, s1, s2, s3, s4, s5, s6, s7⟩
                go_simp
                with_reducible rfl
              rotate_left
              · simp only [Act.put, List.setIfInBounds_toArray, List.set_cons_zero, List.set_cons_succ, i64_w, i32_w]
                rfl
              refine one_ (i := 20) (N := some 115) #[true, true, true, true, true, true, true, true, true, true, true, true, true, true, true, true, true, true, true, true, true, true, false, false, false, false, false, false, false, false, false, false, false, false, false, false, false, false] rfl rfl (by kernel_rfl) (by decide) (fun K hK => ?_)
              refine goes_ Tryd.func39 (by kernel_rfl) rfl #[.agg #[.bool (sb r), .slice Ar (sl r).length cr]] (by rfl) rfl rfl (by simp only [List.map_toArray, List.map_cons, List.map_nil]; rfl) ?_
              with_reducible refine (num_Sign.calls (sb r) Ar cr (sl r) sr _ (HS.out.limbs 3 rfl).2.2 (HS.out.limbs 3 rfl).2.1 HR.out).mono ?_
              rintro e w3 ⟨rfl, hb⟩
              refine ⟨_, rfl, ?_⟩
              have HN := Aside0.mk (HS.out.call hb)
              clear HS
              have HS := HN
              clear HN
              refine hK.out _ _ ⟨(HS.out.cells 3 rfl).1, (HS.out.cells 3 rfl).2, (HS.out.cells 5 rfl).1, (HS.out.cells 5 rfl).2, (HS.out.cells 2 rfl).1, (HS.out.cells 2 rfl).2, (HS.out.cells 6 rfl).1, (HS.out.cells 6 rfl).2⟩ (fun hHeld => ?_)
              clear hK K
              refine norm_ (a' := ?_) ?_ ?_
              rotate_left
              · show Act.put _ (some 115) _ = _
                simp only [Act.put, List.setIfInBounds_toArray, List.set_cons_zero, List.set_cons_succ, i64_w, i32_w]
                rfl
              refine one_ (i := 22) (N := some 117) #[true, true, true, true, true, true, true, true, true, true, true, true, true, true, true, true, true, true, true, true, true, true, true, false, false, false, false, false, false, false, false, false, false, false, false, false, false, false] rfl rfl (by kernel_rfl) (by decide) (fun K hK => ?_)
              refine goes_ Tryd.func39 (by kernel_rfl) rfl #[.agg #[.bool (sb x), .slice Ana (sl x).length cna]] (by rfl) rfl rfl (by simp only [List.map_toArray, List.map_cons, List.map_nil]; rfl) ?_
              with_reducible refine (num_Sign.calls (sb x) Ana cna (sl x) sr _ (HS.out.limbs 6 rfl).2.2 (HS.out.limbs 6 rfl).2.1 HX.out).mono ?_
              rintro e w3 ⟨rfl, hb⟩
              refine ⟨_, rfl, ?_⟩
              have HN := Aside0.mk (HS.out.call hb)
              clear HS
              have HS := HN
              clear HN
              refine hK.out _ _ ⟨(HS.out.cells 3 rfl).1, (HS.out.cells 3 rfl).2, (HS.out.cells 5 rfl).1, (HS.out.cells 5 rfl).2, (HS.out.cells 2 rfl).1, (HS.out.cells 2 rfl).2, (HS.out.cells 6 rfl).1, (HS.out.cells 6 rfl).2⟩ (fun hHeld => ?_)
              clear hK K
              refine norm_ (a' := ?_) ?_ ?_
              rotate_left
              · show Act.put _ (some 117) _ = _
                simp only [Act.put, List.setIfInBounds_toArray, List.set_cons_zero, List.set_cons_succ, i64_w, i32_w]
                rfl
              refine pure_ (i := 23) (N := some 118) (v := ?_) (a' := ?_) #[true, true, true, true, true, true, true, true, true, true, true, true, true, true, true, true, true, true, true, true, true, true, true, true, false, false, false, false, false, false, false, false, false, false, false, false, false, false] rfl rfl (by kernel_rfl) (fun _ _ _ h => h) (Or.inl ⟨by rfl, ?_⟩) ?_ ?_
              rotate_left
              · intro w'
                go_simp
                with_reducible rfl
              rotate_left
              · simp only [Act.put, List.setIfInBounds_toArray, List.set_cons_zero, List.set_cons_succ, i64_w, i32_w]
                rfl
              refine pure_ (i := 24) (N := some 119) (v := ?_) (a' := ?_) #[true, true, true, true, true, true, true, true, true, true, true, true, true, true, true, true, true, true, true, true, true, true, true, true, true, false, false, false, false, false, false, false, false, false, false, false, false, false] rfl rfl (by kernel_rfl) (fun _ _ _ h => h) (Or.inl ⟨by rfl, ?_⟩) ?_ ?_
              rotate_left
              · intro w'
                go_simp
                with_reducible rfl
              rotate_left
              · simp only [Act.put, List.setIfInBounds_toArray, List.set_cons_zero, List.set_cons_succ, i64_w, i32_w]
                rfl
              refine pure_ (i := 25) (N := some 120) (v := ?_) (a' := ?_) #[true, true, true, true, true, true, true, true, true, true, true, true, true, true, true, true, true, true, true, true, true, true, true, true, true, true, false, false, false, false, false, false, false, false, false, false, false, false] rfl rfl (by kernel_rfl) (fun _ _ _ h => h) (Or.inl ⟨by rfl, ?_⟩) ?_ ?_
              rotate_left
              · intro w'
                go_simp
                with_reducible rfl
              rotate_left
              · simp only [Act.put, List.setIfInBounds_toArray, List.set_cons_zero, List.set_cons_succ, i64_w, i32_w]
                rfl
              refine pure_ (i := 26) (N := some 121) (v := ?_) (a' := ?_) #[true, true, true, true, true, true, true, true, true, true, true, true, true, true, true, true, true, true, true, true, true, true, true, true, true, true, true, false, false, false, false, false, false, false, false, false, false, false] rfl rfl (by kernel_rfl) (fun _ _ _ h => h) (Or.inl ⟨by rfl, ?_⟩) ?_ ?_
              rotate_left
              · intro w'
                go_simp
                with_reducible rfl
              rotate_left
              · simp only [Act.put, List.setIfInBounds_toArray, List.set_cons_zero, List.set_cons_succ, i64_w, i32_w]
                rfl
              refine take_ (i := 27) (N := some 122) (v := ?_) (a' := ?_) #[true, true, true, true, true, true, true, true, true, true, true, true, true, true, true, true, true, true, true, true, true, true, true, true, true, true, true, true, false, false, false, false, false, false, false, false, false, false] rfl rfl (by kernel_rfl) (fun _ _ _ h => h) (Or.inl ⟨by rfl, ?_⟩) hHeld ?_ ?_
              rotate_left
              · rintro w' ⟨s0, s1, s2, s3, s4, s5, s6, s7⟩
                go_simp
                with_reducible rfl
              rotate_left
              · simp only [Act.put, List.setIfInBounds_toArray, List.set_cons_zero, List.set_cons_succ, i64_w, i32_w]
                rfl
              refine one_ (i := 28) (N := some 123) #[true, true, true, true, true, true, true, true, true, true, true, true, true, true, true, true, true, true, true, true, true, true, true, true, true, true, true, true, true, false, false, false, false, false, false, false, false, false] rfl rfl (by kernel_rfl) (by decide) (fun K hK => ?_)
              refine goes_ Tryd.func39 (by kernel_rfl) rfl #[.agg #[.bool (sb m), .slice Am (sl m).length cm]] (by rfl) rfl rfl (by simp only [List.map_toArray, List.map_cons, List.map_nil]; rfl) ?_
              with_reducible refine (num_Sign.calls (sb m) Am cm (sl m) sy _ (HS.out.limbs 2 rfl).2.2 (HS.out.limbs 2 rfl).2.1 HM.out).mono ?_
              rintro e w3 ⟨rfl, hb⟩
              refine ⟨_, rfl, ?_⟩
              have HN := Aside0.mk (HS.out.call hb)
              clear HS
              have HS := HN
              clear HN
              refine hK.out _ _ ⟨(HS.out.cells 3 rfl).1, (HS.out.cells 3 rfl).2, (HS.out.cells 5 rfl).1, (HS.out.cells 5 rfl).2, (HS.out.cells 2 rfl).1, (HS.out.cells 2 rfl).2, (HS.out.cells 6 rfl).1, (HS.out.cells 6 rfl).2⟩ (fun hHeld => ?_)
              clear hK K
              refine norm_ (a' := ?_) ?_ ?_
              rotate_left
              · show Act.put _ (some 123) _ = _
                simp only [Act.put, List.setIfInBounds_toArray, List.set_cons_zero, List.set_cons_succ, i64_w, i32_w]
                rfl
              refine pure_ (i := 29) (N := some 124) (v := ?_) (a' := ?_) #[true, true, true, true, true, true, true, true, true, true, true, true, true, true, true, true, true, true, true, true, true, true, true, true, true, true, true, true, true, true, false, false, false, false, false, false, false, false] rfl rfl (by kernel_rfl) (fun _ _ _ h => h) (Or.inl ⟨by rfl, ?_⟩) ?_ ?_
              rotate_left
              · intro w'
                go_simp
                with_reducible rfl
              rotate_left
              · simp only [Act.put, List.setIfInBounds_toArray, List.set_cons_zero, List.set_cons_succ, i64_w, i32_w]
                rfl
              refine pure_ (i := 30) (N := some 125) (v := ?_) (a' := ?_) #[true, true, true, true, true, true, true, true, true, true, true, true, true, true, true, true, true, true, true, true, true, true, true, true, true, true, true, true, true, true, true, false, false, false, false, false, false, false] rfl rfl (by kernel_rfl) (fun _ _ _ h => h) (Or.inl ⟨by rfl, ?_⟩) ?_ ?_
              rotate_left
              · intro w'
                go_simp
                with_reducible rfl
              rotate_left
              · simp only [Act.put, List.setIfInBounds_toArray, List.set_cons_zero, List.set_cons_succ, i64_w, i32_w]
                rfl
              refine take_ (i := 31) (N := some 126) (v := ?_) (a' := ?_) #[true, true, true, true, true, true, true, true, true, true, true, true, true, true, true, true, true, true, true, true, true, true, true, true, true, true, true, true, true, true, true, true, false, false, false, false, false, false] rfl rfl (by kernel_rfl) (fun _ _ _ h => h) (Or.inl ⟨by rfl, ?_⟩) hHeld ?_ ?_
              rotate_left
              · rintro w' ⟨s0, s1, s2, s3, s4, s5, s6, s7⟩
                go_simp
                with_reducible rfl
              rotate_left
              · simp only [Act.put, List.setIfInBounds_toArray, List.set_cons_zero, List.set_cons_succ, i64_w, i32_w]
                rfl
              refine take_ (i := 33) (N := some 128) (v := ?_) (a' := ?_) #[true, true, true, true, true, true, true, true, true, true, true, true, true, true, true, true, true, true, true, true, true, true, true, true, true, true, true, true, true, true, true, true, false, true, false, false, false, false] rfl rfl (by kernel_rfl) (fun _ _ _ h => h) (Or.inl ⟨by rfl, ?_⟩) hHeld ?_ ?_
              rotate_left
              · rintro w' ⟨s0, s1, s2, s3, s4, s5, s6, s7⟩
                go_simp
                with_reducible rfl
              rotate_left
              · simp only [Act.put, List.setIfInBounds_toArray, List.set_cons_zero, List.set_cons_succ, i64_w, i32_w]
                rfl
              refine one_ (i := 32) (N := some 127) #[true, true, true, true, true, true, true, true, true, true, true, true, true, true, true, true, true, true, true, true, true, true, true, true, true, true, true, true, true, true, true, true, true, true, false, false, false, false] rfl rfl (by kernel_rfl) (by decide) (fun K hK => ?_)
              refine goes_ Tryd.func39 (by kernel_rfl) rfl #[.agg #[.bool (sb m), .slice Am (sl m).length cm]] (by rfl) rfl rfl (by simp only [List.map_toArray, List.map_cons, List.map_nil]; rfl) ?_
              with_reducible refine (num_Sign.calls (sb m) Am cm (sl m) sy _ (HS.out.limbs 2 rfl).2.2 (HS.out.limbs 2 rfl).2.1 HM.out).mono ?_
              rintro e w3 ⟨rfl, hb⟩
              refine ⟨_, rfl, ?_⟩
              have HN := Aside0.mk (HS.out.call hb)
              clear HS
              have HS := HN
              clear HN
              refine hK.out _ _ ⟨(HS.out.cells 3 rfl).1, (HS.out.cells 3 rfl).2, (HS.out.cells 5 rfl).1, (HS.out.cells 5 rfl).2, (HS.out.cells 2 rfl).1, (HS.out.cells 2 rfl).2, (HS.out.cells 6 rfl).1, (HS.out.cells 6 rfl).2⟩ (fun hHeld => ?_)
              clear hK K
              refine norm_ (a' := ?_) ?_ ?_
              rotate_left
              · show Act.put _ (some 127) _ = _
                simp only [Act.put, List.setIfInBounds_toArray, List.set_cons_zero, List.set_cons_succ, i64_w, i32_w]
                rfl
              refine one_ (i := 34) (N := some 129) #[true, true, true, true, true, true, true, true, true, true, true, true, true, true, true, true, true, true, true, true, true, true, true, true, true, true, true, true, true, true, true, true, true, true, true, false, false, false] rfl rfl (by kernel_rfl) (by decide) (fun K hK => ?_)
              refine goes_ Tryd.func39 (by kernel_rfl) rfl #[.agg #[.bool (sb y), .slice Anb (sl y).length cnb]] (by rfl) rfl rfl (by simp only [List.map_toArray, List.map_cons, List.map_nil]; rfl) ?_
              with_reducible refine (num_Sign.calls (sb y) Anb cnb (sl y) sy _ (HS.out.limbs 5 rfl).2.2 (HS.out.limbs 5 rfl).2.1 H0.out).mono ?_
              rintro e w3 ⟨rfl, hb⟩
              refine ⟨_, rfl, ?_⟩
              have HN := Aside0.mk (HS.out.call hb)
              clear HS
              have HS := HN
              clear HN
              refine hK.out _ _ ⟨(HS.out.cells 3 rfl).1, (HS.out.cells 3 rfl).2, (HS.out.cells 5 rfl).1, (HS.out.cells 5 rfl).2, (HS.out.cells 2 rfl).1, (HS.out.cells 2 rfl).2, (HS.out.cells 6 rfl).1, (HS.out.cells 6 rfl).2⟩ (fun hHeld => ?_)
              clear hK K
              refine norm_ (a' := ?_) ?_ ?_
              rotate_left
              · show Act.put _ (some 129) _ = _
                simp only [Act.put, List.setIfInBounds_toArray, List.set_cons_zero, List.set_cons_succ, i64_w, i32_w]
                rfl
              refine pure_ (i := 35) (N := some 130) (v := ?_) (a' := ?_) #[true, true, true, true, true, true, true, true, true, true, true, true, true, true, true, true, true, true, true, true, true, true, true, true, true, true, true, true, true, true, true, true, true, true, true, true, false, false] rfl rfl (by kernel_rfl) (fun _ _ _ h => h) (Or.inl ⟨by rfl, ?_⟩) ?_ ?_
              rotate_left
              · intro w'
                go_simp
                with_reducible rfl
              rotate_left
              · simp only [Act.put, List.setIfInBounds_toArray, List.set_cons_zero, List.set_cons_succ, i64_w, i32_w]
                rfl
              refine pure_ (i := 36) (N := some 131) (v := ?_) (a' := ?_) #[true, true, true, true, true, true, true, true, true, true, true, true, true, true, true, true, true, true, true, true, true, true, true, true, true, true, true, true, true, true, true, true, true, true, true, true, true, false] rfl rfl (by kernel_rfl) (fun _ _ _ h => h) (Or.inl ⟨by rfl, ?_⟩) ?_ ?_
              rotate_left
              · intro w'
                go_simp
                with_reducible rfl
              rotate_left
              · simp only [Act.put, List.setIfInBounds_toArray, List.set_cons_zero, List.set_cons_succ, i64_w, i32_w]
                rfl
              refine pure_ (i := 37) (N := some 132) (v := ?_) (a' := ?_) #[true, true, true, true, true, true, true, true, true, true, true, true, true, true, true, true, true, true, true, true, true, true, true, true, true, true, true, true, true, true, true, true, true, true, true, true, true, true] rfl rfl (by kernel_rfl) (fun _ _ _ h => h) (Or.inl ⟨by rfl, ?_⟩) ?_ ?_
              rotate_left
              · intro w'
                go_simp
                with_reducible rfl
              rotate_left
              · simp only [Act.put, List.setIfInBounds_toArray, List.set_cons_zero, List.set_cons_succ, i64_w, i32_w]
                rfl
              refine done_ (by kernel_rfl) ?_
              rcases HE2.out with he | he
              · skip
                have HD := Aside0.mk (show num_Sub.f (sb m) (sl m) (sb r) (sl r) = some (sb 0, sl 0, 0) by rw [HSUB.out, he, show r - r = 0 by omega, mkI_fits fits_zero])
                have HDS := Aside0.mk (show num_Sign.f (sb 0) (sl 0) = some 0 by rw [sign_at fits_zero]; rfl)
                clear he
                obtain ⟨um0, um1⟩ := HS.out.cells 2 rfl
                obtain ⟨ur0, ur1⟩ := HS.out.cells 3 rfl
                go_wp2_with fail
                refine (num_Sub.calls (sb m) Am cm (sl m) (sb r) Ar cr (sl r) (sb 0) (sl 0) 0 _ (HS.out.limbs 2 rfl).2.2 (HS.out.limbs 2 rfl).2.1 (HS.out.limbs 3 rfl).2.2 (HS.out.limbs 3 rfl).2.1 HD.out).mono ?_
                rintro e w12_ ⟨v, rfl, hR, hb⟩
                clear um0 um1 ur0 ur1
                obtain ⟨Ad, cd, rfl⟩ := Kd.R_slice hR
                have HN := Aside0.mk (HS.out.call32 hb hR)
                clear HS
                have HS := HN
                clear HN
                clear hb hR
                have HN := Aside0.mk (HS.out.boxed #[.bool (sb 0), .slice Ad (sl 0).length cd] 25 (by decide))
                clear HS
                have HS := HN
                clear HN
                obtain ⟨ud0, ud1⟩ := HS.out.cells 0 rfl
                go_wp2_with fail
                refine (num_Sign.calls (sb 0) Ad cd (sl 0) 0 _ (HS.out.limbs 0 rfl).2.2 (HS.out.limbs 0 rfl).2.1 HDS.out).mono ?_
                rintro e w13_ ⟨rfl, hb⟩
                clear ud0 ud1
                have HN := Aside0.mk (HS.out.call hb)
                clear HS
                have HS := HN
                clear HN
                clear hb
                go_wp2_with fail
                refine (awake_calls _ (NumV.Tab.below HT.out HS.out.below)).mono ?_
                rintro e w14_ ⟨rfl, hb⟩
                have HN := Aside0.mk (HS.out.call hb)
                clear HS
                have HS := HN
                clear HN
                clear hb
                go_wp2
                go_ret
                exact ⟨rfl, HS.out.below⟩
              · skip
                have HD := Aside0.mk (show num_Sub.f (sb m) (sl m) (sb r) (sl r) = some (sb y, sl y, 0) by rw [HSUB.out, he, show r + y - r = y by omega, mkI_fits HFY.out])
                have HDS := Aside0.mk (show num_Sign.f (sb y) (sl y) = some sy from H0.out)
                have HYY := Aside0.mk (show num_Cmp.f (sb y) (sl y) (sb y) (sl y) = some 0 by rw [cmp_at HFY.out HFY.out, cmp_self])
                clear he
                obtain ⟨um0, um1⟩ := HS.out.cells 2 rfl
                obtain ⟨ur0, ur1⟩ := HS.out.cells 3 rfl
                go_wp2_with fail
                refine (num_Sub.calls (sb m) Am cm (sl m) (sb r) Ar cr (sl r) (sb y) (sl y) 0 _ (HS.out.limbs 2 rfl).2.2 (HS.out.limbs 2 rfl).2.1 (HS.out.limbs 3 rfl).2.2 (HS.out.limbs 3 rfl).2.1 HD.out).mono ?_
                rintro e w12_ ⟨v, rfl, hR, hb⟩
                clear um0 um1 ur0 ur1
                obtain ⟨Ad, cd, rfl⟩ := Kd.R_slice hR
                have HN := Aside0.mk (HS.out.call32 hb hR)
                clear HS
                have HS := HN
                clear HN
                clear hb hR
                have HN := Aside0.mk (HS.out.boxed #[.bool (sb y), .slice Ad (sl y).length cd] 25 (by decide))
                clear HS
                have HS := HN
                clear HN
                obtain ⟨ud0, ud1⟩ := HS.out.cells 0 rfl
                go_wp2_with fail
                refine (num_Sign.calls (sb y) Ad cd (sl y) sy _ (HS.out.limbs 0 rfl).2.2 (HS.out.limbs 0 rfl).2.1 HDS.out).mono ?_
                rintro e w13_ ⟨rfl, hb⟩
                clear ud0 ud1
                have HN := Aside0.mk (HS.out.call hb)
                clear HS
                have HS := HN
                clear HN
                clear hb
                obtain ⟨ud0, ud1⟩ := HS.out.cells 0 rfl
                obtain ⟨ub0, ub1⟩ := HS.out.cells 6 rfl
                go_wp2_with fail
                refine (num_Cmp.calls (sb y) Ad cd (sl y) (sb y) Anb cnb (sl y) 0 _ (HS.out.limbs 0 rfl).2.2 (HS.out.limbs 0 rfl).2.1 (HS.out.limbs 6 rfl).2.2 (HS.out.limbs 6 rfl).2.1 HYY.out).mono ?_
                rintro e w14_ ⟨rfl, hb⟩
                clear ud0 ud1 ub0 ub1
                have HN := Aside0.mk (HS.out.call hb)
                clear HS
                have HS := HN
                clear HN
                clear hb
                go_wp2_with fail
                refine (awake_calls _ (NumV.Tab.below HT.out HS.out.below)).mono ?_
                rintro e w15_ ⟨rfl, hb⟩
                have HN := Aside0.mk (HS.out.call hb)
                clear HS
                have HS := HN
                clear HN
                clear hb
                go_wp2
                go_ret
                exact ⟨rfl, HS.out.below⟩
        · skip
          rw [mkI_big fy] at ey
          obtain ⟨r1, r2, ez⟩ : ∃ r1 r2, num_Norm.f n1 l1 = some (r1, r2, 6) := ⟨_, _, ey⟩
          have HNA := Aside0.mk ex
          have HNB := Aside0.mk ez
          clear fx fy ex ey ez kl km
          go_enter Tryd.func16, Tryd.ntmps16
          obtain ⟨ua0, ua1⟩ := HS.out.cells 1 rfl
          go_wp2_with fail
          refine (long_calls n0 l0 A0 c0 false ha _ (HS.out.came HR0.out) HC0.out).mono ?_
          rintro e w1_ ⟨rfl, hb⟩
          clear ua0 ua1
          have HN := Aside0.mk (HS.out.call hb)
          clear HS
          have HS := HN
          clear HN
          clear hb
          obtain ⟨ub0, ub1⟩ := HS.out.cells 0 rfl
          go_wp2_with fail
          refine (long_calls n1 l1 A1 c1 false hb1 _ (HS.out.came HR1.out) HC1.out).mono ?_
          rintro e w2_ ⟨rfl, hb⟩
          clear ub0 ub1
          have HN := Aside0.mk (HS.out.call hb)
          clear HS
          have HS := HN
          clear HN
          clear hb
          obtain ⟨ua0, ua1⟩ := HS.out.cells 1 rfl
          go_wp2_with fail
          refine (num_Norm.calls n0 A0 c0 l0 (sb x) (sl x) 0 _ (HS.out.came HR0.out) HC0.out HNA.out).mono ?_
          rintro e w3_ ⟨v, rfl, hR, hb⟩
          clear ua0 ua1
          obtain ⟨Ana, cna, rfl⟩ := Kd.R_slice hR
          have HN := Aside0.mk (HS.out.call32 hb hR)
          clear HS
          have HS := HN
          clear HN
          clear hb hR
          obtain ⟨ua0, ua1⟩ := HS.out.cells 1 rfl
          have fa0 := HS.out.froz 1 rfl 0
          have fa1 := HS.out.froz 1 rfl 1
          have HN := Aside0.mk (HS.out.set2 1 rfl (.bool (sb x)) (.slice Ana (sl x).length cna))
          clear HS
          have HS := HN
          clear HN
          obtain ⟨ub0, ub1⟩ := HS.out.cells 0 rfl
          go_wp2_with fail
          refine (num_Norm.calls n1 A1 c1 l1 r1 r2 6 _ (HS.out.came HR1.out) HC1.out HNB.out).mono ?_
          rintro e w4_ ⟨v, rfl, hR, hb⟩
          clear ua0 ua1 fa0 fa1 ub0 ub1
          obtain ⟨Anb, cnb, rfl⟩ := Kd.R_slice hR
          have HN := Aside0.mk (HS.out.call32 hb hR)
          clear HS
          have HS := HN
          clear HN
          clear hb hR
          obtain ⟨ub0, ub1⟩ := HS.out.cells 0 rfl
          have fb0 := HS.out.froz 0 rfl 0
          have fb1 := HS.out.froz 0 rfl 1
          have HN := Aside0.mk (HS.out.set2 0 rfl (.bool r1) (.slice Anb r2.length cnb))
          clear HS
          have HS := HN
          clear HN
          go_wp2_with fail
          refine (awake_calls _ (NumV.Tab.below HT.out HS.out.below)).mono ?_
          rintro e w5_ ⟨rfl, hb⟩
          clear ub0 ub1 fb0 fb1
          have HN := Aside0.mk (HS.out.call hb)
          clear HS
          have HS := HN
          clear HN
          clear hb
          go_wp2
          go_ret
          exact ⟨rfl, HS.out.below⟩
      · skip
        rw [mkI_big fx] at ex
        obtain ⟨r1, r2, ez⟩ : ∃ r1 r2, num_Norm.f n0 l0 = some (r1, r2, 6) := ⟨_, _, ex⟩
        obtain ⟨⟨s1, s2, s3⟩, hs⟩ : ∃ s, mkI y = s := ⟨_, rfl⟩
        rw [hs] at ey
        have HNA := Aside0.mk ez
        have HNB := Aside0.mk ey
        clear fx ex ey ez kl km hs
        go_enter Tryd.func16, Tryd.ntmps16
        obtain ⟨ua0, ua1⟩ := HS.out.cells 1 rfl
        go_wp2_with fail
        refine (long_calls n0 l0 A0 c0 false ha _ (HS.out.came HR0.out) HC0.out).mono ?_
        rintro e w1_ ⟨rfl, hb⟩
        clear ua0 ua1
        have HN := Aside0.mk (HS.out.call hb)
        clear HS
        have HS := HN
        clear HN
        clear hb
        obtain ⟨ub0, ub1⟩ := HS.out.cells 0 rfl
        go_wp2_with fail
        refine (long_calls n1 l1 A1 c1 false hb1 _ (HS.out.came HR1.out) HC1.out).mono ?_
        rintro e w2_ ⟨rfl, hb⟩
        clear ub0 ub1
        have HN := Aside0.mk (HS.out.call hb)
        clear HS
        have HS := HN
        clear HN
        clear hb
        obtain ⟨ua0, ua1⟩ := HS.out.cells 1 rfl
        go_wp2_with fail
        refine (num_Norm.calls n0 A0 c0 l0 r1 r2 6 _ (HS.out.came HR0.out) HC0.out HNA.out).mono ?_
        rintro e w3_ ⟨v, rfl, hR, hb⟩
        clear ua0 ua1
        obtain ⟨Ana, cna, rfl⟩ := Kd.R_slice hR
        have HN := Aside0.mk (HS.out.call32 hb hR)
        clear HS
        have HS := HN
        clear HN
        clear hb hR
        obtain ⟨ua0, ua1⟩ := HS.out.cells 1 rfl
        have fa0 := HS.out.froz 1 rfl 0
        have fa1 := HS.out.froz 1 rfl 1
        have HN := Aside0.mk (HS.out.set2 1 rfl (.bool r1) (.slice Ana r2.length cna))
        clear HS
        have HS := HN
        clear HN
        obtain ⟨ub0, ub1⟩ := HS.out.cells 0 rfl
        go_wp2_with fail
        refine (num_Norm.calls n1 A1 c1 l1 s1 s2 s3 _ (HS.out.came HR1.out) HC1.out HNB.out).mono ?_
        rintro e w4_ ⟨v, rfl, hR, hb⟩
        clear ua0 ua1 fa0 fa1 ub0 ub1
        obtain ⟨Anb, cnb, rfl⟩ := Kd.R_slice hR
        have HN := Aside0.mk (HS.out.call32 hb hR)
        clear HS
        have HS := HN
        clear HN
        clear hb hR
        obtain ⟨ub0, ub1⟩ := HS.out.cells 0 rfl
        have fb0 := HS.out.froz 0 rfl 0
        have fb1 := HS.out.froz 0 rfl 1
        have HN := Aside0.mk (HS.out.set2 0 rfl (.bool s1) (.slice Anb s2.length cnb))
        clear HS
        have HS := HN
        clear HN
        go_wp2_with fail
        refine (awake_calls _ (NumV.Tab.below HT.out HS.out.below)).mono ?_
        rintro e w5_ ⟨rfl, hb⟩
        clear ub0 ub1 fb0 fb1
        have HN := Aside0.mk (HS.out.call hb)
        clear HS
        have HS := HN
        clear HN
        clear hb
        go_wp2
        go_ret
        exact ⟨rfl, HS.out.below⟩
end Go.Proofs.YthhpnlbeniihhaaDoor.WalkDivision
namespace Go.Proofs.YthhpnlbeniihhaaDoor.numDivision
open Go.ChangeShapes Go.WideShapes Go.ChangeAt Go.RowKit Go.Proofs.YthhpnlbeniihhaaDoor.Limb Go.Proofs.YthhpnlbeniihhaaDoor.Row
open Go.ChangeMaps (open_string shut_string)
set_option linter.unusedVariables false
theorem own : ownKnob Tryd.prog.godebug = none := by kernel_rfl
set_option maxRecDepth 100000 in
theorem contract (H : Type) (enc : TypeId × Value → H) (W : World) (base : Nat) (args : Array Value) (ds gs : List (DataW H)) (before : List MemPlace)
    (hval : ∀ (j : Nat) t v, Tryd.f16.params[j]? = some t → args[j]? = some v → Value.okWide Tryd.prog W .any base t v)
    (hW : DataW.Whole enc Tryd.prog Tryd.f16.params.toList Rows.numDivisionSpec.vars false W args.toList ds gs before)
    (hsz0 : (DataW.weightsEach Tryd.prog (Tryd.f16.params.toList ++ Rows.numDivisionSpec.plain.varTypes Tryd.prog) (ds ++ gs)).all (· ≤ reachBytes) = true) (hL : laidMetH Tryd.prog Rows.numDivisionRow.laid W) :
    Calls Tryd.prog 16 args W fun e W' => ∃ v, e = .returned v ∧ Rows.numDivisionSpec.post enc Tryd.prog Tryd.f16 false true false false W args v W' := by
  have ht : NumV.Tab W := tab hL
  have hsz : (DataW.weightsEach Tryd.prog (Tryd.f16.params.toList ++ Rows.numDivisionSpec.plain.varTypes Tryd.prog) (ds ++ gs)).all (· ≤ reachBytes) = true := hsz0
  have hW' := hW
  obtain ⟨p, q, hA0, hV, rfl, hfz, hnd⟩ := hW
  have hA : DataW.TrodAll enc Tryd.prog W 0 (fun _ => true) true Tryd.f16.params.toList args.toList ds p := hA0
  rw [Tryd.params16] at hA hval hsz
  obtain ⟨v0, vs0, d0, ds0, p0, q0, hargs, rfl, rfl, h0, r0⟩ := trodAll_cons hA
  obtain ⟨v1, vs1, d1, ds1, p1, q1, rfl, rfl, rfl, h1, r1⟩ := trodAll_cons r0
  obtain ⟨rfl, rfl, rfl⟩ := trodAll_nil r1
  obtain rfl : args = #[v0, v1] := by cases args; simp_all
  obtain ⟨rfl, rfl⟩ := trodVars_none hV
  have k0 := h0
  have lt0 : ∀ x ∈ p0, x.block < W.heap.size := by obtain ⟨m, hm⟩ := k0; exact DataW.trod_lt m _ _ _ hm
  obtain ⟨n0, A0, c0, l0, rfl, ok0, hc0, hr0, bg0⟩ := open_num (hval 0 25 v0 rfl rfl) h0
  have k1 := h1
  have lt1 : ∀ x ∈ p1, x.block < W.heap.size := by obtain ⟨m, hm⟩ := k1; exact DataW.trod_lt m _ _ _ hm
  obtain ⟨n1, A1, c1, l1, rfl, ok1, hc1, hr1, bg1⟩ := open_num (hval 1 25 v1 rfl rfl) h1
  refine (WalkDivision.walk n0 A0 c0 l0 n1 A1 c1 l1 W hr0 hc0 hr1 hc1 ok0 ok1 ht).mono fun e W' ⟨he, bel⟩ => ?_
  subst he
  exact ⟨_, rfl, _, _, _, [], _, [], hW', trodAll_mk1 (shut_bool Tryd.underlying4 _), (trodAll_cons_mk (Below.trod laidOut (by kernel_rfl) (of_decide_eq_true (by kernel_rfl)) k0 bel lt0) (trodAll_cons_mk (Below.trod laidOut (by kernel_rfl) (of_decide_eq_true (by kernel_rfl)) k1 bel lt1) trodAll_mk0)), rfl, bel.frame _, fun h => by cases h⟩
theorem reads (os : Os) {H : Type} (enc : TypeId × Value → H) : ∃ places, DataW.whole enc Tryd.prog ((laidWorld os).forCall (fun _ _ => 0) ⟨#[], #[.agg #[.bool false, .slice none 0 0], .agg #[.bool false, .slice none 0 0]], []⟩).memory Tryd.f16.params.toList Rows.numDivisionSpec.vars false (#[.agg #[.bool false, .slice none 0 0], .agg #[.bool false, .slice none 0 0]] : Array Value).toList 8 = some ([.agg [.lit (.bool false), .nil], .agg [.lit (.bool false), .nil]], [], places) :=
  ⟨[], by kernel_rfl⟩
set_option maxRecDepth 100000 in
theorem lifted (os : Os) (started : os.Started) (H : Type) (enc : TypeId × Value → H) (F : Stop.Interp) :
    ReturnsInHanded {} Tryd.checked os 16 .any ((OpenSpec.ofChange Rows.numDivisionSpec).preRow enc Tryd.prog Tryd.f16 Rows.numDivisionRow.domain false Rows.numDivisionRow.laid) (((OpenSpec.ofChange Rows.numDivisionSpec).at F).post enc Tryd.prog Tryd.f16 false true false false) := by
  obtain ⟨places, hx⟩ := reads os enc
  refine returnsInHanded_of_row (C := Tryd.checked) (s := OpenSpec.ofChange Rows.numDivisionSpec) own started (by kernel_rfl) Tryd.func16
    (witness_row_at (enc := enc) (C := Tryd.checked) false (laidWorld os) #[.agg #[.bool false, .slice none 0 0], .agg #[.bool false, .slice none 0 0]] rfl (by kernel_rfl) (by kernel_rfl) (by kernel_rfl)
      (OpenSpec.preRow_of_cond 8 hx (by kernel_rfl) (fun k hk => by cases hk) (by kernel_rfl) (laid_met os _))) ?_
  intro W base args ds gs before hval hW _ _ hsz hL _ _
  exact contract H enc W base args ds gs before hval hW hsz hL
theorem said : Rows.NumDivisionSaid :=
  OpenClaim.holds_of_cond 16 Tryd.f16 rfl rfl rfl rfl rfl rfl rfl ⟨rfl, rfl, rfl, rfl, rfl⟩ rfl rfl rfl rfl rfl (by kernel_rfl) Tryd.func16 (by kernel_rfl)
    (of_decide_eq_true (by kernel_rfl)) (by unfold Func.isWrapper; first | (rw [if_pos (by decide +kernel)]; kernel_rfl) | (rw [if_neg (by decide +kernel)]; exact ⟨rfl, rfl⟩))
    (fun os started H enc _ F => by rw [OpenClaim.pre_eq_preRow]; exact lifted os started H enc F)
theorem plain (f : FuncId) (fn : Func) (hf : Tryd.pinned.checked.prog.funcNamed "moraine/morainelaw02.NumDivision" = some f) (hfn : Tryd.pinned.checked.prog.funcs[f]? = some fn) :
    false = Tryd.pinned.checked.prog.looks [] ∧ ∀ (j : Nat) t, fn.params[j]? = some t → Tryd.pinned.checked.prog.wantsStandIn t = false := by
  obtain rfl : f = 16 := Option.some.inj ((show Tryd.prog.funcNamed "moraine/morainelaw02.NumDivision" = some 16 by kernel_rfl).symm.trans hf) |>.symm
  obtain rfl : fn = Tryd.f16 := (Option.some.inj (Tryd.func16.symm.trans hfn)).symm
  refine ⟨by kernel_rfl, fun j t ht => ?_⟩
  rw [Tryd.params16] at ht
  have hm : t ∈ (#[25, 25] : Array TypeId) := Array.mem_of_getElem? ht
  obtain rfl : t = 25 := by simpa using hm
  exact (show Tryd.prog.wantsStandIn 25 = false by kernel_rfl)
/-- The tied card. -/
theorem card : Rows.NumDivisionCardSaid :=
  Claim7.holds_tied_plain_at .later [] _ _ _ _ said (fun _ h => by cases h) (by kernel_rfl) (fun _ h => by cases h) numDivision_row_tie rfl ⟨rfl, rfl⟩ (by kernel_rfl) rfl plain (by kernel_rfl)
end Go.Proofs.YthhpnlbeniihhaaDoor.numDivision
namespace Go.Proofs.YthhpnlbeniihhaaDoor
/-- Of any two numbers: the quotient and the rests are what division says (law NumDivision). -/
theorem numDivision_holds : Rows.NumDivisionCardSaid := numDivision.card
end Go.Proofs.YthhpnlbeniihhaaDoor
