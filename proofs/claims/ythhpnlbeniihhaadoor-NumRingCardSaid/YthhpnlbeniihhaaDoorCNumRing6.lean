/- Of any three numbers: sums and products are the same the other way round, what is added is taken off again, a product of a sum is the sum of the products, where none is too big (law NumRing). Conditions: none. -/
import Derived.Test.YthhpnlbeniihhaaDoorTie
import Derived.WalkKit
import Derived.ProofKit
import Derived.OpenShut
import Derived.Deep.DeepHandedRow
import Derived.Carry
import Derived.Test.YthhpnlbeniihhaaDoorCNumRing5
namespace Go.Proofs.YthhpnlbeniihhaaDoor.Raw
open Go.Proofs.YthhpnlbeniihhaaDoor Go.Proofs.YthhpnlbeniihhaaDoor.Limb Go.Proofs.YthhpnlbeniihhaaDoor.NumA Go.Proofs.YthhpnlbeniihhaaDoor.NumB Go.Proofs.YthhpnlbeniihhaaDoor.NumC Go.Proofs.YthhpnlbeniihhaaDoor.NumJ Go.Proofs.YthhpnlbeniihhaaDoor.NumS Go.Proofs.YthhpnlbeniihhaaDoor.NumU Go.Proofs.YthhpnlbeniihhaaDoor.Vals Go.Proofs.YthhpnlbeniihhaaDoor.Plain
section
variable {n : Bool} {l : List Int} (h : okN l)
include h
theorem norm_raw : num_Norm.f n l = some (mkI (val n l)) := by unfold num_Norm.f; rw [if_pos ⟨h.1, by have := h.2; omega⟩]
end
section
variable {n1 n2 : Bool} {l m : List Int} (h1 : okN l) (h2 : okN m)
include h1 h2
theorem mul_raw : num_Mul.f n1 l n2 m = some (mkI (val n1 l * val n2 m)) := by unfold num_Mul.f; rw [if_pos ⟨h1, h2⟩]
end
theorem okN_nil : okN [] := ⟨fun x hx => (by cases hx), by decide⟩
/-- mkI's row, whatever the number. -/
theorem okN_mkI (z : Int) : okN (mkI z).2.1 := by
  by_cases h : Fits z
  · rw [mkI_fits h]; exact okN_sl h
  · rw [mkI_big h]; exact okN_nil
theorem aw : (morainelaw02_awake.f).bind (fun t => some t) = some true := rfl
end Go.Proofs.YthhpnlbeniihhaaDoor.Raw
namespace Go.Proofs.YthhpnlbeniihhaaDoor.PureRing
open Go.RowKit Go.Proofs.YthhpnlbeniihhaaDoorW.PrintWords Go.Proofs.YthhpnlbeniihhaaDoorW.PrintLast Go.Proofs.YthhpnlbeniihhaaDoorW.PrintMore Go.Proofs.YthhpnlbeniihhaaDoor Go.Proofs.YthhpnlbeniihhaaDoor.Limb Go.Proofs.YthhpnlbeniihhaaDoor.NumA Go.Proofs.YthhpnlbeniihhaaDoor.NumB Go.Proofs.YthhpnlbeniihhaaDoor.NumG Go.Proofs.YthhpnlbeniihhaaDoor.NumJ Go.Proofs.YthhpnlbeniihhaaDoor.Vals Go.Proofs.YthhpnlbeniihhaaDoor.Plain Go.Proofs.YthhpnlbeniihhaaDoor.Raw Go.Proofs.YthhpnlbeniihhaaDoor.PNumRing
theorem same_self (a : Bool) (l : List Int) (h : l.length < 1073741824) : moraineref02_Same.f a l a l = some true := by
  unfold moraineref02_Same.f; rw [if_pos h]; simp
theorem len_mkI (z : Int) : (mkI z).2.1.length < 1073741824 := (okN_mkI z).2
theorem j5 (y z s : Int) (hs : y + z = s) (fy : Fits y) (fz : Fits z) (fs : Fits s) : morainelaw02_NumRing.j5 1 false (sb s) (sl s) (sb y) (sl y) (sb z) (sl z) = some true := by
  subst hs
  rw [morainelaw02_NumRing.j5, if_neg (by decide), add_at fy fz, bsome, mkI_fits fs]
  dsimp only
  rw [if_pos rfl, same_self _ _ (okN_sl fs).2, bsome, if_pos rfl]; exact aw
theorem j4 (x y z : Int) (fx : Fits x) (fy : Fits y) (fz : Fits z) : morainelaw02_NumRing.j4 2 (mkI (x + y)).2.2 false (sb x) (sl x) (sb y) (sl y) (sb z) (sl z) (mkI (x + y)).1 (mkI (x + y)).2.1 = some true := by
  have j5t : ∀ a b c d e f, morainelaw02_NumRing.j5 1 true a b c d e f = some true := by
    intro a b c d e f
    rw [morainelaw02_NumRing.j5, if_pos rfl]; exact aw
  rw [morainelaw02_NumRing.j4, if_neg (by decide), mul_raw (okN_mkI _) (okN_sl fz), bsome, mul_at fx fz, bsome, mul_at fy fz, bsome]
  by_cases f1 : Fits (x + y)
  · rw [mkI_fits f1]
    dsimp only
    rw [if_pos rfl, val_s, val_s]
    by_cases f2 : Fits ((x + y) * z)
    · rw [mkI_fits f2]
      dsimp only
      rw [if_pos rfl]
      by_cases f3 : Fits (x * z)
      · rw [mkI_fits f3]
        dsimp only
        rw [if_pos rfl]
        by_cases f4 : Fits (y * z)
        · rw [mkI_fits f4]
          exact j5 (x * z) (y * z) ((x + y) * z) (by rw [Int.add_mul]) f3 f4 f2
        · rw [mkI_big f4]
          exact j5t _ _ _ _ _ _
      · rw [mkI_big f3]
        dsimp only
        rw [if_neg (by decide)]; exact j5t _ _ _ _ _ _
    · rw [mkI_big f2]
      dsimp only
      rw [if_neg (by decide)]; exact j5t _ _ _ _ _ _
  · rw [mkI_big f1]
    dsimp only
    rw [if_neg (by decide)]; exact j5t _ _ _ _ _ _
theorem j3 (x y z : Int) (fx : Fits x) (fy : Fits y) (fz : Fits z) : morainelaw02_NumRing.j3 3 (mkI (x + y)).2.2 (sb x) (sl x) (sb y) (sl y) (sb z) (sl z) (mkI (x + y)).1 (mkI (x + y)).2.1 = some true := by
  rw [morainelaw02_NumRing.j3, mul_at fx fy, bsome, mul_at fy fx, bsome, Int.mul_comm y x, if_pos rfl, same_self _ _ (len_mkI _), bsome]
  exact j4 x y z fx fy fz
theorem j1 (x y z : Int) (fx : Fits x) (fy : Fits y) (fz : Fits z) : morainelaw02_NumRing.j1 5 false (sb x) (sl x) (sb y) (sl y) (sb z) (sl z) = some true := by
  rw [morainelaw02_NumRing.j1, if_neg (by decide), add_at fx fy, bsome, add_at fy fx, bsome, Int.add_comm y x, if_pos rfl, same_self _ _ (len_mkI _), bsome]
  have h3 := j3 x y z fx fy fz
  rw [morainelaw02_NumRing.j2, if_neg (by decide)]
  by_cases f1 : Fits (x + y)
  · rw [mkI_fits f1] at h3 ⊢
    dsimp only at h3 ⊢
    rw [if_pos rfl, sub_at f1 fy, bsome, show x + y - y = x by omega, mkI_fits fx]
    dsimp only
    rw [if_pos rfl, same_self _ _ (okN_sl fx).2, bsome, if_pos rfl]
    exact h3
  · rw [mkI_big f1] at h3 ⊢
    dsimp only at h3 ⊢
    rw [if_neg (by decide)]
    exact h3
theorem pure (a b c : Bool) (l m n : List Int) (ol : OkL l) (om : OkL m) (on : OkL n) : morainelaw02_NumRing.f 6 a l b m c n = some true := by
  have j0t : ∀ x y z u v s, morainelaw02_NumRing.j0 6 true x y z u v s = some true := by
    intro x y z u v s
    rw [morainelaw02_NumRing.j0, if_pos rfl]; exact aw
  have j1t : ∀ x y z u v s, morainelaw02_NumRing.j1 5 true x y z u v s = some true := by
    intro x y z u v s
    rw [morainelaw02_NumRing.j1, if_pos rfl]; exact aw
  unfold morainelaw02_NumRing.f morainelaw02_long.f
  rw [bsome, bsome, bsome]
  by_cases h1 : (l.length : Int) > 60
  · rw [if_pos (decide_eq_true h1)]; exact j0t _ _ _ _ _ _
  rw [if_neg (by simpa using h1)]
  by_cases h2 : (m.length : Int) > 60
  · rw [if_pos (decide_eq_true h2)]; exact j0t _ _ _ _ _ _
  rw [if_neg (by simpa using h2)]
  by_cases h3 : (n.length : Int) > 60
  · rw [decide_eq_true h3]; exact j0t _ _ _ _ _ _
  rw [decide_eq_false h3]
  have kl : okN l := ⟨ol, by omega⟩
  have km : okN m := ⟨om, by omega⟩
  have kn : okN n := ⟨on, by omega⟩
  rw [morainelaw02_NumRing.j0, if_neg (by decide), norm_raw kl, bsome, norm_raw km, bsome, norm_raw kn, bsome]
  by_cases f1 : Fits (val a l)
  · rw [mkI_fits f1]
    dsimp only
    rw [if_pos rfl]
    by_cases f2 : Fits (val b m)
    · rw [mkI_fits f2]
      dsimp only
      rw [if_pos rfl]
      by_cases f3 : Fits (val c n)
      · rw [mkI_fits f3]
        exact j1 _ _ _ f1 f2 f3
      · rw [mkI_big f3]
        exact j1t _ _ _ _ _ _
    · rw [mkI_big f2]
      dsimp only
      rw [if_neg (by decide)]; exact j1t _ _ _ _ _ _
  · rw [mkI_big f1]
    dsimp only
    rw [if_neg (by decide)]; exact j1t _ _ _ _ _ _
end Go.Proofs.YthhpnlbeniihhaaDoor.PureRing
namespace Go.Proofs.YthhpnlbeniihhaaDoor.numRing
open Go.ChangeShapes Go.WideShapes Go.ChangeAt Go.RowKit Go.Proofs.YthhpnlbeniihhaaDoor.Limb Go.Proofs.YthhpnlbeniihhaaDoor.Row
open Go.ChangeMaps (open_string shut_string)
set_option linter.unusedVariables false
theorem own : ownKnob Tryd.prog.godebug = none := by kernel_rfl
set_option maxRecDepth 100000 in
theorem contract (H : Type) (enc : TypeId × Value → H) (W : World) (base : Nat) (args : Array Value) (ds gs : List (DataW H)) (before : List MemPlace)
    (hval : ∀ (j : Nat) t v, Tryd.f14.params[j]? = some t → args[j]? = some v → Value.okWide Tryd.prog W .any base t v)
    (hW : DataW.Whole enc Tryd.prog Tryd.f14.params.toList Rows.numRingSpec.vars false W args.toList ds gs before)
    (hsz0 : (DataW.weightsEach Tryd.prog (Tryd.f14.params.toList ++ Rows.numRingSpec.plain.varTypes Tryd.prog) (ds ++ gs)).all (· ≤ reachBytes) = true) (hL : laidMetH Tryd.prog Rows.numRingRow.laid W) :
    Calls Tryd.prog 14 args W fun e W' => ∃ v, e = .returned v ∧ Rows.numRingSpec.post enc Tryd.prog Tryd.f14 false true false false W args v W' := by
  have ht : NumV.Tab W := tab hL
  have hsz : (DataW.weightsEach Tryd.prog (Tryd.f14.params.toList ++ Rows.numRingSpec.plain.varTypes Tryd.prog) (ds ++ gs)).all (· ≤ reachBytes) = true := hsz0
  have hW' := hW
  obtain ⟨p, q, hA0, hV, rfl, hfz, hnd⟩ := hW
  have hA : DataW.TrodAll enc Tryd.prog W 0 (fun _ => true) true Tryd.f14.params.toList args.toList ds p := hA0
  rw [Tryd.params14] at hA hval hsz
  obtain ⟨v0, vs0, d0, ds0, p0, q0, hargs, rfl, rfl, h0, r0⟩ := trodAll_cons hA
  obtain ⟨v1, vs1, d1, ds1, p1, q1, rfl, rfl, rfl, h1, r1⟩ := trodAll_cons r0
  obtain ⟨v2, vs2, d2, ds2, p2, q2, rfl, rfl, rfl, h2, r2⟩ := trodAll_cons r1
  obtain ⟨rfl, rfl, rfl⟩ := trodAll_nil r2
  obtain rfl : args = #[v0, v1, v2] := by cases args; simp_all
  obtain ⟨rfl, rfl⟩ := trodVars_none hV
  have k0 := h0
  have lt0 : ∀ x ∈ p0, x.block < W.heap.size := by obtain ⟨m, hm⟩ := k0; exact DataW.trod_lt m _ _ _ hm
  obtain ⟨n0, A0, c0, l0, rfl, ok0, hc0, hr0, bg0⟩ := open_num (hval 0 25 v0 rfl rfl) h0
  have k1 := h1
  have lt1 : ∀ x ∈ p1, x.block < W.heap.size := by obtain ⟨m, hm⟩ := k1; exact DataW.trod_lt m _ _ _ hm
  obtain ⟨n1, A1, c1, l1, rfl, ok1, hc1, hr1, bg1⟩ := open_num (hval 1 25 v1 rfl rfl) h1
  have k2 := h2
  have lt2 : ∀ x ∈ p2, x.block < W.heap.size := by obtain ⟨m, hm⟩ := k2; exact DataW.trod_lt m _ _ _ hm
  obtain ⟨n2, A2, c2, l2, rfl, ok2, hc2, hr2, bg2⟩ := open_num (hval 2 25 v2 rfl rfl) h2
  refine (PNumRing.morainelaw02_NumRing.calls 6 n0 A0 c0 l0 n1 A1 c1 l1 n2 A2 c2 l2 true W rfl hr0 hc0 hr1 hc1 hr2 hc2 (PureRing.pure n0 n1 n2 l0 l1 l2 ok0 ok1 ok2) ht).mono fun e W' ⟨he, bel⟩ => ?_
  subst he
  exact ⟨_, rfl, _, _, _, [], _, [], hW', trodAll_mk1 (shut_bool Tryd.underlying4 _), (trodAll_cons_mk (Below.trod laidOut (by kernel_rfl) (of_decide_eq_true (by kernel_rfl)) k0 bel lt0) (trodAll_cons_mk (Below.trod laidOut (by kernel_rfl) (of_decide_eq_true (by kernel_rfl)) k1 bel lt1) (trodAll_cons_mk (Below.trod laidOut (by kernel_rfl) (of_decide_eq_true (by kernel_rfl)) k2 bel lt2) trodAll_mk0))), rfl, bel.frame _, fun h => by cases h⟩
theorem reads (os : Os) {H : Type} (enc : TypeId × Value → H) : ∃ places, DataW.whole enc Tryd.prog ((laidWorld os).forCall (fun _ _ => 0) ⟨#[], #[.agg #[.bool false, .slice none 0 0], .agg #[.bool false, .slice none 0 0], .agg #[.bool false, .slice none 0 0]], []⟩).memory Tryd.f14.params.toList Rows.numRingSpec.vars false (#[.agg #[.bool false, .slice none 0 0], .agg #[.bool false, .slice none 0 0], .agg #[.bool false, .slice none 0 0]] : Array Value).toList 8 = some ([.agg [.lit (.bool false), .nil], .agg [.lit (.bool false), .nil], .agg [.lit (.bool false), .nil]], [], places) :=
  ⟨[], by kernel_rfl⟩
set_option maxRecDepth 100000 in
theorem lifted (os : Os) (started : os.Started) (H : Type) (enc : TypeId × Value → H) (F : Stop.Interp) :
    ReturnsInHanded {} Tryd.checked os 14 .any ((OpenSpec.ofChange Rows.numRingSpec).preRow enc Tryd.prog Tryd.f14 Rows.numRingRow.domain false Rows.numRingRow.laid) (((OpenSpec.ofChange Rows.numRingSpec).at F).post enc Tryd.prog Tryd.f14 false true false false) := by
  obtain ⟨places, hx⟩ := reads os enc
  refine returnsInHanded_of_row (C := Tryd.checked) (s := OpenSpec.ofChange Rows.numRingSpec) own started (by kernel_rfl) Tryd.func14
    (witness_row_at (enc := enc) (C := Tryd.checked) false (laidWorld os) #[.agg #[.bool false, .slice none 0 0], .agg #[.bool false, .slice none 0 0], .agg #[.bool false, .slice none 0 0]] rfl (by kernel_rfl) (by kernel_rfl) (by kernel_rfl)
      (OpenSpec.preRow_of_cond 8 hx (by kernel_rfl) (fun k hk => by cases hk) (by kernel_rfl) (laid_met os _))) ?_
  intro W base args ds gs before hval hW _ _ hsz hL _ _
  exact contract H enc W base args ds gs before hval hW hsz hL
theorem said : Rows.NumRingSaid :=
  OpenClaim.holds_of_cond 14 Tryd.f14 rfl rfl rfl rfl rfl rfl rfl ⟨rfl, rfl, rfl, rfl, rfl⟩ rfl rfl rfl rfl rfl (by kernel_rfl) Tryd.func14 (by kernel_rfl)
    (of_decide_eq_true (by kernel_rfl)) (by unfold Func.isWrapper; first | (rw [if_pos (by decide +kernel)]; kernel_rfl) | (rw [if_neg (by decide +kernel)]; exact ⟨rfl, rfl⟩))
    (fun os started H enc _ F => by rw [OpenClaim.pre_eq_preRow]; exact lifted os started H enc F)
theorem plain (f : FuncId) (fn : Func) (hf : Tryd.pinned.checked.prog.funcNamed "moraine/morainelaw02.NumRing" = some f) (hfn : Tryd.pinned.checked.prog.funcs[f]? = some fn) :
    false = Tryd.pinned.checked.prog.looks [] ∧ ∀ (j : Nat) t, fn.params[j]? = some t → Tryd.pinned.checked.prog.wantsStandIn t = false := by
  obtain rfl : f = 14 := Option.some.inj ((show Tryd.prog.funcNamed "moraine/morainelaw02.NumRing" = some 14 by kernel_rfl).symm.trans hf) |>.symm
  obtain rfl : fn = Tryd.f14 := (Option.some.inj (Tryd.func14.symm.trans hfn)).symm
  refine ⟨by kernel_rfl, fun j t ht => ?_⟩
  rw [Tryd.params14] at ht
  have hm : t ∈ (#[25, 25, 25] : Array TypeId) := Array.mem_of_getElem? ht
  obtain rfl : t = 25 := by simpa using hm
  exact (show Tryd.prog.wantsStandIn 25 = false by kernel_rfl)
/-- The tied card. -/
theorem card : Rows.NumRingCardSaid :=
  Claim7.holds_tied_plain_at .later [] _ _ _ _ said (fun _ h => by cases h) (by kernel_rfl) (fun _ h => by cases h) numRing_row_tie rfl ⟨rfl, rfl⟩ (by kernel_rfl) rfl plain (by kernel_rfl)
end Go.Proofs.YthhpnlbeniihhaaDoor.numRing
namespace Go.Proofs.YthhpnlbeniihhaaDoor
/-- Of any three numbers: sums and products are the same the other way round, what is added is taken off again, a product of a sum is the sum of the products, where none is too big (law NumRing). -/
theorem numRing_holds : Rows.NumRingCardSaid := numRing.card
end Go.Proofs.YthhpnlbeniihhaaDoor
