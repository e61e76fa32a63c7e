/- NumAdds: any two numbers, compared, added, taken off: the document's answers; they stay. Conditions: none. -/
import Derived.Test.YthhpnlbeniihhaaDoorTie
import Derived.WalkKit
import Derived.ProofKit
import Derived.OpenShut
import Derived.Deep.DeepHandedRow
import Derived.Carry
import Derived.Test.YthhpnlbeniihhaaDoorCNumAdds5
namespace Go.Proofs.YthhpnlbeniihhaaDoor.Ref
open Go.RowKit Go.Proofs.YthhpnlbeniihhaaDoorW.PrintWords Go.Proofs.YthhpnlbeniihhaaDoorW.PrintLast Go.Proofs.YthhpnlbeniihhaaDoorW.PrintMore Go.Proofs.YthhpnlbeniihhaaDoor Go.Proofs.YthhpnlbeniihhaaDoor.Limb Go.Proofs.YthhpnlbeniihhaaDoor.Bit Go.Proofs.YthhpnlbeniihhaaDoor.NumA Go.Proofs.YthhpnlbeniihhaaDoor.NumB Go.Proofs.YthhpnlbeniihhaaDoor.NumG Go.Proofs.YthhpnlbeniihhaaDoor.NumJ Go.Proofs.YthhpnlbeniihhaaDoor.Vals Go.Proofs.YthhpnlbeniihhaaDoor.Plain Go.Proofs.YthhpnlbeniihhaaDoor.Raw Go.Proofs.YthhpnlbeniihhaaDoor.RefC
theorem same_self (a : Bool) (l : List Int) (h : l.length < 1073741824) : moraineref02_Same.f a l a l = some true := by
  unfold moraineref02_Same.f; rw [if_pos h]; simp
theorem value_raw {n : Bool} {l : List Int} (h : okN l) : moraineref02_Value.f n l = some (vb (val n l), vl (val n l)) := by unfold moraineref02_Value.f; rw [if_pos h]
theorem copy_raw {n : Bool} {l : List Int} (h : okN l) : moraineref02_Copy.f n l = some (n, l) := by unfold moraineref02_Copy.f; rw [if_pos h.2]
theorem num_at {z : Int} (h : (vl z).length < 1073741824) : moraineref02_Num.f (vb z) (vl z) = some (mkI z) := by unfold moraineref02_Num.f; rw [if_pos (canV_v h), bval_v]
theorem vlen {z : Int} {k : Nat} (h : z.natAbs < 4294967296 ^ k) : (vl z).length ≤ 32 * k := by
  unfold vl
  rw [bits_len, Nat.pow_mul]
  exact h
section
variable {y z : Int} (hy : (vl y).length < 1073741824) (hz : (vl z).length < 1073741824)
include hy hz
theorem radd_at : moraineref02_Add.f (vb y) (vl y) (vb z) (vl z) = some (vb (y + z), vl (y + z)) := by unfold moraineref02_Add.f; rw [if_pos ⟨canV_v hy, canV_v hz⟩, bval_v, bval_v]
theorem rcmp_at : moraineref02_Cmp.f (vb y) (vl y) (vb z) (vl z) = some (cmpI y z) := by unfold moraineref02_Cmp.f; rw [if_pos ⟨canV_v hy, canV_v hz⟩, bval_v, bval_v]
end
end Go.Proofs.YthhpnlbeniihhaaDoor.Ref
namespace Go.Proofs.YthhpnlbeniihhaaDoor.PureAdds
open Go.RowKit Go.Proofs.YthhpnlbeniihhaaDoorW.PrintWords Go.Proofs.YthhpnlbeniihhaaDoorW.PrintLast Go.Proofs.YthhpnlbeniihhaaDoorW.PrintMore Go.Proofs.YthhpnlbeniihhaaDoor Go.Proofs.YthhpnlbeniihhaaDoor.Limb Go.Proofs.YthhpnlbeniihhaaDoor.NumA Go.Proofs.YthhpnlbeniihhaaDoor.NumB Go.Proofs.YthhpnlbeniihhaaDoor.NumG Go.Proofs.YthhpnlbeniihhaaDoor.NumJ Go.Proofs.YthhpnlbeniihhaaDoor.Vals Go.Proofs.YthhpnlbeniihhaaDoor.Plain Go.Proofs.YthhpnlbeniihhaaDoor.Raw Go.Proofs.YthhpnlbeniihhaaDoor.Ref Go.Proofs.YthhpnlbeniihhaaDoor.RefC Go.Proofs.YthhpnlbeniihhaaDoor.PNumAdds
theorem spoil_from (a : Bool) (d : Nat) : ∀ (i k : Nat) (l : List Int), i + d = l.length → d < k → l.length < 1073741824 → ∃ r, morainelaw02_spoil.l0 k (i : Int) a l = some r := by
  induction d with
  | zero =>
    intro i k l hi hk hl
    obtain ⟨k, rfl⟩ : ∃ j, k = j + 1 := ⟨k - 1, by omega⟩
    rw [morainelaw02_spoil.l0, if_neg (by omega)]
    exact ⟨_, rfl⟩
  | succ d ih =>
    intro i k l hi hk hl
    obtain ⟨k, rfl⟩ : ∃ j, k = j + 1 := ⟨k - 1, by omega⟩
    rw [morainelaw02_spoil.l0, if_pos (by omega), if_pos (by omega), show wrap64 ((i : Int) + 1) = ((i + 1 : Nat) : Int) by unfold wrap64; omega]
    exact ih (i + 1) k _ (by rw [List.length_set]; omega) (by omega) (by rw [List.length_set]; exact hl)
theorem spoil_some (a : Bool) (l : List Int) (k : Nat) (hk : l.length < k) (hl : l.length < 1073741824) : ∃ r, morainelaw02_spoil.f k a l = some r := spoil_from a l.length 0 k l (by omega) hk hl
theorem is_at {z : Int} (h : (vl z).length < 1073741824) : morainelaw02_is.f (mkI z).1 (mkI z).2.1 (mkI z).2.2 (vb z) (vl z) = some true := by
  unfold morainelaw02_is.f
  rw [num_at h, bsome, if_pos rfl, same_self _ _ (okN_mkI z).2, bsome]
theorem len_mkI (z : Int) : (mkI z).2.1.length ≤ 48 := by
  by_cases h : Fits z
  · rw [mkI_fits h]; exact len_sl h
  · rw [mkI_big h]; decide
theorem pure (a b : Bool) (l m : List Int) (ol : OkL l) (om : OkL m) : morainelaw02_NumAdds.f 60 a l b m = some true := by
  have j0t : ∀ x y z u, morainelaw02_NumAdds.j0 60 true x y z u = some true := by
    intro x y z u
    rw [morainelaw02_NumAdds.j0, if_pos rfl]; exact aw
  unfold morainelaw02_NumAdds.f morainelaw02_long.f
  rw [bsome, bsome]
  by_cases h1 : (l.length : Int) > 60
  · rw [if_pos (decide_eq_true h1)]; exact j0t _ _ _ _
  rw [if_neg (by simpa using h1)]
  by_cases h2 : (m.length : Int) > 60
  · rw [decide_eq_true h2]; exact j0t _ _ _ _
  rw [decide_eq_false h2]
  have kl : okN l := ⟨ol, by omega⟩
  have km : okN m := ⟨om, by omega⟩
  have vx : (vl (val a l)).length ≤ 32 * 60 := vlen (val_lt ol (by omega))
  have vy : (vl (val b m)).length ≤ 32 * 60 := vlen (val_lt om (by omega))
  have vs : (vl (val a l + val b m)).length ≤ 32 * 61 := vlen (by
    have e1 := val_lt (n := a) ol (k := 60) (by omega)
    have e2 := val_lt (n := b) om (k := 60) (by omega)
    have e3 : 4294967296 ^ 61 = 4294967296 ^ 60 * 4294967296 := Nat.pow_succ 4294967296 60
    omega)
  have vd : (vl (val a l - val b m)).length ≤ 32 * 61 := vlen (by
    have e1 := val_lt (n := a) ol (k := 60) (by omega)
    have e2 := val_lt (n := b) om (k := 60) (by omega)
    have e3 : 4294967296 ^ 61 = 4294967296 ^ 60 * 4294967296 := Nat.pow_succ 4294967296 60
    omega)
  have vt : (vl (-val b m)).length ≤ 32 * 60 := vlen (by rw [Int.natAbs_neg]; exact val_lt om (by omega))
  have ht : moraineref02_Turn.f (vb (val b m)) (vl (val b m)) = some (vb (-val b m), vl (-val b m)) := by unfold moraineref02_Turn.f; rw [if_pos (canV_v (by omega)), bval_v]
  obtain ⟨r, hr⟩ := spoil_some (mkI (val a l + val b m)).1 (mkI (val a l + val b m)).2.1 58 (by have := len_mkI (val a l + val b m); omega) (okN_mkI _).2
  obtain ⟨q, hq⟩ := spoil_some (mkI (val a l - val b m)).1 (mkI (val a l - val b m)).2.1 58 (by have := len_mkI (val a l - val b m); omega) (okN_mkI _).2
  rw [morainelaw02_NumAdds.j0, if_neg (by decide), copy_raw kl, bsome, copy_raw km, bsome, value_raw kl, bsome, value_raw km, bsome, add_raw kl km, bsome, sub_raw kl km, bsome, cmp_raw kl km, bsome]
  dsimp only
  rw [rcmp_at (by omega) (by omega), bsome, if_pos rfl, radd_at (by omega) (by omega), bsome]
  dsimp only
  rw [is_at (by omega), bsome, if_pos rfl, ht, bsome]
  dsimp only
  rw [radd_at (by omega) (by omega), bsome, ← Int.sub_eq_add_neg]
  dsimp only
  rw [is_at (by omega), bsome, morainelaw02_NumAdds.j1, if_neg (by decide), hr, bsome, hq, bsome, same_self _ _ kl.2, bsome, if_pos rfl, same_self _ _ km.2, bsome, if_pos rfl]
  exact aw
end Go.Proofs.YthhpnlbeniihhaaDoor.PureAdds
namespace Go.Proofs.YthhpnlbeniihhaaDoor.numAdds
open Go.ChangeShapes Go.WideShapes Go.ChangeAt Go.RowKit Go.Proofs.YthhpnlbeniihhaaDoor.Limb Go.Proofs.YthhpnlbeniihhaaDoor.Row
open Go.ChangeMaps (open_string shut_string)
set_option linter.unusedVariables false
theorem own : ownKnob Tryd.prog.godebug = none := by kernel_rfl
set_option maxRecDepth 100000 in
theorem contract (H : Type) (enc : TypeId × Value → H) (W : World) (base : Nat) (args : Array Value) (ds gs : List (DataW H)) (before : List MemPlace)
    (hval : ∀ (j : Nat) t v, Tryd.f10.params[j]? = some t → args[j]? = some v → Value.okWide Tryd.prog W .any base t v)
    (hW : DataW.Whole enc Tryd.prog Tryd.f10.params.toList Rows.numAddsSpec.vars false W args.toList ds gs before)
    (hsz0 : (DataW.weightsEach Tryd.prog (Tryd.f10.params.toList ++ Rows.numAddsSpec.plain.varTypes Tryd.prog) (ds ++ gs)).all (· ≤ reachBytes) = true) (hL : laidMetH Tryd.prog Rows.numAddsRow.laid W) :
    Calls Tryd.prog 10 args W fun e W' => ∃ v, e = .returned v ∧ Rows.numAddsSpec.post enc Tryd.prog Tryd.f10 false true false false W args v W' := by
  have ht : NumV.Tab W := tab hL
  have hsz : (DataW.weightsEach Tryd.prog (Tryd.f10.params.toList ++ Rows.numAddsSpec.plain.varTypes Tryd.prog) (ds ++ gs)).all (· ≤ reachBytes) = true := hsz0
  have hW' := hW
  obtain ⟨p, q, hA0, hV, rfl, hfz, hnd⟩ := hW
  have hA : DataW.TrodAll enc Tryd.prog W 0 (fun _ => true) true Tryd.f10.params.toList args.toList ds p := hA0
  rw [Tryd.params10] at hA hval hsz
  obtain ⟨v0, vs0, d0, ds0, p0, q0, hargs, rfl, rfl, h0, r0⟩ := trodAll_cons hA
  obtain ⟨v1, vs1, d1, ds1, p1, q1, rfl, rfl, rfl, h1, r1⟩ := trodAll_cons r0
  obtain ⟨rfl, rfl, rfl⟩ := trodAll_nil r1
  obtain rfl : args = #[v0, v1] := by cases args; simp_all
  obtain ⟨rfl, rfl⟩ := trodVars_none hV
  have k0 := h0
  have lt0 : ∀ x ∈ p0, x.block < W.heap.size := by obtain ⟨m, hm⟩ := k0; exact DataW.trod_lt m _ _ _ hm
  obtain ⟨n0, A0, c0, l0, rfl, ok0, hc0, hr0, bg0⟩ := open_num (hval 0 25 v0 rfl rfl) h0
  have k1 := h1
  have lt1 : ∀ x ∈ p1, x.block < W.heap.size := by obtain ⟨m, hm⟩ := k1; exact DataW.trod_lt m _ _ _ hm
  obtain ⟨n1, A1, c1, l1, rfl, ok1, hc1, hr1, bg1⟩ := open_num (hval 1 25 v1 rfl rfl) h1
  refine (PNumAdds.morainelaw02_NumAdds.calls 60 n0 A0 c0 l0 n1 A1 c1 l1 true W rfl hr0 hc0 hr1 hc1 (PureAdds.pure n0 n1 l0 l1 ok0 ok1) ht).mono fun e W' ⟨he, bel⟩ => ?_
  subst he
  exact ⟨_, rfl, _, _, _, [], _, [], hW', trodAll_mk1 (shut_bool Tryd.underlying4 _), (trodAll_cons_mk (Below.trod laidOut (by kernel_rfl) (of_decide_eq_true (by kernel_rfl)) k0 bel lt0) (trodAll_cons_mk (Below.trod laidOut (by kernel_rfl) (of_decide_eq_true (by kernel_rfl)) k1 bel lt1) trodAll_mk0)), rfl, bel.frame _, fun h => by cases h⟩
theorem reads (os : Os) {H : Type} (enc : TypeId × Value → H) : ∃ places, DataW.whole enc Tryd.prog ((laidWorld os).forCall (fun _ _ => 0) ⟨#[], #[.agg #[.bool false, .slice none 0 0], .agg #[.bool false, .slice none 0 0]], []⟩).memory Tryd.f10.params.toList Rows.numAddsSpec.vars false (#[.agg #[.bool false, .slice none 0 0], .agg #[.bool false, .slice none 0 0]] : Array Value).toList 8 = some ([.agg [.lit (.bool false), .nil], .agg [.lit (.bool false), .nil]], [], places) :=
  ⟨[], by kernel_rfl⟩
set_option maxRecDepth 100000 in
theorem lifted (os : Os) (started : os.Started) (H : Type) (enc : TypeId × Value → H) (F : Stop.Interp) :
    ReturnsInHanded {} Tryd.checked os 10 .any ((OpenSpec.ofChange Rows.numAddsSpec).preRow enc Tryd.prog Tryd.f10 Rows.numAddsRow.domain false Rows.numAddsRow.laid) (((OpenSpec.ofChange Rows.numAddsSpec).at F).post enc Tryd.prog Tryd.f10 false true false false) := by
  obtain ⟨places, hx⟩ := reads os enc
  refine returnsInHanded_of_row (C := Tryd.checked) (s := OpenSpec.ofChange Rows.numAddsSpec) own started (by kernel_rfl) Tryd.func10
    (witness_row_at (enc := enc) (C := Tryd.checked) false (laidWorld os) #[.agg #[.bool false, .slice none 0 0], .agg #[.bool false, .slice none 0 0]] rfl (by kernel_rfl) (by kernel_rfl) (by kernel_rfl)
      (OpenSpec.preRow_of_cond 8 hx (by kernel_rfl) (fun k hk => by cases hk) (by kernel_rfl) (laid_met os _))) ?_
  intro W base args ds gs before hval hW _ _ hsz hL _ _
  exact contract H enc W base args ds gs before hval hW hsz hL
theorem said : Rows.NumAddsSaid :=
  OpenClaim.holds_of_cond 10 Tryd.f10 rfl rfl rfl rfl rfl rfl rfl ⟨rfl, rfl, rfl, rfl, rfl⟩ rfl rfl rfl rfl rfl (by kernel_rfl) Tryd.func10 (by kernel_rfl)
    (of_decide_eq_true (by kernel_rfl)) (by unfold Func.isWrapper; first | (rw [if_pos (by decide +kernel)]; kernel_rfl) | (rw [if_neg (by decide +kernel)]; exact ⟨rfl, rfl⟩))
    (fun os started H enc _ F => by rw [OpenClaim.pre_eq_preRow]; exact lifted os started H enc F)
theorem plain (f : FuncId) (fn : Func) (hf : Tryd.pinned.checked.prog.funcNamed "moraine/morainelaw02.NumAdds" = some f) (hfn : Tryd.pinned.checked.prog.funcs[f]? = some fn) :
    false = Tryd.pinned.checked.prog.looks [] ∧ ∀ (j : Nat) t, fn.params[j]? = some t → Tryd.pinned.checked.prog.wantsStandIn t = false := by
  obtain rfl : f = 10 := Option.some.inj ((show Tryd.prog.funcNamed "moraine/morainelaw02.NumAdds" = some 10 by kernel_rfl).symm.trans hf) |>.symm
  obtain rfl : fn = Tryd.f10 := (Option.some.inj (Tryd.func10.symm.trans hfn)).symm
  refine ⟨by kernel_rfl, fun j t ht => ?_⟩
  rw [Tryd.params10] at ht
  have hm : t ∈ (#[25, 25] : Array TypeId) := Array.mem_of_getElem? ht
  obtain rfl : t = 25 := by simpa using hm
  exact (show Tryd.prog.wantsStandIn 25 = false by kernel_rfl)
/-- The tied card. -/
theorem card : Rows.NumAddsCardSaid :=
  Claim7.holds_tied_plain_at .later [] _ _ _ _ said (fun _ h => by cases h) (by kernel_rfl) (fun _ h => by cases h) numAdds_row_tie rfl ⟨rfl, rfl⟩ (by kernel_rfl) rfl plain (by kernel_rfl)
end Go.Proofs.YthhpnlbeniihhaaDoor.numAdds
namespace Go.Proofs.YthhpnlbeniihhaaDoor
/-- NumAdds: any two numbers, compared, added, taken off: the document's answers; they stay. -/
theorem numAdds_holds : Rows.NumAddsCardSaid := numAdds.card
end Go.Proofs.YthhpnlbeniihhaaDoor
