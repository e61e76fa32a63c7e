/- Contracts and plain laws that the row's proof uses (part 2). Conditions: those that each states. -/
import Derived.Lib.ConvBytes
import Derived.Lib.Strings
import Derived.Lib.IndexBytes
import Derived.Lib.SlTrimSet
import Derived.Shelf.Strings.OnBuilder
import Derived.Shelf.Strconv.Itoa1
import Derived.Shelf.LaysM
import Derived.Shelf.Strconv.Itoa2
import Derived.Shelf.Strings.Prefix
import Derived.Shelf.Strings.Repeat
import Derived.Shelf.Slices.ReverseS
import Derived.Shelf.Slices.Cells
import Derived.Test.YthhpnlbeniihhaaDoorProg
import Derived.Shelf.Strings.SlTrimAscii
import Derived.Lib.ItoaMem
import Derived.Lib.AppendIntMem
import Derived.Lib.Walk
import Derived.BigCall
import Derived.BigGuard
import Derived.Lib.ItoaNum
import Derived.Lib.SmallJoins
import Derived.Lib.OwnBridge
import Derived.Below
import Derived.Deep.Draws
import Derived.Deep.AppendLies
import Derived.Maps.AppendAt
import Derived.OwnWalk
import Derived.Laws.BytesArg
import Derived.Laws.MakeOwn
import Derived.Laws.OwnMore
import Derived.Deep.OwnRows
import Derived.Tactics
import Derived.Laws.Slices
import Derived.WalkKit
import Derived.KernelRfl
import Derived.RowKit3
import Derived.Deep.LoopGhost
import Derived.Deep.QuietTactic
import Derived.BigQuiet
import Derived.WideLaws
import Derived.Deep.DeepCutAuto
import Derived.Deep.CutBlock
import Derived.Deep.RegionHeld3
import Derived.Laws.Rows
import Derived.Lib.AppendStr
import Derived.ArgAppend
import Derived.Laws.IdiomCopy
import Derived.OrdersHeld
import Derived.Laws.BitsLemmas
import Derived.RowKit
import Derived.Test.YthhpnlbeniihhaaDoorCNumGcds1
namespace Go.Proofs.YthhpnlbeniihhaaDoor.NumO
open Go.RowKit Go.Proofs.YthhpnlbeniihhaaDoorW.PrintWords Go.Proofs.YthhpnlbeniihhaaDoorW.PrintLast Go.Proofs.YthhpnlbeniihhaaDoorW.PrintMore Go.Proofs.YthhpnlbeniihhaaDoor.Limb Go.Proofs.YthhpnlbeniihhaaDoor.NumA Go.Proofs.YthhpnlbeniihhaaDoor.NumB Go.Proofs.YthhpnlbeniihhaaDoor.NumC Go.Proofs.YthhpnlbeniihhaaDoor.NumD Go.Proofs.YthhpnlbeniihhaaDoor.NumE Go.Proofs.YthhpnlbeniihhaaDoor.NumF Go.Proofs.YthhpnlbeniihhaaDoor.NumG Go.Proofs.YthhpnlbeniihhaaDoor.NumH Go.Proofs.YthhpnlbeniihhaaDoor.NumI Go.Proofs.YthhpnlbeniihhaaDoor.NumJ Go.Proofs.YthhpnlbeniihhaaDoor.NumN Go.Proofs.YthhpnlbeniihhaaDoor.Quo
set_option linter.unusedVariables false
set_option linter.unusedSimpArgs false
/-- The rows that parted answers. -/
def Parts (w : World) (a b : Nat) (la lb : Nat) (e : Ending) (w' : World) : Prop :=
  ∃ q r Q R, e = .returned (.tuple #[q, r]) ∧ New w' w.heap.size q Q ∧ New w' w.heap.size r R ∧ OkL Q ∧ OkL R ∧ mag Q = a / b ∧ mag R = a % b ∧ Q.length ≤ la ∧ R.length ≤ lb + 1 ∧ Below w.heap.size w w'
theorem make_run (n : Nat) (h : n < 35184372088832) : ∀ W : World, Sem.run Tryd.prog (Instr.makeSlice 23 (.int .i64 (n : Int)) (.int .i64 (n : Int))) W = .ok (.slice (some ⟨W.heap.size, 0, none⟩) n n) (W.alloc (.cells (madeCells (Value.int .u32 0).cells n) 63 (0, 0))) := by
  intro W
  obtain ⟨i0, hi, hzz⟩ := Option.map_eq_some_iff.1 info32
  simp only [Prod.mk.injEq] at hzz
  obtain ⟨hz0, hz1, hz2⟩ := hzz
  have hr := run_make (P := Tryd.prog) W 23 63 i0 (.int .u32 0) Tryd.underlying23 hi hz0 .i64 .i64 (n : Int) (n : Int) (by omega) (by omega) (by rw [hz2]; omega) (by omega)
  rw [hz1, Nat.mul_one, Int.toNat_natCast] at hr
  exact hr
/-- The world at the loop's head. -/
theorem start_world (w : World) (k : Nat) (v : Value) (X Y : Array Value) :
    ((((((w.alloc (.cells #[.slice none 0 0] 23 (0, 0))).drewN k).setCell ⟨w.heap.size, 0, none⟩ v).alloc (.cells X 63 (0, 0))).alloc (.cells Y 63 (0, 0))).heap[w.heap.size]? = some (.cells #[v] 23 (0, 0)) ∧
    (((((w.alloc (.cells #[.slice none 0 0] 23 (0, 0))).drewN k).setCell ⟨w.heap.size, 0, none⟩ v).alloc (.cells X 63 (0, 0))).alloc (.cells Y 63 (0, 0))).heap[w.heap.size + 1]? = some (.cells X 63 (0, 0)) ∧
    (((((w.alloc (.cells #[.slice none 0 0] 23 (0, 0))).drewN k).setCell ⟨w.heap.size, 0, none⟩ v).alloc (.cells X 63 (0, 0))).alloc (.cells Y 63 (0, 0))).heap[w.heap.size + 1 + 1]? = some (.cells Y 63 (0, 0))) ∧
    Below w.heap.size w (((((w.alloc (.cells #[.slice none 0 0] 23 (0, 0))).drewN k).setCell ⟨w.heap.size, 0, none⟩ v).alloc (.cells X 63 (0, 0))).alloc (.cells Y 63 (0, 0))) := by
  have h0 := blk_new w (.cells #[.slice none 0 0] 23 (0, 0))
  have hs : (((w.alloc (.cells #[.slice none 0 0] 23 (0, 0))).drewN k).setCell ⟨w.heap.size, 0, none⟩ v).heap.size = w.heap.size + 1 := by simp [World.setCell]
  have h1 : (((w.alloc (.cells #[.slice none 0 0] 23 (0, 0))).drewN k).setCell ⟨w.heap.size, 0, none⟩ v).heap[w.heap.size]? = some (.cells #[v] 23 (0, 0)) := blk_put (w := (w.alloc (.cells #[.slice none 0 0] 23 (0, 0))).drewN k) h0 0 v rfl
  have hb : Below w.heap.size w (((w.alloc (.cells #[.slice none 0 0] 23 (0, 0))).drewN k).setCell ⟨w.heap.size, 0, none⟩ v) := below_set (pw_below_drewN (below_alloc (Below.refl w.heap.size w) _) _) (by omega)
  generalize ((w.alloc (.cells #[.slice none 0 0] 23 (0, 0))).drewN k).setCell ⟨w.heap.size, 0, none⟩ v = W at *
  have h2 := blk_new W (.cells X 63 (0, 0))
  have h3 := blk_new (W.alloc (.cells X 63 (0, 0))) (.cells Y 63 (0, 0))
  rw [World.size_alloc] at h3
  rw [hs] at h2 h3
  exact ⟨⟨blk_alloc (blk_alloc h1 _) _, blk_alloc h2 _, h3⟩, below_alloc (below_alloc hb _) _⟩
theorem w64_of {x y : Int} (h : x = y) (h0 : -9223372036854775808 ≤ y) (h1 : y ≤ 9223372036854775807) : wrap64 x = y := by subst h; unfold wrap64; omega
theorem i64_of {x y : Int} (h : x = y) (h0 : -9223372036854775808 ≤ y) (h1 : y ≤ 9223372036854775807) : IntKind.i64.wrap x = y := by subst h; rw [IntKind.wrap_i64]; omega
/-- A row of limbs of the call's own, in no block bq. -/
def NewB (w : World) (base bq : Nat) (v : Value) (l : List Int) : Prop := Kd.R (Kd.int .u32) 63 w base (fun k => k ≠ bq) v l
theorem NewB.of {w : World} {base base' bq : Nat} {v : Value} {l : List Int} (h : New w base v l) (hb : bq < base) (hl : base' ≤ base) : NewB w base' bq v l :=
  Kd.R_lower (Kd.R_mono (Kd.R_bound h) (fun k hk => by have := hk.2.1; omega)) hl
theorem NewB.new {w : World} {base bq : Nat} {v : Value} {l : List Int} (h : NewB w base bq v l) : New w base v l := Kd.R_mono h (fun _ _ => trivial)
theorem NewB.below {w w1 : World} {base bq : Nat} {v : Value} {l : List Int} (h : NewB w base bq v l) (hb : Below w.heap.size w w1) : NewB w1 base bq v l := Kd.R_below h hb
theorem NewB.far {w : World} {base bq : Nat} {v : Value} {l : List Int} (h : NewB w base bq v l) (j : Nat) (u : Value) : NewB (w.setCell ⟨bq, j, none⟩ u) base bq v l := Kd.R_far (p := ⟨bq, j, none⟩) h (fun _ hk => hk) u
theorem NewB.set {w : World} {base bq : Nat} {v : Value} {l : List Int} (h : NewB w base bq v l) {g : Nat} {cells : Array Value} (hb : w.heap[g]? = some (.cells cells 23 (0, 0))) (j : Nat) (u : Value) : NewB (w.setCell ⟨g, j, none⟩ u) base bq v l :=
  Kd.R_set h hb (fun q hq => by
    have : q = 63 := by simpa [Kd.int, Kd.scalar] using hq
    subst this
    decide) j u
/-- The row's cells, as a block. -/
def cellsL (l : List Int) : Array Value := (l.map (Value.int .u32)).toArray
theorem cellsL_set (l : List Int) (i : Nat) (x : Int) : cellsL (l.set i x) = (cellsL l).setIfInBounds i (.int .u32 x) := by
  unfold cellsL
  simp [List.map_set]
theorem cellsL_get (l : List Int) (i : Nat) (h : i < l.length) : (cellsL l)[i]? = some (.int .u32 l[i]) := by
  unfold cellsL
  simp [h]
theorem cellsL_zeros (n : Nat) : madeCells #[.int .u32 0] n = cellsL (List.replicate n 0) := by
  unfold cellsL madeCells
  apply Array.ext'
  apply List.ext_getElem
  · simp
  · intro i h1 h2
    simp [Nat.mod_one]
theorem dblF64 (l : List Int) (ol : OkL l) (bit i c : Nat) (hb : bit < 2) (hc : c < 4294967296) : dblF l bit i c < 18446744073709551616 := by
  have h1 : 2 * nl l i < 2 ^ 64 := by have := nl_lt ol i; omega
  have h2 : (if i = 0 then bit else c) < 2 ^ 64 := by split <;> omega
  exact Nat.or_lt_two_pow h1 h2
theorem enter_parted1 (p q x y : Value) (W : World) : Sem.run Tryd.prog (callFunc 94 #[x, y, p, q]) W = .ok (.enter 94 #[x, y, p, q]) W := by kernel_rfl
theorem row_part (pa pb : Addr) (A : Option Addr) (c : Nat) (l : List Int) (bit : Nat) (w : World) (ha : w.cell? pa = some (.int .u32 bit)) (hb : w.cell? pb = some (.slice A l.length c))
    (hl : Lim w A l) (ol : OkL l) (hlen : l.length < 35184372088832) (hbit : bit < 2) :
    Calls Tryd.prog 65 #[.int .i64 l.length, .func (.func 94) #[] #[.pointer (some pa), .pointer (some pb)]] w fun e w' => ∃ v, e = .returned v ∧ New w' w.heap.size v (pre (dblF l bit) l.length) ∧ Below w.heap.size w w' := by
  refine row_calls 94 (.pointer (some pa)) (.pointer (some pb)) l.length (dblF l bit) w hlen (enter_parted1 _ _) ?_ ?_
  · intro i k hi hk
    exact dblF64 l ol bit i k hbit hk
  · intro i k w1 hi hk hb1
    exact parted1_calls pa pb A c l bit i k w1 (pw_cell_below hb1 ha) (pw_cell_below hb1 hb) (hl.below hb1) ol hi hlen hk hbit
theorem bit_and (x t : Nat) (hx : x < 4294967296) : Go.bits .and .u32 ((x : Int) / 2 ^ t) 1 = ((x / 2 ^ t % 2 : Nat) : Int) := by
  have e : (x : Int) / 2 ^ t = ((x / 2 ^ t : Nat) : Int) := by
    rw [Int.natCast_ediv, Int.natCast_pow]
    rfl
  rw [e]
  have h1 : x / 2 ^ t < 4294967296 := Nat.lt_of_le_of_lt (Nat.div_le_self _ _) hx
  generalize x / 2 ^ t = y at *
  have h2 := u32_and_nat y 1 h1 (by decide)
  rw [nat_mask1] at h2
  exact h2
/-- How things stand at the head of the loop, j bits still to come. -/
def PInv (B : Nat) (a b : List Int) (bq br j : Nat) (w : World) : Prop :=
  j ≤ 32 * a.length ∧ (∃ Q : List Int, w.heap[bq]? = some (.cells (cellsL Q) 63 (0, 0)) ∧ OkL Q ∧ Q.length = a.length ∧ mag Q = 2 ^ j * (mag a / 2 ^ j / mag b)) ∧
    ∃ (v : Value) (R : List Int), w.heap[br]? = some (.cells #[v] 23 (0, 0)) ∧ NewB w B bq v R ∧ OkL R ∧ R.length = b.length + 1 ∧ mag R = mag a / 2 ^ j % mag b
theorem pow32 (n : Nat) : 2 ^ (32 * n) = 4294967296 ^ n := by rw [Nat.pow_mul]
theorem start_inv (B : Nat) (a b : List Int) (oa : OkL a) (bq br bw n2 : Nat) (W : World) (hn : b.length + 1 = n2) (hm : n2 ≤ maxLen) (hne : bw ≠ bq) (hB : B ≤ bw)
    (hq : W.heap[bq]? = some (.cells (madeCells #[.int .u32 0] a.length) 63 (0, 0))) (hR : W.heap[bw]? = some (.cells (madeCells #[.int .u32 0] n2) 63 (0, 0)))
    (hr : W.heap[br]? = some (.cells #[.slice (some ⟨bw, 0, none⟩) n2 n2] 23 (0, 0))) : PInv B a b bq br (32 * a.length) W := by
  rw [cellsL_zeros] at hq hR
  have z : mag a / 2 ^ (32 * a.length) = 0 := by rw [pow32]; exact Nat.div_eq_of_lt (mag_lt oa)
  refine ⟨Nat.le_refl _, ⟨_, hq, zeros_ok _, List.length_replicate, ?_⟩, _, List.replicate n2 0, hr, ?_, zeros_ok _, by rw [List.length_replicate, hn], ?_⟩
  · rw [z, mag_zeros, Nat.zero_div, Nat.mul_zero]
  · have hl : (List.replicate n2 (0 : Int)).length = n2 := List.length_replicate
    refine Kd.R_of_own (enc := Value.int .u32) (h1 := fun _ => rfl) (ok := fun k => k ≠ bq) ?_ (fun k hk => by
      have e : bw = k := by simpa [Value.ownBlock] using hk
      exact e ▸ hne)
    rw [hl]
    refine ⟨by simp [encs], .inr ⟨bw, n2, _, rfl, hB, hR, Nat.le_refl _, hm, by unfold cellsL; simp, ?_⟩⟩
    unfold cellsL
    rw [Nat.mul_one, List.take_of_length_le (by simp)]
    rfl
  · rw [z, mag_zeros, Nat.zero_mod]
set_option maxRecDepth 100000 in
set_option maxHeartbeats 4000000 in
theorem parted_calls (A B : Option Addr) (c d : Nat) (l m : List Int) (w : World) 
    (hl : Lim w A l) (hm : Lim w B m) (ol : OkL l) (om : OkL m) (hc : l.length ≤ c) (hd : m.length ≤ d) (hl2 : l.length < 1099511627776) (hm2 : m.length < 1099511627776) (h0 : mag m ≠ 0) :
    Calls Tryd.prog 69 #[.slice A l.length c, .slice B m.length d] w (Parts w (mag l) (mag m) l.length (tr m).length) := by
  have HL := Aside0.mk hl
  have HM := Aside0.mk hm
  have HC := Aside0.mk hc
  have HD := Aside0.mk hd
  have T1 := Lib.hid (show ∀ W : World, Lim W A l → Calls Tryd.prog 54 #[.slice A l.length c] W _ from fun W hW => trim_calls A c l W hW hc)
  have T2 := Lib.hid (show ∀ W : World, Lim W B m → Calls Tryd.prog 54 #[.slice B m.length d] W _ from fun W hW => trim_calls B d m W hW hd)
  have k1 : (tr l).length < 35184372088832 := by have := tr_len_le l; omega
  have k2 : (tr m).length + 1 < 35184372088832 := by have := tr_len_le m; omega
  have r1 := make_run _ k1
  obtain ⟨n2, hn2⟩ : ∃ n2, (tr m).length + 1 = n2 := ⟨_, rfl⟩
  have HN2 := Aside0.mk hn2
  have r2 := make_run n2 (by omega)
  have wl : wrap64 (((tr m).length : Int) + 1) = (n2 : Int) := by unfold wrap64; omega
  have HWL := Aside0.mk wl
  have HL2 := Aside0.mk hl2
  have HM2 := Aside0.mk hm2
  have OA := Aside0.mk (ok_tr ol)
  have OB := Aside0.mk (ok_tr om)
  have HM0 := Aside0.mk h0
  clear hn2
  clear hl hm hc hd ol om hl2 hm2 h0 k1 k2
  go_enter Tryd.func69, Tryd.ntmps69
  go_wp2_with (first | (go_at_call_of 54 (Value.slice A l.length c); (refine (T1.out _ (HL.out.alloc _)).mono ?_); rintro e w' ⟨rfl, ⟨nd, rfl⟩⟩) | (go_at_call_of 54 (Value.slice B m.length d); (refine (T2.out _ ((HM.out.alloc _).drewN _)).mono ?_); rintro e w' ⟨rfl, ⟨nd2, rfl⟩⟩))
  go_region
  all_goals (clear r1 r2 wl; go_wp2)
  all_goals first
   | (obtain ⟨⟨hr, hq, hR⟩, hb⟩ := start_world w (nd + nd2 + 1) (.slice (some ⟨w.heap.size + 1 + 1, 0, none⟩) n2 n2) (madeCells #[.int .u32 0] (tr l).length) (madeCells #[.int .u32 0] n2)
      obtain ⟨W, hW⟩ : ∃ W, (((((w.alloc (.cells #[.slice none 0 0] 23 (0, 0))).drewN (nd + nd2 + 1)).setCell ⟨w.heap.size, 0, none⟩ (.slice (some ⟨w.heap.size + 1 + 1, 0, none⟩) n2 n2)).alloc (.cells (madeCells #[.int .u32 0] (tr l).length) 63 (0, 0))).alloc (.cells (madeCells #[.int .u32 0] n2) 63 (0, 0))) = W := ⟨_, rfl⟩
      rw [hW] at hr hq hR hb
      rw [hW]
      clear hW
      have hI := start_inv w.heap.size (tr l) (tr m) OA.out (w.heap.size + 1) w.heap.size (w.heap.size + 1 + 1) n2 W HN2.out (by have := HN2.out; have := HM2.out; have := tr_len_le m; unfold maxLen; omega) (by omega) (by omega) hq hR hr
      obtain ⟨bq, hbq⟩ : ∃ bq, w.heap.size + 1 = bq := ⟨_, rfl⟩
      have hbq0 : w.heap.size < bq := by omega
      rw [hbq] at hI
      rw [hbq]
      have HBQ := Aside0.mk hbq0
      clear hbq hbq0)
   | (obtain ⟨⟨hr, hR, hq⟩, hb⟩ := start_world w (nd + nd2 + 1) (.slice (some ⟨w.heap.size + 1, 0, none⟩) n2 n2) (madeCells #[.int .u32 0] n2) (madeCells #[.int .u32 0] (tr l).length)
      obtain ⟨W, hW⟩ : ∃ W, (((((w.alloc (.cells #[.slice none 0 0] 23 (0, 0))).drewN (nd + nd2 + 1)).setCell ⟨w.heap.size, 0, none⟩ (.slice (some ⟨w.heap.size + 1, 0, none⟩) n2 n2)).alloc (.cells (madeCells #[.int .u32 0] n2) 63 (0, 0))).alloc (.cells (madeCells #[.int .u32 0] (tr l).length) 63 (0, 0))) = W := ⟨_, rfl⟩
      rw [hW] at hr hq hR hb
      rw [hW]
      clear hW
      have hI := start_inv w.heap.size (tr l) (tr m) OA.out (w.heap.size + 1 + 1) w.heap.size (w.heap.size + 1) n2 W HN2.out (by have := HN2.out; have := HM2.out; have := tr_len_le m; unfold maxLen; omega) (by omega) (by omega) hq hR hr
      obtain ⟨bq, hbq⟩ : ∃ bq, w.heap.size + 1 + 1 = bq := ⟨_, rfl⟩
      have hbq0 : w.heap.size < bq := by omega
      rw [hbq] at hI
      rw [hbq]
      have HBQ := Aside0.mk hbq0
      clear hbq hbq0)
  all_goals
    have HI := Aside0.mk hI
    have HB := Aside0.mk hb
    clear hI hr hq hR hb
    obtain ⟨x0, hx0⟩ : ∃ x0 : Int, wrap64 (wrap64 (32 * ((tr l).length : Int)) - 1) = x0 := ⟨_, rfl⟩
    rw [hx0]
    have hxe : x0 = 32 * ((tr l).length : Int) - 1 := by
      have h1 := HL2.out
      have h2 := tr_len_le l
      rw [← hx0]
      have e1 : wrap64 (32 * ((tr l).length : Int)) = 32 * ((tr l).length : Int) := by unfold wrap64; omega
      rw [e1]
      unfold wrap64
      omega
    have HXE := Aside0.mk hxe
    clear hxe hx0
    go_loopw [6] (fun v6 w' => ∃ x : Int, v6 = .int .i64 x ∧ Aside0 (-1 ≤ x ∧ PInv w.heap.size (tr l) (tr m) bq w.heap.size (x + 1).toNat w') ∧ Aside0 (Below w.heap.size w w')) (fun v6 _ => (intOf v6 + 1).toNat)
    case atStart => exact ⟨x0, rfl, ⟨by have := HXE.out; omega, by have := HXE.out; rw [show (x0 + 1).toNat = 32 * (tr l).length by omega]; exact HI.out⟩, HB⟩
    case round =>
      clear HI HB HXE
      obtain ⟨x, rfl, HI, HB⟩ := hrel
      by_cases h0 : x = -1
      · subst h0
        obtain ⟨hj, ⟨Q, hQ, okQ, lenQ, magQ⟩, rv, R, hR, hN, okR, lenR, magR⟩ := HI.out.2
        obtain ⟨Ar, cr, rfl, hcr, hlR⟩ := New.lim hN.new
        have HQ := Aside0.mk hQ
        have HQ' := Aside0.mk (And.intro okQ (And.intro lenQ magQ))
        have HR := Aside0.mk hR
        have HN := Aside0.mk hN
        have HR' := Aside0.mk (And.intro okR (And.intro lenR magR))
        have hcr0 := (blk_cell hR 0)
        have hfr0 := blk_frozen hR 0
        clear hj hQ okQ lenQ magQ hR hN okR lenR magR hcr hlR HI
        go_wp2
        go_region
        go_wp2
        obtain ⟨We, hWe⟩ : ∃ We, (wr.setCell ⟨w.heap.size, 0, none⟩ (.slice Ar R.length cr)).drew = We := ⟨_, rfl⟩
        have hsz := blk_lt HQ.out
        have hcw : We.cell? ⟨w.heap.size, 0, none⟩ = some (.slice Ar R.length cr) := by
          rw [← hWe]
          exact (blk_cell (blk_drew (blk_put HR.out 0 _ rfl)) 0).trans rfl
        have hqw : We.heap[bq]? = some (.cells (cellsL Q) 63 (0, 0)) := by
          rw [← hWe]
          exact blk_drew (blk_far HQ.out (by dsimp only; have := HBQ.out; omega) _)
        have hnw : New We w.heap.size (.slice Ar R.length cr) R := by
          rw [← hWe]
          exact (HN.out.set HR.out 0 _).new
        have hbw : Below w.heap.size w We := by
          rw [← hWe]
          exact below_drew (below_set HB.out (Nat.le_refl _))
        rw [hWe]
        have HQW := Aside0.mk hqw
        have HNW := Aside0.mk hnw
        have HBW := Aside0.mk hbw
        clear hWe hqw hnw hbw hsz
        have hlq : Q.length = (tr l).length := HQ'.out.2.1
        have hnq : New We w.heap.size (.slice (some ⟨bq, 0, none⟩) (tr l).length (tr l).length) Q := by
          rw [← hlq]
          exact New.of_block (Nat.le_of_lt HBQ.out) HQW.out (Nat.le_refl _) (by rw [hlq]; have := HL2.out; have := tr_len_le l; unfold maxLen; omega) (by unfold cellsL; simp) (by unfold cellsL; rw [List.take_of_length_le (by simp)])
        have HNQ := Aside0.mk hnq
        clear hnq hlq
        refine bodyPost_ret (v := .tuple #[.slice (some ⟨bq, 0, none⟩) (tr l).length (tr l).length, .slice Ar R.length cr]) (by simp [results, Tryd.results69, go_sem, hcw]) rfl ?_
        refine ⟨_, _, Q, R, rfl, HNQ.out, HNW.out, HQ'.out.1, HR'.out.1, ?_, ?_, by rw [HQ'.out.2.1]; exact tr_len_le l, by rw [HR'.out.2.1]; exact Nat.le_refl _, HBW.out⟩
        · rw [HQ'.out.2.2]
          simp [mag_tr]
        · rw [HR'.out.2.2]
          simp [mag_tr]
      · obtain ⟨i, rfl⟩ := Int.eq_ofNat_of_zero_le (show 0 ≤ x by have := HI.out.1; omega)
        obtain ⟨hj, ⟨Q, hQ, okQ, lenQ, magQ⟩, rv, R, hR, hN, okR, lenR, magR⟩ := HI.out.2
        rw [show ((i : Int) + 1).toNat = i + 1 by omega] at hj magQ magR
        obtain ⟨Ar, cr, rfl, hcr, hlR⟩ := New.lim hN.new
        have HQ := Aside0.mk hQ
        have OQ := Aside0.mk okQ
        have LQ := Aside0.mk lenQ
        have MQ := Aside0.mk magQ
        have HR := Aside0.mk hR
        have HN := Aside0.mk hN
        have OR := Aside0.mk okR
        have LR := Aside0.mk lenR
        have MR := Aside0.mk magR
        have HLR := Aside0.mk hlR
        have HCR := Aside0.mk hcr
        have i0 : (0 : Int) ≤ (i : Int) := by omega
        obtain ⟨xi, hxi⟩ : ∃ xi : Int, (i : Int) - 1 = xi := ⟨_, rfl⟩
        have hil : i < 32 * (tr l).length := by omega
        have hll := HL2.out
        have htl := tr_len_le l
        obtain ⟨dn, hdn⟩ : ∃ dn : Nat, i / 32 = dn := ⟨_, rfl⟩
        obtain ⟨d', hd'⟩ : ∃ d' : Int, (dn : Int) = d' := ⟨_, rfl⟩
        have hA := ((HL.out.take (tr_len_le l)).below HB.out)
        rw [tr_take] at hA
        have d0 : (0 : Int) ≤ d' := by omega
        have d1 : d' < ((tr l).length : Int) := by omega
        obtain ⟨ad, e0, hcell⟩ := hA.at_ d' d0 d1
        have hbit := bit_and (nl (tr l) dn) (i % 32) (nl_lt OA.out dn)
        rw [nl_cast OA.out, hd'] at hbit
        have hbe := bit_limb OA.out i
        rw [hdn] at hbe
        rw [← hbe] at hbit
        obtain ⟨bit, hbt⟩ : ∃ bit, mag (tr l) / 2 ^ i % 2 = bit := ⟨_, rfl⟩
        rw [hbt] at hbit
        have HBT := Aside0.mk hbt
        have hb2 : bit < 2 := by rw [← hbt]; exact Nat.mod_lt _ (by decide)
        have HB2 := Aside0.mk hb2
        have HIL := Aside0.mk hil
        have HDN := Aside0.mk hdn
        have HD' := Aside0.mk hd'
        have p0 := eq_true d0
        have q0 := eq_true d1
        have wd0 : (i : Int) / 32 = d' := by omega
        have wd4 : -9223372036854775808 ≤ d' := by omega
        have wd3 : d' ≤ 9223372036854775807 := by omega
        have hi63 : (i : Int) < 9223372036854775807 := by omega
        have HXI := Aside0.mk hxi
        have xb0 : -9223372036854775808 ≤ xi := by omega
        have xb1 : xi ≤ 9223372036854775807 := by omega
        have wx1 : wrap64 ((i : Int) - 1) = xi := w64_of hxi xb0 xb1
        have wx2 : IntKind.i64.wrap ((i : Int) - 1) = xi := i64_of hxi xb0 xb1
        clear xb0 xb1
        clear hxi hi63
        have wd : wrap64 ((i : Int) / 32) = d' := w64_of wd0 wd4 wd3
        have wd2 : IntKind.i64.wrap ((i : Int) / 32) = d' := i64_of wd0 wd4 wd3
        cases e0
        -- the world in which row is called
        have hr0 : (wr.alloc (.cells #[.int .u32 (bit : Int)] 63 (0, 0))).cell? ⟨w.heap.size, 0, none⟩ = some (.slice Ar R.length cr) := (blk_cell (blk_alloc hR _) 0).trans rfl
        have hb0 : (wr.alloc (.cells #[.int .u32 (bit : Int)] 63 (0, 0))).cell? ⟨wr.heap.size, 0, none⟩ = some (.int .u32 (bit : Int)) := (blk_cell (blk_new wr _) 0).trans rfl
        have CALL := Lib.hid (row_part ⟨wr.heap.size, 0, none⟩ ⟨w.heap.size, 0, none⟩ Ar cr R bit (wr.alloc (.cells #[.int .u32 (bit : Int)] 63 (0, 0))) hb0 hr0 (hlR.alloc _) okR (by have := HM2.out; have := tr_len_le m; omega) hb2)
        clear hb0 wd0 wd3 wd4
        clear hj hQ okQ lenQ magQ hR hN okR lenR magR HI h0 hil hdn hd' hA d0 d1 hll htl hbe hbt hb2 hlR hcr
        go_wp2_with fail
        refine CALL.out.mono ?_
        clear CALL
        rintro e w1 ⟨v1, rfl, hn1, hb1⟩
        obtain ⟨R1, hR1⟩ : ∃ R1, pre (dblF R bit) R.length = R1 := ⟨_, rfl⟩
        have okR1 : OkL R1 := by rw [← hR1]; exact pre_ok _ _
        have lenR1 : R1.length = R.length := by rw [← hR1]; exact pre_length _ _
        have hbm : 0 < mag (tr m) := by rw [mag_tr]; exact Nat.pos_of_ne_zero HM0.out
        have magR1 : mag R1 = 2 * mag R + bit := by
          rw [← hR1]
          refine dbl_value OR.out HB2.out (by rw [LR.out]; omega) ?_
          have h1 : mag R < mag (tr m) := by rw [MR.out]; exact Nat.mod_lt _ hbm
          have h2 := mag_lt OB.out
          have h3 := HB2.out
          rw [LR.out, Nat.pow_succ]
          omega
        rw [hR1] at hn1
        obtain ⟨A1, c1, rfl, hc1, _⟩ := New.lim hn1
        have hbk := blk_below (blk_alloc HR.out (.cells #[.int .u32 (bit : Int)] 63 (0, 0))) hb1
        have hqk := blk_below (blk_alloc HQ.out (.cells #[.int .u32 (bit : Int)] 63 (0, 0))) hb1
        have hB1 := below_step (below_alloc HB.out (.cells #[.int .u32 (bit : Int)] 63 (0, 0))) hb1
        have hlt := blk_lt HQ.out
        have hnb : NewB w1 w.heap.size bq (.slice A1 R1.length c1) R1 := NewB.of hn1 (by rw [World.size_alloc]; omega) (by rw [World.size_alloc]; have := HBQ.out; omega)
        have hcr1 := (blk_cell hbk 0)
        have hfr1 := blk_frozen hbk 0
        have hB1s := below_set (j := 0) (v := .slice A1 R1.length c1) hB1 (Nat.le_refl _)
        have hNs := hnb.set hbk 0 (.slice A1 R1.length c1)
        have hRs := blk_put hbk 0 (.slice A1 R1.length c1) rfl
        have hQs := blk_far hqk (p := ⟨w.heap.size, 0, none⟩) (by dsimp only; have := HBQ.out; omega) (.slice A1 R1.length c1)
        have hMs := ((HM.out.take (tr_len_le m)).below hB1s)
        rw [tr_take] at hMs
        obtain ⟨_, _, e1, _, hl1⟩ := New.lim hNs.new
        obtain ⟨rfl, _, rfl⟩ : _ = A1 ∧ _ ∧ _ = c1 := by injection e1 with h1 h2 h3; exact ⟨h1.symm, trivial, h3.symm⟩
        have hdm : (tr m).length ≤ d := Nat.le_trans (tr_len_le m) HD.out
        have hord := order_calls _ B _ d R1 (tr m) _ hl1 hMs hc1 hdm okR1 OB.out
        have hsp := split_bit (mag (tr l)) i
        rw [HBT.out] at hsp
        have OR1 := Aside0.mk okR1
        have LR1 := Aside0.mk lenR1
        have HB1S := Aside0.mk hB1s
        have HNS := Aside0.mk hNs
        have HRS := Aside0.mk hRs
        have HQS := Aside0.mk hQs
        have HMS := Aside0.mk hMs
        have HL1 := Aside0.mk hl1
        have HC1 := Aside0.mk hc1
        have HDM := Aside0.mk hdm
        have HSP := Aside0.mk hsp
        have HLT := Aside0.mk hlt
        have HBM := Aside0.mk hbm
        by_cases hge : mag (tr m) ≤ 2 * mag R + bit
        · have hst := step_ge hbm rfl MR.out HB2.out hge
          rw [← HSP.out] at hst
          have hmr : mag R1 = 2 * mag R + bit := magR1
          obtain ⟨cv, hcv⟩ : ∃ cv, cmpN (mag R1) (mag (tr m)) = cv := ⟨_, rfl⟩
          have hcv0 : 0 ≤ cv := by
            rw [← hcv, magR1]; unfold cmpN
            rw [if_neg (by omega)]
            split <;> decide
          rw [hcv] at hord
          have HORD := Lib.hid hord
          have t0 : decide (0 ≤ cv) = true := decide_eq_true hcv0
          have HMR := Aside0.mk hmr
          have HST := Aside0.mk hst
          have HGE := Aside0.mk hge
          clear hR1 okR1 lenR1 magR1 hbm hn1 hb1 hbk hqk hB1 hlt hnb hB1s hNs hRs hQs hMs hl1 hc1 hdm hord hsp hge hst hmr hcv hcv0 e1
          go_wp2_with fail
          refine HORD.out.mono ?_
          rintro e w2 ⟨rfl, ⟨nd3, rfl⟩⟩
          clear HORD
          go_wp2_with fail
          have HNum1 : Num _ _ _ R1 := ⟨HL1.out.drewN nd3, HC1.out, OR1.out, by have := LR1.out; have := LR.out; have := HM2.out; have := tr_len_le m; omega⟩
          have HNum2 : Num _ B d (tr m) := ⟨HMS.out.drewN nd3, HDM.out, OB.out, by have := HM2.out; have := tr_len_le m; omega⟩
          refine (less_calls _ _ _ _ R1 (tr m) _ HNum1 HNum2).mono ?_
          clear HNum1 HNum2
          rintro e w3 ⟨v3, rfl, hn3, hb3⟩
          obtain ⟨R3, hR3⟩ : ∃ R3, pre (lessF R1 (tr m)) R1.length = R3 := ⟨_, rfl⟩
          have okR3 : OkL R3 := by rw [← hR3]; exact pre_ok _ _
          have lenR3 : R3.length = R1.length := by rw [← hR3]; exact pre_length _ _
          have magR3 : mag R3 = 2 * mag R + bit - mag (tr m) := by
            rw [← hR3, less_value OR1.out OB.out (by rw [HMR.out]; exact HGE.out), HMR.out]
          rw [hR3] at hn3
          obtain ⟨A3, c3, rfl, _, _⟩ := New.lim hn3
          have hrk := blk_below (blk_drewN HRS.out nd3) hb3
          have hqk := blk_below (blk_drewN HQS.out nd3) hb3
          have hB3 := below_step (pw_below_drewN HB1S.out nd3) hb3
          have hlt := blk_lt HQS.out
          have hnb : NewB w3 w.heap.size bq (.slice A3 R3.length c3) R3 := NewB.of hn3 hlt (Nat.le_of_lt (Nat.lt_trans HBQ.out hlt))
          have hB3s := below_set (j := 0) (v := .slice A3 R3.length c3) hB3 (Nat.le_refl _)
          have hNs := hnb.set hrk 0 (.slice A3 R3.length c3)
          have hRs := blk_put hrk 0 (.slice A3 R3.length c3) rfl
          have hQs := blk_far hqk (p := ⟨w.heap.size, 0, none⟩) (by dsimp only; have := HBQ.out; omega) (.slice A3 R3.length c3)
          have hcr3 := (blk_cell hrk 0)
          have hfr3 := blk_frozen hrk 0
          have HB3S := Aside0.mk hB3s
          have HN3 := Aside0.mk hNs
          have HR3 := Aside0.mk hRs
          have HQ3 := Aside0.mk hQs
          have OR3 := Aside0.mk okR3
          have LR3 := Aside0.mk lenR3
          have MR3 := Aside0.mk magR3
          clear hR3 okR3 lenR3 magR3 hn3 hb3 hrk hqk hB3 hlt hnb hB3s hNs hRs hQs
          go_wp2_with fail
          have hlq : dn < Q.length := by have := LQ.out; have := HIL.out; have := HDN.out; omega
          have hcq := (blk_cell HQ3.out dn).trans (cellsL_get Q dn hlq)
          have hfq := blk_frozen HQ3.out dn
          have hdt : d'.toNat = dn := by have := HD'.out; omega
          have hqn : Q[dn] = ((nl Q dn : Nat) : Int) := by rw [nl_cast OQ.out, rd_nat Q dn hlq]
          rw [hqn] at hcq
          have hcq : (w3.setCell ⟨w.heap.size, 0, none⟩ (.slice A3 R3.length c3)).cell? ⟨bq, d'.toNat, none⟩ = some (.int .u32 ((nl Q dn : Nat) : Int)) := by rw [hdt]; exact hcq
          have hfq : (w3.setCell ⟨w.heap.size, 0, none⟩ (.slice A3 R3.length c3)).frozen? ⟨bq, d'.toNat, none⟩ = false := by rw [hdt]; exact hfq
          obtain ⟨W3, hW3⟩ : ∃ W3, w3.setCell ⟨w.heap.size, 0, none⟩ (.slice A3 R3.length c3) = W3 := ⟨_, rfl⟩
          rw [hW3] at HB3S HN3 HR3 HQ3 hcq hfq
          rw [hW3]
          clear hcr3 hfr3 hcell hr0 hcr1 hfr1
          have HDT := Aside0.mk hdt
          have HLQ := Aside0.mk hlq
          clear hW3 hdt hlq hqn
          obtain ⟨en, hen⟩ : ∃ en : Nat, i % 32 = en := ⟨_, rfl⟩
          have htm : (i : Int).tmod 32 = (en : Int) := by rw [Int.tmod_eq_emod_of_nonneg (by omega)]; omega
          have hen0 : (0 : Int) ≤ (en : Int) := by omega
          have hen1 : (en : Int) < 32 := by omega
          have hen2 : en < 32 := by omega
          have HEN := Aside0.mk hen
          clear hen
          have hor : Go.bits .or .u32 ((nl Q dn : Nat) : Int) (2 ^ en % 4294967296) = ((nl Q (i / 32) ||| 2 ^ (i % 32) : Nat) : Int) := by
            have hp : (2 : Nat) ^ en < 4294967296 := Nat.pow_lt_pow_right (m := en) (n := 32) (by decide) hen2
            have e1 : (2 : Int) ^ en % 4294967296 = ((2 ^ en : Nat) : Int) := by
              have h3 : (2 : Int) ^ en = ((2 ^ en : Nat) : Int) := (Int.natCast_pow 2 en).symm
              rw [h3]
              generalize 2 ^ en = z at hp ⊢
              omega
            rw [e1, HDN.out, HEN.out]
            exact u32_or_nat _ _ (nl_lt OQ.out dn) hp
          have HOR := Aside0.mk hor
          clear hor
          go_region
          rw [HOR.out]
          go_wp2
          go_roundw
          case rel =>
            have hlt2 := set_bit_lt OQ.out i _ MQ.out
            have hos := or_set _ _ (set_bit_limb OQ.out i _ MQ.out)
            have hms := mag_set_bit OQ.out i _ MQ.out (by rw [HDN.out]; exact HLQ.out)
            have hsize := blk_lt HQ3.out
            refine ⟨xi, rfl, ⟨by have := HXI.out; omega, by have := HIL.out; have := HXI.out; omega, ?_, ?_⟩, ⟨below_drew (below_set HB3S.out (by have := HBQ.out; omega))⟩⟩
            · refine ⟨Q.set (i / 32) ((nl Q (i / 32) ||| 2 ^ (i % 32) : Nat) : Int), blk_drew (blk_put HQ3.out d'.toNat _ (by rw [HDT.out, ← HDN.out, cellsL_set])), ok_set OQ.out _ _ (by rw [hos]; omega), by rw [List.length_set]; exact LQ.out, ?_⟩
              rw [show (xi + 1).toNat = i by have := HXI.out; omega, hms, HST.out.1]
            · refine ⟨.slice A3 R3.length c3, R3, blk_drew (blk_far HR3.out (by dsimp only; have := HBQ.out; omega) _), HN3.out.far _ _, OR3.out, by rw [LR3.out, LR1.out, LR.out], ?_⟩
              rw [show (xi + 1).toNat = i by have := HXI.out; omega, MR3.out, HST.out.2]
          case measure => have := HXI.out; simp [intOf]; omega
        · have hlt2 : 2 * mag R + bit < mag (tr m) := Nat.lt_of_not_le hge
          have hst := step_lt hbm rfl MR.out hlt2
          rw [← HSP.out] at hst
          have hcv : cmpN (mag R1) (mag (tr m)) = -1 := by
            rw [magR1]; unfold cmpN
            rw [if_pos hlt2]
          rw [hcv] at hord
          have HORD := Lib.hid hord
          have HMR := Aside0.mk magR1
          have HST := Aside0.mk hst
          clear hR1 okR1 lenR1 magR1 hbm hn1 hb1 hbk hqk hB1 hlt hnb hB1s hNs hRs hQs hMs hl1 hc1 hdm hord hsp hge hst hcv hlt2 e1
          go_wp2_with fail
          refine HORD.out.mono ?_
          rintro e w2 ⟨rfl, ⟨nd3, rfl⟩⟩
          clear HORD
          go_wp2
          go_roundw
          case rel =>
            refine ⟨xi, rfl, ⟨by have := HXI.out; omega, by have := HIL.out; have := HXI.out; omega, ?_, ?_⟩, ⟨pw_below_drewN HB1S.out _⟩⟩
            · refine ⟨Q, blk_drewN HQS.out _, OQ.out, LQ.out, ?_⟩
              rw [show (xi + 1).toNat = i by have := HXI.out; omega, HST.out.1, MQ.out, Nat.pow_succ, Nat.mul_assoc]
            · refine ⟨_, R1, blk_drewN HRS.out _, HNS.out, OR1.out, by rw [LR1.out, LR.out], ?_⟩
              rw [show (xi + 1).toNat = i by have := HXI.out; omega, HMR.out, HST.out.2]
          case measure => have := HXI.out; simp [intOf]; omega
end Go.Proofs.YthhpnlbeniihhaaDoor.NumO
namespace Go.Proofs.YthhpnlbeniihhaaDoor.NumP
open Go.RowKit Go.Proofs.YthhpnlbeniihhaaDoorW.PrintWords Go.Proofs.YthhpnlbeniihhaaDoorW.PrintLast Go.Proofs.YthhpnlbeniihhaaDoorW.PrintMore Go.Proofs.YthhpnlbeniihhaaDoor.Limb Go.Proofs.YthhpnlbeniihhaaDoor.NumA Go.Proofs.YthhpnlbeniihhaaDoor.NumB Go.Proofs.YthhpnlbeniihhaaDoor.NumC Go.Proofs.YthhpnlbeniihhaaDoor.NumD Go.Proofs.YthhpnlbeniihhaaDoor.NumE Go.Proofs.YthhpnlbeniihhaaDoor.NumF Go.Proofs.YthhpnlbeniihhaaDoor.NumG Go.Proofs.YthhpnlbeniihhaaDoor.NumH Go.Proofs.YthhpnlbeniihhaaDoor.NumI Go.Proofs.YthhpnlbeniihhaaDoor.NumJ Go.Proofs.YthhpnlbeniihhaaDoor.NumO
set_option linter.unusedVariables false
set_option linter.unusedSimpArgs false
theorem sgn_zero (neg : Bool) (l : List Int) : (sgn neg l == 0) = decide (mag l = 0) := by
  unfold sgn
  by_cases h : mag l = 0
  · simp [h]
  · cases neg <;> simp [h]
/-- A number in memory stays, whatever is made. -/
theorem _root_.Go.Proofs.YthhpnlbeniihhaaDoor.NumC.Num.next {w w1 w2 : World} {A : Option Addr} {c : Nat} {l : List Int} (h : Num w1 A c l) (hb : Below w1.heap.size w1 w2) : Num w2 A c l := h.below hb
theorem _root_.Go.Proofs.YthhpnlbeniihhaaDoor.NumC.Num.drew1 {w : World} {A : Option Addr} {c : Nat} {l : List Int} (h : Num w A c l) : Num w.drew A c l := ⟨h.lim, h.room, h.ok, h.few⟩
set_option maxRecDepth 100000 in
set_option maxHeartbeats 8000000 in
theorem quo_calls (n1 n2 : Bool) (A B : Option Addr) (c d : Nat) (l m : List Int) (w : World) (hl : Num w A c l) (hm : Num w B d m) (h1 : l.length < 1099511627776) (h2 : m.length < 1099511627776) :
    Calls Tryd.prog 29 #[.agg #[.bool n1, .slice A l.length c], .agg #[.bool n2, .slice B m.length d]] w (Res w (if mag m = 0 then (false, [], 13) else mk (belowB n1 l != belowB n2 m) (mag l / mag m))) := by
  have HL := Aside0.mk hl
  have HM := Aside0.mk hm
  have H1 := Aside0.mk h1
  have H2 := Aside0.mk h2
  have hz := sgn_zero n2 m
  generalize hr : (if mag m = 0 then (false, [], 13) else mk (belowB n1 l != belowB n2 m) (mag l / mag m)) = r
  clear hl hm h1 h2
  go_enter Tryd.func29, Tryd.ntmps29
  go_wp2_with fail
  obtain ⟨b1, b2, b3⟩ := boxes w (.bool n1) (.slice A l.length c) (.bool n2) (.slice B m.length d)
  have HB := Aside0.mk (below_alloc (below_alloc ((Below.refl w.heap.size w).alloc (Nat.le_refl _) (.cells #[.bool n1, .slice A l.length c] 25 (0, 0))) (.cells #[.bool n2, .slice B m.length d] 25 (0, 0))) (.cells #[.bool false, .slice none 0 0] 25 (0, 0)))
  generalize (((w.alloc (.cells #[.bool n1, .slice A l.length c] 25 (0, 0))).alloc (.cells #[.bool n2, .slice B m.length d] 25 (0, 0))).alloc (.cells #[.bool false, .slice none 0 0] 25 (0, 0))) = W at *
  obtain ⟨ha0, ha1⟩ := cell_at b1
  obtain ⟨hb0, hb1⟩ := cell_at b2
  have B3 := Aside0.mk b3
  clear b1 b2 b3
  refine (sign_calls n2 B d m _ (HM.out.below (by first | exact HB.out | exact below_drew1 HB.out | exact pw_below_drewN HB.out _))).mono ?_
  rintro e w1 ⟨rfl, hb⟩
  have q0_ := pw_cell_below hb (a := ⟨w.heap.size, 0, none⟩) (v := .bool n1) (by go_keep); have q1_ := pw_cell_below hb (a := ⟨w.heap.size, 1, none⟩) (v := .slice A l.length c) (by go_keep); have q2_ := pw_cell_below hb (a := ⟨w.heap.size + 1, 0, none⟩) (v := .bool n2) (by go_keep); have q3_ := pw_cell_below hb (a := ⟨w.heap.size + 1, 1, none⟩) (v := .slice B m.length d) (by go_keep); have q4_ := Aside0.mk (below_step (by first | exact HB.out | exact below_drew1 HB.out | exact pw_below_drewN HB.out _) hb); have q5_ := Aside0.mk (blk_below (by first | exact B3.out | exact blk_drew B3.out | exact blk_drewN B3.out _) hb); clear ha0 ha1 hb0 hb1 HB B3 hb; have ha0 := q0_; have ha1 := q1_; have hb0 := q2_; have hb1 := q3_; have HB := q4_; have B3 := q5_; clear q0_ q1_ q2_ q3_ q4_ q5_
  have z0 := (cell_at B3.out).1
  have z1 := (cell_at B3.out).2
  have f0 := blk_frozen B3.out 0
  have f1 := blk_frozen B3.out 1
  by_cases h0 : mag m = 0
  · rw [if_pos h0] at hr
    obtain rfl : (false, [], 13) = r := hr
    have t0 : (sgn n2 m == 0) = true := by rw [hz]; simp [h0]
    clear h0 hz
    go_wp2
    refine bodyPost_ret (results_ct rfl _ _ (w.heap.size + 1 + 1) 25 #[.bool false, .slice none 0 0] (0, 0) _ rfl (blk_put (cs := #[.bool false, .slice none 0 0]) (blk_put (cs := #[.bool false, .slice none 0 0]) B3.out 0 _ rfl) 1 _ rfl) Tryd.underlying25 rfl (by kernel_rfl)) rfl ?_
    exact ⟨.slice none 0 0, rfl, New.nil _ _, below_set (below_set HB.out (by omega)) (by omega)⟩
  · rw [if_neg h0] at hr
    have HR := Aside0.mk hr
    obtain ⟨r1, r2, r3⟩ := r
    have t0 : (sgn n2 m == 0) = false := by rw [hz]; simp [h0]
    have HZ := Aside0.mk h0
    clear h0 hz hr
    go_wp2_with fail
    refine (parted_calls A B c d l m _ (HL.out.below (by first | exact HB.out | exact below_drew1 HB.out | exact pw_below_drewN HB.out _)).lim (HM.out.below (by first | exact HB.out | exact below_drew1 HB.out | exact pw_below_drewN HB.out _)).lim HL.out.ok HM.out.ok HL.out.room HM.out.room H1.out H2.out HZ.out).mono ?_
    rintro e w1 ⟨vq, vr, Q, R, rfl, hq, hR, oq, or', magq, magr, lq, lr, hb⟩
    obtain ⟨Aq, cq, rfl, hcq, hlq⟩ := New.lim hq
    obtain ⟨Ar_, cr_, rfl, hcr, hlr⟩ := New.lim hR
    clear z0 z1 f0 f1
    have NQ := Aside0.mk (show Num w1 Aq cq Q from ⟨hlq, hcq, oq, by have := H1.out; have := H2.out; have := tr_len_le m; omega⟩)
    have VQ := Aside0.mk magq
    clear hq hR oq or' magq magr lq lr hcq hlq hcr hlr
    have q0_ := pw_cell_below hb (a := ⟨w.heap.size, 0, none⟩) (v := .bool n1) (by go_keep); have q1_ := pw_cell_below hb (a := ⟨w.heap.size, 1, none⟩) (v := .slice A l.length c) (by go_keep); have q2_ := pw_cell_below hb (a := ⟨w.heap.size + 1, 0, none⟩) (v := .bool n2) (by go_keep); have q3_ := pw_cell_below hb (a := ⟨w.heap.size + 1, 1, none⟩) (v := .slice B m.length d) (by go_keep); have q4_ := Aside0.mk (below_step (by first | exact HB.out | exact below_drew1 HB.out | exact pw_below_drewN HB.out _) hb); have q5_ := Aside0.mk (blk_below (by first | exact B3.out | exact blk_drew B3.out | exact blk_drewN B3.out _) hb); clear ha0 ha1 hb0 hb1 HB B3 hb; have ha0 := q0_; have ha1 := q1_; have hb0 := q2_; have hb1 := q3_; have HB := q4_; have B3 := q5_; clear q0_ q1_ q2_ q3_ q4_ q5_
    go_wp2
    go_region_held3 (fun w' => w'.cell? ⟨w.heap.size, 0, none⟩ = some (.bool n1) ∧ w'.cell? ⟨w.heap.size, 1, none⟩ = some (.slice A l.length c) ∧ w'.cell? ⟨w.heap.size + 1, 0, none⟩ = some (.bool n2) ∧ w'.cell? ⟨w.heap.size + 1, 1, none⟩ = some (.slice B m.length d))
      (first | exact ⟨by assumption, by assumption, by assumption, by assumption⟩ | exact ⟨by (rw [World.cell?_setCell_far _ _ _ _ (by dsimp only; omega), World.cell?_setCell_far _ _ _ _ (by dsimp only; omega)]; assumption), by (rw [World.cell?_setCell_far _ _ _ _ (by dsimp only; omega), World.cell?_setCell_far _ _ _ _ (by dsimp only; omega)]; assumption), by (rw [World.cell?_setCell_far _ _ _ _ (by dsimp only; omega), World.cell?_setCell_far _ _ _ _ (by dsimp only; omega)]; assumption), by (rw [World.cell?_setCell_far _ _ _ _ (by dsimp only; omega), World.cell?_setCell_far _ _ _ _ (by dsimp only; omega)]; assumption)⟩)
      (first
        | (go_at_call_of 70 (Value.agg #[.bool n1, .slice A l.length c]); refine (below_calls n1 A c l _ (HL.out.below (by first | exact HB.out | exact below_drew1 HB.out | exact pw_below_drewN HB.out _)).lim HL.out.room).mono ?_; rintro e w1 ⟨rfl, hb⟩; have q0_ := pw_cell_below hb (a := ⟨w.heap.size, 0, none⟩) (v := .bool n1) (by go_keep); have q1_ := pw_cell_below hb (a := ⟨w.heap.size, 1, none⟩) (v := .slice A l.length c) (by go_keep); have q2_ := pw_cell_below hb (a := ⟨w.heap.size + 1, 0, none⟩) (v := .bool n2) (by go_keep); have q3_ := pw_cell_below hb (a := ⟨w.heap.size + 1, 1, none⟩) (v := .slice B m.length d) (by go_keep); have q4_ := Aside0.mk (below_step (by first | exact HB.out | exact below_drew1 HB.out | exact pw_below_drewN HB.out _) hb); have q5_ := Aside0.mk (blk_below (by first | exact B3.out | exact blk_drew B3.out | exact blk_drewN B3.out _) hb); have e0_ := Aside0.mk (Num.below (by first | exact NQ.out | exact NQ.out.drew1 | exact NQ.out.drewN _) hb); clear ha0 ha1 hb0 hb1 HB B3 hb NQ; have ha0 := q0_; have ha1 := q1_; have hb0 := q2_; have hb1 := q3_; have HB := q4_; have B3 := q5_; have NQ := e0_; clear q0_ q1_ q2_ q3_ q4_ q5_ e0_)
        | (go_at_call_of 70 (Value.agg #[.bool n2, .slice B m.length d]); refine (below_calls n2 B d m _ (HM.out.below (by first | exact HB.out | exact below_drew1 HB.out | exact pw_below_drewN HB.out _)).lim HM.out.room).mono ?_; rintro e w1 ⟨rfl, hb⟩; have q0_ := pw_cell_below hb (a := ⟨w.heap.size, 0, none⟩) (v := .bool n1) (by go_keep); have q1_ := pw_cell_below hb (a := ⟨w.heap.size, 1, none⟩) (v := .slice A l.length c) (by go_keep); have q2_ := pw_cell_below hb (a := ⟨w.heap.size + 1, 0, none⟩) (v := .bool n2) (by go_keep); have q3_ := pw_cell_below hb (a := ⟨w.heap.size + 1, 1, none⟩) (v := .slice B m.length d) (by go_keep); have q4_ := Aside0.mk (below_step (by first | exact HB.out | exact below_drew1 HB.out | exact pw_below_drewN HB.out _) hb); have q5_ := Aside0.mk (blk_below (by first | exact B3.out | exact blk_drew B3.out | exact blk_drewN B3.out _) hb); have e0_ := Aside0.mk (Num.below (by first | exact NQ.out | exact NQ.out.drew1 | exact NQ.out.drewN _) hb); clear ha0 ha1 hb0 hb1 HB B3 hb NQ; have ha0 := q0_; have ha1 := q1_; have hb0 := q2_; have hb1 := q3_; have HB := q4_; have B3 := q5_; have NQ := e0_; clear q0_ q1_ q2_ q3_ q4_ q5_ e0_)
        | (go_at_call 51; refine ((made_calls (belowB n1 l != belowB n2 m) Aq cq Q _ ((by first | exact NQ.out | exact NQ.out.drew1 | exact NQ.out.drewN _) : Num _ Aq cq Q).lim NQ.out.room NQ.out.ok NQ.out.few).mono ?_); rintro e w1 ⟨v, rfl, hnew, hb⟩; rw [VQ.out, HR.out] at hnew; rw [VQ.out, HR.out]; obtain ⟨Ar, cr, er, _, _⟩ := New.lim hnew; subst er; have RN := Aside0.mk (New.lower (base' := w.heap.size) hnew (below_size (by first | exact HB.out | exact below_drew1 HB.out | exact pw_below_drewN HB.out _))); clear hnew; have q0_ := pw_cell_below hb (a := ⟨w.heap.size, 0, none⟩) (v := .bool n1) (by go_keep); have q1_ := pw_cell_below hb (a := ⟨w.heap.size, 1, none⟩) (v := .slice A l.length c) (by go_keep); have q2_ := pw_cell_below hb (a := ⟨w.heap.size + 1, 0, none⟩) (v := .bool n2) (by go_keep); have q3_ := pw_cell_below hb (a := ⟨w.heap.size + 1, 1, none⟩) (v := .slice B m.length d) (by go_keep); have q4_ := Aside0.mk (below_step (by first | exact HB.out | exact below_drew1 HB.out | exact pw_below_drewN HB.out _) hb); have q5_ := Aside0.mk (blk_below (by first | exact B3.out | exact blk_drew B3.out | exact blk_drewN B3.out _) hb); clear ha0 ha1 hb0 hb1 HB B3 hb; have ha0 := q0_; have ha1 := q1_; have hb0 := q2_; have hb1 := q3_; have HB := q4_; have B3 := q5_; clear q0_ q1_ q2_ q3_ q4_ q5_; have z0 := (cell_at B3.out).1; have z1 := (cell_at B3.out).2; have f0 := blk_frozen B3.out 0; have f1 := blk_frozen B3.out 1))
    go_wp2
    refine bodyPost_ret (results_ct rfl _ _ (w.heap.size + 1 + 1) 25 #[.bool r1, .slice Ar r2.length cr] (0, 0) _ rfl (blk_put (cs := #[.bool r1, .slice none 0 0]) (blk_put (cs := #[.bool false, .slice none 0 0]) B3.out 0 _ rfl) 1 _ rfl) Tryd.underlying25 rfl (by kernel_rfl)) rfl ?_
    exact ⟨_, rfl, New.set (New.set RN.out B3.out 0 _) (blk_put (cs' := #[.bool r1, .slice none 0 0]) B3.out 0 _ rfl) 1 _, below_set (below_set HB.out (by omega)) (by omega)⟩
set_option maxRecDepth 100000 in
set_option maxHeartbeats 8000000 in
theorem mod_calls (n1 n2 : Bool) (A B : Option Addr) (c d : Nat) (l m : List Int) (w : World) (hl : Num w A c l) (hm : Num w B d m) (h1 : l.length < 1099511627776) (h2 : m.length < 1099511627776) :
    Calls Tryd.prog 31 #[.agg #[.bool n1, .slice A l.length c], .agg #[.bool n2, .slice B m.length d]] w (Res w (if mag m = 0 then (false, [], 13) else mk (belowB n2 m) (if (belowB n1 l != belowB n2 m) = true ∧ mag l % mag m ≠ 0 then mag m - mag l % mag m else mag l % mag m))) := by
  have HL := Aside0.mk hl
  have HM := Aside0.mk hm
  have H1 := Aside0.mk h1
  have H2 := Aside0.mk h2
  have hz := sgn_zero n2 m
  generalize hr : (if mag m = 0 then (false, [], 13) else mk (belowB n2 m) (if (belowB n1 l != belowB n2 m) = true ∧ mag l % mag m ≠ 0 then mag m - mag l % mag m else mag l % mag m)) = r
  clear hl hm h1 h2
  go_enter Tryd.func31, Tryd.ntmps31
  go_wp2_with fail
  obtain ⟨b1, b2, b3⟩ := boxes w (.bool n1) (.slice A l.length c) (.bool n2) (.slice B m.length d)
  have HB := Aside0.mk (below_alloc (below_alloc ((Below.refl w.heap.size w).alloc (Nat.le_refl _) (.cells #[.bool n1, .slice A l.length c] 25 (0, 0))) (.cells #[.bool n2, .slice B m.length d] 25 (0, 0))) (.cells #[.bool false, .slice none 0 0] 25 (0, 0)))
  generalize (((w.alloc (.cells #[.bool n1, .slice A l.length c] 25 (0, 0))).alloc (.cells #[.bool n2, .slice B m.length d] 25 (0, 0))).alloc (.cells #[.bool false, .slice none 0 0] 25 (0, 0))) = W at *
  obtain ⟨ha0, ha1⟩ := cell_at b1
  obtain ⟨hb0, hb1⟩ := cell_at b2
  have B3 := Aside0.mk b3
  clear b1 b2 b3
  refine (sign_calls n2 B d m _ (HM.out.below (by first | exact HB.out | exact below_drew1 HB.out | exact pw_below_drewN HB.out _))).mono ?_
  rintro e w1 ⟨rfl, hb⟩
  have q0_ := pw_cell_below hb (a := ⟨w.heap.size, 0, none⟩) (v := .bool n1) (by go_keep); have q1_ := pw_cell_below hb (a := ⟨w.heap.size, 1, none⟩) (v := .slice A l.length c) (by go_keep); have q2_ := pw_cell_below hb (a := ⟨w.heap.size + 1, 0, none⟩) (v := .bool n2) (by go_keep); have q3_ := pw_cell_below hb (a := ⟨w.heap.size + 1, 1, none⟩) (v := .slice B m.length d) (by go_keep); have q4_ := Aside0.mk (below_step (by first | exact HB.out | exact below_drew1 HB.out | exact pw_below_drewN HB.out _) hb); have q5_ := Aside0.mk (blk_below (by first | exact B3.out | exact blk_drew B3.out | exact blk_drewN B3.out _) hb); clear ha0 ha1 hb0 hb1 HB B3 hb; have ha0 := q0_; have ha1 := q1_; have hb0 := q2_; have hb1 := q3_; have HB := q4_; have B3 := q5_; clear q0_ q1_ q2_ q3_ q4_ q5_
  have z0 := (cell_at B3.out).1
  have z1 := (cell_at B3.out).2
  have f0 := blk_frozen B3.out 0
  have f1 := blk_frozen B3.out 1
  by_cases h0 : mag m = 0
  · rw [if_pos h0] at hr
    obtain rfl : (false, [], 13) = r := hr
    have t0 : (sgn n2 m == 0) = true := by rw [hz]; simp [h0]
    clear h0 hz
    go_wp2
    refine bodyPost_ret (results_ct rfl _ _ (w.heap.size + 1 + 1) 25 #[.bool false, .slice none 0 0] (0, 0) _ rfl (blk_put (cs := #[.bool false, .slice none 0 0]) (blk_put (cs := #[.bool false, .slice none 0 0]) B3.out 0 _ rfl) 1 _ rfl) Tryd.underlying25 rfl (by kernel_rfl)) rfl ?_
    exact ⟨.slice none 0 0, rfl, New.nil _ _, below_set (below_set HB.out (by omega)) (by omega)⟩
  · rw [if_neg h0] at hr
    have HR := Aside0.mk hr
    obtain ⟨r1, r2, r3⟩ := r
    have t0 : (sgn n2 m == 0) = false := by rw [hz]; simp [h0]
    have HZ := Aside0.mk h0
    clear h0 hz hr
    go_wp2_with fail
    refine (parted_calls A B c d l m _ (HL.out.below (by first | exact HB.out | exact below_drew1 HB.out | exact pw_below_drewN HB.out _)).lim (HM.out.below (by first | exact HB.out | exact below_drew1 HB.out | exact pw_below_drewN HB.out _)).lim HL.out.ok HM.out.ok HL.out.room HM.out.room H1.out H2.out HZ.out).mono ?_
    rintro e w1 ⟨vq, vr, Q, R, rfl, hq, hR, oq, or', magq, magr, lq, lr, hb⟩
    obtain ⟨Aq, cq, rfl, hcq, hlq⟩ := New.lim hq
    obtain ⟨Ar_, cr_, rfl, hcr, hlr⟩ := New.lim hR
    clear z0 z1 f0 f1
    have NQ := Aside0.mk (show Num w1 Ar_ cr_ R from ⟨hlr, hcr, or', by have := H1.out; have := H2.out; have := tr_len_le m; omega⟩)
    have VQ := Aside0.mk magr
    clear hq hR oq or' magq magr lq lr hcq hlq hcr hlr
    have q0_ := pw_cell_below hb (a := ⟨w.heap.size, 0, none⟩) (v := .bool n1) (by go_keep); have q1_ := pw_cell_below hb (a := ⟨w.heap.size, 1, none⟩) (v := .slice A l.length c) (by go_keep); have q2_ := pw_cell_below hb (a := ⟨w.heap.size + 1, 0, none⟩) (v := .bool n2) (by go_keep); have q3_ := pw_cell_below hb (a := ⟨w.heap.size + 1, 1, none⟩) (v := .slice B m.length d) (by go_keep); have q4_ := Aside0.mk (below_step (by first | exact HB.out | exact below_drew1 HB.out | exact pw_below_drewN HB.out _) hb); have q5_ := Aside0.mk (blk_below (by first | exact B3.out | exact blk_drew B3.out | exact blk_drewN B3.out _) hb); clear ha0 ha1 hb0 hb1 HB B3 hb; have ha0 := q0_; have ha1 := q1_; have hb0 := q2_; have hb1 := q3_; have HB := q4_; have B3 := q5_; clear q0_ q1_ q2_ q3_ q4_ q5_
    obtain ⟨b1, hbb1⟩ : ∃ b, belowB n1 l = b := ⟨_, rfl⟩
    have CB1 := Lib.hid (show ∀ W : World, Num W A c l → Calls Tryd.prog 70 #[.agg #[.bool n1, .slice A l.length c]] W fun e w' => e = .returned (.bool b1) ∧ Below W.heap.size W w' by intro W h; rw [← hbb1]; exact below_calls n1 A c l W h.lim h.room)
    obtain ⟨b2, hbb2⟩ : ∃ b, belowB n2 m = b := ⟨_, rfl⟩
    have CB2 := Lib.hid (show ∀ W : World, Num W B d m → Calls Tryd.prog 70 #[.agg #[.bool n2, .slice B m.length d]] W fun e w' => e = .returned (.bool b2) ∧ Below W.heap.size W w' by intro W h; rw [← hbb2]; exact below_calls n2 B d m W h.lim h.room)
    have hv := HR.out
    rw [hbb1, hbb2, ← VQ.out] at hv
    have tp := tr_len_pos NQ.out.ok
    clear HR hbb1 hbb2
    cases b1 <;> cases b2
    · -- both signs alike
      have HR : Aside0 (mk false (mag R) = (r1, r2, r3)) := ⟨by rw [← hv, if_neg (by simp)]⟩
      clear hv tp
      go_wp2
      refine start_ (n := 11) (S := fun w' => w'.cell? ⟨w.heap.size, 0, none⟩ = some (.bool n1) ∧ w'.cell? ⟨w.heap.size, 1, none⟩ = some (.slice A l.length c) ∧ w'.cell? ⟨w.heap.size + 1, 0, none⟩ = some (.bool n2) ∧ w'.cell? ⟨w.heap.size + 1, 1, none⟩ = some (.slice B m.length d)) (ds := []) #[false, false, false, false, false, false, false, false, false, false, false] (by kernel_rfl) rfl rfl ⟨ha0, ha1, hb0, hb1⟩ (fun hHeld => ?_)
      refine take_ (i := 0) (N := some 20) (v := ?_) (a' := ?_) #[true, false, false, false, false, false, false, false, false, false, false] rfl rfl (by kernel_rfl) (fun _ _ _ h => h) (Or.inl ⟨by rfl, ?_⟩) hHeld ?_ ?_
      rotate_left
      · rintro w' ⟨s0, s1, s2, s3⟩
        go_simp
        with_reducible rfl
      rotate_left
      · simp only [Act.put, List.setIfInBounds_toArray, List.set_cons_zero, List.set_cons_succ, i64_w, i32_w]
        rfl
      refine take_ (i := 2) (N := some 22) (v := ?_) (a' := ?_) #[true, false, true, false, false, false, false, false, false, false, false] rfl rfl (by kernel_rfl) (fun _ _ _ h => h) (Or.inl ⟨by rfl, ?_⟩) hHeld ?_ ?_
      rotate_left
      · rintro w' ⟨s0, s1, s2, s3⟩
        go_simp
        with_reducible rfl
      rotate_left
      · simp only [Act.put, List.setIfInBounds_toArray, List.set_cons_zero, List.set_cons_succ, i64_w, i32_w]
        rfl
      refine one_ (i := 1) (N := some 21) #[true, true, true, false, false, false, false, false, false, false, false] rfl rfl (by kernel_rfl) (by decide) (fun K hK => ?_)
      refine goes_ Tryd.func70 (by kernel_rfl) rfl #[.agg #[.bool n1, .slice A l.length c]] (by rfl) rfl rfl (by simp only [List.map_toArray, List.map_cons, List.map_nil]; rfl) ?_
      with_reducible refine (CB1.out _ (HL.out.below (by first | exact HB.out | exact below_drew1 HB.out | exact pw_below_drewN HB.out _))).mono ?_
      rintro e w1 ⟨rfl, hb⟩
      refine ⟨_, rfl, ?_⟩
      have q0_ := pw_cell_below hb (a := ⟨w.heap.size, 0, none⟩) (v := .bool n1) (by assumption)
      have q1_ := pw_cell_below hb (a := ⟨w.heap.size, 1, none⟩) (v := .slice A l.length c) (by assumption)
      have q2_ := pw_cell_below hb (a := ⟨w.heap.size + 1, 0, none⟩) (v := .bool n2) (by assumption)
      have q3_ := pw_cell_below hb (a := ⟨w.heap.size + 1, 1, none⟩) (v := .slice B m.length d) (by assumption)
      have q4_ := Aside0.mk (below_step (by first | exact HB.out | exact below_drew1 HB.out | exact pw_below_drewN HB.out _) hb)
      have q5_ := Aside0.mk (blk_below (by first | exact B3.out | exact blk_drew B3.out | exact blk_drewN B3.out _) hb)
      have e0_ := Aside0.mk (Num.below (by first | exact NQ.out | exact NQ.out.drew1 | exact NQ.out.drewN _) hb)
      clear ha0 ha1 hb0 hb1 HB B3 hb NQ
      have ha0 := q0_
      have ha1 := q1_
      have hb0 := q2_
      have hb1 := q3_
      have HB := q4_
      have B3 := q5_
      have NQ := e0_
      clear q0_ q1_ q2_ q3_ q4_ q5_ e0_
      refine hK.out _ _ ⟨ha0, ha1, hb0, hb1⟩ (fun hHeld => ?_)
      clear hK K
      refine norm_ (a' := ?_) ?_ ?_
      rotate_left
      · show Act.put _ (some 21) _ = _
        simp only [Act.put, List.setIfInBounds_toArray, List.set_cons_zero, List.set_cons_succ, i64_w, i32_w]
        rfl
      refine one_ (i := 3) (N := some 23) #[true, true, true, true, false, false, false, false, false, false, false] rfl rfl (by kernel_rfl) (by decide) (fun K hK => ?_)
      refine goes_ Tryd.func70 (by kernel_rfl) rfl #[.agg #[.bool n2, .slice B m.length d]] (by rfl) rfl rfl (by simp only [List.map_toArray, List.map_cons, List.map_nil]; rfl) ?_
      with_reducible refine (CB2.out _ (HM.out.below (by first | exact HB.out | exact below_drew1 HB.out | exact pw_below_drewN HB.out _))).mono ?_
      rintro e w1 ⟨rfl, hb⟩
      refine ⟨_, rfl, ?_⟩
      have q0_ := pw_cell_below hb (a := ⟨w.heap.size, 0, none⟩) (v := .bool n1) (by assumption)
      have q1_ := pw_cell_below hb (a := ⟨w.heap.size, 1, none⟩) (v := .slice A l.length c) (by assumption)
      have q2_ := pw_cell_below hb (a := ⟨w.heap.size + 1, 0, none⟩) (v := .bool n2) (by assumption)
      have q3_ := pw_cell_below hb (a := ⟨w.heap.size + 1, 1, none⟩) (v := .slice B m.length d) (by assumption)
      have q4_ := Aside0.mk (below_step (by first | exact HB.out | exact below_drew1 HB.out | exact pw_below_drewN HB.out _) hb)
      have q5_ := Aside0.mk (blk_below (by first | exact B3.out | exact blk_drew B3.out | exact blk_drewN B3.out _) hb)
      have e0_ := Aside0.mk (Num.below (by first | exact NQ.out | exact NQ.out.drew1 | exact NQ.out.drewN _) hb)
      clear ha0 ha1 hb0 hb1 HB B3 hb NQ
      have ha0 := q0_
      have ha1 := q1_
      have hb0 := q2_
      have hb1 := q3_
      have HB := q4_
      have B3 := q5_
      have NQ := e0_
      clear q0_ q1_ q2_ q3_ q4_ q5_ e0_
      refine hK.out _ _ ⟨ha0, ha1, hb0, hb1⟩ (fun hHeld => ?_)
      clear hK K
      refine norm_ (a' := ?_) ?_ ?_
      rotate_left
      · show Act.put _ (some 23) _ = _
        simp only [Act.put, List.setIfInBounds_toArray, List.set_cons_zero, List.set_cons_succ, i64_w, i32_w]
        rfl
      refine pure_ (i := 4) (N := some 24) (v := ?_) (a' := ?_) #[true, true, true, true, true, false, false, false, false, false, false] rfl rfl (by kernel_rfl) (fun _ _ _ h => h) (Or.inl ⟨by rfl, ?_⟩) ?_ ?_
      rotate_left
      · intro w'
        go_simp
        with_reducible rfl
      rotate_left
      · simp only [Act.put, List.setIfInBounds_toArray, List.set_cons_zero, List.set_cons_succ, i64_w, i32_w]
        rfl
      refine pure_ (i := 5) (N := some 25) (v := ?_) (a' := ?_) #[true, true, true, true, true, true, false, false, false, false, false] rfl rfl (by kernel_rfl) (fun _ _ _ h => h) (Or.inl ⟨by rfl, ?_⟩) ?_ ?_
      rotate_left
      · intro w'
        go_simp
        with_reducible rfl
      rotate_left
      · simp only [Act.put, List.setIfInBounds_toArray, List.set_cons_zero, List.set_cons_succ, i64_w, i32_w]
        rfl
      refine pure_ (i := 6) (N := some 26) (v := undef) (a' := ?_) #[true, true, true, true, true, true, true, false, false, false, false] rfl rfl (by kernel_rfl) (fun _ _ _ h => h) (Or.inr ⟨by rfl, rfl⟩) ?_ ?_
      rotate_left
      · simp only [Act.put, List.setIfInBounds_toArray, List.set_cons_zero, List.set_cons_succ, i64_w, i32_w]
        rfl
      refine pure_ (i := 7) (N := some 27) (v := undef) (a' := ?_) #[true, true, true, true, true, true, true, true, false, false, false] rfl rfl (by kernel_rfl) (fun _ _ _ h => h) (Or.inr ⟨by rfl, rfl⟩) ?_ ?_
      rotate_left
      · simp only [Act.put, List.setIfInBounds_toArray, List.set_cons_zero, List.set_cons_succ, i64_w, i32_w]
        rfl
      refine pure_ (i := 8) (N := some 28) (v := undef) (a' := ?_) #[true, true, true, true, true, true, true, true, true, false, false] rfl rfl (by kernel_rfl) (fun _ _ _ h => h) (Or.inr ⟨by rfl, rfl⟩) ?_ ?_
      rotate_left
      · simp only [Act.put, List.setIfInBounds_toArray, List.set_cons_zero, List.set_cons_succ, i64_w, i32_w]
        rfl
      refine pure_ (i := 9) (N := some 29) (v := undef) (a' := ?_) #[true, true, true, true, true, true, true, true, true, true, false] rfl rfl (by kernel_rfl) (fun _ _ _ h => h) (Or.inr ⟨by rfl, rfl⟩) ?_ ?_
      rotate_left
      · simp only [Act.put, List.setIfInBounds_toArray, List.set_cons_zero, List.set_cons_succ, i64_w, i32_w]
        rfl
      refine pure_ (i := 10) (N := some 30) (v := ?_) (a' := ?_) #[true, true, true, true, true, true, true, true, true, true, true] rfl rfl (by kernel_rfl) (fun _ _ _ h => h) (Or.inl ⟨by rfl, ?_⟩) ?_ ?_
      rotate_left
      · intro w'
        go_simp
        with_reducible rfl
      rotate_left
      · simp only [Act.put, List.setIfInBounds_toArray, List.set_cons_zero, List.set_cons_succ, i64_w, i32_w]
        rfl
      refine done_ (by kernel_rfl) ?_
      go_wp2_with fail
      refine (CB2.out _ (HM.out.below (by first | exact HB.out | exact below_drew1 HB.out | exact pw_below_drewN HB.out _))).mono ?_
      rintro e w1 ⟨rfl, hb⟩
      have q0_ := pw_cell_below hb (a := ⟨w.heap.size, 0, none⟩) (v := .bool n1) (by go_keep); have q1_ := pw_cell_below hb (a := ⟨w.heap.size, 1, none⟩) (v := .slice A l.length c) (by go_keep); have q2_ := pw_cell_below hb (a := ⟨w.heap.size + 1, 0, none⟩) (v := .bool n2) (by go_keep); have q3_ := pw_cell_below hb (a := ⟨w.heap.size + 1, 1, none⟩) (v := .slice B m.length d) (by go_keep); have q4_ := Aside0.mk (below_step (by first | exact HB.out | exact below_drew1 HB.out | exact pw_below_drewN HB.out _) hb); have q5_ := Aside0.mk (blk_below (by first | exact B3.out | exact blk_drew B3.out | exact blk_drewN B3.out _) hb); have e0_ := Aside0.mk (Num.below (by first | exact NQ.out | exact NQ.out.drew1 | exact NQ.out.drewN _) hb); clear ha0 ha1 hb0 hb1 HB B3 hb NQ; have ha0 := q0_; have ha1 := q1_; have hb0 := q2_; have hb1 := q3_; have HB := q4_; have B3 := q5_; have NQ := e0_; clear q0_ q1_ q2_ q3_ q4_ q5_ e0_
      go_wp2_with fail
      refine ((made_calls _ Ar_ cr_ R _ ((by first | exact NQ.out | exact NQ.out.drew1 | exact NQ.out.drewN _) : Num _ Ar_ cr_ R).lim NQ.out.room NQ.out.ok NQ.out.few).mono ?_)
      rintro e w1 ⟨v, rfl, hnew, hb⟩
      rw [HR.out] at hnew
      rw [HR.out]
      obtain ⟨Ar, cr, er, _, _⟩ := New.lim hnew
      subst er
      have RN := Aside0.mk (New.lower (base' := w.heap.size) hnew (below_size (by first | exact HB.out | exact below_drew1 HB.out | exact pw_below_drewN HB.out _)))
      clear hnew
      have q0_ := pw_cell_below hb (a := ⟨w.heap.size, 0, none⟩) (v := .bool n1) (by go_keep); have q1_ := pw_cell_below hb (a := ⟨w.heap.size, 1, none⟩) (v := .slice A l.length c) (by go_keep); have q2_ := pw_cell_below hb (a := ⟨w.heap.size + 1, 0, none⟩) (v := .bool n2) (by go_keep); have q3_ := pw_cell_below hb (a := ⟨w.heap.size + 1, 1, none⟩) (v := .slice B m.length d) (by go_keep); have q4_ := Aside0.mk (below_step (by first | exact HB.out | exact below_drew1 HB.out | exact pw_below_drewN HB.out _) hb); have q5_ := Aside0.mk (blk_below (by first | exact B3.out | exact blk_drew B3.out | exact blk_drewN B3.out _) hb); clear ha0 ha1 hb0 hb1 HB B3 hb; have ha0 := q0_; have ha1 := q1_; have hb0 := q2_; have hb1 := q3_; have HB := q4_; have B3 := q5_; clear q0_ q1_ q2_ q3_ q4_ q5_
      have z0 := (cell_at B3.out).1
      have z1 := (cell_at B3.out).2
      have f0 := blk_frozen B3.out 0
      have f1 := blk_frozen B3.out 1
      go_wp2
      refine bodyPost_ret (results_ct rfl _ _ (w.heap.size + 1 + 1) 25 #[.bool r1, .slice Ar r2.length cr] (0, 0) _ rfl (blk_put (cs := #[.bool r1, .slice none 0 0]) (blk_put (cs := #[.bool false, .slice none 0 0]) B3.out 0 _ rfl) 1 _ rfl) Tryd.underlying25 rfl (by kernel_rfl)) rfl ?_
      exact ⟨_, rfl, New.set (New.set RN.out B3.out 0 _) (blk_put (cs' := #[.bool r1, .slice none 0 0]) B3.out 0 _ rfl) 1 _, below_set (below_set HB.out (by omega)) (by omega)⟩
    · by_cases hz : mag R = 0
      · have HR : Aside0 (mk true (mag R) = (r1, r2, r3)) := ⟨by rw [← hv, if_neg (by simp [hz])]⟩
        have t1 : decide (0 < (tr R).length) = false := by rw [tp]; simp [hz]
        clear hv tp hz
        go_wp2; go_region_held3 (fun w' => w'.cell? ⟨w.heap.size, 0, none⟩ = some (.bool n1) ∧ w'.cell? ⟨w.heap.size, 1, none⟩ = some (.slice A l.length c) ∧ w'.cell? ⟨w.heap.size + 1, 0, none⟩ = some (.bool n2) ∧ w'.cell? ⟨w.heap.size + 1, 1, none⟩ = some (.slice B m.length d)) (first | exact ⟨by assumption, by assumption, by assumption, by assumption⟩ | exact ⟨by (rw [World.cell?_setCell_far _ _ _ _ (by dsimp only; omega), World.cell?_setCell_far _ _ _ _ (by dsimp only; omega)]; assumption), by (rw [World.cell?_setCell_far _ _ _ _ (by dsimp only; omega), World.cell?_setCell_far _ _ _ _ (by dsimp only; omega)]; assumption), by (rw [World.cell?_setCell_far _ _ _ _ (by dsimp only; omega), World.cell?_setCell_far _ _ _ _ (by dsimp only; omega)]; assumption), by (rw [World.cell?_setCell_far _ _ _ _ (by dsimp only; omega), World.cell?_setCell_far _ _ _ _ (by dsimp only; omega)]; assumption)⟩) (first | (go_at_call_of 70 (Value.agg #[.bool n1, .slice A l.length c]); refine (CB1.out _ (HL.out.below (by first | exact HB.out | exact below_drew1 HB.out | exact pw_below_drewN HB.out _))).mono ?_; rintro e w1 ⟨rfl, hb⟩; have q0_ := pw_cell_below hb (a := ⟨w.heap.size, 0, none⟩) (v := .bool n1) (by go_keep); have q1_ := pw_cell_below hb (a := ⟨w.heap.size, 1, none⟩) (v := .slice A l.length c) (by go_keep); have q2_ := pw_cell_below hb (a := ⟨w.heap.size + 1, 0, none⟩) (v := .bool n2) (by go_keep); have q3_ := pw_cell_below hb (a := ⟨w.heap.size + 1, 1, none⟩) (v := .slice B m.length d) (by go_keep); have q4_ := Aside0.mk (below_step (by first | exact HB.out | exact below_drew1 HB.out | exact pw_below_drewN HB.out _) hb); have q5_ := Aside0.mk (blk_below (by first | exact B3.out | exact blk_drew B3.out | exact blk_drewN B3.out _) hb); have e0_ := Aside0.mk (Num.below (by first | exact NQ.out | exact NQ.out.drew1 | exact NQ.out.drewN _) hb); clear ha0 ha1 hb0 hb1 HB B3 hb NQ; have ha0 := q0_; have ha1 := q1_; have hb0 := q2_; have hb1 := q3_; have HB := q4_; have B3 := q5_; have NQ := e0_; clear q0_ q1_ q2_ q3_ q4_ q5_ e0_) | (go_at_call_of 70 (Value.agg #[.bool n2, .slice B m.length d]); refine (CB2.out _ (HM.out.below (by first | exact HB.out | exact below_drew1 HB.out | exact pw_below_drewN HB.out _))).mono ?_; rintro e w1 ⟨rfl, hb⟩; have q0_ := pw_cell_below hb (a := ⟨w.heap.size, 0, none⟩) (v := .bool n1) (by go_keep); have q1_ := pw_cell_below hb (a := ⟨w.heap.size, 1, none⟩) (v := .slice A l.length c) (by go_keep); have q2_ := pw_cell_below hb (a := ⟨w.heap.size + 1, 0, none⟩) (v := .bool n2) (by go_keep); have q3_ := pw_cell_below hb (a := ⟨w.heap.size + 1, 1, none⟩) (v := .slice B m.length d) (by go_keep); have q4_ := Aside0.mk (below_step (by first | exact HB.out | exact below_drew1 HB.out | exact pw_below_drewN HB.out _) hb); have q5_ := Aside0.mk (blk_below (by first | exact B3.out | exact blk_drew B3.out | exact blk_drewN B3.out _) hb); have e0_ := Aside0.mk (Num.below (by first | exact NQ.out | exact NQ.out.drew1 | exact NQ.out.drewN _) hb); clear ha0 ha1 hb0 hb1 HB B3 hb NQ; have ha0 := q0_; have ha1 := q1_; have hb0 := q2_; have hb1 := q3_; have HB := q4_; have B3 := q5_; have NQ := e0_; clear q0_ q1_ q2_ q3_ q4_ q5_ e0_) | (go_at_call 54; refine (trim_calls Ar_ cr_ R _ ((by first | exact NQ.out | exact NQ.out.drew1 | exact NQ.out.drewN _) : Num _ Ar_ cr_ R).lim NQ.out.room).mono ?_; rintro e w' ⟨rfl, ⟨nd, rfl⟩⟩))
        go_wp2_with fail
        refine (CB2.out _ (HM.out.below (by first | exact HB.out | exact below_drew1 HB.out | exact pw_below_drewN HB.out _))).mono ?_
        rintro e w1 ⟨rfl, hb⟩
        have q0_ := pw_cell_below hb (a := ⟨w.heap.size, 0, none⟩) (v := .bool n1) (by go_keep); have q1_ := pw_cell_below hb (a := ⟨w.heap.size, 1, none⟩) (v := .slice A l.length c) (by go_keep); have q2_ := pw_cell_below hb (a := ⟨w.heap.size + 1, 0, none⟩) (v := .bool n2) (by go_keep); have q3_ := pw_cell_below hb (a := ⟨w.heap.size + 1, 1, none⟩) (v := .slice B m.length d) (by go_keep); have q4_ := Aside0.mk (below_step (by first | exact HB.out | exact below_drew1 HB.out | exact pw_below_drewN HB.out _) hb); have q5_ := Aside0.mk (blk_below (by first | exact B3.out | exact blk_drew B3.out | exact blk_drewN B3.out _) hb); have e0_ := Aside0.mk (Num.below (by first | exact NQ.out | exact NQ.out.drew1 | exact NQ.out.drewN _) hb); clear ha0 ha1 hb0 hb1 HB B3 hb NQ; have ha0 := q0_; have ha1 := q1_; have hb0 := q2_; have hb1 := q3_; have HB := q4_; have B3 := q5_; have NQ := e0_; clear q0_ q1_ q2_ q3_ q4_ q5_ e0_
        go_wp2_with fail
        refine ((made_calls _ Ar_ cr_ R _ ((by first | exact NQ.out | exact NQ.out.drew1 | exact NQ.out.drewN _) : Num _ Ar_ cr_ R).lim NQ.out.room NQ.out.ok NQ.out.few).mono ?_)
        rintro e w1 ⟨v, rfl, hnew, hb⟩
        rw [HR.out] at hnew
        rw [HR.out]
        obtain ⟨Ar, cr, er, _, _⟩ := New.lim hnew
        subst er
        have RN := Aside0.mk (New.lower (base' := w.heap.size) hnew (below_size (by first | exact HB.out | exact below_drew1 HB.out | exact pw_below_drewN HB.out _)))
        clear hnew
        have q0_ := pw_cell_below hb (a := ⟨w.heap.size, 0, none⟩) (v := .bool n1) (by go_keep); have q1_ := pw_cell_below hb (a := ⟨w.heap.size, 1, none⟩) (v := .slice A l.length c) (by go_keep); have q2_ := pw_cell_below hb (a := ⟨w.heap.size + 1, 0, none⟩) (v := .bool n2) (by go_keep); have q3_ := pw_cell_below hb (a := ⟨w.heap.size + 1, 1, none⟩) (v := .slice B m.length d) (by go_keep); have q4_ := Aside0.mk (below_step (by first | exact HB.out | exact below_drew1 HB.out | exact pw_below_drewN HB.out _) hb); have q5_ := Aside0.mk (blk_below (by first | exact B3.out | exact blk_drew B3.out | exact blk_drewN B3.out _) hb); clear ha0 ha1 hb0 hb1 HB B3 hb; have ha0 := q0_; have ha1 := q1_; have hb0 := q2_; have hb1 := q3_; have HB := q4_; have B3 := q5_; clear q0_ q1_ q2_ q3_ q4_ q5_
        have z0 := (cell_at B3.out).1
        have z1 := (cell_at B3.out).2
        have f0 := blk_frozen B3.out 0
        have f1 := blk_frozen B3.out 1
        go_wp2
        refine bodyPost_ret (results_ct rfl _ _ (w.heap.size + 1 + 1) 25 #[.bool r1, .slice Ar r2.length cr] (0, 0) _ rfl (blk_put (cs := #[.bool r1, .slice none 0 0]) (blk_put (cs := #[.bool false, .slice none 0 0]) B3.out 0 _ rfl) 1 _ rfl) Tryd.underlying25 rfl (by kernel_rfl)) rfl ?_
        exact ⟨_, rfl, New.set (New.set RN.out B3.out 0 _) (blk_put (cs' := #[.bool r1, .slice none 0 0]) B3.out 0 _ rfl) 1 _, below_set (below_set HB.out (by omega)) (by omega)⟩
      · have HR : Aside0 (mk true (mag m - mag R) = (r1, r2, r3)) := ⟨by rw [← hv, if_pos (by simp [hz])]⟩
        have t1 : decide (0 < (tr R).length) = true := by rw [tp]; simp [hz]
        have hlt : mag R ≤ mag (tr m) := by rw [mag_tr, VQ.out]; exact Nat.le_of_lt (Nat.mod_lt _ (Nat.pos_of_ne_zero HZ.out))
        have HLT := Aside0.mk hlt
        clear hv tp hz hlt
        go_wp2; go_region_held3 (fun w' => w'.cell? ⟨w.heap.size, 0, none⟩ = some (.bool n1) ∧ w'.cell? ⟨w.heap.size, 1, none⟩ = some (.slice A l.length c) ∧ w'.cell? ⟨w.heap.size + 1, 0, none⟩ = some (.bool n2) ∧ w'.cell? ⟨w.heap.size + 1, 1, none⟩ = some (.slice B m.length d)) (first | exact ⟨by assumption, by assumption, by assumption, by assumption⟩ | exact ⟨by (rw [World.cell?_setCell_far _ _ _ _ (by dsimp only; omega), World.cell?_setCell_far _ _ _ _ (by dsimp only; omega)]; assumption), by (rw [World.cell?_setCell_far _ _ _ _ (by dsimp only; omega), World.cell?_setCell_far _ _ _ _ (by dsimp only; omega)]; assumption), by (rw [World.cell?_setCell_far _ _ _ _ (by dsimp only; omega), World.cell?_setCell_far _ _ _ _ (by dsimp only; omega)]; assumption), by (rw [World.cell?_setCell_far _ _ _ _ (by dsimp only; omega), World.cell?_setCell_far _ _ _ _ (by dsimp only; omega)]; assumption)⟩) (first | (go_at_call_of 70 (Value.agg #[.bool n1, .slice A l.length c]); refine (CB1.out _ (HL.out.below (by first | exact HB.out | exact below_drew1 HB.out | exact pw_below_drewN HB.out _))).mono ?_; rintro e w1 ⟨rfl, hb⟩; have q0_ := pw_cell_below hb (a := ⟨w.heap.size, 0, none⟩) (v := .bool n1) (by go_keep); have q1_ := pw_cell_below hb (a := ⟨w.heap.size, 1, none⟩) (v := .slice A l.length c) (by go_keep); have q2_ := pw_cell_below hb (a := ⟨w.heap.size + 1, 0, none⟩) (v := .bool n2) (by go_keep); have q3_ := pw_cell_below hb (a := ⟨w.heap.size + 1, 1, none⟩) (v := .slice B m.length d) (by go_keep); have q4_ := Aside0.mk (below_step (by first | exact HB.out | exact below_drew1 HB.out | exact pw_below_drewN HB.out _) hb); have q5_ := Aside0.mk (blk_below (by first | exact B3.out | exact blk_drew B3.out | exact blk_drewN B3.out _) hb); have e0_ := Aside0.mk (Num.below (by first | exact NQ.out | exact NQ.out.drew1 | exact NQ.out.drewN _) hb); clear ha0 ha1 hb0 hb1 HB B3 hb NQ; have ha0 := q0_; have ha1 := q1_; have hb0 := q2_; have hb1 := q3_; have HB := q4_; have B3 := q5_; have NQ := e0_; clear q0_ q1_ q2_ q3_ q4_ q5_ e0_) | (go_at_call_of 70 (Value.agg #[.bool n2, .slice B m.length d]); refine (CB2.out _ (HM.out.below (by first | exact HB.out | exact below_drew1 HB.out | exact pw_below_drewN HB.out _))).mono ?_; rintro e w1 ⟨rfl, hb⟩; have q0_ := pw_cell_below hb (a := ⟨w.heap.size, 0, none⟩) (v := .bool n1) (by go_keep); have q1_ := pw_cell_below hb (a := ⟨w.heap.size, 1, none⟩) (v := .slice A l.length c) (by go_keep); have q2_ := pw_cell_below hb (a := ⟨w.heap.size + 1, 0, none⟩) (v := .bool n2) (by go_keep); have q3_ := pw_cell_below hb (a := ⟨w.heap.size + 1, 1, none⟩) (v := .slice B m.length d) (by go_keep); have q4_ := Aside0.mk (below_step (by first | exact HB.out | exact below_drew1 HB.out | exact pw_below_drewN HB.out _) hb); have q5_ := Aside0.mk (blk_below (by first | exact B3.out | exact blk_drew B3.out | exact blk_drewN B3.out _) hb); have e0_ := Aside0.mk (Num.below (by first | exact NQ.out | exact NQ.out.drew1 | exact NQ.out.drewN _) hb); clear ha0 ha1 hb0 hb1 HB B3 hb NQ; have ha0 := q0_; have ha1 := q1_; have hb0 := q2_; have hb1 := q3_; have HB := q4_; have B3 := q5_; have NQ := e0_; clear q0_ q1_ q2_ q3_ q4_ q5_ e0_) | (go_at_call 54; refine (trim_calls Ar_ cr_ R _ ((by first | exact NQ.out | exact NQ.out.drew1 | exact NQ.out.drewN _) : Num _ Ar_ cr_ R).lim NQ.out.room).mono ?_; rintro e w' ⟨rfl, ⟨nd, rfl⟩⟩))
        go_wp2_with fail
        refine (trim_calls B d m _ (HM.out.below (by first | exact HB.out | exact below_drew1 HB.out | exact pw_below_drewN HB.out _)).lim HM.out.room).mono ?_
        rintro e w' ⟨rfl, ⟨nd2, rfl⟩⟩
        go_wp2_with fail
        refine (less_calls B Ar_ d cr_ (tr m) R _ (HM.out.below (by first | exact HB.out | exact below_drew1 HB.out | exact pw_below_drewN HB.out _)).tr ((by first | exact NQ.out | exact NQ.out.drew1 | exact NQ.out.drewN _) : Num _ Ar_ cr_ R)).mono ?_
        rintro e w1 ⟨v5, rfl, hn5, hb⟩
        obtain ⟨A5, c5, rfl, hc5, hl5⟩ := New.lim hn5
        have hm5 := less_value (HM.out.ok |> ok_tr) NQ.out.ok HLT.out
        have hk5 := pre_ok (lessF (tr m) R) (tr m).length
        have he5 := pre_length (lessF (tr m) R) (tr m).length
        generalize pre (lessF (tr m) R) (tr m).length = R5 at *
        rw [mag_tr] at hm5
        have HR5 : Aside0 (mk true (mag R5) = (r1, r2, r3)) := ⟨by rw [hm5]; exact HR.out⟩
        have NQ5 := Aside0.mk (show Num w1 A5 c5 R5 from ⟨hl5, hc5, hk5, by have := tr_len_le m; have := H2.out; omega⟩)
        clear NQ VQ HR hm5 hk5 he5 hn5 hc5 hl5
        have NQ := NQ5
        have HR := HR5
        clear NQ5 HR5
        have q0_ := pw_cell_below hb (a := ⟨w.heap.size, 0, none⟩) (v := .bool n1) (by go_keep); have q1_ := pw_cell_below hb (a := ⟨w.heap.size, 1, none⟩) (v := .slice A l.length c) (by go_keep); have q2_ := pw_cell_below hb (a := ⟨w.heap.size + 1, 0, none⟩) (v := .bool n2) (by go_keep); have q3_ := pw_cell_below hb (a := ⟨w.heap.size + 1, 1, none⟩) (v := .slice B m.length d) (by go_keep); have q4_ := Aside0.mk (below_step (by first | exact HB.out | exact below_drew1 HB.out | exact pw_below_drewN HB.out _) hb); have q5_ := Aside0.mk (blk_below (by first | exact B3.out | exact blk_drew B3.out | exact blk_drewN B3.out _) hb); clear ha0 ha1 hb0 hb1 HB B3 hb; have ha0 := q0_; have ha1 := q1_; have hb0 := q2_; have hb1 := q3_; have HB := q4_; have B3 := q5_; clear q0_ q1_ q2_ q3_ q4_ q5_
        go_wp2_with fail
        refine (CB2.out _ (HM.out.below (by first | exact HB.out | exact below_drew1 HB.out | exact pw_below_drewN HB.out _))).mono ?_
        rintro e w1 ⟨rfl, hb⟩
        have q0_ := pw_cell_below hb (a := ⟨w.heap.size, 0, none⟩) (v := .bool n1) (by go_keep); have q1_ := pw_cell_below hb (a := ⟨w.heap.size, 1, none⟩) (v := .slice A l.length c) (by go_keep); have q2_ := pw_cell_below hb (a := ⟨w.heap.size + 1, 0, none⟩) (v := .bool n2) (by go_keep); have q3_ := pw_cell_below hb (a := ⟨w.heap.size + 1, 1, none⟩) (v := .slice B m.length d) (by go_keep); have q4_ := Aside0.mk (below_step (by first | exact HB.out | exact below_drew1 HB.out | exact pw_below_drewN HB.out _) hb); have q5_ := Aside0.mk (blk_below (by first | exact B3.out | exact blk_drew B3.out | exact blk_drewN B3.out _) hb); have e0_ := Aside0.mk (Num.below (by first | exact NQ.out | exact NQ.out.drew1 | exact NQ.out.drewN _) hb); clear ha0 ha1 hb0 hb1 HB B3 hb NQ; have ha0 := q0_; have ha1 := q1_; have hb0 := q2_; have hb1 := q3_; have HB := q4_; have B3 := q5_; have NQ := e0_; clear q0_ q1_ q2_ q3_ q4_ q5_ e0_
        go_wp2_with fail
        refine ((made_calls _ A5 c5 R5 _ ((by first | exact NQ.out | exact NQ.out.drew1 | exact NQ.out.drewN _) : Num _ A5 c5 R5).lim NQ.out.room NQ.out.ok NQ.out.few).mono ?_)
        rintro e w1 ⟨v, rfl, hnew, hb⟩
        rw [HR.out] at hnew
        rw [HR.out]
        obtain ⟨Ar, cr, er, _, _⟩ := New.lim hnew
        subst er
        have RN := Aside0.mk (New.lower (base' := w.heap.size) hnew (below_size (by first | exact HB.out | exact below_drew1 HB.out | exact pw_below_drewN HB.out _)))
        clear hnew
        have q0_ := pw_cell_below hb (a := ⟨w.heap.size, 0, none⟩) (v := .bool n1) (by go_keep); have q1_ := pw_cell_below hb (a := ⟨w.heap.size, 1, none⟩) (v := .slice A l.length c) (by go_keep); have q2_ := pw_cell_below hb (a := ⟨w.heap.size + 1, 0, none⟩) (v := .bool n2) (by go_keep); have q3_ := pw_cell_below hb (a := ⟨w.heap.size + 1, 1, none⟩) (v := .slice B m.length d) (by go_keep); have q4_ := Aside0.mk (below_step (by first | exact HB.out | exact below_drew1 HB.out | exact pw_below_drewN HB.out _) hb); have q5_ := Aside0.mk (blk_below (by first | exact B3.out | exact blk_drew B3.out | exact blk_drewN B3.out _) hb); clear ha0 ha1 hb0 hb1 HB B3 hb; have ha0 := q0_; have ha1 := q1_; have hb0 := q2_; have hb1 := q3_; have HB := q4_; have B3 := q5_; clear q0_ q1_ q2_ q3_ q4_ q5_
        have z0 := (cell_at B3.out).1
        have z1 := (cell_at B3.out).2
        have f0 := blk_frozen B3.out 0
        have f1 := blk_frozen B3.out 1
        go_wp2
        refine bodyPost_ret (results_ct rfl _ _ (w.heap.size + 1 + 1) 25 #[.bool r1, .slice Ar r2.length cr] (0, 0) _ rfl (blk_put (cs := #[.bool r1, .slice none 0 0]) (blk_put (cs := #[.bool false, .slice none 0 0]) B3.out 0 _ rfl) 1 _ rfl) Tryd.underlying25 rfl (by kernel_rfl)) rfl ?_
        exact ⟨_, rfl, New.set (New.set RN.out B3.out 0 _) (blk_put (cs' := #[.bool r1, .slice none 0 0]) B3.out 0 _ rfl) 1 _, below_set (below_set HB.out (by omega)) (by omega)⟩
    · by_cases hz : mag R = 0
      · have HR : Aside0 (mk false (mag R) = (r1, r2, r3)) := ⟨by rw [← hv, if_neg (by simp [hz])]⟩
        have t1 : decide (0 < (tr R).length) = false := by rw [tp]; simp [hz]
        clear hv tp hz
        go_wp2; go_region_held3 (fun w' => w'.cell? ⟨w.heap.size, 0, none⟩ = some (.bool n1) ∧ w'.cell? ⟨w.heap.size, 1, none⟩ = some (.slice A l.length c) ∧ w'.cell? ⟨w.heap.size + 1, 0, none⟩ = some (.bool n2) ∧ w'.cell? ⟨w.heap.size + 1, 1, none⟩ = some (.slice B m.length d)) (first | exact ⟨by assumption, by assumption, by assumption, by assumption⟩ | exact ⟨by (rw [World.cell?_setCell_far _ _ _ _ (by dsimp only; omega), World.cell?_setCell_far _ _ _ _ (by dsimp only; omega)]; assumption), by (rw [World.cell?_setCell_far _ _ _ _ (by dsimp only; omega), World.cell?_setCell_far _ _ _ _ (by dsimp only; omega)]; assumption), by (rw [World.cell?_setCell_far _ _ _ _ (by dsimp only; omega), World.cell?_setCell_far _ _ _ _ (by dsimp only; omega)]; assumption), by (rw [World.cell?_setCell_far _ _ _ _ (by dsimp only; omega), World.cell?_setCell_far _ _ _ _ (by dsimp only; omega)]; assumption)⟩) (first | (go_at_call_of 70 (Value.agg #[.bool n1, .slice A l.length c]); refine (CB1.out _ (HL.out.below (by first | exact HB.out | exact below_drew1 HB.out | exact pw_below_drewN HB.out _))).mono ?_; rintro e w1 ⟨rfl, hb⟩; have q0_ := pw_cell_below hb (a := ⟨w.heap.size, 0, none⟩) (v := .bool n1) (by go_keep); have q1_ := pw_cell_below hb (a := ⟨w.heap.size, 1, none⟩) (v := .slice A l.length c) (by go_keep); have q2_ := pw_cell_below hb (a := ⟨w.heap.size + 1, 0, none⟩) (v := .bool n2) (by go_keep); have q3_ := pw_cell_below hb (a := ⟨w.heap.size + 1, 1, none⟩) (v := .slice B m.length d) (by go_keep); have q4_ := Aside0.mk (below_step (by first | exact HB.out | exact below_drew1 HB.out | exact pw_below_drewN HB.out _) hb); have q5_ := Aside0.mk (blk_below (by first | exact B3.out | exact blk_drew B3.out | exact blk_drewN B3.out _) hb); have e0_ := Aside0.mk (Num.below (by first | exact NQ.out | exact NQ.out.drew1 | exact NQ.out.drewN _) hb); clear ha0 ha1 hb0 hb1 HB B3 hb NQ; have ha0 := q0_; have ha1 := q1_; have hb0 := q2_; have hb1 := q3_; have HB := q4_; have B3 := q5_; have NQ := e0_; clear q0_ q1_ q2_ q3_ q4_ q5_ e0_) | (go_at_call_of 70 (Value.agg #[.bool n2, .slice B m.length d]); refine (CB2.out _ (HM.out.below (by first | exact HB.out | exact below_drew1 HB.out | exact pw_below_drewN HB.out _))).mono ?_; rintro e w1 ⟨rfl, hb⟩; have q0_ := pw_cell_below hb (a := ⟨w.heap.size, 0, none⟩) (v := .bool n1) (by go_keep); have q1_ := pw_cell_below hb (a := ⟨w.heap.size, 1, none⟩) (v := .slice A l.length c) (by go_keep); have q2_ := pw_cell_below hb (a := ⟨w.heap.size + 1, 0, none⟩) (v := .bool n2) (by go_keep); have q3_ := pw_cell_below hb (a := ⟨w.heap.size + 1, 1, none⟩) (v := .slice B m.length d) (by go_keep); have q4_ := Aside0.mk (below_step (by first | exact HB.out | exact below_drew1 HB.out | exact pw_below_drewN HB.out _) hb); have q5_ := Aside0.mk (blk_below (by first | exact B3.out | exact blk_drew B3.out | exact blk_drewN B3.out _) hb); have e0_ := Aside0.mk (Num.below (by first | exact NQ.out | exact NQ.out.drew1 | exact NQ.out.drewN _) hb); clear ha0 ha1 hb0 hb1 HB B3 hb NQ; have ha0 := q0_; have ha1 := q1_; have hb0 := q2_; have hb1 := q3_; have HB := q4_; have B3 := q5_; have NQ := e0_; clear q0_ q1_ q2_ q3_ q4_ q5_ e0_) | (go_at_call 54; refine (trim_calls Ar_ cr_ R _ ((by first | exact NQ.out | exact NQ.out.drew1 | exact NQ.out.drewN _) : Num _ Ar_ cr_ R).lim NQ.out.room).mono ?_; rintro e w' ⟨rfl, ⟨nd, rfl⟩⟩))
        go_wp2_with fail
        refine (CB2.out _ (HM.out.below (by first | exact HB.out | exact below_drew1 HB.out | exact pw_below_drewN HB.out _))).mono ?_
        rintro e w1 ⟨rfl, hb⟩
        have q0_ := pw_cell_below hb (a := ⟨w.heap.size, 0, none⟩) (v := .bool n1) (by go_keep); have q1_ := pw_cell_below hb (a := ⟨w.heap.size, 1, none⟩) (v := .slice A l.length c) (by go_keep); have q2_ := pw_cell_below hb (a := ⟨w.heap.size + 1, 0, none⟩) (v := .bool n2) (by go_keep); have q3_ := pw_cell_below hb (a := ⟨w.heap.size + 1, 1, none⟩) (v := .slice B m.length d) (by go_keep); have q4_ := Aside0.mk (below_step (by first | exact HB.out | exact below_drew1 HB.out | exact pw_below_drewN HB.out _) hb); have q5_ := Aside0.mk (blk_below (by first | exact B3.out | exact blk_drew B3.out | exact blk_drewN B3.out _) hb); have e0_ := Aside0.mk (Num.below (by first | exact NQ.out | exact NQ.out.drew1 | exact NQ.out.drewN _) hb); clear ha0 ha1 hb0 hb1 HB B3 hb NQ; have ha0 := q0_; have ha1 := q1_; have hb0 := q2_; have hb1 := q3_; have HB := q4_; have B3 := q5_; have NQ := e0_; clear q0_ q1_ q2_ q3_ q4_ q5_ e0_
        go_wp2_with fail
        refine ((made_calls _ Ar_ cr_ R _ ((by first | exact NQ.out | exact NQ.out.drew1 | exact NQ.out.drewN _) : Num _ Ar_ cr_ R).lim NQ.out.room NQ.out.ok NQ.out.few).mono ?_)
        rintro e w1 ⟨v, rfl, hnew, hb⟩
        rw [HR.out] at hnew
        rw [HR.out]
        obtain ⟨Ar, cr, er, _, _⟩ := New.lim hnew
        subst er
        have RN := Aside0.mk (New.lower (base' := w.heap.size) hnew (below_size (by first | exact HB.out | exact below_drew1 HB.out | exact pw_below_drewN HB.out _)))
        clear hnew
        have q0_ := pw_cell_below hb (a := ⟨w.heap.size, 0, none⟩) (v := .bool n1) (by go_keep); have q1_ := pw_cell_below hb (a := ⟨w.heap.size, 1, none⟩) (v := .slice A l.length c) (by go_keep); have q2_ := pw_cell_below hb (a := ⟨w.heap.size + 1, 0, none⟩) (v := .bool n2) (by go_keep); have q3_ := pw_cell_below hb (a := ⟨w.heap.size + 1, 1, none⟩) (v := .slice B m.length d) (by go_keep); have q4_ := Aside0.mk (below_step (by first | exact HB.out | exact below_drew1 HB.out | exact pw_below_drewN HB.out _) hb); have q5_ := Aside0.mk (blk_below (by first | exact B3.out | exact blk_drew B3.out | exact blk_drewN B3.out _) hb); clear ha0 ha1 hb0 hb1 HB B3 hb; have ha0 := q0_; have ha1 := q1_; have hb0 := q2_; have hb1 := q3_; have HB := q4_; have B3 := q5_; clear q0_ q1_ q2_ q3_ q4_ q5_
        have z0 := (cell_at B3.out).1
        have z1 := (cell_at B3.out).2
        have f0 := blk_frozen B3.out 0
        have f1 := blk_frozen B3.out 1
        go_wp2
        refine bodyPost_ret (results_ct rfl _ _ (w.heap.size + 1 + 1) 25 #[.bool r1, .slice Ar r2.length cr] (0, 0) _ rfl (blk_put (cs := #[.bool r1, .slice none 0 0]) (blk_put (cs := #[.bool false, .slice none 0 0]) B3.out 0 _ rfl) 1 _ rfl) Tryd.underlying25 rfl (by kernel_rfl)) rfl ?_
        exact ⟨_, rfl, New.set (New.set RN.out B3.out 0 _) (blk_put (cs' := #[.bool r1, .slice none 0 0]) B3.out 0 _ rfl) 1 _, below_set (below_set HB.out (by omega)) (by omega)⟩
      · have HR : Aside0 (mk false (mag m - mag R) = (r1, r2, r3)) := ⟨by rw [← hv, if_pos (by simp [hz])]⟩
        have t1 : decide (0 < (tr R).length) = true := by rw [tp]; simp [hz]
        have hlt : mag R ≤ mag (tr m) := by rw [mag_tr, VQ.out]; exact Nat.le_of_lt (Nat.mod_lt _ (Nat.pos_of_ne_zero HZ.out))
        have HLT := Aside0.mk hlt
        clear hv tp hz hlt
        go_wp2; go_region_held3 (fun w' => w'.cell? ⟨w.heap.size, 0, none⟩ = some (.bool n1) ∧ w'.cell? ⟨w.heap.size, 1, none⟩ = some (.slice A l.length c) ∧ w'.cell? ⟨w.heap.size + 1, 0, none⟩ = some (.bool n2) ∧ w'.cell? ⟨w.heap.size + 1, 1, none⟩ = some (.slice B m.length d)) (first | exact ⟨by assumption, by assumption, by assumption, by assumption⟩ | exact ⟨by (rw [World.cell?_setCell_far _ _ _ _ (by dsimp only; omega), World.cell?_setCell_far _ _ _ _ (by dsimp only; omega)]; assumption), by (rw [World.cell?_setCell_far _ _ _ _ (by dsimp only; omega), World.cell?_setCell_far _ _ _ _ (by dsimp only; omega)]; assumption), by (rw [World.cell?_setCell_far _ _ _ _ (by dsimp only; omega), World.cell?_setCell_far _ _ _ _ (by dsimp only; omega)]; assumption), by (rw [World.cell?_setCell_far _ _ _ _ (by dsimp only; omega), World.cell?_setCell_far _ _ _ _ (by dsimp only; omega)]; assumption)⟩) (first | (go_at_call_of 70 (Value.agg #[.bool n1, .slice A l.length c]); refine (CB1.out _ (HL.out.below (by first | exact HB.out | exact below_drew1 HB.out | exact pw_below_drewN HB.out _))).mono ?_; rintro e w1 ⟨rfl, hb⟩; have q0_ := pw_cell_below hb (a := ⟨w.heap.size, 0, none⟩) (v := .bool n1) (by go_keep); have q1_ := pw_cell_below hb (a := ⟨w.heap.size, 1, none⟩) (v := .slice A l.length c) (by go_keep); have q2_ := pw_cell_below hb (a := ⟨w.heap.size + 1, 0, none⟩) (v := .bool n2) (by go_keep); have q3_ := pw_cell_below hb (a := ⟨w.heap.size + 1, 1, none⟩) (v := .slice B m.length d) (by go_keep); have q4_ := Aside0.mk (below_step (by first | exact HB.out | exact below_drew1 HB.out | exact pw_below_drewN HB.out _) hb); have q5_ := Aside0.mk (blk_below (by first | exact B3.out | exact blk_drew B3.out | exact blk_drewN B3.out _) hb); have e0_ := Aside0.mk (Num.below (by first | exact NQ.out | exact NQ.out.drew1 | exact NQ.out.drewN _) hb); clear ha0 ha1 hb0 hb1 HB B3 hb NQ; have ha0 := q0_; have ha1 := q1_; have hb0 := q2_; have hb1 := q3_; have HB := q4_; have B3 := q5_; have NQ := e0_; clear q0_ q1_ q2_ q3_ q4_ q5_ e0_) | (go_at_call_of 70 (Value.agg #[.bool n2, .slice B m.length d]); refine (CB2.out _ (HM.out.below (by first | exact HB.out | exact below_drew1 HB.out | exact pw_below_drewN HB.out _))).mono ?_; rintro e w1 ⟨rfl, hb⟩; have q0_ := pw_cell_below hb (a := ⟨w.heap.size, 0, none⟩) (v := .bool n1) (by go_keep); have q1_ := pw_cell_below hb (a := ⟨w.heap.size, 1, none⟩) (v := .slice A l.length c) (by go_keep); have q2_ := pw_cell_below hb (a := ⟨w.heap.size + 1, 0, none⟩) (v := .bool n2) (by go_keep); have q3_ := pw_cell_below hb (a := ⟨w.heap.size + 1, 1, none⟩) (v := .slice B m.length d) (by go_keep); have q4_ := Aside0.mk (below_step (by first | exact HB.out | exact below_drew1 HB.out | exact pw_below_drewN HB.out _) hb); have q5_ := Aside0.mk (blk_below (by first | exact B3.out | exact blk_drew B3.out | exact blk_drewN B3.out _) hb); have e0_ := Aside0.mk (Num.below (by first | exact NQ.out | exact NQ.out.drew1 | exact NQ.out.drewN _) hb); clear ha0 ha1 hb0 hb1 HB B3 hb NQ; have ha0 := q0_; have ha1 := q1_; have hb0 := q2_; have hb1 := q3_; have HB := q4_; have B3 := q5_; have NQ := e0_; clear q0_ q1_ q2_ q3_ q4_ q5_ e0_) | (go_at_call 54; refine (trim_calls Ar_ cr_ R _ ((by first | exact NQ.out | exact NQ.out.drew1 | exact NQ.out.drewN _) : Num _ Ar_ cr_ R).lim NQ.out.room).mono ?_; rintro e w' ⟨rfl, ⟨nd, rfl⟩⟩))
        go_wp2_with fail
        refine (trim_calls B d m _ (HM.out.below (by first | exact HB.out | exact below_drew1 HB.out | exact pw_below_drewN HB.out _)).lim HM.out.room).mono ?_
        rintro e w' ⟨rfl, ⟨nd2, rfl⟩⟩
        go_wp2_with fail
        refine (less_calls B Ar_ d cr_ (tr m) R _ (HM.out.below (by first | exact HB.out | exact below_drew1 HB.out | exact pw_below_drewN HB.out _)).tr ((by first | exact NQ.out | exact NQ.out.drew1 | exact NQ.out.drewN _) : Num _ Ar_ cr_ R)).mono ?_
        rintro e w1 ⟨v5, rfl, hn5, hb⟩
        obtain ⟨A5, c5, rfl, hc5, hl5⟩ := New.lim hn5
        have hm5 := less_value (HM.out.ok |> ok_tr) NQ.out.ok HLT.out
        have hk5 := pre_ok (lessF (tr m) R) (tr m).length
        have he5 := pre_length (lessF (tr m) R) (tr m).length
        generalize pre (lessF (tr m) R) (tr m).length = R5 at *
        rw [mag_tr] at hm5
        have HR5 : Aside0 (mk false (mag R5) = (r1, r2, r3)) := ⟨by rw [hm5]; exact HR.out⟩
        have NQ5 := Aside0.mk (show Num w1 A5 c5 R5 from ⟨hl5, hc5, hk5, by have := tr_len_le m; have := H2.out; omega⟩)
        clear NQ VQ HR hm5 hk5 he5 hn5 hc5 hl5
        have NQ := NQ5
        have HR := HR5
        clear NQ5 HR5
        have q0_ := pw_cell_below hb (a := ⟨w.heap.size, 0, none⟩) (v := .bool n1) (by go_keep); have q1_ := pw_cell_below hb (a := ⟨w.heap.size, 1, none⟩) (v := .slice A l.length c) (by go_keep); have q2_ := pw_cell_below hb (a := ⟨w.heap.size + 1, 0, none⟩) (v := .bool n2) (by go_keep); have q3_ := pw_cell_below hb (a := ⟨w.heap.size + 1, 1, none⟩) (v := .slice B m.length d) (by go_keep); have q4_ := Aside0.mk (below_step (by first | exact HB.out | exact below_drew1 HB.out | exact pw_below_drewN HB.out _) hb); have q5_ := Aside0.mk (blk_below (by first | exact B3.out | exact blk_drew B3.out | exact blk_drewN B3.out _) hb); clear ha0 ha1 hb0 hb1 HB B3 hb; have ha0 := q0_; have ha1 := q1_; have hb0 := q2_; have hb1 := q3_; have HB := q4_; have B3 := q5_; clear q0_ q1_ q2_ q3_ q4_ q5_
        go_wp2_with fail
        refine (CB2.out _ (HM.out.below (by first | exact HB.out | exact below_drew1 HB.out | exact pw_below_drewN HB.out _))).mono ?_
        rintro e w1 ⟨rfl, hb⟩
        have q0_ := pw_cell_below hb (a := ⟨w.heap.size, 0, none⟩) (v := .bool n1) (by go_keep); have q1_ := pw_cell_below hb (a := ⟨w.heap.size, 1, none⟩) (v := .slice A l.length c) (by go_keep); have q2_ := pw_cell_below hb (a := ⟨w.heap.size + 1, 0, none⟩) (v := .bool n2) (by go_keep); have q3_ := pw_cell_below hb (a := ⟨w.heap.size + 1, 1, none⟩) (v := .slice B m.length d) (by go_keep); have q4_ := Aside0.mk (below_step (by first | exact HB.out | exact below_drew1 HB.out | exact pw_below_drewN HB.out _) hb); have q5_ := Aside0.mk (blk_below (by first | exact B3.out | exact blk_drew B3.out | exact blk_drewN B3.out _) hb); have e0_ := Aside0.mk (Num.below (by first | exact NQ.out | exact NQ.out.drew1 | exact NQ.out.drewN _) hb); clear ha0 ha1 hb0 hb1 HB B3 hb NQ; have ha0 := q0_; have ha1 := q1_; have hb0 := q2_; have hb1 := q3_; have HB := q4_; have B3 := q5_; have NQ := e0_; clear q0_ q1_ q2_ q3_ q4_ q5_ e0_
        go_wp2_with fail
        refine ((made_calls _ A5 c5 R5 _ ((by first | exact NQ.out | exact NQ.out.drew1 | exact NQ.out.drewN _) : Num _ A5 c5 R5).lim NQ.out.room NQ.out.ok NQ.out.few).mono ?_)
        rintro e w1 ⟨v, rfl, hnew, hb⟩
        rw [HR.out] at hnew
        rw [HR.out]
        obtain ⟨Ar, cr, er, _, _⟩ := New.lim hnew
        subst er
        have RN := Aside0.mk (New.lower (base' := w.heap.size) hnew (below_size (by first | exact HB.out | exact below_drew1 HB.out | exact pw_below_drewN HB.out _)))
        clear hnew
        have q0_ := pw_cell_below hb (a := ⟨w.heap.size, 0, none⟩) (v := .bool n1) (by go_keep); have q1_ := pw_cell_below hb (a := ⟨w.heap.size, 1, none⟩) (v := .slice A l.length c) (by go_keep); have q2_ := pw_cell_below hb (a := ⟨w.heap.size + 1, 0, none⟩) (v := .bool n2) (by go_keep); have q3_ := pw_cell_below hb (a := ⟨w.heap.size + 1, 1, none⟩) (v := .slice B m.length d) (by go_keep); have q4_ := Aside0.mk (below_step (by first | exact HB.out | exact below_drew1 HB.out | exact pw_below_drewN HB.out _) hb); have q5_ := Aside0.mk (blk_below (by first | exact B3.out | exact blk_drew B3.out | exact blk_drewN B3.out _) hb); clear ha0 ha1 hb0 hb1 HB B3 hb; have ha0 := q0_; have ha1 := q1_; have hb0 := q2_; have hb1 := q3_; have HB := q4_; have B3 := q5_; clear q0_ q1_ q2_ q3_ q4_ q5_
        have z0 := (cell_at B3.out).1
        have z1 := (cell_at B3.out).2
        have f0 := blk_frozen B3.out 0
        have f1 := blk_frozen B3.out 1
        go_wp2
        refine bodyPost_ret (results_ct rfl _ _ (w.heap.size + 1 + 1) 25 #[.bool r1, .slice Ar r2.length cr] (0, 0) _ rfl (blk_put (cs := #[.bool r1, .slice none 0 0]) (blk_put (cs := #[.bool false, .slice none 0 0]) B3.out 0 _ rfl) 1 _ rfl) Tryd.underlying25 rfl (by kernel_rfl)) rfl ?_
        exact ⟨_, rfl, New.set (New.set RN.out B3.out 0 _) (blk_put (cs' := #[.bool r1, .slice none 0 0]) B3.out 0 _ rfl) 1 _, below_set (below_set HB.out (by omega)) (by omega)⟩
    · -- both signs alike
      have HR : Aside0 (mk true (mag R) = (r1, r2, r3)) := ⟨by rw [← hv, if_neg (by simp)]⟩
      clear hv tp
      go_wp2
      refine start_ (n := 11) (S := fun w' => w'.cell? ⟨w.heap.size, 0, none⟩ = some (.bool n1) ∧ w'.cell? ⟨w.heap.size, 1, none⟩ = some (.slice A l.length c) ∧ w'.cell? ⟨w.heap.size + 1, 0, none⟩ = some (.bool n2) ∧ w'.cell? ⟨w.heap.size + 1, 1, none⟩ = some (.slice B m.length d)) (ds := []) #[false, false, false, false, false, false, false, false, false, false, false] (by kernel_rfl) rfl rfl ⟨ha0, ha1, hb0, hb1⟩ (fun hHeld => ?_)
      refine take_ (i := 0) (N := some 20) (v := ?_) (a' := ?_) #[true, false, false, false, false, false, false, false, false, false, false] rfl rfl (by kernel_rfl) (fun _ _ _ h => h) (Or.inl ⟨by rfl, ?_⟩) hHeld ?_ ?_
      rotate_left
      · rintro w' ⟨s0, s1, s2, s3⟩
        go_simp
        with_reducible rfl
      rotate_left
      · simp only [Act.put, List.setIfInBounds_toArray, List.set_cons_zero, List.set_cons_succ, i64_w, i32_w]
        rfl
      refine take_ (i := 2) (N := some 22) (v := ?_) (a' := ?_) #[true, false, true, false, false, false, false, false, false, false, false] rfl rfl (by kernel_rfl) (fun _ _ _ h => h) (Or.inl ⟨by rfl, ?_⟩) hHeld ?_ ?_
      rotate_left
      · rintro w' ⟨s0, s1, s2, s3⟩
        go_simp
        with_reducible rfl
      rotate_left
      · simp only [Act.put, List.setIfInBounds_toArray, List.set_cons_zero, List.set_cons_succ, i64_w, i32_w]
        rfl
      refine one_ (i := 1) (N := some 21) #[true, true, true, false, false, false, false, false, false, false, false] rfl rfl (by kernel_rfl) (by decide) (fun K hK => ?_)
      refine goes_ Tryd.func70 (by kernel_rfl) rfl #[.agg #[.bool n1, .slice A l.length c]] (by rfl) rfl rfl (by simp only [List.map_toArray, List.map_cons, List.map_nil]; rfl) ?_
      with_reducible refine (CB1.out _ (HL.out.below (by first | exact HB.out | exact below_drew1 HB.out | exact pw_below_drewN HB.out _))).mono ?_
      rintro e w1 ⟨rfl, hb⟩
      refine ⟨_, rfl, ?_⟩
      have q0_ := pw_cell_below hb (a := ⟨w.heap.size, 0, none⟩) (v := .bool n1) (by assumption)
      have q1_ := pw_cell_below hb (a := ⟨w.heap.size, 1, none⟩) (v := .slice A l.length c) (by assumption)
      have q2_ := pw_cell_below hb (a := ⟨w.heap.size + 1, 0, none⟩) (v := .bool n2) (by assumption)
      have q3_ := pw_cell_below hb (a := ⟨w.heap.size + 1, 1, none⟩) (v := .slice B m.length d) (by assumption)
      have q4_ := Aside0.mk (below_step (by first | exact HB.out | exact below_drew1 HB.out | exact pw_below_drewN HB.out _) hb)
      have q5_ := Aside0.mk (blk_below (by first | exact B3.out | exact blk_drew B3.out | exact blk_drewN B3.out _) hb)
      have e0_ := Aside0.mk (Num.below (by first | exact NQ.out | exact NQ.out.drew1 | exact NQ.out.drewN _) hb)
      clear ha0 ha1 hb0 hb1 HB B3 hb NQ
      have ha0 := q0_
      have ha1 := q1_
      have hb0 := q2_
      have hb1 := q3_
      have HB := q4_
      have B3 := q5_
      have NQ := e0_
      clear q0_ q1_ q2_ q3_ q4_ q5_ e0_
      refine hK.out _ _ ⟨ha0, ha1, hb0, hb1⟩ (fun hHeld => ?_)
      clear hK K
      refine norm_ (a' := ?_) ?_ ?_
      rotate_left
      · show Act.put _ (some 21) _ = _
        simp only [Act.put, List.setIfInBounds_toArray, List.set_cons_zero, List.set_cons_succ, i64_w, i32_w]
        rfl
      refine one_ (i := 3) (N := some 23) #[true, true, true, true, false, false, false, false, false, false, false] rfl rfl (by kernel_rfl) (by decide) (fun K hK => ?_)
      refine goes_ Tryd.func70 (by kernel_rfl) rfl #[.agg #[.bool n2, .slice B m.length d]] (by rfl) rfl rfl (by simp only [List.map_toArray, List.map_cons, List.map_nil]; rfl) ?_
      with_reducible refine (CB2.out _ (HM.out.below (by first | exact HB.out | exact below_drew1 HB.out | exact pw_below_drewN HB.out _))).mono ?_
      rintro e w1 ⟨rfl, hb⟩
      refine ⟨_, rfl, ?_⟩
      have q0_ := pw_cell_below hb (a := ⟨w.heap.size, 0, none⟩) (v := .bool n1) (by assumption)
      have q1_ := pw_cell_below hb (a := ⟨w.heap.size, 1, none⟩) (v := .slice A l.length c) (by assumption)
      have q2_ := pw_cell_below hb (a := ⟨w.heap.size + 1, 0, none⟩) (v := .bool n2) (by assumption)
      have q3_ := pw_cell_below hb (a := ⟨w.heap.size + 1, 1, none⟩) (v := .slice B m.length d) (by assumption)
      have q4_ := Aside0.mk (below_step (by first | exact HB.out | exact below_drew1 HB.out | exact pw_below_drewN HB.out _) hb)
      have q5_ := Aside0.mk (blk_below (by first | exact B3.out | exact blk_drew B3.out | exact blk_drewN B3.out _) hb)
      have e0_ := Aside0.mk (Num.below (by first | exact NQ.out | exact NQ.out.drew1 | exact NQ.out.drewN _) hb)
      clear ha0 ha1 hb0 hb1 HB B3 hb NQ
      have ha0 := q0_
      have ha1 := q1_
      have hb0 := q2_
      have hb1 := q3_
      have HB := q4_
      have B3 := q5_
      have NQ := e0_
      clear q0_ q1_ q2_ q3_ q4_ q5_ e0_
      refine hK.out _ _ ⟨ha0, ha1, hb0, hb1⟩ (fun hHeld => ?_)
      clear hK K
      refine norm_ (a' := ?_) ?_ ?_
      rotate_left
      · show Act.put _ (some 23) _ = _
        simp only [Act.put, List.setIfInBounds_toArray, List.set_cons_zero, List.set_cons_succ, i64_w, i32_w]
        rfl
      refine pure_ (i := 4) (N := some 24) (v := ?_) (a' := ?_) #[true, true, true, true, true, false, false, false, false, false, false] rfl rfl (by kernel_rfl) (fun _ _ _ h => h) (Or.inl ⟨by rfl, ?_⟩) ?_ ?_
      rotate_left
      · intro w'
        go_simp
        with_reducible rfl
      rotate_left
      · simp only [Act.put, List.setIfInBounds_toArray, List.set_cons_zero, List.set_cons_succ, i64_w, i32_w]
        rfl
      refine pure_ (i := 5) (N := some 25) (v := ?_) (a' := ?_) #[true, true, true, true, true, true, false, false, false, false, false] rfl rfl (by kernel_rfl) (fun _ _ _ h => h) (Or.inl ⟨by rfl, ?_⟩) ?_ ?_
      rotate_left
      · intro w'
        go_simp
        with_reducible rfl
      rotate_left
      · simp only [Act.put, List.setIfInBounds_toArray, List.set_cons_zero, List.set_cons_succ, i64_w, i32_w]
        rfl
      refine pure_ (i := 6) (N := some 26) (v := undef) (a' := ?_) #[true, true, true, true, true, true, true, false, false, false, false] rfl rfl (by kernel_rfl) (fun _ _ _ h => h) (Or.inr ⟨by rfl, rfl⟩) ?_ ?_
      rotate_left
      · simp only [Act.put, List.setIfInBounds_toArray, List.set_cons_zero, List.set_cons_succ, i64_w, i32_w]
        rfl
      refine pure_ (i := 7) (N := some 27) (v := undef) (a' := ?_) #[true, true, true, true, true, true, true, true, false, false, false] rfl rfl (by kernel_rfl) (fun _ _ _ h => h) (Or.inr ⟨by rfl, rfl⟩) ?_ ?_
      rotate_left
      · simp only [Act.put, List.setIfInBounds_toArray, List.set_cons_zero, List.set_cons_succ, i64_w, i32_w]
        rfl
      refine pure_ (i := 8) (N := some 28) (v := undef) (a' := ?_) #[true, true, true, true, true, true, true, true, true, false, false] rfl rfl (by kernel_rfl) (fun _ _ _ h => h) (Or.inr ⟨by rfl, rfl⟩) ?_ ?_
      rotate_left
      · simp only [Act.put, List.setIfInBounds_toArray, List.set_cons_zero, List.set_cons_succ, i64_w, i32_w]
        rfl
      refine pure_ (i := 9) (N := some 29) (v := undef) (a' := ?_) #[true, true, true, true, true, true, true, true, true, true, false] rfl rfl (by kernel_rfl) (fun _ _ _ h => h) (Or.inr ⟨by rfl, rfl⟩) ?_ ?_
      rotate_left
      · simp only [Act.put, List.setIfInBounds_toArray, List.set_cons_zero, List.set_cons_succ, i64_w, i32_w]
        rfl
      refine pure_ (i := 10) (N := some 30) (v := ?_) (a' := ?_) #[true, true, true, true, true, true, true, true, true, true, true] rfl rfl (by kernel_rfl) (fun _ _ _ h => h) (Or.inl ⟨by rfl, ?_⟩) ?_ ?_
      rotate_left
      · intro w'
        go_simp
        with_reducible rfl
      rotate_left
      · simp only [Act.put, List.setIfInBounds_toArray, List.set_cons_zero, List.set_cons_succ, i64_w, i32_w]
        rfl
      refine done_ (by kernel_rfl) ?_
      go_wp2_with fail
      refine (CB2.out _ (HM.out.below (by first | exact HB.out | exact below_drew1 HB.out | exact pw_below_drewN HB.out _))).mono ?_
      rintro e w1 ⟨rfl, hb⟩
      have q0_ := pw_cell_below hb (a := ⟨w.heap.size, 0, none⟩) (v := .bool n1) (by go_keep); have q1_ := pw_cell_below hb (a := ⟨w.heap.size, 1, none⟩) (v := .slice A l.length c) (by go_keep); have q2_ := pw_cell_below hb (a := ⟨w.heap.size + 1, 0, none⟩) (v := .bool n2) (by go_keep); have q3_ := pw_cell_below hb (a := ⟨w.heap.size + 1, 1, none⟩) (v := .slice B m.length d) (by go_keep); have q4_ := Aside0.mk (below_step (by first | exact HB.out | exact below_drew1 HB.out | exact pw_below_drewN HB.out _) hb); have q5_ := Aside0.mk (blk_below (by first | exact B3.out | exact blk_drew B3.out | exact blk_drewN B3.out _) hb); have e0_ := Aside0.mk (Num.below (by first | exact NQ.out | exact NQ.out.drew1 | exact NQ.out.drewN _) hb); clear ha0 ha1 hb0 hb1 HB B3 hb NQ; have ha0 := q0_; have ha1 := q1_; have hb0 := q2_; have hb1 := q3_; have HB := q4_; have B3 := q5_; have NQ := e0_; clear q0_ q1_ q2_ q3_ q4_ q5_ e0_
      go_wp2_with fail
      refine ((made_calls _ Ar_ cr_ R _ ((by first | exact NQ.out | exact NQ.out.drew1 | exact NQ.out.drewN _) : Num _ Ar_ cr_ R).lim NQ.out.room NQ.out.ok NQ.out.few).mono ?_)
      rintro e w1 ⟨v, rfl, hnew, hb⟩
      rw [HR.out] at hnew
      rw [HR.out]
      obtain ⟨Ar, cr, er, _, _⟩ := New.lim hnew
      subst er
      have RN := Aside0.mk (New.lower (base' := w.heap.size) hnew (below_size (by first | exact HB.out | exact below_drew1 HB.out | exact pw_below_drewN HB.out _)))
      clear hnew
      have q0_ := pw_cell_below hb (a := ⟨w.heap.size, 0, none⟩) (v := .bool n1) (by go_keep); have q1_ := pw_cell_below hb (a := ⟨w.heap.size, 1, none⟩) (v := .slice A l.length c) (by go_keep); have q2_ := pw_cell_below hb (a := ⟨w.heap.size + 1, 0, none⟩) (v := .bool n2) (by go_keep); have q3_ := pw_cell_below hb (a := ⟨w.heap.size + 1, 1, none⟩) (v := .slice B m.length d) (by go_keep); have q4_ := Aside0.mk (below_step (by first | exact HB.out | exact below_drew1 HB.out | exact pw_below_drewN HB.out _) hb); have q5_ := Aside0.mk (blk_below (by first | exact B3.out | exact blk_drew B3.out | exact blk_drewN B3.out _) hb); clear ha0 ha1 hb0 hb1 HB B3 hb; have ha0 := q0_; have ha1 := q1_; have hb0 := q2_; have hb1 := q3_; have HB := q4_; have B3 := q5_; clear q0_ q1_ q2_ q3_ q4_ q5_
      have z0 := (cell_at B3.out).1
      have z1 := (cell_at B3.out).2
      have f0 := blk_frozen B3.out 0
      have f1 := blk_frozen B3.out 1
      go_wp2
      refine bodyPost_ret (results_ct rfl _ _ (w.heap.size + 1 + 1) 25 #[.bool r1, .slice Ar r2.length cr] (0, 0) _ rfl (blk_put (cs := #[.bool r1, .slice none 0 0]) (blk_put (cs := #[.bool false, .slice none 0 0]) B3.out 0 _ rfl) 1 _ rfl) Tryd.underlying25 rfl (by kernel_rfl)) rfl ?_
      exact ⟨_, rfl, New.set (New.set RN.out B3.out 0 _) (blk_put (cs' := #[.bool r1, .slice none 0 0]) B3.out 0 _ rfl) 1 _, below_set (below_set HB.out (by omega)) (by omega)⟩
end Go.Proofs.YthhpnlbeniihhaaDoor.NumP
namespace Go.Proofs.YthhpnlbeniihhaaDoor.NumQ
end Go.Proofs.YthhpnlbeniihhaaDoor.NumQ
namespace Go.Proofs.YthhpnlbeniihhaaDoor.NumR
end Go.Proofs.YthhpnlbeniihhaaDoor.NumR
namespace Go.Proofs.YthhpnlbeniihhaaDoor.NumS
open Go.RowKit Go.Proofs.YthhpnlbeniihhaaDoorW.PrintWords Go.Proofs.YthhpnlbeniihhaaDoorW.PrintLast Go.Proofs.YthhpnlbeniihhaaDoorW.PrintMore Go.Proofs.YthhpnlbeniihhaaDoor.Limb Go.Proofs.YthhpnlbeniihhaaDoor.NumA Go.Proofs.YthhpnlbeniihhaaDoor.NumB Go.Proofs.YthhpnlbeniihhaaDoor.NumC Go.Proofs.YthhpnlbeniihhaaDoor.NumD Go.Proofs.YthhpnlbeniihhaaDoor.NumE Go.Proofs.YthhpnlbeniihhaaDoor.NumF Go.Proofs.YthhpnlbeniihhaaDoor.NumG Go.Proofs.YthhpnlbeniihhaaDoor.NumH Go.Proofs.YthhpnlbeniihhaaDoor.NumJ Go.Proofs.YthhpnlbeniihhaaDoor.NumO
set_option linter.unusedVariables false
set_option linter.unusedSimpArgs false
/-- A number's kind: a sign, a row of limbs. -/
def kN : Kd (Bool × List Int) := Kd.pair Kd.bool (Kd.slice 63 (Kd.int .u32))
/-- The greatest number that divides all. -/
def gcdL (xs : List (Bool × List Int)) : Nat := xs.foldl (fun g x => Nat.gcd g (mag x.2)) 0
theorem kN_get {w : World} {A : Option Addr} {n : Nat} {xs : List (Bool × List Int)} (h : Kd.C kN w A n xs) (i : Nat) (hi : i < n) :
    ∃ ad Ax cx, A = some ad ∧ w.cell? (ad.add (i * 2)) = some (.bool (xs.getD i (false, [])).1) ∧ w.cell? ⟨(ad.add (i * 2)).block, (ad.add (i * 2)).off + 1, none⟩ = some (.slice Ax (xs.getD i (false, [])).2.length cx) ∧
      (xs.getD i (false, [])).2.length ≤ cx ∧ Lim w Ax (xs.getD i (false, [])).2 := by
  obtain ⟨ad, c, e, _, hK, hc0⟩ := Kd.C_get h (false, []) (i : Int) (by omega) (by omega)
  have hc : ∀ j u, c[j]? = some u → w.cell? (ad.add (i * 2 + j)) = some u := by
    intro j u h
    have h2 := hc0 j u h
    rw [Int.toNat_natCast] at h2
    exact h2
  rw [Int.toNat_natCast] at hK
  obtain ⟨c0, c1, rfl, h0, A', c', h1, hle, hC⟩ := hK
  have h0' : c0 = [.bool (xs.getD i (false, [])).1] := h0
  subst h0' h1
  exact ⟨ad, A', c', e, hc 0 _ rfl, by rw [← add_field _ _ 1 (by omega)]; exact hc 1 _ rfl, hle, hC⟩
theorem gcd_step (g x : Nat) : Nat.gcd x (g % x) = Nat.gcd g x := by rw [Nat.gcd_comm g x, Nat.gcd_rec x g, Nat.gcd_comm]
set_option maxRecDepth 100000 in
set_option maxHeartbeats 8000000 in
theorem gcd_calls (A : Option Addr) (c L : Nat) (xs : List (Bool × List Int)) (w : World) (h : Kd.C kN w A xs.length xs) (hc : xs.length ≤ c) (hok : ∀ x ∈ xs, OkL x.2 ∧ x.2.length ≤ L) (hL : L < 1099511627774) :
    Calls Tryd.prog 34 #[.slice A xs.length c] w (Res w (mk false (gcdL xs))) := by
  have hn : xs.length ≤ 9223372036854775807 := by have := h.2.1; unfold maxLen at this; omega
  have H := Aside0.mk h
  have HC := Aside0.mk hc
  have HOK := Lib.hid hok
  have HL := Aside0.mk hL
  have HN := Aside0.mk hn
  have b1 := blk_new w (.cells #[.bool false, .slice none 0 0] 25 (0, 0))
  have hb1 := (Below.refl w.heap.size w).alloc (Nat.le_refl _) (.cells #[.bool false, .slice none 0 0] 25 (0, 0))
  clear h hc hok hL hn
  go_enter Tryd.func34, Tryd.ntmps34
  go_wp2
  have B1 := Aside0.mk b1
  have HB := Aside0.mk hb1
  clear b1 hb1
  go_loopg [4, 12] xs.length (fun k v4 v12 wr => ∃ (i : Nat) (Ag : Option Addr) (cg : Nat) (G : List Int), v12 = .int .i64 i ∧ v4 = .slice Ag G.length cg ∧ Aside0 (i + k = xs.length ∧ Num wr Ag cg G ∧ G.length ≤ L + 1 ∧ mag G = gcdL (xs.take i)) ∧ Aside0 (wr.heap[w.heap.size]? = some (.cells #[.bool false, .slice none 0 0] 25 (0, 0))) ∧ Aside0 (Below w.heap.size w wr))
  case atStart => exact ⟨0, none, 0, [], rfl, rfl, ⟨by omega, ⟨by unfold Lim; exact Kd.C_nil _ _, by simp, by intro x hx; simp at hx, by simp⟩, by simp, rfl⟩, B1, HB⟩
  case round =>
    clear B1 HB
    obtain ⟨i, Ag, cg, G, rfl, rfl, HI, B1, HB⟩ := hrel
    by_cases hi : i < xs.length
    · have i0 : (0 : Int) ≤ (i : Int) := by omega
      have i1 : (i : Int) < (xs.length : Int) := by omega
      obtain ⟨ad, Ax, cx, rfl, hcell0, hcell1, hlx, hLx⟩ := kN_get (Kd.C_below H.out HB.out) i hi
      obtain ⟨x, hx⟩ : ∃ x, xs.getD i (false, []) = x := ⟨_, rfl⟩
      rw [hx] at hcell0 hcell1 hlx hLx
      have hmem : x ∈ xs := by
        rw [← hx, List.getD_eq_getElem?_getD, List.getElem?_eq_getElem hi]
        exact List.getElem_mem hi
      have hxo := HOK.out x hmem
      have htake : gcdL (xs.take (i + 1)) = Nat.gcd (gcdL (xs.take i)) (mag x.2) := by
        unfold gcdL
        rw [List.take_succ_eq_append_getElem hi, List.foldl_append]
        have e : xs[i] = x := by rw [← hx, List.getD_eq_getElem?_getD, List.getElem?_eq_getElem hi]; rfl
        rw [e]
        rfl
      have HX := Aside0.mk hLx
      have HXR := Aside0.mk hlx
      have HXO := Aside0.mk hxo
      have HTK := Aside0.mk htake
      have HI1 := Aside0.mk hi
      have p0 := eq_true i0
      have q0 := eq_true i1
      clear hi hx hlx hLx hmem hxo htake
      obtain ⟨x1, x2⟩ := x
      dsimp only at hcell0 hcell1
      go_wp2
      have B2 := Aside0.mk (blk_alloc B1.out (.cells #[.bool x1, .slice Ax x2.length cx] 25 (0, 0)))
      have HB2 := Aside0.mk (below_alloc HB.out (.cells #[.bool x1, .slice Ax x2.length cx] 25 (0, 0)))
      have NG := Aside0.mk (HI.out.2.1.alloc (.cells #[.bool x1, .slice Ax x2.length cx] 25 (0, 0)))
      have NX := Aside0.mk (show Num (wr.alloc (.cells #[.bool x1, .slice Ax x2.length cx] 25 (0, 0))) Ax cx x2 from ⟨HX.out.alloc _, HXR.out, HXO.out.1, by have := HXO.out.2; have := HL.out; omega⟩)
      have wx : IntKind.i64.wrap ((i : Int) + 1) = ((i + 1 : Nat) : Int) := by have := HI1.out; have := HN.out; rw [IntKind.wrap_i64]; omega
      have wx2 : wrap64 ((i : Int) + 1) = ((i + 1 : Nat) : Int) := by have := HI1.out; have := HN.out; unfold wrap64; omega
      clear B1 HB hcell0 hcell1
      generalize hW : wr.alloc (.cells #[.bool x1, .slice Ax x2.length cx] 25 (0, 0)) = W at *
      obtain ⟨bx, hbx⟩ : ∃ bx, wr.heap.size = bx := ⟨_, rfl⟩
      rw [hbx]
      obtain ⟨gk0, hgk⟩ : ∃ gk0, gk0 = gk := ⟨_, rfl⟩
      have HGK := Aside0.mk hgk
      have HI2 := Aside0.mk (And.intro HI.out.1 (And.intro HI.out.2.2.1 HI.out.2.2.2))
      clear hW hbx HX HXR HI hgk
      go_loopg [4, 7] (mag x2) (fun k v4 v7 w' => ∃ (Ag : Option Addr) (cg : Nat) (G : List Int) (Ax : Option Addr) (cx : Nat) (X : List Int), v4 = .slice Ag G.length cg ∧ v7 = .slice Ax X.length cx ∧ Aside0 (Num w' Ag cg G ∧ Num w' Ax cx X ∧ G.length ≤ L + 1 ∧ X.length ≤ L + 1 ∧ (tr X).length ≤ L ∧ mag X = k ∧ Nat.gcd (mag G) (mag X) = Nat.gcd (gcdL (xs.take i)) (mag x2)) ∧ Aside0 (w'.heap[w.heap.size]? = some (.cells #[.bool false, .slice none 0 0] 25 (0, 0))) ∧ Aside0 (Below w.heap.size w w'))
      case atStart => exact ⟨Ag, cg, G, Ax, cx, x2, rfl, rfl, ⟨NG.out, NX.out, HI2.out.2.1, Nat.le_succ_of_le HXO.out.2, Nat.le_trans (tr_len_le x2) HXO.out.2, rfl, by rw [HI2.out.2.2]⟩, B2, HB2⟩
      case round =>
        clear NG NX B2 HB2
        obtain ⟨Ag, cg, G, Ax, cx, X, rfl, rfl, HJ, B2, HB2⟩ := hrel
        have tp := tr_len_pos HJ.out.2.1.ok
        go_wp2_with fail
        refine (trim_calls Ax cx X _ HJ.out.2.1.lim HJ.out.2.1.room).mono ?_
        rintro e w' ⟨rfl, ⟨nd, rfl⟩⟩
        by_cases hx0 : mag X = 0
        · have t0 : decide (0 < (tr X).length) = false := by rw [tp]; simp [hx0]
          have HX0 := Aside0.mk hx0
          clear tp hx0
          go_wp2
          go_roundg (gk0 - 1)
          case measure => have := HGK.out; have := HI2.out.1; have := HI1.out; omega
          case rel => exact ⟨i + 1, Ag, cg, G, by go_num, rfl, ⟨by have := HGK.out; have := HI2.out.1; have := HI1.out; omega, HJ.out.1.drewN _, HJ.out.2.2.1, by have h6 := HJ.out.2.2.2.2.2.2; rw [HX0.out, Nat.gcd_zero_right] at h6; rw [h6, HTK.out]⟩, ⟨blk_drewN B2.out _⟩, ⟨pw_below_drewN HB2.out _⟩⟩
        · have t0 : decide (0 < (tr X).length) = true := by rw [tp]; simp [hx0]
          have HX0 := Aside0.mk hx0
          clear tp hx0
          go_wp2_with fail
          refine (parted_calls Ag Ax cg cx G X _ (HJ.out.1.drewN nd).lim (HJ.out.2.1.drewN nd).lim HJ.out.1.ok HJ.out.2.1.ok HJ.out.1.room HJ.out.2.1.room (by have := HJ.out.2.2.1; have := HL.out; omega) (by have := HJ.out.2.2.2.1; have := HL.out; omega) HX0.out).mono ?_
          rintro e w1 ⟨vq, vr, Q, R, rfl, hq, hR, oq, or', magq, magr, lq, lr, hb⟩
          obtain ⟨Aq, cq, rfl, _, _⟩ := New.lim hq
          obtain ⟨Ar, cr, rfl, hcr, hlr⟩ := New.lim hR
          have hrl : (tr R).length ≤ (tr X).length := by
            rw [tr_limbs or', limbs_len]
            have h1 := mag_lt (ok_tr HJ.out.2.1.ok)
            rw [mag_tr] at h1
            have h2 : mag R < mag X := by rw [magr]; exact Nat.mod_lt _ (Nat.pos_of_ne_zero HX0.out)
            omega
          have NR := Aside0.mk (show Num w1 Ar cr R from ⟨hlr, hcr, or', by have := HJ.out.2.2.2.2.1; have := HL.out; omega⟩)
          have MR := Aside0.mk magr
          have LR := Aside0.mk lr
          have LR2 := Aside0.mk hrl
          have NX1 := Aside0.mk ((HJ.out.2.1.drewN nd).below hb)
          have B3 := Aside0.mk (blk_below (blk_drewN B2.out nd) hb)
          have HB3 := Aside0.mk (below_step (pw_below_drewN HB2.out nd) hb)
          clear hq hR oq or' magq magr lq lr hb hcr hlr hrl
          go_wp2
          go_roundg (mag R)
          case measure => have := HJ.out.2.2.2.2.2.1; rw [MR.out, ← this]; exact Nat.mod_lt _ (Nat.pos_of_ne_zero HX0.out)
          case rel => exact ⟨Ax, cx, X, Ar, cr, R, rfl, rfl, ⟨NX1.out, NR.out, HJ.out.2.2.2.1, by have := LR.out; have := HJ.out.2.2.2.2.1; omega, Nat.le_trans LR2.out HJ.out.2.2.2.2.1, rfl, by rw [MR.out, gcd_step]; exact HJ.out.2.2.2.2.2.2⟩, B3, HB3⟩
    · have he : i = xs.length := by have := HI.out.1; omega
      have hv : mag G = gcdL xs := by have := HI.out.2.2.2; rw [he, List.take_length] at this; exact this
      have hi1 : ¬ ((i : Int) < (xs.length : Int)) := by omega
      have t1 : decide (i < xs.length) = false := decide_eq_false hi
      have t2 : decide ((i : Int) < (xs.length : Int)) = false := decide_eq_false hi1
      have HV := Aside0.mk hv
      clear he hv hi hi1
      generalize hr : mk false (gcdL xs) = r
      have HR := Aside0.mk hr
      obtain ⟨r1, r2, r3⟩ := r
      clear hr
      go_wp2_with fail
      refine (made_calls false Ag cg G _ HI.out.2.1.lim HI.out.2.1.room HI.out.2.1.ok HI.out.2.1.few).mono ?_
      rw [HV.out, HR.out]
      rintro e w1 ⟨v, rfl, hnew, hb⟩
      obtain ⟨Ar, cr, er, _, _⟩ := New.lim hnew
      subst er
      have RN := Aside0.mk (New.lower (base' := w.heap.size) hnew (below_size HB.out))
      have B3 := Aside0.mk (blk_below B1.out hb)
      have HB3 := Aside0.mk (below_step HB.out hb)
      have z0 := (cell_at B3.out).1
      have z1 := (cell_at B3.out).2
      have f0 := blk_frozen B3.out 0
      have f1 := blk_frozen B3.out 1
      clear hnew hb
      go_wp2
      refine bodyPost_ret (results_ct rfl _ _ w.heap.size 25 #[.bool r1, .slice Ar r2.length cr] (0, 0) _ rfl (blk_put (cs := #[.bool r1, .slice none 0 0]) (blk_put (cs := #[.bool false, .slice none 0 0]) B3.out 0 _ rfl) 1 _ rfl) Tryd.underlying25 rfl (by kernel_rfl)) rfl ?_
      show Res w (mk false (gcdL xs)) _ _
      rw [HR.out]
      exact ⟨_, rfl, New.set (New.set RN.out B3.out 0 _) (blk_put (cs' := #[.bool r1, .slice none 0 0]) B3.out 0 _ rfl) 1 _, below_set (below_set HB3.out (Nat.le_refl _)) (Nat.le_refl _)⟩
end Go.Proofs.YthhpnlbeniihhaaDoor.NumS
namespace Go.Proofs.YthhpnlbeniihhaaDoor.NumT
open Go.RowKit Go.Proofs.YthhpnlbeniihhaaDoorW.PrintWords Go.Proofs.YthhpnlbeniihhaaDoorW.PrintLast Go.Proofs.YthhpnlbeniihhaaDoorW.PrintMore Go.Proofs.YthhpnlbeniihhaaDoor.Limb Go.Proofs.YthhpnlbeniihhaaDoor.NumA Go.Proofs.YthhpnlbeniihhaaDoor.NumB Go.Proofs.YthhpnlbeniihhaaDoor.NumC Go.Proofs.YthhpnlbeniihhaaDoor.NumD Go.Proofs.YthhpnlbeniihhaaDoor.NumE Go.Proofs.YthhpnlbeniihhaaDoor.NumF Go.Proofs.YthhpnlbeniihhaaDoor.NumG Go.Proofs.YthhpnlbeniihhaaDoor.NumH Go.Proofs.YthhpnlbeniihhaaDoor.NumJ Go.Proofs.YthhpnlbeniihhaaDoor.NumO
set_option linter.unusedVariables false
set_option linter.unusedSimpArgs false
/-- Ten times a row, and a digit: one limb's step. -/
def tenF (l : List Int) (dg : Nat) (i c : Nat) : Nat := 10 * nl l i + (if i = 0 then dg else c)
theorem tenF64 (l : List Int) (ol : OkL l) (dg i c : Nat) (hd : dg < 10) (hc : c < 4294967296) : tenF l dg i c < 18446744073709551616 := by
  have := nl_lt ol i
  unfold tenF
  split <;> omega
set_option maxRecDepth 100000 in
set_option maxHeartbeats 4000000 in
theorem parse1_calls (pa pb : Addr) (A : Option Addr) (c : Nat) (l : List Int) (dg i k : Nat) (w : World) (ha : w.cell? pa = some (.int .u8 ((dg + 48 : Nat) : Int))) (hb : w.cell? pb = some (.slice A l.length c))
    (hl : Lim w A l) (ol : OkL l) (hi : i < 35184372088832) (hk : k < 4294967296) (hdg : dg < 10) :
    Calls Tryd.prog 66 #[.int .i64 i, .int .u64 k, .pointer (some pa), .pointer (some pb)] w fun e w' => e = .returned (.int .u64 (tenF l dg i k : Nat)) ∧ Below w.heap.size w w' := by
  have HL := Aside0.mk hl
  have OL := Aside0.mk ol
  have i0 : (0 : Int) ≤ (i : Int) := by omega
  have hx := nl_lt ol i
  have hc := nl_cast ol i
  have C := limb_calls A c l (i : Int) w hl ol i0
  rw [← hc] at C
  unfold tenF
  generalize nl l i = x at *
  have CC := Lib.hid C
  have w0 : IntKind.u64.wrap (10 * (x : Int)) = 10 * (x : Int) := by rw [IntKind.wrap_u64]; omega
  clear hl ol C hc
  by_cases h0 : i = 0
  · have d0 : ((i : Int) == 0) = true := by rw [h0]; rfl
    have w1 : IntKind.u8.wrap (((dg + 48 : Nat) : Int) - 48) = (dg : Int) := by rw [IntKind.wrap_u8]; omega
    have w2 : IntKind.u64.wrap (dg : Int) = (dg : Int) := by rw [IntKind.wrap_u64]; omega
    have w3 : IntKind.u64.wrap (10 * (x : Int) + (dg : Int)) = ((10 * x + dg : Nat) : Int) := by rw [IntKind.wrap_u64]; omega
    rw [if_pos h0]
    obtain ⟨d8, hd8⟩ : ∃ d8 : Int, ((dg + 48 : Nat) : Int) = d8 := ⟨_, rfl⟩
    rw [hd8] at ha w1
    clear i0 hi hk h0 hx hdg hd8
    go_enter Tryd.func66, Tryd.ntmps66
    go_wp2_with fail
    refine CC.out.mono ?_
    rintro e w' ⟨rfl, ⟨nd, rfl⟩⟩
    go_wp2
    go_ret
    exact ⟨rfl, pw_below_drewN (Below.refl _ _) _⟩
  · have d0 : ((i : Int) == 0) = false := by simp; omega
    have w3 : IntKind.u64.wrap (10 * (x : Int) + (k : Int)) = ((10 * x + k : Nat) : Int) := by rw [IntKind.wrap_u64]; omega
    rw [if_neg h0]
    clear i0 hi hk h0 hx hdg
    go_enter Tryd.func66, Tryd.ntmps66
    go_wp2_with fail
    refine CC.out.mono ?_
    rintro e w' ⟨rfl, ⟨nd, rfl⟩⟩
    go_wp2
    go_ret
    exact ⟨rfl, pw_below_drewN (Below.refl _ _) _⟩
theorem enter_parse1 (p q x y : Value) (W : World) : Sem.run Tryd.prog (callFunc 66 #[x, y, p, q]) W = .ok (.enter 66 #[x, y, p, q]) W := by kernel_rfl
theorem row_parse (pa pb : Addr) (A : Option Addr) (c : Nat) (l : List Int) (dg n : Nat) (w : World) (ha : w.cell? pa = some (.int .u8 ((dg + 48 : Nat) : Int))) (hb : w.cell? pb = some (.slice A l.length c))
    (hl : Lim w A l) (ol : OkL l) (hn : n < 35184372088832) (hdg : dg < 10) :
    Calls Tryd.prog 65 #[.int .i64 n, .func (.func 66) #[] #[.pointer (some pa), .pointer (some pb)]] w fun e w' => ∃ v, e = .returned v ∧ New w' w.heap.size v (pre (tenF l dg) n) ∧ Below w.heap.size w w' := by
  refine row_calls 66 (.pointer (some pa)) (.pointer (some pb)) n (tenF l dg) w hn (enter_parse1 _ _) ?_ ?_
  · intro i k hi hk
    exact tenF64 l ol dg i k hdg hk
  · intro i k w1 hi hk hb1
    exact parse1_calls pa pb A c l dg i k w1 (pw_cell_below hb1 ha) (pw_cell_below hb1 hb) (hl.below hb1) ol (by omega) hk hdg
theorem ten_inv (l : List Int) (dg : Nat) (i : Nat) : mag (pre (tenF l dg) (i + 1)) + 4294967296 ^ (i + 1) * carry (tenF l dg) (i + 1) = 10 * mag (l.take (i + 1)) + dg := by
  induction i with
  | zero =>
    rw [mag_pre_succ, mag_take_next]
    show mag (pre (tenF l dg) 0) + _ + 4294967296 ^ (0 + 1) * (tenF l dg 0 (carry (tenF l dg) 0) / 4294967296) = _
    have hx : tenF l dg 0 (carry (tenF l dg) 0) = 10 * nl l 0 + dg := by unfold tenF; rw [if_pos rfl]
    rw [hx]
    have h0 : mag (pre (tenF l dg) 0) = 0 := rfl
    have h1 : mag (l.take 0) = 0 := rfl
    rw [h0, h1, Nat.pow_zero, Nat.pow_one, Nat.one_mul, Nat.one_mul]
    omega
  | succ i ih =>
    rw [mag_pre_succ, mag_take_next]
    show _ + 4294967296 ^ (i + 1 + 1) * (tenF l dg (i + 1) (carry (tenF l dg) (i + 1)) / 4294967296) = _
    have hx : tenF l dg (i + 1) (carry (tenF l dg) (i + 1)) = 10 * nl l (i + 1) + carry (tenF l dg) (i + 1) := by
      unfold tenF
      rw [if_neg (by omega)]
    rw [hx]
    generalize carry (tenF l dg) (i + 1) = k at *
    generalize nl l (i + 1) = x at *
    rw [Nat.pow_succ 4294967296 (i + 1)]
    generalize 4294967296 ^ (i + 1) = K at *
    generalize mag (pre (tenF l dg) (i + 1)) = P at *
    generalize mag (l.take (i + 1)) = T at *
    have hd := Nat.div_add_mod (10 * x + k) 4294967296
    generalize (10 * x + k) / 4294967296 = D at *
    generalize (10 * x + k) % 4294967296 = M at *
    have e : K * (10 * x + k) = K * (4294967296 * D + M) := by rw [hd]
    rw [Nat.mul_add, Nat.mul_add, Nat.mul_left_comm K 10 x] at e
    rw [Nat.mul_assoc K, Nat.mul_add 10]
    omega
theorem ten_value {l : List Int} (ok : OkL l) {dg : Nat} (hd : dg < 10) : mag (pre (tenF l dg) (l.length + 1)) = 10 * mag l + dg := by
  have inv := ten_inv l dg l.length
  have hl : mag (l.take (l.length + 1)) = mag l := mag_take_all (by omega)
  rw [hl] at inv
  have hlt := mag_lt ok
  have hc : carry (tenF l dg) (l.length + 1) = 0 := by
    rcases Nat.eq_zero_or_pos (carry (tenF l dg) (l.length + 1)) with e | e
    · exact e
    · exfalso
      have h1 := Nat.le_mul_of_pos_right (4294967296 ^ (l.length + 1)) e
      have h2 : 4294967296 ^ (l.length + 1) = 4294967296 ^ l.length * 4294967296 := Nat.pow_succ ..
      omega
  rw [hc, Nat.mul_zero] at inv
  omega
end Go.Proofs.YthhpnlbeniihhaaDoor.NumT
namespace Go.Proofs.YthhpnlbeniihhaaDoor.NumU
open Go.RowKit Go.Proofs.YthhpnlbeniihhaaDoorW.PrintWords Go.Proofs.YthhpnlbeniihhaaDoorW.PrintLast Go.Proofs.YthhpnlbeniihhaaDoorW.PrintMore Go.Proofs.YthhpnlbeniihhaaDoor.Limb Go.Proofs.YthhpnlbeniihhaaDoor.NumA Go.Proofs.YthhpnlbeniihhaaDoor.NumB Go.Proofs.YthhpnlbeniihhaaDoor.NumC Go.Proofs.YthhpnlbeniihhaaDoor.NumD Go.Proofs.YthhpnlbeniihhaaDoor.NumE Go.Proofs.YthhpnlbeniihhaaDoor.NumF Go.Proofs.YthhpnlbeniihhaaDoor.NumG Go.Proofs.YthhpnlbeniihhaaDoor.NumH Go.Proofs.YthhpnlbeniihhaaDoor.NumJ Go.Proofs.YthhpnlbeniihhaaDoor.NumO Go.Proofs.YthhpnlbeniihhaaDoor.NumT
set_option linter.unusedVariables false
set_option linter.unusedSimpArgs false
/-- A digit's byte. -/
def isDig (b : UInt8) : Bool := decide (48 ≤ b.toNat ∧ b.toNat ≤ 57)
/-- The value of digits. -/
def decv (l : List UInt8) : Nat := l.foldl (fun a b => 10 * a + (b.toNat - 48)) 0
/-- What Parse answers of a text's digits. -/
def digR (neg : Bool) (l : List UInt8) : Bool × List Int × Int := if l ≠ [] ∧ l.all isDig = true then mk neg (decv l) else (false, [], 9)
/-- What Parse answers of a text. -/
def parseR (l : List UInt8) : Bool × List Int × Int :=
  match l with
  | [] => digR false []
  | b :: l => if b = 45 then digR true l else if b = 43 then digR false l else digR false (b :: l)
/-- The ten digits. -/
def ten : List UInt8 := [48, 49, 50, 51, 52, 53, 54, 55, 56, 57]
theorem ten_isDig (b : UInt8) : ten.contains b = isDig b := by
  unfold isDig ten
  rw [Bool.eq_iff_iff]
  simp only [List.contains_iff_mem, decide_eq_true_eq, List.mem_cons, List.mem_nil_iff, or_false]
  constructor
  · rintro (rfl | rfl | rfl | rfl | rfl | rfl | rfl | rfl | rfl | rfl) <;> decide
  · rintro ⟨h1, h2⟩
    have : b.toNat = 48 ∨ b.toNat = 49 ∨ b.toNat = 50 ∨ b.toNat = 51 ∨ b.toNat = 52 ∨ b.toNat = 53 ∨ b.toNat = 54 ∨ b.toNat = 55 ∨ b.toNat = 56 ∨ b.toNat = 57 := by omega
    rcases this with h | h | h | h | h | h | h | h | h | h <;> simp [← UInt8.toNat_inj, h]
theorem dropWhile_nil {p : UInt8 → Bool} : ∀ l : List UInt8, l.dropWhile p = [] ↔ l.all p = true
  | [] => by simp
  | a :: l => by
    by_cases h : p a = true
    · rw [List.dropWhile_cons_of_pos h, dropWhile_nil l]; simp [h]
    · rw [List.dropWhile_cons_of_neg h]; simp [h]
theorem all_dropWhile {p : UInt8 → Bool} : ∀ l : List UInt8, (l.dropWhile p).all p = l.all p
  | [] => rfl
  | a :: l => by
    by_cases h : p a = true
    · rw [List.dropWhile_cons_of_pos h, all_dropWhile l]; simp [h]
    · rw [List.dropWhile_cons_of_neg h]
theorem trim_all (l : List UInt8) : Lib.trimS l ten = [] ↔ l.all isDig = true := by
  unfold Lib.trimS Lib.trimLeftS Lib.trimRightS
  have e : (fun x => ten.contains x) = isDig := funext ten_isDig
  rw [e, dropWhile_nil, List.all_reverse, all_dropWhile, List.all_reverse]
theorem decv_snoc (l : List UInt8) (b : UInt8) : decv (l ++ [b]) = 10 * decv l + (b.toNat - 48) := by unfold decv; rw [List.foldl_append]; rfl
theorem decv_mono (l m : List UInt8) : decv l ≤ decv (l ++ m) := by
  induction m generalizing l with
  | nil => simp
  | cons b m ih =>
    have h := ih (l ++ [b])
    rw [decv_snoc, List.append_assoc] at h
    have e : [b] ++ m = b :: m := rfl
    rw [e] at h
    omega
theorem below_bytes {B : Nat} {w W : World} (h : Below B w W) (hB : B ≤ W.heap.size) (e : TypeId) (s : ByteArray) : Below B w (Lib.bytesWorld W e s) := by
  refine ⟨h.os, h.tape, h.output, by rw [Lib.bytesWorld_size]; exact Nat.le_succ_of_le h.size, fun k hk => ?_⟩
  rw [Lib.bytesWorld_at_old W e s k (Nat.lt_of_lt_of_le hk hB)]
  exact h.block k hk
theorem bytes_cell (w W : World) (e : TypeId) (s : ByteArray) {ob : Obj} (ho : (Lib.bytesWorld w e s).heap[w.heap.size]? = some ob) (h : W.heap[w.heap.size]? = some ob) (j : Nat) (hj : j < s.size) : W.cell? ⟨w.heap.size, j, none⟩ = some (.int .u8 (s.data.toList.getD j 0).toNat) := by
  have c := Lib.bytesWorld_cell w e s j hj
  unfold World.cell? at c ⊢
  rw [ho] at c
  rw [h]
  exact c
theorem New.set23 {w : World} {base : Nat} {v : Value} {l : List Int} (h : New w base v l) {g : Nat} {cells : Array Value} (hb : w.heap[g]? = some (.cells cells 23 (0, 0))) (j : Nat) (u : Value) : New (w.setCell ⟨g, j, none⟩ u) base v l :=
  Kd.R_set h hb (fun q hq => by
    have : q = 63 := by simpa [Kd.int, Kd.scalar] using hq
    subst this
    decide) j u
theorem New.take {w : World} {base : Nat} {A : Option Addr} {n c : Nat} {l : List Int} (h : New w base (.slice A n c) l) (m : Nat) (hm : m ≤ l.length) : New w base (.slice A m c) (l.take m) := by
  obtain ⟨h1, h2⟩ := h.own
  refine New.of_own ?_
  rw [List.length_take, Nat.min_eq_left hm, List.map_take]
  refine ⟨by rw [List.length_take, List.length_map]; omega, ?_⟩
  rcases h2 with ⟨e, h3⟩ | ⟨g, cap, cur, e, hg, hh, h3, h4, h5, h6⟩
  · injection e with e1 e2 e3
    subst e1 e3
    have hl : l = [] := by simpa using h3
    subst hl
    have : m = 0 := by simpa using hm
    subst this
    exact .inl ⟨rfl, by simp⟩
  · injection e with e1 e2 e3
    subst e1 e3
    refine .inr ⟨g, _, cur, rfl, hg, hh, by omega, h4, h5, ?_⟩
    rw [← h6, Nat.mul_one, Nat.mul_one, List.take_take, Nat.min_eq_left hm]
/-- How things stand at the head of Parse's loop. -/
def ParI (B bm : Nat) (l : List UInt8) (i : Nat) (w' : World) : Prop :=
  i ≤ l.length ∧ ∃ (v : Value) (M : List Int), w'.heap[bm]? = some (.cells #[v] 23 (0, 0)) ∧ New w' B v M ∧ OkL M ∧ tr M = M ∧ mag M = decv (l.take i) ∧ M.length ≤ 48
theorem take_snoc8 (l : List UInt8) (i : Nat) (h : i < l.length) : l.take (i + 1) = l.take i ++ [l.getD i 0] := by
  rw [List.take_succ_eq_append_getElem h, List.getD_eq_getElem?_getD, List.getElem?_eq_getElem h]
  rfl
theorem all_getD (l : List UInt8) (h : l.all isDig = true) (i : Nat) (hi : i < l.length) : 48 ≤ (l.getD i 0).toNat ∧ (l.getD i 0).toNat ≤ 57 := by
  have h2 := List.all_eq_true.mp h l[i] (List.getElem_mem hi)
  unfold isDig at h2
  rw [List.getD_eq_getElem?_getD, List.getElem?_eq_getElem hi]
  simpa using h2
theorem mk_big (neg : Bool) (v n : Nat) (l : List Int) (hl : OkL l) (hle : mag l ≤ v) (h : 48 < (tr l).length) : mk neg v = (false, [], 6) := by
  unfold mk
  rw [if_neg]
  intro h2
  have h3 : mag l < 4294967296 ^ 48 := Nat.lt_of_le_of_lt hle h2
  rw [← tr_len_48 hl] at h3
  omega
/-- HasPrefix and Trim, as the walk takes them. -/
structure Strs : Prop where
  pre : ∀ (s p : ByteArray) (w : World), Calls Tryd.prog 63 #[.string s, .string p] w fun e w' => e = .returned (.bool (Lib.hasPrefix s.data.toList p.data.toList)) ∧ w' = w
  trim : ∀ (s : ByteArray) (w : World), s.size ≤ 9223372036854775807 → Calls Tryd.prog 64 #[.string s, .string ⟨#[48, 49, 50, 51, 52, 53, 54, 55, 56, 57]⟩] w fun e w' => e = .returned (.string ⟨(Lib.trimS s.data.toList ten).toArray⟩) ∧ Below w.heap.size w w'
set_option maxRecDepth 100000 in
set_option maxHeartbeats 8000000 in
theorem parse_calls (S : Strs) (s : ByteArray) (w : World) (hs : s.size ≤ 140737488355328) :
    Calls Tryd.prog 25 #[.string s] w (Res w (parseR s.data.toList)) := by
  have HS := Lib.hid S
  have HSZ := Aside0.mk hs
  generalize hr : parseR s.data.toList = r
  have b1 := blk_new w (.cells #[.bool false, .slice none 0 0] 25 (0, 0))
  have hb1 := (Below.refl w.heap.size w).alloc (Nat.le_refl _) (.cells #[.bool false, .slice none 0 0] 25 (0, 0))
  have B1 := Aside0.mk b1
  have HB := Aside0.mk hb1
  have HR := Aside0.mk hr
  clear S hs hr b1 hb1
  go_enter Tryd.func25, Tryd.ntmps25
  go_wp2_with fail
  refine (HS.out.pre s _ _).mono ?_
  rintro e w' ⟨rfl, rfl⟩
  have hpre : ∀ c : UInt8, Lib.hasPrefix s.data.toList [c] = decide (s.data.toList.head? = some c) := by
    intro c
    unfold Lib.hasPrefix
    cases s.data.toList with
    | nil => rfl
    | cons b l =>
      rw [Bool.eq_iff_iff]
      simp only [List.isPrefixOf, Bool.and_true, beq_iff_eq, decide_eq_true_eq, List.head?_cons, Option.some.injEq]
      exact eq_comm
  have e45 : Lib.hasPrefix s.data.toList (⟨#[45]⟩ : ByteArray).data.toList = decide (s.data.toList.head? = some 45) := hpre 45
  have e43 : Lib.hasPrefix s.data.toList (⟨#[43]⟩ : ByteArray).data.toList = decide (s.data.toList.head? = some 43) := hpre 43
  have hsz : s.size = s.data.toList.length := Lib.size_eq s
  rw [e45]
  have E43 := Aside0.mk e43
  have HSE := Aside0.mk hsz
  clear e45 e43 hpre hsz
  -- the digits, the sign, three ways
  have key : (∃ l, s.data.toList = 45 :: l ∧ r = digR true l) ∨ (∃ l, s.data.toList = 43 :: l ∧ r = digR false l) ∨ (s.data.toList.head? ≠ some 45 ∧ s.data.toList.head? ≠ some 43 ∧ r = digR false s.data.toList) := by
    have h := HR.out
    cases hl : s.data.toList with
    | nil => rw [hl] at h; exact Or.inr (Or.inr ⟨by simp, by simp, h.symm⟩)
    | cons b l =>
      rw [hl] at h
      simp only [parseR] at h
      by_cases h1 : b = 45
      · rw [if_pos h1] at h; exact Or.inl ⟨l, by rw [h1], h.symm⟩
      · rw [if_neg h1] at h
        by_cases h2 : b = 43
        · rw [if_pos h2] at h; exact Or.inr (Or.inl ⟨l, by rw [h2], h.symm⟩)
        · rw [if_neg h2] at h; exact Or.inr (Or.inr ⟨by simp [h1], by simp [h2], h.symm⟩)
  rcases key with ⟨l, hl, hr⟩ | ⟨l, hl, hr⟩ | ⟨h1, h2, hr⟩
  · have d1 : decide (s.data.toList.head? = some 45) = true := by rw [hl]; rfl
    have d2 : decide (s.data.toList.head? = some 43) = false := by rw [hl]; rfl
    have z1 : (1 : Int) ≤ (s.size : Int) := by rw [HSE.out, hl, List.length_cons]; omega
    obtain ⟨D, hD⟩ : ∃ D, s.extract 1 s.size = D := ⟨_, rfl⟩
    have hd : D.data.toList = l := by
      rw [← hD, Lib.extract_to_end, hl]
      rfl
    have hds : D.size ≤ 140737488355328 := by
      have e : D.size = D.data.toList.length := Lib.size_eq D
      rw [e, hd]
      have e2 := HSE.out
      rw [hl, List.length_cons] at e2
      have := HSZ.out
      omega
    have HLL := Aside0.mk hl
    have HD := Aside0.mk hd
    have DSZ := Aside0.mk hds
    have HRR := Aside0.mk hr
    rw [d1]
    clear hl hr hds hd d1
    by_cases hne : l = []
    · have ei : D.toList.isEmpty = true := by rw [Lib.toList_data, HD.out, hne]; rfl
      have el : D.toList = [] := by rw [Lib.toList_data, HD.out, hne]
      have hrv : Aside0 (r = (false, [], 9)) := ⟨by rw [HRR.out]; unfold digR; rw [if_neg (by simp [hne])]⟩
      clear hne
      go_wp2
      refine bodyPost_ret (results_ct rfl _ _ w.heap.size 25 #[.bool false, .slice none 0 0] (0, 0) _ rfl B1.out Tryd.underlying25 rfl (by kernel_rfl)) rfl ?_
      show Res w r _ _
      rw [hrv.out]
      exact ⟨.slice none 0 0, rfl, New.nil _ _, HB.out⟩

    · have ei : D.toList.isEmpty = false := by rw [Lib.toList_data, HD.out]; simpa using hne
      have el : (D.toList = []) = False := by rw [Lib.toList_data, HD.out]; exact eq_false hne
      have HNE := Aside0.mk hne
      clear hne
      go_wp2_with fail
      refine (HS.out.trim D _ (by have := DSZ.out; omega)).mono ?_
      rw [HD.out]
      rintro e w1 ⟨rfl, hb⟩
      have B2 := Aside0.mk (blk_below B1.out hb)
      have HB2 := Aside0.mk (below_step HB.out hb)
      have hta := trim_all l
      obtain ⟨tl, htl⟩ : ∃ tl, Lib.trimS l ten = tl := ⟨_, rfl⟩
      rw [htl] at hta
      rw [htl]
      obtain ⟨T, hT⟩ : ∃ T : ByteArray, (⟨tl.toArray⟩ : ByteArray) = T := ⟨_, rfl⟩
      have hT2 : T.data.toList = tl := by rw [← hT]
      rw [hT]
      clear hT hb htl
      by_cases hall : l.all isDig = true
      · have ti : T.toList.isEmpty = true := by rw [Lib.toList_data, hT2, hta.mpr hall]; rfl
        have tl' : T.toList = [] := by rw [Lib.toList_data, hT2, hta.mpr hall]
        have hrv : Aside0 (r = mk true (decv l)) := ⟨by rw [HRR.out]; unfold digR; rw [if_pos ⟨HNE.out, hall⟩]⟩
        have HALL := Aside0.mk hall
        clear hta hall hT2 B1 HB HRR
        have hcv : ∀ W, (convert 9 32 (.string D)).run Tryd.prog W = .ok (.slice (some ⟨W.heap.size, 0, none⟩) D.size (grownCap W D.size 0 5)) (Lib.bytesWorld W 5 D) := fun W => Lib.run_convert_string_bytes W _ _ _ D Tryd.underlying9 Tryd.underlying32 Tryd.underlying5
        go_wp2
        have hW1 := blk_new w1 (.cells #[.slice none 0 0] 23 (0, 0))
        have hDl : D.size = l.length := by rw [Lib.size_eq, HD.out]
        obtain ⟨W1, hW⟩ : ∃ W1, w1.alloc (.cells #[.slice none 0 0] 23 (0, 0)) = W1 := ⟨_, rfl⟩
        have hs1 : W1.heap.size = w1.heap.size + 1 := by rw [← hW, World.size_alloc]
        have hbk := blk_alloc B2.out (.cells #[.slice none 0 0] 23 (0, 0))
        have hbw := below_alloc HB2.out (.cells #[.slice none 0 0] 23 (0, 0))
        rw [hW] at hW1 hbk hbw
        rw [hW]
        have hob := Lib.bytesWorld_at_new W1 5 D
        have HCELL := Lib.hid (show ∀ W j, W.heap[W1.heap.size]? = some _ → j < D.size → W.cell? ⟨W1.heap.size, j, none⟩ = some (.int .u8 ((D.data.toList.getD j 0).toNat : Int)) from fun W j h hj => bytes_cell W1 W 5 D hob h j hj)
        obtain ⟨ob, hobe⟩ : ∃ ob, Obj.cells (Lib.bytesCells W1 5 D) 5 ((Lib.bytesCells W1 5 D).size, (Lib.bytesCells W1 5 D).size + 1) = ob := ⟨_, rfl⟩
        rw [hobe] at hob HCELL
        have hw1 := (Lib.bytesWorld_at_old W1 5 D w1.heap.size (by omega)).trans hW1
        have hbk2 := (Lib.bytesWorld_at_old W1 5 D w.heap.size (blk_lt hbk)).trans hbk
        have hbw2 := below_bytes hbw (below_size hbw) 5 D
        obtain ⟨bb, hbb⟩ : ∃ bb, W1.heap.size = bb := ⟨_, rfl⟩
        obtain ⟨bm, hbm⟩ : ∃ bm, w1.heap.size = bm := ⟨_, rfl⟩
        rw [hbb] at hob HCELL
        rw [hbm] at hw1
        have hlt1 : w.heap.size ≤ bm := by rw [← hbm]; exact below_size HB2.out
        have hlt2 : bm < bb := by omega
        have hdl0 := HD.out
        rw [hdl0] at HCELL
        clear hdl0
        have hb3 : w1.heap.size + 1 = bb := by omega
        rw [hb3, hbm]
        obtain ⟨gc, hgc⟩ : ∃ gc, grownCap W1 D.size 0 5 = gc := ⟨_, rfl⟩
        rw [hgc]
        obtain ⟨Wb, hWb⟩ : ∃ Wb, Lib.bytesWorld W1 5 D = Wb := ⟨_, rfl⟩
        rw [hWb] at hob hw1 hbk2 hbw2
        rw [hWb]
        have B3 := Aside0.mk hbk2
        have HB3 := Aside0.mk hbw2
        have HOB := Aside0.mk hob
        have HM := Aside0.mk hw1
        have HL1 := Aside0.mk hlt1
        have HL2 := Aside0.mk hlt2
        have HDL := Aside0.mk hDl
        clear hW hW1 hs1 hbk hbw hobe hw1 hbk2 hbw2 hbb hbm hlt1 hlt2 hb3 hgc hWb hob hcv hDl B2 HB2
        go_loopw [30] (fun v30 w' => ∃ i : Nat, v30 = .int .i64 i ∧ Aside0 (ParI w.heap.size bm l i w') ∧ Aside0 (w'.heap[bb]? = some ob) ∧ Aside0 (w'.heap[w.heap.size]? = some (.cells #[.bool false, .slice none 0 0] 25 (0, 0))) ∧ Aside0 (Below w.heap.size w w')) (fun v30 _ => D.size - (intOf v30).toNat)
        case atStart => exact ⟨0, rfl, ⟨⟨Nat.zero_le _, _, [], HM.out, New.nil _ _, by intro x hx; simp at hx, rfl, rfl, by simp⟩⟩, HOB, B3, HB3⟩
        case round =>
          clear B3 HB3 HOB HM
          obtain ⟨i, rfl, HI, HOB, B3, HB3⟩ := hrel
          obtain ⟨hil, v, M, hM, hN, okM, trM, magM, lenM⟩ := HI.out
          obtain ⟨Am, cm, rfl, hcm, hlm⟩ := New.lim hN
          have hdl := HDL.out
          have hsz := DSZ.out
          by_cases hi : i < D.size
          · have i0 : (0 : Int) ≤ (i : Int) := by omega
            have i1 : (i : Int) < (D.size : Int) := by omega
            have p0 := eq_true i0
            have q0 := eq_true i1
            have hcell := HCELL.out wr i HOB.out hi
            have hdg := all_getD l HALL.out i (by omega)
            obtain ⟨dg, hdge⟩ : ∃ dg, (l.getD i 0).toNat - 48 = dg := ⟨_, rfl⟩
            have hd10 : dg < 10 := by omega
            rw [show (l.getD i 0).toNat = dg + 48 by omega] at hcell
            obtain ⟨d8, hd8⟩ : ∃ d8 : Int, ((dg + 48 : Nat) : Int) = d8 := ⟨_, rfl⟩
            rw [hd8] at hcell
            have hm0 : (wr.alloc (.cells #[.int .u8 d8] 5 (0, 0))).cell? ⟨bm, 0, none⟩ = some (.slice Am M.length cm) := (blk_cell (blk_alloc hM _) 0).trans rfl
            have hb0 : (wr.alloc (.cells #[.int .u8 d8] 5 (0, 0))).cell? ⟨wr.heap.size, 0, none⟩ = some (.int .u8 ((dg + 48 : Nat) : Int)) := by rw [hd8]; exact (blk_cell (blk_new wr _) 0).trans rfl
            obtain ⟨n2, hn2⟩ : ∃ n2, M.length + 1 = n2 := ⟨_, rfl⟩
            have CALL := Lib.hid (row_parse ⟨wr.heap.size, 0, none⟩ ⟨bm, 0, none⟩ Am cm M dg n2 _ hb0 hm0 (hlm.alloc _) okM (by omega) hd10)
            have wn0 : ((M.length : Int) + 1) = (n2 : Int) := by omega
            have wn1 : IntKind.i64.wrap ((M.length : Int) + 1) = (n2 : Int) := i64_of wn0 (by omega) (by omega)
            have wn2 : wrap64 ((M.length : Int) + 1) = (n2 : Int) := w64_of wn0 (by omega) (by omega)
            have wi0 : ((i : Int) + 1) = ((i + 1 : Nat) : Int) := by omega
            have HWI := Aside0.mk wi0
            have hm63 : ((i + 1 : Nat) : Int) ≤ 9223372036854775807 := by omega
            have wi1 : IntKind.i64.wrap ((i : Int) + 1) = ((i + 1 : Nat) : Int) := i64_of wi0 (Int.le_trans (by decide) (Int.natCast_nonneg _)) hm63
            have wi2 : wrap64 ((i : Int) + 1) = ((i + 1 : Nat) : Int) := w64_of wi0 (Int.le_trans (by decide) (Int.natCast_nonneg _)) hm63
            have HM := Aside0.mk hM
            have OM := Aside0.mk okM
            have TM := Aside0.mk trM
            have MM := Aside0.mk magM
            have LM := Aside0.mk lenM
            have HN2 := Aside0.mk hn2
            have HDG := Aside0.mk hdge
            have HD10 := Aside0.mk hd10
            have HII := Aside0.mk hi
            clear hb0 wn0 wi0 hm63 hil hM hN okM trM magM lenM hcm hlm hdl hsz hi hdg hdge hd10 hd8 hn2 HI i0 i1
            go_wp2_with fail
            refine CALL.out.mono ?_
            clear CALL
            rintro e w2 ⟨v1, rfl, hn1, hb1⟩
            have hval := ten_value OM.out HD10.out
            rw [HN2.out] at hval
            have okP := pre_ok (tenF M dg) n2
            have lenP := pre_length (tenF M dg) n2
            generalize pre (tenF M dg) n2 = P at *
            obtain ⟨A1, c1, rfl, hc1, hl1⟩ := New.lim hn1
            have hbk := blk_below (blk_alloc HM.out (.cells #[.int .u8 d8] 5 (0, 0))) hb1
            have hok := blk_below (blk_alloc HOB.out (.cells #[.int .u8 d8] 5 (0, 0))) hb1
            have hrk := blk_below (blk_alloc B3.out (.cells #[.int .u8 d8] 5 (0, 0))) hb1
            have hbl := below_step (below_alloc HB3.out (.cells #[.int .u8 d8] 5 (0, 0))) hb1
            have hn1' : New w2 w.heap.size (.slice A1 P.length c1) P := New.lower hn1 (by rw [World.size_alloc]; have := below_size HB3.out; omega)
            have HNP := Aside0.mk hn1'
            have HLP := Aside0.mk hl1
            have HCP := Aside0.mk hc1
            have OP := Aside0.mk okP
            have VP := Aside0.mk hval
            have HMK := Aside0.mk hbk
            have HOK := Aside0.mk hok
            have HRK := Aside0.mk hrk
            have HBL := Aside0.mk hbl
            have hcm2 := (blk_cell hbk 0)
            have hfm2 := blk_frozen hbk 0
            clear hn1 hb1 hval okP lenP hc1 hl1 hbk hok hrk hbl hn1' hcell hm0
            go_wp2_with fail
            refine (trim_calls A1 c1 P _ HLP.out HCP.out).mono ?_
            rintro e w' ⟨rfl, ⟨nd, rfl⟩⟩
            have hcm3 : (w2.drewN nd).cell? ⟨bm, 0, none⟩ = _ := hcm2
            have hfm3 : (w2.drewN nd).frozen? ⟨bm, 0, none⟩ = false := hfm2
            have hM3 := blk_put (blk_drewN HMK.out nd) 0 (.slice A1 (tr P).length c1) rfl
            have hO3 : ((w2.drewN nd).setCell ⟨bm, 0, none⟩ (.slice A1 (tr P).length c1)).heap[bb]? = some ob := (Below.heap_setCell _ _ _ _ (by dsimp only; have := HL2.out; omega)).trans (blk_drewN HOK.out nd)
            have hne : w.heap.size ≠ bm := by
              intro h
              have h1 := HMK.out
              have h2 := HRK.out
              rw [← h, h2] at h1
              injection h1 with h1
              injection h1 with _ h1
              exact absurd h1 (by decide)
            have hR3 := blk_far (blk_drewN HRK.out nd) (p := ⟨bm, 0, none⟩) hne (.slice A1 (tr P).length c1)
            have hB3 := below_set (j := 0) (v := .slice A1 (tr P).length c1) (pw_below_drewN HBL.out nd) HL1.out
            have hN3 : New ((w2.drewN nd).setCell ⟨bm, 0, none⟩ (.slice A1 (tr P).length c1)) w.heap.size (.slice A1 (tr P).length c1) (tr P) := by
              have h1 := New.take (HNP.out) (tr P).length (tr_len_le P)
              rw [tr_take] at h1
              exact New.set23 h1 (blk_drewN HMK.out nd) 0 _
            have HM3 := Aside0.mk hM3
            have HO3 := Aside0.mk hO3
            have HR3 := Aside0.mk hR3
            have HBB3 := Aside0.mk hB3
            have HN3 := Aside0.mk hN3
            have hz0 := (cell_at hR3).1
            have hz1 := (cell_at hR3).2
            have hy0 := blk_frozen hR3 0
            have hy1 := blk_frozen hR3 1
            have HZ := Aside0.mk (And.intro hz0 (And.intro hz1 (And.intro hy0 hy1)))
            clear hM3 hO3 hR3 hB3 hN3 hne hz0 hz1 hy0 hy1
            by_cases h48 : 48 < (tr P).length
            · have t1 : decide (48 < (tr P).length) = true := decide_eq_true h48
              have t2 : decide ((48 : Int) < ((tr P).length : Int)) = true := decide_eq_true (by omega)
              have hbig := mk_big true (decv l) 0 P OP.out (by
                have h1 := decv_mono (l.take (i + 1)) (l.drop (i + 1))
                rw [List.take_append_drop] at h1
                rw [take_snoc8 l i (by have := HDL.out; have := HII.out; omega), decv_snoc, HDG.out, ← MM.out] at h1
                rw [VP.out]
                exact h1) h48
              have hrv2 : Aside0 (r = (false, [], 6)) := ⟨by rw [hrv.out, hbig]⟩
              clear hbig h48
              obtain ⟨hz0, hz1, _, _⟩ := HZ.out
              have hy0 := blk_frozen HRK.out 0
              have hy1 := blk_frozen HRK.out 1
              go_wp2
              refine bodyPost_ret (results_ct rfl _ _ w.heap.size 25 #[.bool false, .slice none 0 0] (0, 0) _ rfl (blk_put (cs := #[.bool false, .slice none 0 0]) (blk_put (cs := #[.bool false, .slice none 0 0]) HR3.out 0 _ rfl) 1 _ rfl) Tryd.underlying25 rfl (by kernel_rfl)) rfl ?_
              show Res w r _ _
              rw [hrv2.out]
              exact ⟨.slice none 0 0, rfl, New.nil _ _, below_set (below_set HBB3.out (Nat.le_refl _)) (Nat.le_refl _)⟩
            · have t1 : decide (48 < (tr P).length) = false := decide_eq_false h48
              have t2 : decide ((48 : Int) < ((tr P).length : Int)) = false := decide_eq_false (by omega)
              have H48 := Aside0.mk h48
              clear h48
              go_wp2
              go_roundw
              case rel =>
                refine ⟨i + 1, by go_num, ⟨⟨by have := HDL.out; have := HII.out; omega, _, tr P, HM3.out, HN3.out, ok_tr OP.out, tr_tr P, ?_, by have := H48.out; omega⟩⟩, HO3, HR3, HBB3⟩
                rw [mag_tr, VP.out, take_snoc8 l i (by have := HDL.out; have := HII.out; omega), decv_snoc, HDG.out, MM.out]
              case measure => have := HII.out; simp [intOf]; omega
          · have hie : i = l.length := by omega
            have hv : mag M = decv l := by rw [magM, hie, List.take_length]
            have t1 : decide (i < D.size) = false := decide_eq_false hi
            have t2 : decide ((i : Int) < (D.size : Int)) = false := decide_eq_false (by omega)
            have hmc := (blk_cell hM 0)
            have LM := Aside0.mk hlm
            have CM := Aside0.mk hcm
            have OM := Aside0.mk okM
            have VM := Aside0.mk hv
            have L48 := Aside0.mk lenM
            have HN := Aside0.mk hN
            clear hil hM hN okM trM magM lenM hcm hlm hdl hsz hi hie hv HI
            go_wp2_with fail
            refine (made_calls true Am cm M _ LM.out CM.out OM.out (by have := L48.out; omega)).mono ?_
            rw [VM.out, ← hrv.out]
            rintro e w2 ⟨v, rfl, hnew, hb⟩
            obtain ⟨Ar, cr, er, _, _⟩ := New.lim hnew
            subst er
            obtain ⟨r1, r2, r3⟩ := r
            have RN := Aside0.mk (New.lower (base' := w.heap.size) hnew (below_size HB3.out))
            have B4 := Aside0.mk (blk_below B3.out hb)
            have HB4 := Aside0.mk (below_step HB3.out hb)
            have z0 := (cell_at B4.out).1
            have z1 := (cell_at B4.out).2
            have f0 := blk_frozen B4.out 0
            have f1 := blk_frozen B4.out 1
            clear hnew hb
            go_wp2
            refine bodyPost_ret (results_ct rfl _ _ w.heap.size 25 #[.bool r1, .slice Ar r2.length cr] (0, 0) _ rfl (blk_put (cs := #[.bool r1, .slice none 0 0]) (blk_put (cs := #[.bool false, .slice none 0 0]) B4.out 0 _ rfl) 1 _ rfl) Tryd.underlying25 rfl (by kernel_rfl)) rfl ?_
            exact ⟨_, rfl, New.set (New.set RN.out B4.out 0 _) (blk_put (cs' := #[.bool r1, .slice none 0 0]) B4.out 0 _ rfl) 1 _, below_set (below_set HB4.out (Nat.le_refl _)) (Nat.le_refl _)⟩
      · have hne2 : tl ≠ [] := fun h => hall (hta.mp h)
        have ti : T.toList.isEmpty = false := by rw [Lib.toList_data, hT2]; simpa using hne2
        have tl' : (T.toList = []) = False := by rw [Lib.toList_data, hT2]; exact eq_false hne2
        have hrv : Aside0 (r = (false, [], 9)) := ⟨by rw [HRR.out]; unfold digR; rw [if_neg (fun h => hall h.2)]⟩
        have z0 := (cell_at B2.out).1
        have z1 := (cell_at B2.out).2
        have f0 := blk_frozen B2.out 0
        have f1 := blk_frozen B2.out 1
        clear hta hall hT2 hne2
        go_wp2
        refine bodyPost_ret (results_ct rfl _ _ w.heap.size 25 #[.bool false, .slice none 0 0] (0, 0) _ rfl (blk_put (cs := #[.bool false, .slice none 0 0]) (blk_put (cs := #[.bool false, .slice none 0 0]) B2.out 0 _ rfl) 1 _ rfl) Tryd.underlying25 rfl (by kernel_rfl)) rfl ?_
        show Res w r _ _
        rw [hrv.out]
        exact ⟨.slice none 0 0, rfl, New.nil _ _, below_set (below_set HB2.out (Nat.le_refl _)) (Nat.le_refl _)⟩
  · have d1 : decide (s.data.toList.head? = some 45) = false := by rw [hl]; rfl
    have d2 : decide (s.data.toList.head? = some 43) = true := by rw [hl]; rfl
    have z1 : (1 : Int) ≤ (s.size : Int) := by rw [HSE.out, hl, List.length_cons]; omega
    obtain ⟨D, hD⟩ : ∃ D, s.extract 1 s.size = D := ⟨_, rfl⟩
    have hd : D.data.toList = l := by
      rw [← hD, Lib.extract_to_end, hl]
      rfl
    have hds : D.size ≤ 140737488355328 := by
      have e : D.size = D.data.toList.length := Lib.size_eq D
      rw [e, hd]
      have e2 := HSE.out
      rw [hl, List.length_cons] at e2
      have := HSZ.out
      omega
    have HLL := Aside0.mk hl
    have HD := Aside0.mk hd
    have DSZ := Aside0.mk hds
    have HRR := Aside0.mk hr
    rw [d1]
    clear hl hr hds hd d1
    go_wp2_with fail
    refine (HS.out.pre s _ _).mono ?_
    rintro e w' ⟨rfl, rfl⟩
    rw [E43.out, d2]
    clear d2
    by_cases hne : l = []
    · have ei : D.toList.isEmpty = true := by rw [Lib.toList_data, HD.out, hne]; rfl
      have el : D.toList = [] := by rw [Lib.toList_data, HD.out, hne]
      have hrv : Aside0 (r = (false, [], 9)) := ⟨by rw [HRR.out]; unfold digR; rw [if_neg (by simp [hne])]⟩
      clear hne
      go_wp2
      refine bodyPost_ret (results_ct rfl _ _ w.heap.size 25 #[.bool false, .slice none 0 0] (0, 0) _ rfl B1.out Tryd.underlying25 rfl (by kernel_rfl)) rfl ?_
      show Res w r _ _
      rw [hrv.out]
      exact ⟨.slice none 0 0, rfl, New.nil _ _, HB.out⟩

    · have ei : D.toList.isEmpty = false := by rw [Lib.toList_data, HD.out]; simpa using hne
      have el : (D.toList = []) = False := by rw [Lib.toList_data, HD.out]; exact eq_false hne
      have HNE := Aside0.mk hne
      clear hne
      go_wp2_with fail
      refine (HS.out.trim D _ (by have := DSZ.out; omega)).mono ?_
      rw [HD.out]
      rintro e w1 ⟨rfl, hb⟩
      have B2 := Aside0.mk (blk_below B1.out hb)
      have HB2 := Aside0.mk (below_step HB.out hb)
      have hta := trim_all l
      obtain ⟨tl, htl⟩ : ∃ tl, Lib.trimS l ten = tl := ⟨_, rfl⟩
      rw [htl] at hta
      rw [htl]
      obtain ⟨T, hT⟩ : ∃ T : ByteArray, (⟨tl.toArray⟩ : ByteArray) = T := ⟨_, rfl⟩
      have hT2 : T.data.toList = tl := by rw [← hT]
      rw [hT]
      clear hT hb htl
      by_cases hall : l.all isDig = true
      · have ti : T.toList.isEmpty = true := by rw [Lib.toList_data, hT2, hta.mpr hall]; rfl
        have tl' : T.toList = [] := by rw [Lib.toList_data, hT2, hta.mpr hall]
        have hrv : Aside0 (r = mk false (decv l)) := ⟨by rw [HRR.out]; unfold digR; rw [if_pos ⟨HNE.out, hall⟩]⟩
        have HALL := Aside0.mk hall
        clear hta hall hT2 B1 HB HRR
        have hcv : ∀ W, (convert 9 32 (.string D)).run Tryd.prog W = .ok (.slice (some ⟨W.heap.size, 0, none⟩) D.size (grownCap W D.size 0 5)) (Lib.bytesWorld W 5 D) := fun W => Lib.run_convert_string_bytes W _ _ _ D Tryd.underlying9 Tryd.underlying32 Tryd.underlying5
        go_wp2
        have hW1 := blk_new w1 (.cells #[.slice none 0 0] 23 (0, 0))
        have hDl : D.size = l.length := by rw [Lib.size_eq, HD.out]
        obtain ⟨W1, hW⟩ : ∃ W1, w1.alloc (.cells #[.slice none 0 0] 23 (0, 0)) = W1 := ⟨_, rfl⟩
        have hs1 : W1.heap.size = w1.heap.size + 1 := by rw [← hW, World.size_alloc]
        have hbk := blk_alloc B2.out (.cells #[.slice none 0 0] 23 (0, 0))
        have hbw := below_alloc HB2.out (.cells #[.slice none 0 0] 23 (0, 0))
        rw [hW] at hW1 hbk hbw
        rw [hW]
        have hob := Lib.bytesWorld_at_new W1 5 D
        have HCELL := Lib.hid (show ∀ W j, W.heap[W1.heap.size]? = some _ → j < D.size → W.cell? ⟨W1.heap.size, j, none⟩ = some (.int .u8 ((D.data.toList.getD j 0).toNat : Int)) from fun W j h hj => bytes_cell W1 W 5 D hob h j hj)
        obtain ⟨ob, hobe⟩ : ∃ ob, Obj.cells (Lib.bytesCells W1 5 D) 5 ((Lib.bytesCells W1 5 D).size, (Lib.bytesCells W1 5 D).size + 1) = ob := ⟨_, rfl⟩
        rw [hobe] at hob HCELL
        have hw1 := (Lib.bytesWorld_at_old W1 5 D w1.heap.size (by omega)).trans hW1
        have hbk2 := (Lib.bytesWorld_at_old W1 5 D w.heap.size (blk_lt hbk)).trans hbk
        have hbw2 := below_bytes hbw (below_size hbw) 5 D
        obtain ⟨bb, hbb⟩ : ∃ bb, W1.heap.size = bb := ⟨_, rfl⟩
        obtain ⟨bm, hbm⟩ : ∃ bm, w1.heap.size = bm := ⟨_, rfl⟩
        rw [hbb] at hob HCELL
        rw [hbm] at hw1
        have hlt1 : w.heap.size ≤ bm := by rw [← hbm]; exact below_size HB2.out
        have hlt2 : bm < bb := by omega
        have hdl0 := HD.out
        rw [hdl0] at HCELL
        clear hdl0
        have hb3 : w1.heap.size + 1 = bb := by omega
        rw [hb3, hbm]
        obtain ⟨gc, hgc⟩ : ∃ gc, grownCap W1 D.size 0 5 = gc := ⟨_, rfl⟩
        rw [hgc]
        obtain ⟨Wb, hWb⟩ : ∃ Wb, Lib.bytesWorld W1 5 D = Wb := ⟨_, rfl⟩
        rw [hWb] at hob hw1 hbk2 hbw2
        rw [hWb]
        have B3 := Aside0.mk hbk2
        have HB3 := Aside0.mk hbw2
        have HOB := Aside0.mk hob
        have HM := Aside0.mk hw1
        have HL1 := Aside0.mk hlt1
        have HL2 := Aside0.mk hlt2
        have HDL := Aside0.mk hDl
        clear hW hW1 hs1 hbk hbw hobe hw1 hbk2 hbw2 hbb hbm hlt1 hlt2 hb3 hgc hWb hob hcv hDl B2 HB2
        go_loopw [30] (fun v30 w' => ∃ i : Nat, v30 = .int .i64 i ∧ Aside0 (ParI w.heap.size bm l i w') ∧ Aside0 (w'.heap[bb]? = some ob) ∧ Aside0 (w'.heap[w.heap.size]? = some (.cells #[.bool false, .slice none 0 0] 25 (0, 0))) ∧ Aside0 (Below w.heap.size w w')) (fun v30 _ => D.size - (intOf v30).toNat)
        case atStart => exact ⟨0, rfl, ⟨⟨Nat.zero_le _, _, [], HM.out, New.nil _ _, by intro x hx; simp at hx, rfl, rfl, by simp⟩⟩, HOB, B3, HB3⟩
        case round =>
          clear B3 HB3 HOB HM
          obtain ⟨i, rfl, HI, HOB, B3, HB3⟩ := hrel
          obtain ⟨hil, v, M, hM, hN, okM, trM, magM, lenM⟩ := HI.out
          obtain ⟨Am, cm, rfl, hcm, hlm⟩ := New.lim hN
          have hdl := HDL.out
          have hsz := DSZ.out
          by_cases hi : i < D.size
          · have i0 : (0 : Int) ≤ (i : Int) := by omega
            have i1 : (i : Int) < (D.size : Int) := by omega
            have p0 := eq_true i0
            have q0 := eq_true i1
            have hcell := HCELL.out wr i HOB.out hi
            have hdg := all_getD l HALL.out i (by omega)
            obtain ⟨dg, hdge⟩ : ∃ dg, (l.getD i 0).toNat - 48 = dg := ⟨_, rfl⟩
            have hd10 : dg < 10 := by omega
            rw [show (l.getD i 0).toNat = dg + 48 by omega] at hcell
            obtain ⟨d8, hd8⟩ : ∃ d8 : Int, ((dg + 48 : Nat) : Int) = d8 := ⟨_, rfl⟩
            rw [hd8] at hcell
            have hm0 : (wr.alloc (.cells #[.int .u8 d8] 5 (0, 0))).cell? ⟨bm, 0, none⟩ = some (.slice Am M.length cm) := (blk_cell (blk_alloc hM _) 0).trans rfl
            have hb0 : (wr.alloc (.cells #[.int .u8 d8] 5 (0, 0))).cell? ⟨wr.heap.size, 0, none⟩ = some (.int .u8 ((dg + 48 : Nat) : Int)) := by rw [hd8]; exact (blk_cell (blk_new wr _) 0).trans rfl
            obtain ⟨n2, hn2⟩ : ∃ n2, M.length + 1 = n2 := ⟨_, rfl⟩
            have CALL := Lib.hid (row_parse ⟨wr.heap.size, 0, none⟩ ⟨bm, 0, none⟩ Am cm M dg n2 _ hb0 hm0 (hlm.alloc _) okM (by omega) hd10)
            have wn0 : ((M.length : Int) + 1) = (n2 : Int) := by omega
            have wn1 : IntKind.i64.wrap ((M.length : Int) + 1) = (n2 : Int) := i64_of wn0 (by omega) (by omega)
            have wn2 : wrap64 ((M.length : Int) + 1) = (n2 : Int) := w64_of wn0 (by omega) (by omega)
            have wi0 : ((i : Int) + 1) = ((i + 1 : Nat) : Int) := by omega
            have HWI := Aside0.mk wi0
            have hm63 : ((i + 1 : Nat) : Int) ≤ 9223372036854775807 := by omega
            have wi1 : IntKind.i64.wrap ((i : Int) + 1) = ((i + 1 : Nat) : Int) := i64_of wi0 (Int.le_trans (by decide) (Int.natCast_nonneg _)) hm63
            have wi2 : wrap64 ((i : Int) + 1) = ((i + 1 : Nat) : Int) := w64_of wi0 (Int.le_trans (by decide) (Int.natCast_nonneg _)) hm63
            have HM := Aside0.mk hM
            have OM := Aside0.mk okM
            have TM := Aside0.mk trM
            have MM := Aside0.mk magM
            have LM := Aside0.mk lenM
            have HN2 := Aside0.mk hn2
            have HDG := Aside0.mk hdge
            have HD10 := Aside0.mk hd10
            have HII := Aside0.mk hi
            clear hb0 wn0 wi0 hm63 hil hM hN okM trM magM lenM hcm hlm hdl hsz hi hdg hdge hd10 hd8 hn2 HI i0 i1
            go_wp2_with fail
            refine CALL.out.mono ?_
            clear CALL
            rintro e w2 ⟨v1, rfl, hn1, hb1⟩
            have hval := ten_value OM.out HD10.out
            rw [HN2.out] at hval
            have okP := pre_ok (tenF M dg) n2
            have lenP := pre_length (tenF M dg) n2
            generalize pre (tenF M dg) n2 = P at *
            obtain ⟨A1, c1, rfl, hc1, hl1⟩ := New.lim hn1
            have hbk := blk_below (blk_alloc HM.out (.cells #[.int .u8 d8] 5 (0, 0))) hb1
            have hok := blk_below (blk_alloc HOB.out (.cells #[.int .u8 d8] 5 (0, 0))) hb1
            have hrk := blk_below (blk_alloc B3.out (.cells #[.int .u8 d8] 5 (0, 0))) hb1
            have hbl := below_step (below_alloc HB3.out (.cells #[.int .u8 d8] 5 (0, 0))) hb1
            have hn1' : New w2 w.heap.size (.slice A1 P.length c1) P := New.lower hn1 (by rw [World.size_alloc]; have := below_size HB3.out; omega)
            have HNP := Aside0.mk hn1'
            have HLP := Aside0.mk hl1
            have HCP := Aside0.mk hc1
            have OP := Aside0.mk okP
            have VP := Aside0.mk hval
            have HMK := Aside0.mk hbk
            have HOK := Aside0.mk hok
            have HRK := Aside0.mk hrk
            have HBL := Aside0.mk hbl
            have hcm2 := (blk_cell hbk 0)
            have hfm2 := blk_frozen hbk 0
            clear hn1 hb1 hval okP lenP hc1 hl1 hbk hok hrk hbl hn1' hcell hm0
            go_wp2_with fail
            refine (trim_calls A1 c1 P _ HLP.out HCP.out).mono ?_
            rintro e w' ⟨rfl, ⟨nd, rfl⟩⟩
            have hcm3 : (w2.drewN nd).cell? ⟨bm, 0, none⟩ = _ := hcm2
            have hfm3 : (w2.drewN nd).frozen? ⟨bm, 0, none⟩ = false := hfm2
            have hM3 := blk_put (blk_drewN HMK.out nd) 0 (.slice A1 (tr P).length c1) rfl
            have hO3 : ((w2.drewN nd).setCell ⟨bm, 0, none⟩ (.slice A1 (tr P).length c1)).heap[bb]? = some ob := (Below.heap_setCell _ _ _ _ (by dsimp only; have := HL2.out; omega)).trans (blk_drewN HOK.out nd)
            have hne : w.heap.size ≠ bm := by
              intro h
              have h1 := HMK.out
              have h2 := HRK.out
              rw [← h, h2] at h1
              injection h1 with h1
              injection h1 with _ h1
              exact absurd h1 (by decide)
            have hR3 := blk_far (blk_drewN HRK.out nd) (p := ⟨bm, 0, none⟩) hne (.slice A1 (tr P).length c1)
            have hB3 := below_set (j := 0) (v := .slice A1 (tr P).length c1) (pw_below_drewN HBL.out nd) HL1.out
            have hN3 : New ((w2.drewN nd).setCell ⟨bm, 0, none⟩ (.slice A1 (tr P).length c1)) w.heap.size (.slice A1 (tr P).length c1) (tr P) := by
              have h1 := New.take (HNP.out) (tr P).length (tr_len_le P)
              rw [tr_take] at h1
              exact New.set23 h1 (blk_drewN HMK.out nd) 0 _
            have HM3 := Aside0.mk hM3
            have HO3 := Aside0.mk hO3
            have HR3 := Aside0.mk hR3
            have HBB3 := Aside0.mk hB3
            have HN3 := Aside0.mk hN3
            have hz0 := (cell_at hR3).1
            have hz1 := (cell_at hR3).2
            have hy0 := blk_frozen hR3 0
            have hy1 := blk_frozen hR3 1
            have HZ := Aside0.mk (And.intro hz0 (And.intro hz1 (And.intro hy0 hy1)))
            clear hM3 hO3 hR3 hB3 hN3 hne hz0 hz1 hy0 hy1
            by_cases h48 : 48 < (tr P).length
            · have t1 : decide (48 < (tr P).length) = true := decide_eq_true h48
              have t2 : decide ((48 : Int) < ((tr P).length : Int)) = true := decide_eq_true (by omega)
              have hbig := mk_big false (decv l) 0 P OP.out (by
                have h1 := decv_mono (l.take (i + 1)) (l.drop (i + 1))
                rw [List.take_append_drop] at h1
                rw [take_snoc8 l i (by have := HDL.out; have := HII.out; omega), decv_snoc, HDG.out, ← MM.out] at h1
                rw [VP.out]
                exact h1) h48
              have hrv2 : Aside0 (r = (false, [], 6)) := ⟨by rw [hrv.out, hbig]⟩
              clear hbig h48
              obtain ⟨hz0, hz1, _, _⟩ := HZ.out
              have hy0 := blk_frozen HRK.out 0
              have hy1 := blk_frozen HRK.out 1
              go_wp2
              refine bodyPost_ret (results_ct rfl _ _ w.heap.size 25 #[.bool false, .slice none 0 0] (0, 0) _ rfl (blk_put (cs := #[.bool false, .slice none 0 0]) (blk_put (cs := #[.bool false, .slice none 0 0]) HR3.out 0 _ rfl) 1 _ rfl) Tryd.underlying25 rfl (by kernel_rfl)) rfl ?_
              show Res w r _ _
              rw [hrv2.out]
              exact ⟨.slice none 0 0, rfl, New.nil _ _, below_set (below_set HBB3.out (Nat.le_refl _)) (Nat.le_refl _)⟩
            · have t1 : decide (48 < (tr P).length) = false := decide_eq_false h48
              have t2 : decide ((48 : Int) < ((tr P).length : Int)) = false := decide_eq_false (by omega)
              have H48 := Aside0.mk h48
              clear h48
              go_wp2
              go_roundw
              case rel =>
                refine ⟨i + 1, by go_num, ⟨⟨by have := HDL.out; have := HII.out; omega, _, tr P, HM3.out, HN3.out, ok_tr OP.out, tr_tr P, ?_, by have := H48.out; omega⟩⟩, HO3, HR3, HBB3⟩
                rw [mag_tr, VP.out, take_snoc8 l i (by have := HDL.out; have := HII.out; omega), decv_snoc, HDG.out, MM.out]
              case measure => have := HII.out; simp [intOf]; omega
          · have hie : i = l.length := by omega
            have hv : mag M = decv l := by rw [magM, hie, List.take_length]
            have t1 : decide (i < D.size) = false := decide_eq_false hi
            have t2 : decide ((i : Int) < (D.size : Int)) = false := decide_eq_false (by omega)
            have hmc := (blk_cell hM 0)
            have LM := Aside0.mk hlm
            have CM := Aside0.mk hcm
            have OM := Aside0.mk okM
            have VM := Aside0.mk hv
            have L48 := Aside0.mk lenM
            have HN := Aside0.mk hN
            clear hil hM hN okM trM magM lenM hcm hlm hdl hsz hi hie hv HI
            go_wp2_with fail
            refine (made_calls false Am cm M _ LM.out CM.out OM.out (by have := L48.out; omega)).mono ?_
            rw [VM.out, ← hrv.out]
            rintro e w2 ⟨v, rfl, hnew, hb⟩
            obtain ⟨Ar, cr, er, _, _⟩ := New.lim hnew
            subst er
            obtain ⟨r1, r2, r3⟩ := r
            have RN := Aside0.mk (New.lower (base' := w.heap.size) hnew (below_size HB3.out))
            have B4 := Aside0.mk (blk_below B3.out hb)
            have HB4 := Aside0.mk (below_step HB3.out hb)
            have z0 := (cell_at B4.out).1
            have z1 := (cell_at B4.out).2
            have f0 := blk_frozen B4.out 0
            have f1 := blk_frozen B4.out 1
            clear hnew hb
            go_wp2
            refine bodyPost_ret (results_ct rfl _ _ w.heap.size 25 #[.bool r1, .slice Ar r2.length cr] (0, 0) _ rfl (blk_put (cs := #[.bool r1, .slice none 0 0]) (blk_put (cs := #[.bool false, .slice none 0 0]) B4.out 0 _ rfl) 1 _ rfl) Tryd.underlying25 rfl (by kernel_rfl)) rfl ?_
            exact ⟨_, rfl, New.set (New.set RN.out B4.out 0 _) (blk_put (cs' := #[.bool r1, .slice none 0 0]) B4.out 0 _ rfl) 1 _, below_set (below_set HB4.out (Nat.le_refl _)) (Nat.le_refl _)⟩
      · have hne2 : tl ≠ [] := fun h => hall (hta.mp h)
        have ti : T.toList.isEmpty = false := by rw [Lib.toList_data, hT2]; simpa using hne2
        have tl' : (T.toList = []) = False := by rw [Lib.toList_data, hT2]; exact eq_false hne2
        have hrv : Aside0 (r = (false, [], 9)) := ⟨by rw [HRR.out]; unfold digR; rw [if_neg (fun h => hall h.2)]⟩
        have z0 := (cell_at B2.out).1
        have z1 := (cell_at B2.out).2
        have f0 := blk_frozen B2.out 0
        have f1 := blk_frozen B2.out 1
        clear hta hall hT2 hne2
        go_wp2
        refine bodyPost_ret (results_ct rfl _ _ w.heap.size 25 #[.bool false, .slice none 0 0] (0, 0) _ rfl (blk_put (cs := #[.bool false, .slice none 0 0]) (blk_put (cs := #[.bool false, .slice none 0 0]) B2.out 0 _ rfl) 1 _ rfl) Tryd.underlying25 rfl (by kernel_rfl)) rfl ?_
        show Res w r _ _
        rw [hrv.out]
        exact ⟨.slice none 0 0, rfl, New.nil _ _, below_set (below_set HB2.out (Nat.le_refl _)) (Nat.le_refl _)⟩
  · have d1 : decide (s.data.toList.head? = some 45) = false := decide_eq_false h1
    have d2 : decide (s.data.toList.head? = some 43) = false := decide_eq_false h2
    obtain ⟨l, hl⟩ : ∃ l, s.data.toList = l := ⟨_, rfl⟩
    obtain ⟨D, hD⟩ : ∃ D, D = s := ⟨_, rfl⟩
    subst hD
    have hds : D.size ≤ 140737488355328 := by have := HSZ.out; omega
    rw [hl] at hr
    have HD := Aside0.mk hl
    have DSZ := Aside0.mk hds
    have HRR := Aside0.mk hr
    rw [d1]
    clear hl hr hds h1 h2 d1
    go_wp2_with fail
    refine (HS.out.pre D _ _).mono ?_
    rintro e w' ⟨rfl, rfl⟩
    rw [E43.out, d2]
    clear d2
    by_cases hne : l = []
    · have ei : D.toList.isEmpty = true := by rw [Lib.toList_data, HD.out, hne]; rfl
      have el : D.toList = [] := by rw [Lib.toList_data, HD.out, hne]
      have hrv : Aside0 (r = (false, [], 9)) := ⟨by rw [HRR.out]; unfold digR; rw [if_neg (by simp [hne])]⟩
      clear hne
      go_wp2
      refine bodyPost_ret (results_ct rfl _ _ w.heap.size 25 #[.bool false, .slice none 0 0] (0, 0) _ rfl B1.out Tryd.underlying25 rfl (by kernel_rfl)) rfl ?_
      show Res w r _ _
      rw [hrv.out]
      exact ⟨.slice none 0 0, rfl, New.nil _ _, HB.out⟩

    · have ei : D.toList.isEmpty = false := by rw [Lib.toList_data, HD.out]; simpa using hne
      have el : (D.toList = []) = False := by rw [Lib.toList_data, HD.out]; exact eq_false hne
      have HNE := Aside0.mk hne
      clear hne
      go_wp2_with fail
      refine (HS.out.trim D _ (by have := DSZ.out; omega)).mono ?_
      rw [HD.out]
      rintro e w1 ⟨rfl, hb⟩
      have B2 := Aside0.mk (blk_below B1.out hb)
      have HB2 := Aside0.mk (below_step HB.out hb)
      have hta := trim_all l
      obtain ⟨tl, htl⟩ : ∃ tl, Lib.trimS l ten = tl := ⟨_, rfl⟩
      rw [htl] at hta
      rw [htl]
      obtain ⟨T, hT⟩ : ∃ T : ByteArray, (⟨tl.toArray⟩ : ByteArray) = T := ⟨_, rfl⟩
      have hT2 : T.data.toList = tl := by rw [← hT]
      rw [hT]
      clear hT hb htl
      by_cases hall : l.all isDig = true
      · have ti : T.toList.isEmpty = true := by rw [Lib.toList_data, hT2, hta.mpr hall]; rfl
        have tl' : T.toList = [] := by rw [Lib.toList_data, hT2, hta.mpr hall]
        have hrv : Aside0 (r = mk false (decv l)) := ⟨by rw [HRR.out]; unfold digR; rw [if_pos ⟨HNE.out, hall⟩]⟩
        have HALL := Aside0.mk hall
        clear hta hall hT2 B1 HB HRR
        have hcv : ∀ W, (convert 9 32 (.string D)).run Tryd.prog W = .ok (.slice (some ⟨W.heap.size, 0, none⟩) D.size (grownCap W D.size 0 5)) (Lib.bytesWorld W 5 D) := fun W => Lib.run_convert_string_bytes W _ _ _ D Tryd.underlying9 Tryd.underlying32 Tryd.underlying5
        go_wp2
        have hW1 := blk_new w1 (.cells #[.slice none 0 0] 23 (0, 0))
        have hDl : D.size = l.length := by rw [Lib.size_eq, HD.out]
        obtain ⟨W1, hW⟩ : ∃ W1, w1.alloc (.cells #[.slice none 0 0] 23 (0, 0)) = W1 := ⟨_, rfl⟩
        have hs1 : W1.heap.size = w1.heap.size + 1 := by rw [← hW, World.size_alloc]
        have hbk := blk_alloc B2.out (.cells #[.slice none 0 0] 23 (0, 0))
        have hbw := below_alloc HB2.out (.cells #[.slice none 0 0] 23 (0, 0))
        rw [hW] at hW1 hbk hbw
        rw [hW]
        have hob := Lib.bytesWorld_at_new W1 5 D
        have HCELL := Lib.hid (show ∀ W j, W.heap[W1.heap.size]? = some _ → j < D.size → W.cell? ⟨W1.heap.size, j, none⟩ = some (.int .u8 ((D.data.toList.getD j 0).toNat : Int)) from fun W j h hj => bytes_cell W1 W 5 D hob h j hj)
        obtain ⟨ob, hobe⟩ : ∃ ob, Obj.cells (Lib.bytesCells W1 5 D) 5 ((Lib.bytesCells W1 5 D).size, (Lib.bytesCells W1 5 D).size + 1) = ob := ⟨_, rfl⟩
        rw [hobe] at hob HCELL
        have hw1 := (Lib.bytesWorld_at_old W1 5 D w1.heap.size (by omega)).trans hW1
        have hbk2 := (Lib.bytesWorld_at_old W1 5 D w.heap.size (blk_lt hbk)).trans hbk
        have hbw2 := below_bytes hbw (below_size hbw) 5 D
        obtain ⟨bb, hbb⟩ : ∃ bb, W1.heap.size = bb := ⟨_, rfl⟩
        obtain ⟨bm, hbm⟩ : ∃ bm, w1.heap.size = bm := ⟨_, rfl⟩
        rw [hbb] at hob HCELL
        rw [hbm] at hw1
        have hlt1 : w.heap.size ≤ bm := by rw [← hbm]; exact below_size HB2.out
        have hlt2 : bm < bb := by omega
        have hdl0 := HD.out
        rw [hdl0] at HCELL
        clear hdl0
        have hb3 : w1.heap.size + 1 = bb := by omega
        rw [hb3, hbm]
        obtain ⟨gc, hgc⟩ : ∃ gc, grownCap W1 D.size 0 5 = gc := ⟨_, rfl⟩
        rw [hgc]
        obtain ⟨Wb, hWb⟩ : ∃ Wb, Lib.bytesWorld W1 5 D = Wb := ⟨_, rfl⟩
        rw [hWb] at hob hw1 hbk2 hbw2
        rw [hWb]
        have B3 := Aside0.mk hbk2
        have HB3 := Aside0.mk hbw2
        have HOB := Aside0.mk hob
        have HM := Aside0.mk hw1
        have HL1 := Aside0.mk hlt1
        have HL2 := Aside0.mk hlt2
        have HDL := Aside0.mk hDl
        clear hW hW1 hs1 hbk hbw hobe hw1 hbk2 hbw2 hbb hbm hlt1 hlt2 hb3 hgc hWb hob hcv hDl B2 HB2
        go_loopw [30] (fun v30 w' => ∃ i : Nat, v30 = .int .i64 i ∧ Aside0 (ParI w.heap.size bm l i w') ∧ Aside0 (w'.heap[bb]? = some ob) ∧ Aside0 (w'.heap[w.heap.size]? = some (.cells #[.bool false, .slice none 0 0] 25 (0, 0))) ∧ Aside0 (Below w.heap.size w w')) (fun v30 _ => D.size - (intOf v30).toNat)
        case atStart => exact ⟨0, rfl, ⟨⟨Nat.zero_le _, _, [], HM.out, New.nil _ _, by intro x hx; simp at hx, rfl, rfl, by simp⟩⟩, HOB, B3, HB3⟩
        case round =>
          clear B3 HB3 HOB HM
          obtain ⟨i, rfl, HI, HOB, B3, HB3⟩ := hrel
          obtain ⟨hil, v, M, hM, hN, okM, trM, magM, lenM⟩ := HI.out
          obtain ⟨Am, cm, rfl, hcm, hlm⟩ := New.lim hN
          have hdl := HDL.out
          have hsz := DSZ.out
          by_cases hi : i < D.size
          · have i0 : (0 : Int) ≤ (i : Int) := by omega
            have i1 : (i : Int) < (D.size : Int) := by omega
            have p0 := eq_true i0
            have q0 := eq_true i1
            have hcell := HCELL.out wr i HOB.out hi
            have hdg := all_getD l HALL.out i (by omega)
            obtain ⟨dg, hdge⟩ : ∃ dg, (l.getD i 0).toNat - 48 = dg := ⟨_, rfl⟩
            have hd10 : dg < 10 := by omega
            rw [show (l.getD i 0).toNat = dg + 48 by omega] at hcell
            obtain ⟨d8, hd8⟩ : ∃ d8 : Int, ((dg + 48 : Nat) : Int) = d8 := ⟨_, rfl⟩
            rw [hd8] at hcell
            have hm0 : (wr.alloc (.cells #[.int .u8 d8] 5 (0, 0))).cell? ⟨bm, 0, none⟩ = some (.slice Am M.length cm) := (blk_cell (blk_alloc hM _) 0).trans rfl
            have hb0 : (wr.alloc (.cells #[.int .u8 d8] 5 (0, 0))).cell? ⟨wr.heap.size, 0, none⟩ = some (.int .u8 ((dg + 48 : Nat) : Int)) := by rw [hd8]; exact (blk_cell (blk_new wr _) 0).trans rfl
            obtain ⟨n2, hn2⟩ : ∃ n2, M.length + 1 = n2 := ⟨_, rfl⟩
            have CALL := Lib.hid (row_parse ⟨wr.heap.size, 0, none⟩ ⟨bm, 0, none⟩ Am cm M dg n2 _ hb0 hm0 (hlm.alloc _) okM (by omega) hd10)
            have wn0 : ((M.length : Int) + 1) = (n2 : Int) := by omega
            have wn1 : IntKind.i64.wrap ((M.length : Int) + 1) = (n2 : Int) := i64_of wn0 (by omega) (by omega)
            have wn2 : wrap64 ((M.length : Int) + 1) = (n2 : Int) := w64_of wn0 (by omega) (by omega)
            have wi0 : ((i : Int) + 1) = ((i + 1 : Nat) : Int) := by omega
            have HWI := Aside0.mk wi0
            have hm63 : ((i + 1 : Nat) : Int) ≤ 9223372036854775807 := by omega
            have wi1 : IntKind.i64.wrap ((i : Int) + 1) = ((i + 1 : Nat) : Int) := i64_of wi0 (Int.le_trans (by decide) (Int.natCast_nonneg _)) hm63
            have wi2 : wrap64 ((i : Int) + 1) = ((i + 1 : Nat) : Int) := w64_of wi0 (Int.le_trans (by decide) (Int.natCast_nonneg _)) hm63
            have HM := Aside0.mk hM
            have OM := Aside0.mk okM
            have TM := Aside0.mk trM
            have MM := Aside0.mk magM
            have LM := Aside0.mk lenM
            have HN2 := Aside0.mk hn2
            have HDG := Aside0.mk hdge
            have HD10 := Aside0.mk hd10
            have HII := Aside0.mk hi
            clear hb0 wn0 wi0 hm63 hil hM hN okM trM magM lenM hcm hlm hdl hsz hi hdg hdge hd10 hd8 hn2 HI i0 i1
            go_wp2_with fail
            refine CALL.out.mono ?_
            clear CALL
            rintro e w2 ⟨v1, rfl, hn1, hb1⟩
            have hval := ten_value OM.out HD10.out
            rw [HN2.out] at hval
            have okP := pre_ok (tenF M dg) n2
            have lenP := pre_length (tenF M dg) n2
            generalize pre (tenF M dg) n2 = P at *
            obtain ⟨A1, c1, rfl, hc1, hl1⟩ := New.lim hn1
            have hbk := blk_below (blk_alloc HM.out (.cells #[.int .u8 d8] 5 (0, 0))) hb1
            have hok := blk_below (blk_alloc HOB.out (.cells #[.int .u8 d8] 5 (0, 0))) hb1
            have hrk := blk_below (blk_alloc B3.out (.cells #[.int .u8 d8] 5 (0, 0))) hb1
            have hbl := below_step (below_alloc HB3.out (.cells #[.int .u8 d8] 5 (0, 0))) hb1
            have hn1' : New w2 w.heap.size (.slice A1 P.length c1) P := New.lower hn1 (by rw [World.size_alloc]; have := below_size HB3.out; omega)
            have HNP := Aside0.mk hn1'
            have HLP := Aside0.mk hl1
            have HCP := Aside0.mk hc1
            have OP := Aside0.mk okP
            have VP := Aside0.mk hval
            have HMK := Aside0.mk hbk
            have HOK := Aside0.mk hok
            have HRK := Aside0.mk hrk
            have HBL := Aside0.mk hbl
            have hcm2 := (blk_cell hbk 0)
            have hfm2 := blk_frozen hbk 0
            clear hn1 hb1 hval okP lenP hc1 hl1 hbk hok hrk hbl hn1' hcell hm0
            go_wp2_with fail
            refine (trim_calls A1 c1 P _ HLP.out HCP.out).mono ?_
            rintro e w' ⟨rfl, ⟨nd, rfl⟩⟩
            have hcm3 : (w2.drewN nd).cell? ⟨bm, 0, none⟩ = _ := hcm2
            have hfm3 : (w2.drewN nd).frozen? ⟨bm, 0, none⟩ = false := hfm2
            have hM3 := blk_put (blk_drewN HMK.out nd) 0 (.slice A1 (tr P).length c1) rfl
            have hO3 : ((w2.drewN nd).setCell ⟨bm, 0, none⟩ (.slice A1 (tr P).length c1)).heap[bb]? = some ob := (Below.heap_setCell _ _ _ _ (by dsimp only; have := HL2.out; omega)).trans (blk_drewN HOK.out nd)
            have hne : w.heap.size ≠ bm := by
              intro h
              have h1 := HMK.out
              have h2 := HRK.out
              rw [← h, h2] at h1
              injection h1 with h1
              injection h1 with _ h1
              exact absurd h1 (by decide)
            have hR3 := blk_far (blk_drewN HRK.out nd) (p := ⟨bm, 0, none⟩) hne (.slice A1 (tr P).length c1)
            have hB3 := below_set (j := 0) (v := .slice A1 (tr P).length c1) (pw_below_drewN HBL.out nd) HL1.out
            have hN3 : New ((w2.drewN nd).setCell ⟨bm, 0, none⟩ (.slice A1 (tr P).length c1)) w.heap.size (.slice A1 (tr P).length c1) (tr P) := by
              have h1 := New.take (HNP.out) (tr P).length (tr_len_le P)
              rw [tr_take] at h1
              exact New.set23 h1 (blk_drewN HMK.out nd) 0 _
            have HM3 := Aside0.mk hM3
            have HO3 := Aside0.mk hO3
            have HR3 := Aside0.mk hR3
            have HBB3 := Aside0.mk hB3
            have HN3 := Aside0.mk hN3
            have hz0 := (cell_at hR3).1
            have hz1 := (cell_at hR3).2
            have hy0 := blk_frozen hR3 0
            have hy1 := blk_frozen hR3 1
            have HZ := Aside0.mk (And.intro hz0 (And.intro hz1 (And.intro hy0 hy1)))
            clear hM3 hO3 hR3 hB3 hN3 hne hz0 hz1 hy0 hy1
            by_cases h48 : 48 < (tr P).length
            · have t1 : decide (48 < (tr P).length) = true := decide_eq_true h48
              have t2 : decide ((48 : Int) < ((tr P).length : Int)) = true := decide_eq_true (by omega)
              have hbig := mk_big false (decv l) 0 P OP.out (by
                have h1 := decv_mono (l.take (i + 1)) (l.drop (i + 1))
                rw [List.take_append_drop] at h1
                rw [take_snoc8 l i (by have := HDL.out; have := HII.out; omega), decv_snoc, HDG.out, ← MM.out] at h1
                rw [VP.out]
                exact h1) h48
              have hrv2 : Aside0 (r = (false, [], 6)) := ⟨by rw [hrv.out, hbig]⟩
              clear hbig h48
              obtain ⟨hz0, hz1, _, _⟩ := HZ.out
              have hy0 := blk_frozen HRK.out 0
              have hy1 := blk_frozen HRK.out 1
              go_wp2
              refine bodyPost_ret (results_ct rfl _ _ w.heap.size 25 #[.bool false, .slice none 0 0] (0, 0) _ rfl (blk_put (cs := #[.bool false, .slice none 0 0]) (blk_put (cs := #[.bool false, .slice none 0 0]) HR3.out 0 _ rfl) 1 _ rfl) Tryd.underlying25 rfl (by kernel_rfl)) rfl ?_
              show Res w r _ _
              rw [hrv2.out]
              exact ⟨.slice none 0 0, rfl, New.nil _ _, below_set (below_set HBB3.out (Nat.le_refl _)) (Nat.le_refl _)⟩
            · have t1 : decide (48 < (tr P).length) = false := decide_eq_false h48
              have t2 : decide ((48 : Int) < ((tr P).length : Int)) = false := decide_eq_false (by omega)
              have H48 := Aside0.mk h48
              clear h48
              go_wp2
              go_roundw
              case rel =>
                refine ⟨i + 1, by go_num, ⟨⟨by have := HDL.out; have := HII.out; omega, _, tr P, HM3.out, HN3.out, ok_tr OP.out, tr_tr P, ?_, by have := H48.out; omega⟩⟩, HO3, HR3, HBB3⟩
                rw [mag_tr, VP.out, take_snoc8 l i (by have := HDL.out; have := HII.out; omega), decv_snoc, HDG.out, MM.out]
              case measure => have := HII.out; simp [intOf]; omega
          · have hie : i = l.length := by omega
            have hv : mag M = decv l := by rw [magM, hie, List.take_length]
            have t1 : decide (i < D.size) = false := decide_eq_false hi
            have t2 : decide ((i : Int) < (D.size : Int)) = false := decide_eq_false (by omega)
            have hmc := (blk_cell hM 0)
            have LM := Aside0.mk hlm
            have CM := Aside0.mk hcm
            have OM := Aside0.mk okM
            have VM := Aside0.mk hv
            have L48 := Aside0.mk lenM
            have HN := Aside0.mk hN
            clear hil hM hN okM trM magM lenM hcm hlm hdl hsz hi hie hv HI
            go_wp2_with fail
            refine (made_calls false Am cm M _ LM.out CM.out OM.out (by have := L48.out; omega)).mono ?_
            rw [VM.out, ← hrv.out]
            rintro e w2 ⟨v, rfl, hnew, hb⟩
            obtain ⟨Ar, cr, er, _, _⟩ := New.lim hnew
            subst er
            obtain ⟨r1, r2, r3⟩ := r
            have RN := Aside0.mk (New.lower (base' := w.heap.size) hnew (below_size HB3.out))
            have B4 := Aside0.mk (blk_below B3.out hb)
            have HB4 := Aside0.mk (below_step HB3.out hb)
            have z0 := (cell_at B4.out).1
            have z1 := (cell_at B4.out).2
            have f0 := blk_frozen B4.out 0
            have f1 := blk_frozen B4.out 1
            clear hnew hb
            go_wp2
            refine bodyPost_ret (results_ct rfl _ _ w.heap.size 25 #[.bool r1, .slice Ar r2.length cr] (0, 0) _ rfl (blk_put (cs := #[.bool r1, .slice none 0 0]) (blk_put (cs := #[.bool false, .slice none 0 0]) B4.out 0 _ rfl) 1 _ rfl) Tryd.underlying25 rfl (by kernel_rfl)) rfl ?_
            exact ⟨_, rfl, New.set (New.set RN.out B4.out 0 _) (blk_put (cs' := #[.bool r1, .slice none 0 0]) B4.out 0 _ rfl) 1 _, below_set (below_set HB4.out (Nat.le_refl _)) (Nat.le_refl _)⟩
      · have hne2 : tl ≠ [] := fun h => hall (hta.mp h)
        have ti : T.toList.isEmpty = false := by rw [Lib.toList_data, hT2]; simpa using hne2
        have tl' : (T.toList = []) = False := by rw [Lib.toList_data, hT2]; exact eq_false hne2
        have hrv : Aside0 (r = (false, [], 9)) := ⟨by rw [HRR.out]; unfold digR; rw [if_neg (fun h => hall h.2)]⟩
        have z0 := (cell_at B2.out).1
        have z1 := (cell_at B2.out).2
        have f0 := blk_frozen B2.out 0
        have f1 := blk_frozen B2.out 1
        clear hta hall hT2 hne2
        go_wp2
        refine bodyPost_ret (results_ct rfl _ _ w.heap.size 25 #[.bool false, .slice none 0 0] (0, 0) _ rfl (blk_put (cs := #[.bool false, .slice none 0 0]) (blk_put (cs := #[.bool false, .slice none 0 0]) B2.out 0 _ rfl) 1 _ rfl) Tryd.underlying25 rfl (by kernel_rfl)) rfl ?_
        show Res w r _ _
        rw [hrv.out]
        exact ⟨.slice none 0 0, rfl, New.nil _ _, below_set (below_set HB2.out (Nat.le_refl _)) (Nat.le_refl _)⟩
end Go.Proofs.YthhpnlbeniihhaaDoor.NumU
namespace Go.Proofs
open Go.Shelf
def Tryd.lays156_ren : Go.Shelf.Ren := ⟨fun | 156 => 58 | 165 => 81 | 166 => 82 | 169 => 84 | 240 => 105 | 241 => 106 | 276 => 117 | 277 => 118 | n => n, fun | 31 => 69 | 9 => 9 | 3 => 3 | 4 => 4 | 0 => 0 | 20 => 20 | 72 => 95 | 76 => 99 | 70 => 93 | 37 => 32 | 75 => 98 | 127 => 123 | 164 => 134 | 5 => 5 | 80 => 102 | n => n, fun | n => n⟩
theorem Tryd.lays156 : Go.Proofs.Lays.n156 Tryd.prog Tryd.lays156_ren := {
  mixed := by kernel_rfl
  f156 := Tryd.func58.trans (congrArg some (by kernel_rfl))
  f165 := Tryd.func81.trans (congrArg some (by kernel_rfl))
  f166 := Tryd.func82.trans (congrArg some (by kernel_rfl))
  f169 := Tryd.func84.trans (congrArg some (by kernel_rfl))
  f240 := Tryd.func105.trans (congrArg some (by kernel_rfl))
  f241 := Tryd.func106.trans (congrArg some (by kernel_rfl))
  f276 := Tryd.func117.trans (congrArg some (by kernel_rfl))
  f277 := Tryd.func118.trans (congrArg some (by kernel_rfl))
  t0 := Tryd.underlying0
  a0 := Tryd.isAgg0
  z0 := Tryd.sizeOf0
  v0 := Tryd.zeroValue0
  t3 := Tryd.underlying3
  a3 := Tryd.isAgg3
  z3 := Tryd.sizeOf3
  v3 := Tryd.zeroValue3
  t4 := Tryd.underlying4
  a4 := Tryd.isAgg4
  z4 := Tryd.sizeOf4
  v4 := Tryd.zeroValue4
  t9 := Tryd.underlying9
  a9 := Tryd.isAgg9
  z9 := Tryd.sizeOf9
  v9 := Tryd.zeroValue9
  t20 := Tryd.underlying20
  a20 := Tryd.isAgg20
  z20 := Tryd.sizeOf20
  v20 := Tryd.zeroValue20
  t31 := Tryd.underlying69
  a31 := Tryd.isAgg69
  z31 := Tryd.sizeOf69
  v31 := Tryd.zeroValue69
  t37 := Tryd.underlying32
  a37 := Tryd.isAgg32
  z37 := Tryd.sizeOf32
  v37 := Tryd.zeroValue32
  t70 := Tryd.underlying93
  a70 := Tryd.isAgg93
  z70 := Tryd.sizeOf93
  v70 := Tryd.zeroValue93
  t72 := Tryd.underlying95
  a72 := Tryd.isAgg95
  z72 := Tryd.sizeOf95
  v72 := Tryd.zeroValue95
  t75 := Tryd.underlying98
  a75 := Tryd.isAgg98
  z75 := Tryd.sizeOf98
  v75 := Tryd.zeroValue98
  t76 := Tryd.underlying99
  a76 := Tryd.isAgg99
  z76 := Tryd.sizeOf99
  v76 := Tryd.zeroValue99
  t127 := Tryd.underlying123
  a127 := Tryd.isAgg123
  z127 := Tryd.sizeOf123
  v127 := Tryd.zeroValue123
  t164 := Tryd.underlying134
  a164 := Tryd.isAgg134
  z164 := Tryd.sizeOf134
  v164 := Tryd.zeroValue134 }
theorem Tryd.Builder_Extra_156 : Builder.Extra Tryd.prog Tryd.lays156_ren := {
  sizeBuilder := by kernel_rfl
  liesBuilder := by kernel_rfl
  t5 := Tryd.underlying5
  a5 := Tryd.isAgg5
  z5 := Tryd.sizeOf5
  v5 := Tryd.zeroValue5
  infoByte := by kernel_rfl
  cellsByte := by kernel_rfl
  sizeByte := by kernel_rfl
  neB5 := by decide }
open Go.RowKit in
/-- strings.Join: "Join concatenates the elements of its first argument to create a single string. The separator string sep is placed between elements in the resulting string.": HOWEVER MANY ELEMENTS. Below the heap's end the world is as it was. (LAID: no walk: one application.) -/
theorem Tryd.strings_Join (bk o c : Nat) (xs : List ByteArray) (sep : ByteArray) (w : World) (hcells : ∀ (j : Nat) x, xs[j]? = some x → w.cell? ⟨bk, o + j, none⟩ = some (.string x)) (hbk : bk < w.heap.size) (hN : xs.length ≤ 140737488355328) (hcap : xs.length ≤ c) (hlen : (Lib.join (xs.map (·.data.toList)) sep.data.toList).length ≤ 140737488355328) :
    Calls Tryd.prog 58 #[.slice (some ⟨bk, o, none⟩) xs.length c, .string sep] w fun e w' => e = .returned (.string ⟨(Lib.join (xs.map (·.data.toList)) sep.data.toList).toArray⟩) ∧ Below w.heap.size w w' := Any.strings_Join Tryd.lays156 Tryd.Builder_Extra_156 bk o c xs sep w hcells hbk hN hcap hlen
def Tryd.lays160_ren : Go.Shelf.Ren := ⟨fun | 160 => 64 | 232 => 88 | 231 => 87 | 227 => 89 | 234 => 91 | 233 => 90 | 236 => 93 | 235 => 92 | 228 => 107 | 271 => 110 | 151 => 109 | 197 => 108 | 120 => 121 | 152 => 120 | 260 => 119 | 137 => 124 | 119 => 125 | 224 => 126 | 225 => 127 | 217 => 128 | 266 => 129 | n => n, fun | 9 => 9 | 4 => 4 | 3 => 3 | 5 => 5 | 117 => 107 | 116 => 106 | 0 => 0 | 124 => 110 | 21 => 21 | 105 => 125 | 46 => 66 | 119 => 138 | 139 => 141 | 138 => 140 | n => n, fun | 3 => 2 | 4 => 3 | n => n⟩
theorem Tryd.lays160 : Go.Proofs.Lays.n160 Tryd.prog Tryd.lays160_ren := {
  mixed := by kernel_rfl
  f119 := Tryd.func125.trans (congrArg some (by kernel_rfl))
  f120 := Tryd.func121.trans (congrArg some (by kernel_rfl))
  f137 := Tryd.func124.trans (congrArg some (by kernel_rfl))
  f151 := Tryd.func109.trans (congrArg some (by kernel_rfl))
  f152 := Tryd.func120.trans (congrArg some (by kernel_rfl))
  f160 := Tryd.func64.trans (congrArg some (by kernel_rfl))
  f197 := Tryd.func108.trans (congrArg some (by kernel_rfl))
  f217 := Tryd.func128.trans (congrArg some (by kernel_rfl))
  f224 := Tryd.func126.trans (congrArg some (by kernel_rfl))
  f225 := Tryd.func127.trans (congrArg some (by kernel_rfl))
  f227 := Tryd.func89.trans (congrArg some (by kernel_rfl))
  f228 := Tryd.func107.trans (congrArg some (by kernel_rfl))
  f231 := Tryd.func87.trans (congrArg some (by kernel_rfl))
  f232 := Tryd.func88.trans (congrArg some (by kernel_rfl))
  f233 := Tryd.func90.trans (congrArg some (by kernel_rfl))
  f234 := Tryd.func91.trans (congrArg some (by kernel_rfl))
  f235 := Tryd.func92.trans (congrArg some (by kernel_rfl))
  f236 := Tryd.func93.trans (congrArg some (by kernel_rfl))
  f260 := Tryd.func119.trans (congrArg some (by kernel_rfl))
  f266 := Tryd.func129.trans (congrArg some (by kernel_rfl))
  f271 := Tryd.func110.trans (congrArg some (by kernel_rfl))
  t0 := Tryd.underlying0
  a0 := Tryd.isAgg0
  z0 := Tryd.sizeOf0
  v0 := Tryd.zeroValue0
  t3 := Tryd.underlying3
  a3 := Tryd.isAgg3
  z3 := Tryd.sizeOf3
  v3 := Tryd.zeroValue3
  t4 := Tryd.underlying4
  a4 := Tryd.isAgg4
  z4 := Tryd.sizeOf4
  v4 := Tryd.zeroValue4
  t5 := Tryd.underlying5
  a5 := Tryd.isAgg5
  z5 := Tryd.sizeOf5
  v5 := Tryd.zeroValue5
  t9 := Tryd.underlying9
  a9 := Tryd.isAgg9
  z9 := Tryd.sizeOf9
  v9 := Tryd.zeroValue9
  t21 := Tryd.underlying21
  a21 := Tryd.isAgg21
  z21 := Tryd.sizeOf21
  v21 := Tryd.zeroValue21
  t46 := Tryd.underlying66
  a46 := Tryd.isAgg66
  z46 := Tryd.sizeOf66
  v46 := Tryd.zeroValue66
  t105 := Tryd.underlying125
  a105 := Tryd.isAgg125
  z105 := Tryd.sizeOf125
  v105 := Tryd.zeroValue125
  t116 := Tryd.underlying106
  a116 := Tryd.isAgg106
  z116 := Tryd.sizeOf106
  t117 := Tryd.underlying107
  a117 := Tryd.isAgg107
  z117 := Tryd.sizeOf107
  v117 := Tryd.zeroValue107
  t119 := Tryd.underlying138
  a119 := Tryd.isAgg138
  z119 := Tryd.sizeOf138
  t124 := Tryd.underlying110
  a124 := Tryd.isAgg110
  z124 := Tryd.sizeOf110
  v124 := Tryd.zeroValue110
  t138 := Tryd.underlying140
  a138 := Tryd.isAgg140
  z138 := Tryd.sizeOf140
  v138 := Tryd.zeroValue140
  t139 := Tryd.underlying141
  a139 := Tryd.isAgg141
  z139 := Tryd.sizeOf141
  v139 := Tryd.zeroValue141
  g3 := by kernel_rfl
  g4 := by kernel_rfl }
def Tryd.lays283_ren : Go.Shelf.Ren := ⟨fun | 283 => 99 | n => n, fun | 3 => 3 | 9 => 9 | 4 => 4 | n => n, fun | n => n⟩
theorem Tryd.lays283 : Go.Proofs.Lays.n283 Tryd.prog Tryd.lays283_ren := {
  mixed := by kernel_rfl
  f283 := Tryd.func99.trans (congrArg some (by kernel_rfl))
  t3 := Tryd.underlying3
  a3 := Tryd.isAgg3
  z3 := Tryd.sizeOf3
  v3 := Tryd.zeroValue3
  t4 := Tryd.underlying4
  a4 := Tryd.isAgg4
  z4 := Tryd.sizeOf4
  v4 := Tryd.zeroValue4
  t9 := Tryd.underlying9
  a9 := Tryd.isAgg9
  z9 := Tryd.sizeOf9
  v9 := Tryd.zeroValue9 }
open Go.Lib in
/-- internal/strconv.small: "small returns the string for an i with 0 <= i < nSmalls.": i's decimal numeral. The world is as it was. (LAID: no walk: one application.) -/
theorem Tryd.internal_strconv_small (i : Nat) (h : i < 100) (w : World) :
    Calls Tryd.prog 99 #[.int .i64 i] w fun e w' => e = .returned (.string ⟨(Lib.decDigits i).toArray⟩) ∧ w' = w := Any.internal_strconv_small Tryd.lays283 i h w
def Tryd.laysM284_ren : Go.Shelf.Ren := ⟨fun | 284 => 100 | 129 => 113 | 317 => 112 | 318 => 114 | n => n, fun | 53 => 64 | 3 => 3 | 212 => 131 | 0 => 0 | 4 => 4 | 46 => 66 | 5 => 5 | 9 => 9 | n => n, fun | 17 => 0 | n => n⟩
theorem Tryd.laysM284 : Go.Proofs.LaysM.n284 Tryd.prog Tryd.laysM284_ren := {
  mixed := by kernel_rfl
  f129 := Tryd.func113.trans (congrArg some (by kernel_rfl))
  f284 := Tryd.func100.trans (congrArg some (by kernel_rfl))
  f317 := Tryd.func112.trans (congrArg some (by kernel_rfl))
  f318 := Tryd.func114.trans (congrArg some (by kernel_rfl))
  t0 := Tryd.underlying0
  a0 := Tryd.isAgg0
  z0 := Tryd.sizeOf0
  v0 := Tryd.zeroValue0
  t3 := Tryd.underlying3
  a3 := Tryd.isAgg3
  z3 := Tryd.sizeOf3
  v3 := Tryd.zeroValue3
  t4 := Tryd.underlying4
  a4 := Tryd.isAgg4
  z4 := Tryd.sizeOf4
  v4 := Tryd.zeroValue4
  t5 := Tryd.underlying5
  a5 := Tryd.isAgg5
  z5 := Tryd.sizeOf5
  v5 := Tryd.zeroValue5
  t9 := Tryd.underlying9
  a9 := Tryd.isAgg9
  z9 := Tryd.sizeOf9
  v9 := Tryd.zeroValue9
  t46 := Tryd.underlying66
  a46 := Tryd.isAgg66
  z46 := Tryd.sizeOf66
  v46 := Tryd.zeroValue66
  t53 := Tryd.underlying64
  a53 := Tryd.isAgg64
  z53 := Tryd.sizeOf64
  v53 := Tryd.zeroValue64
  t212 := Tryd.underlying131
  a212 := Tryd.isAgg131
  z212 := Tryd.sizeOf131
  v212 := Tryd.zeroValue131
  g17 := by kernel_rfl
  i0 := by kernel_rfl
  i3 := by kernel_rfl
  i4 := by kernel_rfl
  i5 := by kernel_rfl
  i9 := by kernel_rfl
  i46 := by kernel_rfl
  i53 := by kernel_rfl
  i212 := by kernel_rfl
  m17 := by kernel_rfl }
open Go.Lib in
/-- internal/strconv.numDigits, at a d that is not 0: THE NUMBER OF d's DECIMAL DIGITS. The world is as it was. (LAID: no walk: one application.) -/
theorem Tryd.internal_strconv_numDigits (u : Nat) (h1 : 1 ≤ u) (h2 : u < 18446744073709551616) (w : World) (htab : Lib.TabIs Tryd.prog w "internal/strconv.uint64pow10" .u64 Lib.pow10Tab) :
    Calls Tryd.prog 100 #[.int .u64 u] w fun e w' => e = .returned (.int .i64 (Lib.nDigits u)) ∧ w' = w := Any.internal_strconv_numDigits Tryd.laysM284 u h1 h2 w htab
def Tryd.lays285_ren : Go.Shelf.Ren := ⟨fun | 285 => 101 | n => n, fun | 37 => 32 | 53 => 64 | 3 => 3 | 4 => 4 | 51 => 63 | 9 => 9 | 5 => 5 | 0 => 0 | n => n, fun | n => n⟩
theorem Tryd.lays285 : Go.Proofs.Lays.n285 Tryd.prog Tryd.lays285_ren := {
  mixed := by kernel_rfl
  f285 := Tryd.func101.trans (congrArg some (by kernel_rfl))
  t0 := Tryd.underlying0
  a0 := Tryd.isAgg0
  z0 := Tryd.sizeOf0
  v0 := Tryd.zeroValue0
  t3 := Tryd.underlying3
  a3 := Tryd.isAgg3
  z3 := Tryd.sizeOf3
  v3 := Tryd.zeroValue3
  t4 := Tryd.underlying4
  a4 := Tryd.isAgg4
  z4 := Tryd.sizeOf4
  v4 := Tryd.zeroValue4
  t5 := Tryd.underlying5
  a5 := Tryd.isAgg5
  z5 := Tryd.sizeOf5
  v5 := Tryd.zeroValue5
  t9 := Tryd.underlying9
  a9 := Tryd.isAgg9
  z9 := Tryd.sizeOf9
  v9 := Tryd.zeroValue9
  t37 := Tryd.underlying32
  a37 := Tryd.isAgg32
  z37 := Tryd.sizeOf32
  v37 := Tryd.zeroValue32
  t51 := Tryd.underlying63
  a51 := Tryd.isAgg63
  z51 := Tryd.sizeOf63
  v51 := Tryd.zeroValue63
  t53 := Tryd.underlying64
  a53 := Tryd.isAgg64
  z53 := Tryd.sizeOf64
  v53 := Tryd.zeroValue64 }
open Go.RowKit Go.Sort Go.Lib in
/-- internal/strconv.formatBase10: "formatBase10 formats the decimal representation of u into a. The caller is responsible for ensuring that a is big enough to hold u. If a is too big, leading zeros will be filled in as needed.": THE ROW HOLDS u's DIGITS ('FmtInv .. 0 ..': every place t holds 'dg u (len - 1 - t)'); all else is as it was but for the count of draws. (LAID: no walk: one application.) -/
theorem Tryd.internal_strconv_formatBase10 (blk off cap : Nat) (u : Nat) (d : Array UInt8) (w : World) (hH : Holds (fun (b : UInt8) => Value.int .u8 (b.toNat : Int)) w blk off d) (hu : u < 10 ^ d.size) (hu64 : u < 18446744073709551616) (hsz : d.size < 4611686018427387904) :
    Calls Tryd.prog 101 #[.slice (some ⟨blk, off, none⟩) d.size cap, .int .u64 u] w fun e w' =>
      e = .returned (.tuple #[]) ∧ ∃ (n v' : Nat) (dk : Array UInt8), w' = (putRow (fun (b : UInt8) => Value.int .u8 (b.toNat : Int)) w blk off dk).drewN n ∧ FmtInv d.size u 0 v' dk := Any.internal_strconv_formatBase10 Tryd.lays285 blk off cap u d w hH hu hu64 hsz
def Tryd.lays99_ren : Go.Shelf.Ren := ⟨fun | 99 => 63 | 206 => 86 | n => n, fun | 9 => 9 | 4 => 4 | 3 => 3 | n => n, fun | n => n⟩
theorem Tryd.lays99 : Go.Proofs.Lays.n99 Tryd.prog Tryd.lays99_ren := {
  mixed := by kernel_rfl
  f99 := Tryd.func63.trans (congrArg some (by kernel_rfl))
  f206 := Tryd.func86.trans (congrArg some (by kernel_rfl))
  t3 := Tryd.underlying3
  a3 := Tryd.isAgg3
  z3 := Tryd.sizeOf3
  v3 := Tryd.zeroValue3
  t4 := Tryd.underlying4
  a4 := Tryd.isAgg4
  z4 := Tryd.sizeOf4
  v4 := Tryd.zeroValue4
  t9 := Tryd.underlying9
  a9 := Tryd.isAgg9
  z9 := Tryd.sizeOf9
  v9 := Tryd.zeroValue9 }
open Go.RowKit Go.Lib in
/-- strings.HasPrefix: "HasPrefix reports whether the string s begins with prefix.": IT RETURNS 'Lib.hasPrefix s prefix'; the world is as it was. (LAID: no walk: one application.) -/
theorem Tryd.strings_HasPrefix (s p : ByteArray) (w : World) :
    Calls Tryd.prog 63 #[.string s, .string p] w fun e w' => e = .returned (.bool (Lib.hasPrefix s.data.toList p.data.toList)) ∧ w' = w := Any.strings_HasPrefix Tryd.lays99 s p w
def Tryd.lays105_ren : Go.Shelf.Ren := ⟨fun | 105 => 56 | 212 => 80 | 99 => 63 | 165 => 81 | 166 => 82 | 170 => 83 | 169 => 84 | 263 => 103 | 264 => 104 | 206 => 86 | 240 => 105 | 241 => 106 | 276 => 117 | 277 => 118 | n => n, fun | 9 => 9 | 3 => 3 | 4 => 4 | 20 => 20 | 0 => 0 | 46 => 66 | 109 => 91 | 5 => 5 | 72 => 95 | 76 => 99 | 51 => 63 | 146 => 119 | 53 => 64 | 148 => 121 | 70 => 93 | 37 => 32 | 75 => 98 | 127 => 123 | 164 => 134 | 80 => 102 | n => n, fun | n => n⟩
theorem Tryd.lays105 : Go.Proofs.Lays.n105 Tryd.prog Tryd.lays105_ren := {
  mixed := by kernel_rfl
  f99 := Tryd.func63.trans (congrArg some (by kernel_rfl))
  f105 := Tryd.func56.trans (congrArg some (by kernel_rfl))
  f165 := Tryd.func81.trans (congrArg some (by kernel_rfl))
  f166 := Tryd.func82.trans (congrArg some (by kernel_rfl))
  f169 := Tryd.func84.trans (congrArg some (by kernel_rfl))
  f170 := Tryd.func83.trans (congrArg some (by kernel_rfl))
  f206 := Tryd.func86.trans (congrArg some (by kernel_rfl))
  f212 := Tryd.func80.trans (congrArg some (by kernel_rfl))
  f240 := Tryd.func105.trans (congrArg some (by kernel_rfl))
  f241 := Tryd.func106.trans (congrArg some (by kernel_rfl))
  f263 := Tryd.func103.trans (congrArg some (by kernel_rfl))
  f264 := Tryd.func104.trans (congrArg some (by kernel_rfl))
  f276 := Tryd.func117.trans (congrArg some (by kernel_rfl))
  f277 := Tryd.func118.trans (congrArg some (by kernel_rfl))
  t0 := Tryd.underlying0
  a0 := Tryd.isAgg0
  z0 := Tryd.sizeOf0
  v0 := Tryd.zeroValue0
  t3 := Tryd.underlying3
  a3 := Tryd.isAgg3
  z3 := Tryd.sizeOf3
  v3 := Tryd.zeroValue3
  t4 := Tryd.underlying4
  a4 := Tryd.isAgg4
  z4 := Tryd.sizeOf4
  v4 := Tryd.zeroValue4
  t5 := Tryd.underlying5
  a5 := Tryd.isAgg5
  z5 := Tryd.sizeOf5
  v5 := Tryd.zeroValue5
  t9 := Tryd.underlying9
  a9 := Tryd.isAgg9
  z9 := Tryd.sizeOf9
  v9 := Tryd.zeroValue9
  t20 := Tryd.underlying20
  a20 := Tryd.isAgg20
  z20 := Tryd.sizeOf20
  v20 := Tryd.zeroValue20
  t37 := Tryd.underlying32
  a37 := Tryd.isAgg32
  z37 := Tryd.sizeOf32
  v37 := Tryd.zeroValue32
  t46 := Tryd.underlying66
  a46 := Tryd.isAgg66
  z46 := Tryd.sizeOf66
  v46 := Tryd.zeroValue66
  t51 := Tryd.underlying63
  a51 := Tryd.isAgg63
  z51 := Tryd.sizeOf63
  v51 := Tryd.zeroValue63
  t53 := Tryd.underlying64
  a53 := Tryd.isAgg64
  z53 := Tryd.sizeOf64
  v53 := Tryd.zeroValue64
  t70 := Tryd.underlying93
  a70 := Tryd.isAgg93
  z70 := Tryd.sizeOf93
  v70 := Tryd.zeroValue93
  t72 := Tryd.underlying95
  a72 := Tryd.isAgg95
  z72 := Tryd.sizeOf95
  v72 := Tryd.zeroValue95
  t75 := Tryd.underlying98
  a75 := Tryd.isAgg98
  z75 := Tryd.sizeOf98
  v75 := Tryd.zeroValue98
  t76 := Tryd.underlying99
  a76 := Tryd.isAgg99
  z76 := Tryd.sizeOf99
  v76 := Tryd.zeroValue99
  t109 := Tryd.underlying91
  a109 := Tryd.isAgg91
  z109 := Tryd.sizeOf91
  v109 := Tryd.zeroValue91
  t127 := Tryd.underlying123
  a127 := Tryd.isAgg123
  z127 := Tryd.sizeOf123
  v127 := Tryd.zeroValue123
  t146 := Tryd.underlying119
  a146 := Tryd.isAgg119
  z146 := Tryd.sizeOf119
  v146 := Tryd.zeroValue119
  t148 := Tryd.underlying121
  a148 := Tryd.isAgg121
  z148 := Tryd.sizeOf121
  v148 := Tryd.zeroValue121
  t164 := Tryd.underlying134
  a164 := Tryd.isAgg134
  z164 := Tryd.sizeOf134
  v164 := Tryd.zeroValue134 }
theorem Tryd.Builder_Extra_105 : Builder.Extra Tryd.prog Tryd.lays105_ren := {
  sizeBuilder := by kernel_rfl
  liesBuilder := by kernel_rfl
  t5 := Tryd.underlying5
  a5 := Tryd.isAgg5
  z5 := Tryd.sizeOf5
  v5 := Tryd.zeroValue5
  infoByte := by kernel_rfl
  cellsByte := by kernel_rfl
  sizeByte := by kernel_rfl
  neB5 := by decide }
open Go.RowKit Go.Lib in
/-- **strings.Repeat: count ≥ 0, the result within one allocation: count copies of s.** (LAID: no walk: one application.) -/
theorem Tryd.strings_Repeat (s : ByteArray) (c : Nat) (w : World) (hc : c ≤ 9223372036854775807) (hlen : s.size * c ≤ 140737488355328) :
    Calls Tryd.prog 56 #[.string s, .int .i64 c] w fun e w' => e = .returned (.string ⟨(Lib.repeatL s.data.toList c).toArray⟩) ∧ Below w.heap.size w w' := Any.strings_Repeat Tryd.lays105 Tryd.Builder_Extra_105 s c w hc hlen
def Tryd.laysNm217_ren : Go.Shelf.Ren := ⟨fun | 17 => 57 | n => n, fun | 24 => 69 | 9 => 9 | 3 => 3 | 4 => 4 | 0 => 0 | n => n, fun | n => n⟩
theorem Tryd.laysNm217 : Go.Proofs.Lays2.n17 Tryd.prog Tryd.laysNm217_ren := {
  mixed := by kernel_rfl
  f17 := Tryd.func57.trans (congrArg some (by kernel_rfl))
  t0 := Tryd.underlying0
  a0 := Tryd.isAgg0
  z0 := Tryd.sizeOf0
  v0 := Tryd.zeroValue0
  t3 := Tryd.underlying3
  a3 := Tryd.isAgg3
  z3 := Tryd.sizeOf3
  v3 := Tryd.zeroValue3
  t4 := Tryd.underlying4
  a4 := Tryd.isAgg4
  z4 := Tryd.sizeOf4
  v4 := Tryd.zeroValue4
  t9 := Tryd.underlying9
  a9 := Tryd.isAgg9
  z9 := Tryd.sizeOf9
  v9 := Tryd.zeroValue9
  t24 := Tryd.underlying69
  a24 := Tryd.isAgg69
  z24 := Tryd.sizeOf69
  v24 := Tryd.zeroValue69 }
open Go.RowKit Go.Lib Go.Sort in
/-- slices.Reverse at []string: "Reverse reverses the elements of the slice in place.": THE SLICE's CELLS HOLD 'zs.reverse' BEHIND THE CALL; all else is as it was, but for the count of draws (the exchange 's[i], s[j] = s[j], s[i]' draws its order, once a round). IN THE WORDS OF slices.Sort's CONTRACT: 'Holds': the cells hold zs and none is frozen; 'putRow': the world with those cells holding another array. A slice of length 0 that is not nil is among them ('zs = []'); nil: '.._nil'. (LAID: no walk: one application.) -/
theorem Tryd.slices_Reverse_string (blk off cap : Nat) (zs : List (List UInt8)) (w : World) (hH : Holds encStr w blk off zs.toArray) (hsz : zs.length ≤ 9223372036854775807) :
    Calls Tryd.prog 57 #[.slice (some ⟨blk, off, none⟩) zs.length cap] w fun e w' => e = .returned (.tuple #[]) ∧ ∃ n, w' = putRow encStr (Sort.ahead w n) blk off zs.reverse.toArray := Any.slices_Reverse_string Tryd.laysNm217 blk off cap zs w hH hsz
end Go.Proofs
namespace Go.Proofs.YthhpnlbeniihhaaDoor.NumV
open Go.Shelf Go.RowKit Go.Sort Go.Lib
set_option linter.unusedVariables false
set_option linter.unusedSimpArgs false
/-- The table of powers of ten lies in memory. -/
def Tab (w : World) : Prop := Lib.TabIs Tryd.prog w "internal/strconv.uint64pow10" .u64 Lib.pow10Tab
set_option maxHeartbeats 6400000 in
set_option maxRecDepth 100000 in
theorem format_inner (u : Nat) (hu64 : u < 18446744073709551616) (w : World) (htab : Tab w) :
    Calls Tryd.prog 79 #[.int .u64 u, .int .i64 10] w fun e w' => e = .returned (.string ⟨(Lib.decDigits u).toArray⟩) ∧ ∃ k os, w' = grow (w.drewN k) os := by
  by_cases hs : u < 100
  · have t0 : decide (u < 100) = true := decide_eq_true hs
    have t1 : decide ((u : Int) < 100) = true := decide_eq_true (by omega)
    have w0 : IntKind.i64.wrap (u : Int) = (u : Int) := by rw [IntKind.wrap_i64]; omega
    go_enter Tryd.func79, Tryd.ntmps79
    go_wp2_with (first | (go_at_call 99; refine (Tryd.internal_strconv_small u hs _).mono ?_; rintro e w' ⟨rfl, rfl⟩))
    go_ret
    exact ⟨rfl, 0, #[], by simp [World.drewN_zero]⟩
  · have hu1 : 1 ≤ u := by omega
    have hnd20 : Lib.nDigits u ≤ 20 := by have := Lib.numDigits_eq u hu1 hu64; split at this <;> omega
    have hb3 : Lib.nDigits u ≤ 23 := by omega
    have t0 : decide (u < 100) = false := decide_eq_false hs
    have t1 : decide ((u : Int) < 100) = false := decide_eq_false (by omega)
    have hal : Tryd.prog.arrayLen 114 = 24 := by kernel_rfl
    have hsl1 : ∀ W, (Instr.sliceAt 114 (.pointer (some ⟨w.heap.size, 0, none⟩)) none (some (.int .i64 (Lib.nDigits u : Int))) none).run Tryd.prog W = .ok (.slice (some ⟨w.heap.size, 0, none⟩) (Lib.nDigits u) 24) W := fun W => by
      rw [run_sliceAt_array_h W 114 ⟨w.heap.size, 0, none⟩ (by simp [Program.arrayLen, Program.elem, Tryd.underlying114]) .i64 (Lib.nDigits u : Int) (by omega) (by rw [hal]; omega)]
      go_simp
    have hH0 := Lib.holds_zero0 w 114 (Lib.nDigits u) (by omega)
    have hfmt := Tryd.internal_strconv_formatBase10 w.heap.size 0 24 u (Array.replicate (Lib.nDigits u) 0) (w.alloc (.cells Lib.zeros24 114)) hH0 (by rw [Array.size_replicate]; exact Lib.lt_pow_nDigits u) hu64 (by rw [Array.size_replicate]; omega)
    rw [Array.size_replicate] at hfmt
    have HH0 := Lib.hid hH0
    clear hH0 hal
    go_enter Tryd.func79, Tryd.ntmps79
    go_wp2_with (first | (go_at_call 100; refine (Tryd.internal_strconv_numDigits u hu1 hu64 _ (Lib.tabIs_alloc htab _)).mono ?_; rintro e w' ⟨rfl, rfl⟩))
    refine hfmt.mono ?_
    rintro e w' ⟨rfl, k, v', dk, rfl, hF⟩
    have hcv : (convert 32 9 (.slice (some ⟨w.heap.size, 0, none⟩) (Lib.nDigits u) 24)).run Tryd.prog ((putRow (fun (b : UInt8) => Value.int .u8 (b.toNat : Int)) (w.alloc (.cells Lib.zeros24 114)) w.heap.size 0 dk).drewN k) = .ok (.string ⟨(Lib.decDigits u).toArray⟩) ((putRow (fun (b : UInt8) => Value.int .u8 (b.toNat : Int)) (w.alloc (.cells Lib.zeros24 114)) w.heap.size 0 dk).drewN k) := by
      have h := run_convert_bytes_back (P := Tryd.prog) ((putRow (fun (b : UInt8) => Value.int .u8 (b.toNat : Int)) (w.alloc (.cells Lib.zeros24 114)) w.heap.size 0 dk).drewN k) 32 9 5 ⟨w.heap.size, 0, none⟩ 24 (Lib.decDigits u) Tryd.underlying32 Tryd.underlying5 Tryd.underlying9 (fun j hj => by
        rw [Lib.row_is_numeral hF j hj, Lib.add_plain, World.cell?_drewN]
        exact cell?_putRow (fun (b : UInt8) => Value.int .u8 (b.toNat : Int)) _ w.heap.size 0 _ dk HH0.out (by rw [hF.size, Array.size_replicate]) j (by rw [hF.size]; rw [Lib.decDigits_length] at hj; exact hj))
      rw [Lib.decDigits_length] at h
      exact h
    go_wp2
    go_ret
    obtain ⟨os, eo⟩ := Lib.fin_at w (.cells Lib.zeros24 114) dk k 0
    exact ⟨rfl, k, os, eo⟩
set_option maxRecDepth 100000 in
theorem format_calls (u : Nat) (hu64 : u < 18446744073709551616) (w : World) (htab : Tab w) :
    Calls Tryd.prog 55 #[.int .u64 u, .int .i64 10] w fun e w' => e = .returned (.string ⟨(Lib.decDigits u).toArray⟩) ∧ Below w.heap.size w w' := by
  go_enter Tryd.func55, Tryd.ntmps55
  go_wp2_with fail
  refine (format_inner u hu64 _ htab).mono ?_
  rintro e w' ⟨rfl, k, os, rfl⟩
  go_wp2
  go_ret
  exact ⟨rfl, Lib.below_grow _ _ (Nat.le_refl _) _ _⟩
theorem Tab.below {w w1 : World} (h : Tab w) (hb : Below w.heap.size w w1) : Tab w1 := by
  unfold Tab Lib.TabIs World.var? at *
  cases hg : Tryd.prog.globalNamed "internal/strconv.uint64pow10" with
  | none => simp [hg] at h
  | some g =>
    simp only [hg, Option.bind_some] at h ⊢
    have hlt : g < w.heap.size := by
      rcases Nat.lt_or_ge g w.heap.size with h' | h'
      · exact h'
      · rw [Array.getElem?_eq_none h'] at h; simp at h
    rw [hb.block g hlt]
    exact h
theorem strs : Go.Proofs.YthhpnlbeniihhaaDoor.NumU.Strs := by
  refine ⟨fun s p w => Tryd.strings_HasPrefix s p w, fun s w hs => ?_⟩
  exact Any.strings_Trim_ascii Tryd.lays160 (fun w => by kernel_rfl) (by kernel_rfl) s ⟨#[48, 49, 50, 51, 52, 53, 54, 55, 56, 57]⟩ w hs (by decide) (by
    intro j b h
    have h2 : b ∈ ([48, 49, 50, 51, 52, 53, 54, 55, 56, 57] : List UInt8) := List.mem_of_getElem? h
    simp only [List.mem_cons, List.mem_nil_iff, or_false] at h2
    rcases h2 with rfl | rfl | rfl | rfl | rfl | rfl | rfl | rfl | rfl | rfl <;> decide)
end Go.Proofs.YthhpnlbeniihhaaDoor.NumV
namespace Go.Proofs.YthhpnlbeniihhaaDoor.Text
open Go.Proofs.YthhpnlbeniihhaaDoor.Limb Go.Proofs.YthhpnlbeniihhaaDoor.NumA Go.Proofs.YthhpnlbeniihhaaDoor.NumE Go.Proofs.YthhpnlbeniihhaaDoor.NumG Go.Lib
set_option linter.unusedVariables false
set_option linter.unusedSimpArgs false
/-- The last k decimal digits. -/
def pad : Nat → Nat → List UInt8
  | 0, _ => []
  | k + 1, r => pad k (r / 10) ++ [UInt8.ofNat (48 + r % 10)]
theorem dec_small {u : Nat} (h : u < 10) : decDigits u = [UInt8.ofNat (48 + u)] := by rw [decDigits, dif_pos h]
theorem dec_big {u : Nat} (h : ¬ u < 10) : decDigits u = decDigits (u / 10) ++ [UInt8.ofNat (48 + u % 10)] := by rw [decDigits, dif_neg h]
theorem dec_split (k q r : Nat) (hq : 0 < q) (hr : r < 10 ^ k) : decDigits (10 ^ k * q + r) = decDigits q ++ pad k r := by
  induction k generalizing r with
  | zero =>
    have : r = 0 := by simpa using hr
    subst this
    simp [pad]
  | succ k ih =>
    have hp : 0 < 10 ^ k := Nat.pow_pos (by decide)
    have e : 10 ^ (k + 1) * q = 10 * (10 ^ k * q) := by rw [Nat.pow_succ, Nat.mul_comm (10 ^ k) 10, Nat.mul_assoc]
    have h1 : 1 ≤ 10 ^ k * q := Nat.mul_pos hp hq
    have hr2 : r / 10 < 10 ^ k := by rw [Nat.pow_succ] at hr; omega
    have h2 := ih (r / 10) hr2
    rw [e]
    generalize 10 ^ k * q = z at *
    rw [dec_big (by omega), show (10 * z + r) / 10 = z + r / 10 by omega, h2, show (10 * z + r) % 10 = r % 10 by omega, pad, List.append_assoc]
theorem pad_dec (k r : Nat) (hr : r < 10 ^ (k + 1)) : (decDigits r).length ≤ k + 1 ∧ pad (k + 1) r = List.replicate (k + 1 - (decDigits r).length) 48 ++ decDigits r := by
  induction k generalizing r with
  | zero =>
    have h : r < 10 := by simpa using hr
    rw [dec_small h]
    refine ⟨by simp, ?_⟩
    simp [pad, Nat.mod_eq_of_lt h]
  | succ k ih =>
    by_cases h : r < 10
    · rw [dec_small h]
      refine ⟨by simp, ?_⟩
      obtain ⟨h1, h2⟩ := ih (r / 10) (by rw [Nat.pow_succ] at hr; omega)
      have e0 : r / 10 = 0 := by omega
      rw [e0] at h2
      rw [pad, e0, h2, dec_small (by decide), Nat.mod_eq_of_lt h]
      simp only [List.length_singleton]
      rw [show k + 1 + 1 - 1 = (k + 1 - 1) + 1 by omega, List.replicate_succ']
      rfl
    · obtain ⟨h1, h2⟩ := ih (r / 10) (by rw [Nat.pow_succ] at hr; omega)
      rw [dec_big h, pad, h2]
      refine ⟨by simp; omega, ?_⟩
      rw [List.length_append, List.length_singleton, List.append_assoc]
      congr 2
      omega
/-- What is left of the parts, the lowest first: their bytes, the highest first. -/
def cat (ps : List (List UInt8)) : List UInt8 := ps.reverse.flatten
theorem cat_snoc (ps : List (List UInt8)) (p : List UInt8) : cat (ps ++ [p]) = p ++ cat ps := by
  unfold cat
  rw [List.reverse_append]
  simp
/-- The state of a text's making: v still to be told, the parts told, of a number n. -/
def TextSt (n v : Nat) (ps : List (List UInt8)) : Prop :=
  (∀ p ∈ ps, p.length ≤ 9) ∧ v * 2 ^ (29 * ps.length) ≤ n ∧ if v = 0 then (ps = [] ∧ n = 0) ∨ (ps ≠ [] ∧ 0 < n ∧ cat ps = decDigits n) else decDigits n = decDigits v ++ cat ps
theorem told_start (n : Nat) : TextSt n n [] := by
  refine ⟨by simp, by simp, ?_⟩
  by_cases h : n = 0
  · rw [if_pos h]; exact .inl ⟨rfl, h⟩
  · rw [if_neg h]; simp [cat]
theorem told_step {n v : Nat} {ps : List (List UInt8)} (h : TextSt n v ps) (hv : 0 < v) : TextSt n (v / 1000000000) (ps ++ [if 0 < v / 1000000000 then List.replicate (9 - (decDigits (v % 1000000000)).length) 48 ++ decDigits (v % 1000000000) else decDigits (v % 1000000000)]) := by
  obtain ⟨h1, h2, h3⟩ := h
  rw [if_neg (by omega)] at h3
  have hr : v % 1000000000 < 10 ^ (8 + 1) := Nat.mod_lt _ (by decide)
  obtain ⟨p1, p2⟩ := pad_dec 8 _ hr
  have hd := Nat.div_add_mod v 1000000000
  refine ⟨?_, ?_, ?_⟩
  · intro p hp
    rcases List.mem_append.mp hp with hp | hp
    · exact h1 p hp
    · rw [List.mem_singleton] at hp
      subst hp
      split
      · rw [List.length_append, List.length_replicate]; omega
      · exact p1
  · rw [List.length_append, List.length_singleton]
    refine Nat.le_trans ?_ h2
    rw [Nat.mul_add, Nat.pow_add, Nat.mul_comm (2 ^ (29 * ps.length)), ← Nat.mul_assoc]
    apply Nat.mul_le_mul_right
    omega
  · by_cases hq : v / 1000000000 = 0
    · rw [if_pos hq, if_neg (by omega)]
      refine .inr ⟨by simp, Nat.lt_of_lt_of_le (Nat.mul_pos hv (Nat.pow_pos (by decide))) h2, ?_⟩
      rw [cat_snoc, h3]
      rw [hq, Nat.mul_zero, Nat.zero_add] at hd
      rw [hd]
    · rw [if_neg hq, if_pos (by omega), cat_snoc, ← List.append_assoc, h3]
      congr 1
      have hs := dec_split (8 + 1) (v / 1000000000) (v % 1000000000) (by omega) hr
      rw [show (10 : Nat) ^ (8 + 1) = 1000000000 from rfl, hd] at hs
      rw [hs, p2]
theorem told_few {n v L : Nat} {ps : List (List UInt8)} (h : TextSt n v ps) (hv : 0 < v) (hn : n < 4294967296 ^ L) : ps.length ≤ 2 * L := by
  have h2 := h.2.1
  have h3 : 2 ^ (29 * ps.length) ≤ n := Nat.le_trans (Nat.le_mul_of_pos_left _ hv) h2
  have h4 : 2 ^ (29 * ps.length) < 2 ^ (32 * L) := by rw [Nat.pow_mul 2 32 L]; exact Nat.lt_of_le_of_lt h3 hn
  have h5 := (Nat.pow_lt_pow_iff_right (by decide : 1 < 2)).mp h4
  omega
/-- The division from above: from place i on all is divided, r is carried. -/
def DivAt (m0 cur : List Int) (i r : Nat) : Prop := cur.length = m0.length ∧ i ≤ m0.length ∧ r < 1000000000 ∧ OkL cur ∧ cur.take i = m0.take i ∧ mag (m0.drop i) = 1000000000 * mag (cur.drop i) + r
theorem div_start (m0 : List Int) (ok : OkL m0) : DivAt m0 m0 m0.length 0 := ⟨rfl, Nat.le_refl _, by decide, ok, rfl, by simp [mag]⟩
theorem mag_drop (l : List Int) (i : Nat) (h : i < l.length) : mag (l.drop i) = nl l i + 4294967296 * mag (l.drop (i + 1)) := by
  rw [List.drop_eq_getElem_cons h, mag_cons]
  unfold nl
  rw [rd_nat l i h]
theorem nl_take {l m : List Int} (i n : Nat) (h : l.take n = m.take n) (hi : i < n) (hl : i < l.length) (hm : i < m.length) : nl l i = nl m i := by
  unfold nl
  rw [rd_nat l i hl, rd_nat m i hm]
  have e1 : (l.take n)[i]? = (m.take n)[i]? := by rw [h]
  rw [List.getElem?_take_of_lt hi, List.getElem?_take_of_lt hi, List.getElem?_eq_getElem hl, List.getElem?_eq_getElem hm] at e1
  exact congrArg Int.toNat (Option.some.inj e1)
theorem div_step {m0 cur : List Int} (o0 : OkL m0) {i r : Nat} (h : DivAt m0 cur (i + 1) r) :
    DivAt m0 (cur.set i (((r * 4294967296 + nl cur i) / 1000000000 : Nat) : Int)) i ((r * 4294967296 + nl cur i) % 1000000000) := by
  obtain ⟨h1, h2, h3, h4, h5, h6⟩ := h
  have hi : i < m0.length := h2
  have hic : i < cur.length := by omega
  have hx := nl_lt h4 i
  have e := nl_take (l := cur) (m := m0) i (i + 1) h5 (by omega) hic hi
  refine ⟨by rw [List.length_set]; exact h1, by omega, Nat.mod_lt _ (by decide), ok_set h4 _ _ (by omega), ?_, ?_⟩
  · rw [List.take_set_of_le (Nat.le_refl i)]
    have := congrArg (List.take i) h5
    rwa [List.take_take, List.take_take, Nat.min_eq_left (by omega)] at this
  · have hd : (cur.set i (((r * 4294967296 + nl cur i) / 1000000000 : Nat) : Int)).drop i = (((r * 4294967296 + nl cur i) / 1000000000 : Nat) : Int) :: cur.drop (i + 1) := by
      rw [List.drop_eq_getElem_cons (by rw [List.length_set]; exact hic), List.getElem_set_self]
      congr 1
      rw [List.drop_set_of_lt (by omega)]
    rw [hd, mag_cons, Int.toNat_natCast, mag_drop m0 i hi, h6, ← e]
    generalize mag (cur.drop (i + 1)) = Q at *
    generalize nl cur i = x at *
    have := Nat.div_add_mod (r * 4294967296 + x) 1000000000
    omega
theorem div_end {m0 cur : List Int} {r : Nat} (h : DivAt m0 cur 0 r) : mag cur = mag m0 / 1000000000 ∧ r = mag m0 % 1000000000 := by
  obtain ⟨_, _, h3, _, _, h6⟩ := h
  rw [List.drop_zero, List.drop_zero] at h6
  omega
end Go.Proofs.YthhpnlbeniihhaaDoor.Text
namespace Go.Proofs.YthhpnlbeniihhaaDoor.NumW
open Go.RowKit Go.Proofs.YthhpnlbeniihhaaDoorW.PrintWords Go.Proofs.YthhpnlbeniihhaaDoorW.PrintLast Go.Proofs.YthhpnlbeniihhaaDoorW.PrintMore Go.Proofs.YthhpnlbeniihhaaDoor.Limb Go.Proofs.YthhpnlbeniihhaaDoor.NumA Go.Proofs.YthhpnlbeniihhaaDoor.NumB Go.Proofs.YthhpnlbeniihhaaDoor.NumC Go.Proofs.YthhpnlbeniihhaaDoor.NumD Go.Proofs.YthhpnlbeniihhaaDoor.NumE Go.Proofs.YthhpnlbeniihhaaDoor.NumF Go.Proofs.YthhpnlbeniihhaaDoor.NumG Go.Proofs.YthhpnlbeniihhaaDoor.NumH Go.Proofs.YthhpnlbeniihhaaDoor.NumJ Go.Proofs.YthhpnlbeniihhaaDoor.NumO Go.Proofs.YthhpnlbeniihhaaDoor.NumV Go.Proofs.YthhpnlbeniihhaaDoor.Text
set_option linter.unusedVariables false
set_option linter.unusedSimpArgs false
/-- A number's text. -/
def textR (neg : Bool) (v : Nat) : List UInt8 := if v = 0 then [48] else if neg then 45 :: Lib.decDigits v else Lib.decDigits v
/-- A row of texts of the call's own. -/
def Txt (w : World) (base : Nat) (v : Value) (ps : List ByteArray) : Prop := Kd.R Kd.string 9 w base (fun _ => True) v ps
theorem Txt.below {w w1 : World} {base : Nat} {v : Value} {ps : List ByteArray} (h : Txt w base v ps) (hb : Below w.heap.size w w1) : Txt w1 base v ps := Kd.R_below h hb
theorem Txt.set {w : World} {base : Nat} {v : Value} {ps : List ByteArray} (h : Txt w base v ps) {g : Nat} {cells : Array Value} (hb : w.heap[g]? = some (.cells cells 63 (0, 0))) (j : Nat) (u : Value) : Txt (w.setCell ⟨g, j, none⟩ u) base v ps :=
  Kd.R_set h hb (fun q hq => by
    have : q = 9 := by simpa [Kd.string, Kd.scalar] using hq
    subst this
    decide) j u
/-- A row that is not empty, its block. -/
theorem New.ad {w : World} {base : Nat} {A : Option Addr} {c : Nat} {l : List Int} (h : New w base (.slice A l.length c) l) (hn : l ≠ []) : ∃ b cur, A = some ⟨b, 0, none⟩ ∧ base ≤ b ∧ w.heap[b]? = some (.cells cur 63 (0, 0)) ∧ l.length ≤ c ∧ c ≤ maxLen ∧ cur.size = c ∧ cur.toList.take l.length = l.map (Value.int .u32) := by
  obtain ⟨_, h2⟩ := h.own
  rcases h2 with ⟨e, h3⟩ | ⟨g, cap, cur, e, hg, hh, h1, h3, h4, h5⟩
  · simp at h3; exact absurd h3 hn
  · injection e with e1 e2 e3
    subst e1 e3
    exact ⟨g, cur, rfl, hg, hh, h1, h3, by omega, by rw [Nat.mul_one] at h5; exact h5⟩
theorem cur_get {cur : Array Value} {l : List Int} (h : cur.toList.take l.length = l.map (Value.int .u32)) (i : Nat) (hi : i < l.length) : cur[i]? = some (.int .u32 l[i]) := by
  have e : (cur.toList.take l.length)[i]? = (l.map (Value.int .u32))[i]? := by rw [h]
  rw [List.getElem?_take_of_lt hi, List.getElem?_map, List.getElem?_eq_getElem hi, Array.getElem?_toList] at e
  exact e
theorem info_str : (Tryd.prog.info? 9).map (fun i => (i.zero, i.size, i.bytes)) = some (some (.string ⟨#[]⟩), 1, 16) := by kernel_rfl
theorem New.grown {w w1 : World} {base base' : Nat} {v u : Value} {l : List Int} {ps : List ByteArray} (h : New w base v l) (hp : Txt w base' u ps) (hg : w.grownBy w1 u.ownBlock) : New w1 base v l :=
  Kd.R_mono (Kd.R_grown (Kd.R_bound h) hg (fun k hk => by
    obtain ⟨_, _, _, q, hq, cells, hc⟩ := hk
    have : q = 63 := by simpa [Kd.int, Kd.scalar] using hq
    subst this
    exact Kd.R_ne hp hc (by decide))) (fun _ _ => trivial)
theorem repeat_one (n : Nat) : Lib.repeatL [48] n = List.replicate n 48 := by
  induction n with
  | zero => rfl
  | succ n ih => rw [Lib.repeatL, ih]; rfl
theorem Txt.own {w : World} {base : Nat} {v : Value} {ps : List ByteArray} (h : Txt w base v ps) : w.ownsRow base 9 1 v ps.length (ps.map Value.string) := Kd.own_of_R (enc := Value.string) (h1 := fun _ => rfl) h
theorem Txt.of_own {w : World} {base : Nat} {v : Value} {ps : List ByteArray} (h : w.ownsRow base 9 1 v ps.length (ps.map Value.string)) : Txt w base v ps := Kd.R_of_own (enc := Value.string) (h1 := fun _ => rfl) h (fun _ _ => trivial)
/-- Reverse, over a row of the call's own. -/
theorem rev_calls (w : World) (base : Nat) (v : Value) (ps : List ByteArray) (h : Txt w base v ps) (hne : ps ≠ []) :
    Calls Tryd.prog 57 #[v] w fun e w' => e = .returned (.tuple #[]) ∧ Txt w' base v ps.reverse ∧ ∀ w0, Below base w0 w → Below base w0 w' := by
  have ho := h.own
  rw [← Lib.map_encStr] at ho
  have hv : v ≠ .slice none 0 0 := by
    intro e
    obtain ⟨A, c, e2⟩ := Kd.R_slice h
    rw [e2] at e
    injection e with _ e _
    exact hne (List.eq_nil_of_length_eq_zero e)
  obtain ⟨g, cap, rfl, hb, hlt, hn, hm, hl, hH⟩ := Lib.holds_of_ownsRow ho hv
  have hc := Tryd.slices_Reverse_string g 0 cap (ps.map (fun p => p.data.toList)) w hH (by rw [List.length_map]; have : maxLen = 9223372036854775807 := rfl; omega)
  rw [List.length_map] at hc
  refine hc.mono ?_
  rintro e w' ⟨rfl, q, rfl⟩
  refine ⟨rfl, ?_, fun w0 h0 => Lib.below_putRow h0 hb⟩
  have hp := Lib.ownsRow_putRow (q := q) (k := ps.length) (ys := (ps.map (fun p => p.data.toList)).reverse) ho (by simp) (Nat.le_refl _)
  rw [List.take_of_length_le (by simp), ← List.map_reverse, Lib.map_encStr] at hp
  refine Txt.of_own ?_
  rw [List.length_reverse, ← List.map_reverse]
  exact hp
theorem join_flat (xs : List (List UInt8)) : Lib.join xs [] = xs.flatten := by
  cases xs with
  | nil => rfl
  | cons x r =>
    rw [Lib.join_cons]
    unfold Lib.joinTail
    simp
/-- Join, over a row of the call's own. -/
theorem join_calls (w : World) (base : Nat) (v : Value) (ps : List ByteArray) (h : Txt w base v ps) (hne : ps ≠ []) (hlen : ((ps.map (fun p => p.data.toList)).flatten).length ≤ 140737488355328) (hN : ps.length ≤ 140737488355328) :
    Calls Tryd.prog 58 #[v, .string ⟨#[]⟩] w fun e w' => e = .returned (.string ⟨((ps.map (fun p => p.data.toList)).flatten).toArray⟩) ∧ Below w.heap.size w w' := by
  have ho := h.own
  rw [← Lib.map_encStr] at ho
  have hv : v ≠ .slice none 0 0 := by
    intro e
    obtain ⟨A, c, e2⟩ := Kd.R_slice h
    rw [e2] at e
    injection e with _ e _
    exact hne (List.eq_nil_of_length_eq_zero e)
  obtain ⟨g, cap, rfl, hb, hlt, hn, hm, hl, hH⟩ := Lib.holds_of_ownsRow ho hv
  have hj := join_flat (ps.map (fun p => p.data.toList))
  have hc := Tryd.strings_Join g 0 cap ps ⟨#[]⟩ w (by
    intro j x hx
    obtain ⟨hj, rfl⟩ := List.getElem?_eq_some_iff.mp hx
    have h1 := (hH j (by simpa using hj)).1
    rw [h1, getElem!_pos _ j (by simpa using hj)]
    simp [Proofs.encStr]) hlt hN hn (by rw [show (⟨#[]⟩ : ByteArray).data.toList = [] from rfl, hj]; exact hlen)
  refine hc.mono ?_
  rintro e w' ⟨rfl, hb2⟩
  refine ⟨?_, hb2⟩
  rw [show (⟨#[]⟩ : ByteArray).data.toList = [] from rfl, hj]
set_option maxRecDepth 100000 in
set_option maxHeartbeats 8000000 in
theorem text_calls (neg : Bool) (A : Option Addr) (c : Nat) (l : List Int) (w : World) (hl : Num w A c l) (hL : l.length < 1073741824) (ht : Tab w) :
    Calls Tryd.prog 22 #[.agg #[.bool neg, .slice A l.length c]] w fun e w' => e = .returned (.string ⟨(textR neg (mag l)).toArray⟩) ∧ Below w.heap.size w w' := by
  have HL := Aside0.mk hl
  have HLL := Aside0.mk hL
  have HT := Aside0.mk ht
  have b1 := blk_new w (.cells #[.bool neg, .slice A l.length c] 25 (0, 0))
  have HB := Aside0.mk ((Below.refl w.heap.size w).alloc (Nat.le_refl _) (.cells #[.bool neg, .slice A l.length c] 25 (0, 0)))
  clear hl hL ht
  go_enter Tryd.func22, Tryd.ntmps22
  go_wp2_with fail
  refine (trim_calls A c l _ (HL.out.alloc _).lim HL.out.room).mono ?_
  rintro e w' ⟨rfl, ⟨nd, rfl⟩⟩
  go_wp2_with fail
  have hlt := ((HL.out.alloc (.cells #[.bool neg, .slice A l.length c] 25 (0, 0))).drewN nd).tr
  refine (clone_calls A c (tr l) _ hlt.lim hlt.room hlt.few).mono ?_
  clear hlt
  rintro e w1 ⟨v0, rfl, hn0, hb0⟩
  obtain ⟨A0, c0, rfl, hc0, _⟩ := New.lim hn0
  have B1 := Aside0.mk (blk_below (blk_drewN b1 nd) hb0)
  have HB1 := Aside0.mk (below_step (pw_below_drewN HB.out nd) hb0)
  have HN0 := Aside0.mk (New.lower (base' := w.heap.size) hn0 (by simp))
  clear hn0 hc0 hb0 b1 HB
  go_wp2
  go_loopg [3, 4] (mag l) (fun k v3 v4 w' => ∃ (Am : Option Addr) (cm : Nat) (M : List Int) (Ap : Option Addr) (cp : Nat) (ps : List ByteArray), v3 = .slice Am M.length cm ∧ v4 = .slice Ap ps.length cp ∧
    Aside0 (New w' w.heap.size (.slice Am M.length cm) M ∧ OkL M ∧ tr M = M ∧ mag M = k ∧ M.length ≤ l.length) ∧ Aside0 (Txt w' w.heap.size (.slice Ap ps.length cp) ps) ∧ Aside0 (TextSt (mag l) k (ps.map (fun p => p.data.toList)) ∧ ps.length ≤ 2 * l.length + 1) ∧
    Aside0 (w'.heap[w.heap.size]? = some (.cells #[.bool neg, .slice A l.length c] 25 (0, 0))) ∧ Aside0 (Below w.heap.size w w'))
  case atStart => exact ⟨A0, c0, tr l, none, 0, [], rfl, rfl, ⟨HN0.out, ok_tr HL.out.ok, tr_tr l, mag_tr l, tr_len_le l⟩, ⟨Kd.R_nil _ _ _ _ _⟩, ⟨told_start _, by simp⟩, B1, HB1⟩
  case round =>
    clear HN0 B1 HB1
    obtain ⟨Am, cm, M, Ap, cp, ps, rfl, rfl, HM, HP, HTo, B1, HB1⟩ := hrel
    by_cases hM : M = []
    · subst hM
      have hk0 : gk = 0 := by rw [← HM.out.2.2.2.1]; rfl
      subst hk0
      obtain ⟨⟨hp9, _, hcase⟩, hfew⟩ := HTo.out
      rw [if_pos rfl] at hcase
      rcases hcase with ⟨hps, hn0⟩ | ⟨hps, hn0, hcat⟩
      · have hps : ps = [] := by simpa using hps
        subst hps
        have hres : textR neg (mag l) = [48] := by unfold textR; rw [if_pos hn0]
        have HRES := Aside0.mk hres
        clear hp9 hfew hn0 hres
        go_wp2
        go_ret
        exact ⟨by rw [HRES.out]; rfl, HB1.out⟩
      · have hps : ps ≠ [] := by intro h; rw [h] at hps; exact hps rfl
        have hlen0 : (ps.length == 0) = false := by
          have := List.length_pos_iff.mpr hps
          exact beq_eq_false_iff_ne.mpr (by omega)
        have hlen1 : ((ps.length : Int) == 0) = false := by
          have := List.length_pos_iff.mpr hps
          exact beq_eq_false_iff_ne.mpr (by omega)
        have hbl : ∀ qs : List ByteArray, (∀ p ∈ qs.map (fun p => p.data.toList), p.length ≤ 9) → ((qs.map (fun p => p.data.toList)).flatten).length ≤ 9 * qs.length := by
          intro qs
          induction qs with
          | nil => intro _; simp
          | cons p qs ih =>
            intro h
            have h1 := h p.data.toList (by simp)
            have h2 := ih (fun x hx => h x (by rw [List.map_cons]; exact List.mem_cons_of_mem _ hx))
            rw [List.map_cons, List.flatten_cons, List.length_append, List.length_cons]
            omega
        have hrl := hbl ps.reverse (by
          intro p hp
          rw [List.map_reverse] at hp
          exact hp9 p (List.mem_reverse.mp hp))
        rw [List.length_reverse] at hrl
        have hcat2 : (ps.reverse.map (fun p => p.data.toList)).flatten = Lib.decDigits (mag l) := by rw [List.map_reverse]; exact hcat
        have HPS := Aside0.mk hps
        have HCAT := Aside0.mk hcat2
        have HRL := Aside0.mk hrl
        have HFEW := Aside0.mk hfew
        have HN0 := Aside0.mk hn0
        have hbc := (cell_at B1.out).1
        clear hps hcat hcat2 hrl hbl hp9 hfew hn0
        cases neg with
        | false =>
          have hres : textR false (mag l) = Lib.decDigits (mag l) := by unfold textR; rw [if_neg (by have := HN0.out; omega), if_neg (by decide)]
          have HRES := Aside0.mk hres
          clear hres
          go_wp2_with fail
          refine (rev_calls wr w.heap.size (.slice Ap ps.length cp) ps HP.out HPS.out).mono ?_
          rintro e w2 ⟨rfl, hp2, hb2⟩
          have HP2 := Aside0.mk hp2
          have HB2 := Aside0.mk (hb2 w HB1.out)
          clear hp2 hb2
          go_wp2_with fail
          refine (join_calls w2 w.heap.size (.slice Ap ps.length cp) ps.reverse HP2.out (by simpa using HPS.out) (by have := HRL.out; have := HFEW.out; have := HLL.out; omega) (by rw [List.length_reverse]; have := HFEW.out; have := HLL.out; omega)).mono ?_
          rw [HCAT.out]
          rintro e w3 ⟨rfl, hb3⟩
          have HB3 := Aside0.mk (below_step HB2.out hb3)
          clear hb3
          go_wp2
          go_ret
          exact ⟨by rw [HRES.out]; rfl, HB3.out⟩
        | true =>
          have hres : textR true (mag l) = 45 :: Lib.decDigits (mag l) := by unfold textR; rw [if_neg (by have := HN0.out; omega), if_pos rfl]
          have HRES := Aside0.mk hres
          clear hres
          go_wp2_with (at_builtin; refine Kd.R_append Kd.string (w0 := w) w.heap.size rfl (.tmp 61) (.tmp 62) 69 9 (.string ⟨#[]⟩) 16 rfl Tryd.underlying69 info_str rfl (by decide) (by decide) (.slice Ap ps.length cp) ps (⟨#[45]⟩ : ByteArray) [.string ⟨#[45]⟩] (fun _ => True) (fun _ => False) rfl rfl rfl (fun _ h => h.elim) (fun _ _ => trivial) HP.out HB1.out (below_size HB1.out) ?aL ?_; (case aL => have := HFEW.out; have := HLL.out; omega); intro v4 w4 hr4 hb4 hg4 _; obtain ⟨A4, c4, e4⟩ := Kd.R_slice hr4; subst e4; have HP4 := Aside0.mk hr4; have HB4 := Aside0.mk hb4; clear hr4 hb4 hg4)
          have HP5 : Aside0 (Txt w4 w.heap.size (.slice A4 (ps.length + 1) c4) (ps ++ [(⟨#[45]⟩ : ByteArray)])) := ⟨by have h := HP4.out; rw [List.length_append] at h; exact h⟩
          refine (rev_calls w4 w.heap.size (.slice A4 (ps.length + 1) c4) (ps ++ [(⟨#[45]⟩ : ByteArray)]) HP5.out (by simp)).mono ?_
          rintro e w2 ⟨rfl, hp2, hb2⟩
          have HP2 := Aside0.mk hp2
          have HB2 := Aside0.mk (hb2 w HB4.out)
          clear hp2 hb2
          have hc5 : ((ps ++ [(⟨#[45]⟩ : ByteArray)]).reverse.map (fun p => p.data.toList)).flatten = 45 :: Lib.decDigits (mag l) := by
            rw [List.reverse_append, List.reverse_singleton, List.singleton_append, List.map_cons, List.flatten_cons, HCAT.out]
            rfl
          have HC5 := Aside0.mk hc5
          have hl5 : (((ps ++ [(⟨#[45]⟩ : ByteArray)]).reverse.map (fun p => p.data.toList)).flatten).length ≤ 140737488355328 := by
            have h := HRL.out
            rw [HCAT.out] at h
            rw [hc5, List.length_cons]
            have := HFEW.out
            have := HLL.out
            omega
          have HL5 := Aside0.mk hl5
          clear hc5 hl5
          go_wp2_with fail
          refine (join_calls w2 w.heap.size (.slice A4 (ps.length + 1) c4) (ps ++ [(⟨#[45]⟩ : ByteArray)]).reverse HP2.out (by simp) HL5.out (by rw [List.length_reverse, List.length_append, List.length_singleton]; have := HFEW.out; have := HLL.out; omega)).mono ?_
          rw [HC5.out]
          rintro e w3 ⟨rfl, hb3⟩
          have HB3 := Aside0.mk (below_step HB2.out hb3)
          clear hb3
          go_wp2
          go_ret
          exact ⟨by rw [HRES.out]; rfl, HB3.out⟩
    · have hpos : 0 < M.length := List.length_pos_iff.mpr hM
      have t1 : decide (0 < M.length) = true := decide_eq_true hpos
      have t2 : decide ((0 : Int) < (M.length : Int)) = true := decide_eq_true (by omega)
      have hlm : M.length < 1073741824 := by have := HLL.out; have := HM.out.2.2.2.2; omega
      obtain ⟨x0, hx0⟩ : ∃ x0 : Int, (M.length : Int) - 1 = x0 := ⟨_, rfl⟩
      have wm1 : IntKind.i64.wrap ((M.length : Int) - 1) = x0 := i64_of hx0 (by omega) (by omega)
      have wm2 : wrap64 ((M.length : Int) - 1) = x0 := w64_of hx0 (by omega) (by omega)
      have HX0 := Aside0.mk hx0
      have HMN := Aside0.mk hM
      have HPOS := Aside0.mk hpos
      have HLM := Aside0.mk hlm
      have HGK : Aside0 (0 < gk) := ⟨by
        have h2 := HM.out.2.2.2.1
        rw [← h2]
        refine Nat.pos_of_ne_zero (fun h => hM ?_)
        have h3 := (mag_zero HM.out.2.1).mp h
        rwa [HM.out.2.2.1] at h3⟩
      clear hM hpos hlm hx0
      obtain ⟨b, cur0, rfl, hbb, _⟩ := New.ad HM.out.1 HMN.out
      have HBB := Aside0.mk hbb
      clear hbb
      go_wp2
      obtain ⟨gk0, hgk⟩ : ∃ gk0, gk0 = gk := ⟨_, rfl⟩
      rw [← hgk] at HM HTo HGK
      have HGE := Aside0.mk hgk
      clear hgk
      go_loopw [5, 6] (fun v5 v6 w' => ∃ (r : Nat) (x : Int), v5 = .int .u64 r ∧ v6 = .int .i64 x ∧ Aside0 (-1 ≤ x ∧ ∃ cur, New w' w.heap.size (.slice (some ⟨b, 0, none⟩) M.length cm) cur ∧ DivAt M cur (x + 1).toNat r) ∧ Aside0 (Txt w' w.heap.size (.slice Ap ps.length cp) ps) ∧
        Aside0 (w'.heap[w.heap.size]? = some (.cells #[.bool neg, .slice A l.length c] 25 (0, 0))) ∧ Aside0 (Below w.heap.size w w')) (fun _ v6 _ => (intOf v6 + 1).toNat)
      case atStart => exact ⟨0, x0, rfl, rfl, ⟨by have := HX0.out; omega, M, HM.out.1, by rw [show (x0 + 1).toNat = M.length by have := HX0.out; omega]; exact div_start M HM.out.2.1⟩, HP, B1, HB1⟩
      case round =>
        clear HP B1 HB1
        obtain ⟨r, x, rfl, rfl, HD, HP, B1, HB1⟩ := hrel
        by_cases h0 : x = -1
        · subst h0
          obtain ⟨_, cur, hN, hD⟩ := HD.out
          have hD : DivAt M cur 0 r := hD
          have hlc : cur.length = M.length := hD.1
          have hde := div_end hD
          rw [HM.out.2.2.2.1] at hde
          rw [← hlc] at hN
          have okc := hD.2.2.2.1
          have hr9 : r < 1000000000 := hD.2.2.1
          obtain ⟨A', c', e1, hcr, hlim⟩ := New.lim hN
          obtain ⟨e2, e3⟩ : some (⟨b, 0, none⟩ : Addr) = A' ∧ cm = c' := by injection e1 with h1 h2 h3; exact ⟨h1, h3⟩
          subst e2 e3
          have hLC := Aside0.mk hlc
          rw [← hlc]
          have htr := NumU.New.take hN (tr cur).length (tr_len_le cur)
          rw [tr_take] at htr
          have HTR := Aside0.mk htr
          have HDE := Aside0.mk hde
          have OC := Aside0.mk okc
          have HLI := Aside0.mk hlim
          have HCR := Aside0.mk hcr
          have HR9 := Aside0.mk hr9
          have htp := tr_len_pos okc
          rw [hde.1] at htp
          have HTP := Aside0.mk htp
          clear hN hD hlc hde e1 hcr hlim okc hr9 htr htp HD
          go_wp2_with fail
          refine (trim_calls (some ⟨b, 0, none⟩) cm cur _ HLI.out HCR.out).mono ?_
          rintro e w' ⟨rfl, ⟨nd2, rfl⟩⟩
          go_wp2_with fail
          refine (format_calls r (by have := HR9.out; omega) _ (HT.out.below (pw_below_drewN HB1.out nd2))).mono ?_
          rintro e w2 ⟨rfl, hb2⟩
          have B2 := Aside0.mk (blk_below (blk_drewN B1.out nd2) hb2)
          have HB2 := Aside0.mk (below_step (pw_below_drewN HB1.out nd2) hb2)
          have HP2 := Aside0.mk (Txt.below (w := wr.drewN nd2) HP.out hb2)
          have HTR2 := Aside0.mk (New.below (w := wr.drewN nd2) HTR.out hb2)
          clear hb2 HTR HP B1 HB1
          by_cases hq0 : 0 < gk0 / 1000000000
          · have t3 : decide (0 < (tr cur).length) = true := by rw [HTP.out]; exact decide_eq_true (by omega)
            have t4 : decide ((0 : Int) < ((tr cur).length : Int)) = true := by have := of_decide_eq_true t3; exact decide_eq_true (by omega)
            have hlen9 : (Lib.decDigits r).length ≤ 9 := (pad_dec 8 r (by have := HR9.out; omega)).1
            obtain ⟨n9, hn9⟩ : ∃ n9, 9 - (Lib.decDigits r).length = n9 := ⟨_, rfl⟩
            have wr0 : (9 : Int) - ((Lib.decDigits r).length : Int) = (n9 : Int) := by omega
            have wr1 : IntKind.i64.wrap (9 - ((Lib.decDigits r).length : Int)) = (n9 : Int) := i64_of wr0 (by omega) (by omega)
            have wr2 : wrap64 (9 - ((Lib.decDigits r).length : Int)) = (n9 : Int) := w64_of wr0 (by omega) (by omega)
            have hn99 : n9 ≤ 9 := by omega
            have HN9 := Aside0.mk hn9
            have hA : (Lib.repeatL [48] n9).length ≤ 9 := by rw [repeat_one, List.length_replicate]; exact hn99
            have hB : (Lib.decDigits r).length ≤ 9 := hlen9
            clear hlen9 wr0 hn9
            go_wp2_with fail
            refine (Tryd.strings_Repeat ⟨#[48]⟩ n9 _ (by omega) (by show 1 * n9 ≤ _; omega)).mono ?_
            rintro e w3 ⟨rfl, hb3⟩
            have B3 := Aside0.mk (blk_below B2.out hb3)
            have HB3 := Aside0.mk (below_step HB2.out hb3)
            have HP3 := Aside0.mk (Txt.below HP2.out hb3)
            have HTR3 := Aside0.mk (New.below HTR2.out hb3)
            clear hb3 HTR2 HP2 B2 HB2
            have hst := told_step HTo.out.1 HGK.out
            have HFEW := Aside0.mk (told_few HTo.out.1 HGK.out (mag_lt HL.out.ok))
            rw [List.length_map] at HFEW
            rw [if_pos hq0, ← HDE.out.2, HN9.out, ← repeat_one] at hst
            have hpd : ((⟨(Lib.repeatL [48] n9).toArray⟩ : ByteArray) ++ (⟨(Lib.decDigits r).toArray⟩ : ByteArray)).data.toList = Lib.repeatL [48] n9 ++ Lib.decDigits r := Go.Joins.data_append _ _
            rw [← hpd] at hst
            have hmp : ps.map (fun p => p.data.toList) ++ [((⟨(Lib.repeatL [48] n9).toArray⟩ : ByteArray) ++ (⟨(Lib.decDigits r).toArray⟩ : ByteArray)).data.toList] = (ps ++ [((⟨(Lib.repeatL [48] n9).toArray⟩ : ByteArray) ++ (⟨(Lib.decDigits r).toArray⟩ : ByteArray))]).map (fun p => p.data.toList) := by simp
            rw [hmp] at hst
            clear hpd hmp
            have HST := Aside0.mk hst
            clear hst
            go_wp2_with (at_builtin; refine Kd.R_append Kd.string (w0 := w) w.heap.size rfl (.tmp 52) (.tmp 54) 69 9 (.string ⟨#[]⟩) 16 rfl Tryd.underlying69 info_str rfl (by decide) (by decide) (.slice Ap ps.length cp) ps ((⟨(Lib.repeatL [48] n9).toArray⟩ : ByteArray) ++ (⟨(Lib.decDigits r).toArray⟩ : ByteArray)) [.string ((⟨(Lib.repeatL [48] n9).toArray⟩ : ByteArray) ++ (⟨(Lib.decDigits r).toArray⟩ : ByteArray))] (fun _ => True) (fun _ => False) rfl rfl rfl (fun _ h => h.elim) (fun _ _ => trivial) HP3.out HB3.out (below_size HB3.out) ?aL ?_; (case aL => have := HFEW.out; have := HLL.out; omega); intro v4 w4 hr4 hb4 hg4 _; obtain ⟨A4, c4, e4⟩ := Kd.R_slice hr4; subst e4; have HP4 := Aside0.mk hr4; have HB4 := Aside0.mk hb4; have HTR4 := Aside0.mk (New.grown HTR3.out HP3.out hg4); have B4 := Aside0.mk (blk_grown B3.out hg4 (Kd.R_ne HP3.out B3.out (by decide))); clear hr4 hb4 hg4)
            go_roundg (gk0 / 1000000000)
            case measure => have := HGK.out; have := HGE.out; omega
            case rel => exact ⟨_, cm, tr cur, A4, c4, ps ++ [((⟨(Lib.repeatL [48] n9).toArray⟩ : ByteArray) ++ (⟨(Lib.decDigits r).toArray⟩ : ByteArray))], rfl, by simp, ⟨HTR4.out, ok_tr OC.out, tr_tr cur, by rw [mag_tr, HDE.out.1], by have := tr_len_le cur; have := hLC.out; have := HM.out.2.2.2.2; omega⟩, HP4, ⟨HST.out, by rw [List.length_append, List.length_singleton]; have := HFEW.out; omega⟩, B4, HB4⟩
          · have t3 : decide (0 < (tr cur).length) = false := by rw [HTP.out]; exact decide_eq_false (by omega)
            have t4 : decide ((0 : Int) < ((tr cur).length : Int)) = false := by have := of_decide_eq_false t3; exact decide_eq_false (by omega)
            have HP3 := HP2
            have HB3 := HB2
            have HTR3 := HTR2
            have B3 := B2
            clear HP2 HB2 HTR2 B2
            have hst := told_step HTo.out.1 HGK.out
            have HFEW := Aside0.mk (told_few HTo.out.1 HGK.out (mag_lt HL.out.ok))
            rw [List.length_map] at HFEW
            rw [if_neg hq0, ← HDE.out.2] at hst
            have hpd : (⟨(Lib.decDigits r).toArray⟩ : ByteArray).data.toList = Lib.decDigits r := rfl
            rw [← hpd] at hst
            have hmp : ps.map (fun p => p.data.toList) ++ [(⟨(Lib.decDigits r).toArray⟩ : ByteArray).data.toList] = (ps ++ [(⟨(Lib.decDigits r).toArray⟩ : ByteArray)]).map (fun p => p.data.toList) := by simp
            rw [hmp] at hst
            clear hpd hmp
            have HST := Aside0.mk hst
            clear hst
            go_wp2_with (at_builtin; refine Kd.R_append Kd.string (w0 := w) w.heap.size rfl (.tmp 52) (.tmp 54) 69 9 (.string ⟨#[]⟩) 16 rfl Tryd.underlying69 info_str rfl (by decide) (by decide) (.slice Ap ps.length cp) ps (⟨(Lib.decDigits r).toArray⟩ : ByteArray) [.string (⟨(Lib.decDigits r).toArray⟩ : ByteArray)] (fun _ => True) (fun _ => False) rfl rfl rfl (fun _ h => h.elim) (fun _ _ => trivial) HP3.out HB3.out (below_size HB3.out) ?aL ?_; (case aL => have := HFEW.out; have := HLL.out; omega); intro v4 w4 hr4 hb4 hg4 _; obtain ⟨A4, c4, e4⟩ := Kd.R_slice hr4; subst e4; have HP4 := Aside0.mk hr4; have HB4 := Aside0.mk hb4; have HTR4 := Aside0.mk (New.grown HTR3.out HP3.out hg4); have B4 := Aside0.mk (blk_grown B3.out hg4 (Kd.R_ne HP3.out B3.out (by decide))); clear hr4 hb4 hg4)
            go_roundg (gk0 / 1000000000)
            case measure => have := HGK.out; have := HGE.out; omega
            case rel => exact ⟨_, cm, tr cur, A4, c4, ps ++ [(⟨(Lib.decDigits r).toArray⟩ : ByteArray)], rfl, by simp, ⟨HTR4.out, ok_tr OC.out, tr_tr cur, by rw [mag_tr, HDE.out.1], by have := tr_len_le cur; have := hLC.out; have := HM.out.2.2.2.2; omega⟩, HP4, ⟨HST.out, by rw [List.length_append, List.length_singleton]; have := HFEW.out; omega⟩, B4, HB4⟩
        · obtain ⟨i, rfl⟩ := Int.eq_ofNat_of_zero_le (show 0 ≤ x by have := HD.out.1; omega)
          obtain ⟨_, cur, hN, hD⟩ := HD.out
          rw [show ((i : Int) + 1).toNat = i + 1 by omega] at hD
          have hlc : cur.length = M.length := hD.1
          have hi : i < cur.length := by have := hD.2.1; omega
          rw [← hlc] at hN
          obtain ⟨b', cells, e1, _, hblk, h1, h2, h3, h4⟩ := New.ad hN (by intro h; rw [h] at hi; simp at hi)
          obtain rfl : b' = b := by injection e1 with e1; injection e1 with e1 _ _; exact e1.symm
          have hcell := (blk_cell hblk i).trans (cur_get h4 i hi)
          have hfr := blk_frozen hblk i
          have hcv : cur[i] = ((nl cur i : Nat) : Int) := by rw [nl_cast hD.2.2.2.1, rd_nat cur i hi]
          rw [hcv] at hcell
          have hx := nl_lt hD.2.2.2.1 i
          have hr9 : r < 1000000000 := hD.2.2.1
          have i0 : (0 : Int) ≤ (i : Int) := by omega
          have i1 : (i : Int) < (M.length : Int) := by omega
          have p0 := eq_true i0
          have q0 := eq_true i1
          obtain ⟨xi, hxi⟩ : ∃ xi : Int, (i : Int) - 1 = xi := ⟨_, rfl⟩
          have hlm := HLM.out
          have wi1 : IntKind.i64.wrap ((i : Int) - 1) = xi := i64_of hxi (by omega) (by omega)
          have wi2 : wrap64 ((i : Int) - 1) = xi := w64_of hxi (by omega) (by omega)
          obtain ⟨q, hq⟩ : ∃ q, nl cur i = q := ⟨_, rfl⟩
          rw [hq] at hcell hx
          have w1 : IntKind.u64.wrap ((r : Int) * 4294967296) = ((r * 4294967296 : Nat) : Int) := by rw [IntKind.wrap_u64]; omega
          have w2 : IntKind.u64.wrap (q : Int) = (q : Int) := by rw [IntKind.wrap_u64]; omega
          have hor : Go.bits .or .u64 ((r : Int) * 4294967296) (q : Int) = ((r * 4294967296 + q : Nat) : Int) := by
            have h1 := u64_or_nat (r * 4294967296) q (by omega) (by omega)
            rw [nat_join 32 (r * 4294967296) q (by omega) hx] at h1
            rw [← h1]
            congr 1
          have K1 : Aside0 (IntKind.u64.wrap ((Go.bits .or .u64 ((r : Int) * 4294967296) (q : Int)).tdiv 1000000000) % 4294967296 = (((r * 4294967296 + q) / 1000000000 : Nat) : Int)) := ⟨by
            rw [hor, Int.tdiv_eq_ediv_of_nonneg (by omega), IntKind.wrap_u64]; omega⟩
          have K2 : Aside0 ((Go.bits .or .u64 ((r : Int) * 4294967296) (q : Int)).tmod 1000000000 = (((r * 4294967296 + q) % 1000000000 : Nat) : Int)) := ⟨by
            rw [hor, Int.tmod_eq_emod_of_nonneg (by omega)]; omega⟩
          have hst := div_step HM.out.2.1 hD
          rw [hq] at hst
          have HST := Aside0.mk hst
          have HXI := Aside0.mk hxi
          have HNC := Aside0.mk hN
          have HBK := Aside0.mk hblk
          have HCC := Aside0.mk (And.intro h1 (And.intro h2 (And.intro h3 h4)))
          have HIC := Aside0.mk hi
          have HLC := Aside0.mk hlc
          clear i0 i1 hor hst hxi hN hblk h1 h2 h3 h4 hi hlc hx hr9 hlm hD HD hq hcv e1 h0
          go_wp2
          go_roundw
          case rel =>
            rw [K1.out, K2.out]
            refine ⟨_, xi, rfl, rfl, ⟨by have := HXI.out; omega, cur.set i _, ?_, by rw [show (xi + 1).toNat = i by have := HXI.out; omega]; exact HST.out⟩, ⟨Txt.set HP.out HBK.out _ _⟩, ⟨?_⟩, ⟨below_set HB1.out HBB.out⟩⟩
            · have hl2 : (cur.set i (((r * 4294967296 + q) / 1000000000 : Nat) : Int)).length = M.length := by rw [List.length_set]; exact HLC.out
              rw [← hl2]
              refine New.of_block HBB.out (blk_put HBK.out i _ rfl) (by rw [hl2, ← HLC.out]; exact HCC.out.1) HCC.out.2.1 (by rw [Array.size_setIfInBounds]; exact HCC.out.2.2.1) ?_
              rw [hl2, ← HLC.out, Array.toList_setIfInBounds, NumD.take_set _ _ _ _ HIC.out, HCC.out.2.2.2, List.map_set]
            · refine blk_far B1.out ?_ _
              intro h
              have h1 := B1.out
              rw [h] at h1
              have h2 := HBK.out
              dsimp only at h1
              rw [h2] at h1
              injection h1 with h1
              injection h1 with _ h1
              exact absurd h1 (by decide)
          case measure => have := HXI.out; simp [intOf]; omega
end Go.Proofs.YthhpnlbeniihhaaDoor.NumW
namespace Go.Proofs.YthhpnlbeniihhaaDoor.Vals
open Go.Proofs.YthhpnlbeniihhaaDoor.Limb Go.Proofs.YthhpnlbeniihhaaDoor.NumA Go.Proofs.YthhpnlbeniihhaaDoor.NumB Go.Proofs.YthhpnlbeniihhaaDoor.NumC Go.Proofs.YthhpnlbeniihhaaDoor.NumJ Go.Proofs.YthhpnlbeniihhaaDoor.NumR
theorem val_zero {neg : Bool} {l : List Int} : val neg l = 0 ↔ mag l = 0 := by unfold val; cases neg <;> simp
theorem belowB_val {neg : Bool} {l : List Int} (ok : OkL l) : belowB neg l = decide (val neg l < 0) := by
  rw [belowB_eq ok]; unfold val
  cases neg with
  | true =>
    simp only [Bool.true_and, if_true]
    rw [decide_eq_decide]; omega
  | false => simp
theorem natAbs_val (neg : Bool) (l : List Int) : (val neg l).natAbs = mag l := by unfold val; cases neg <;> simp
theorem mk_abs (b : Bool) (z : Int) (n : Nat) (hn : z.natAbs = n) (hb : z ≠ 0 → b = decide (z < 0)) : mk b n = mkI z := by
  unfold mkI mk
  subst hn
  by_cases h : z = 0
  · subst h; simp
  · rw [hb h]
theorem quo_val {n1 n2 : Bool} {l m : List Int} (h1 : OkL l) (h2 : OkL m) : mk (belowB n1 l != belowB n2 m) (mag l / mag m) = mkI (Int.tdiv (val n1 l) (val n2 m)) := by
  rw [belowB_val h1, belowB_val h2]
  refine mk_abs _ _ _ (by rw [Int.natAbs_tdiv, natAbs_val, natAbs_val]; rfl) (fun h => ?_)
  generalize val n1 l = x at *
  generalize val n2 m = y at *
  have e := Int.natAbs_tdiv x y
  by_cases hx : x < 0 <;> by_cases hy : y < 0
  · have : 0 ≤ x.tdiv y := by rw [← Int.neg_tdiv_neg]; exact Int.tdiv_nonneg (by omega) (by omega)
    simp [hx, hy]; omega
  · have : x.tdiv y ≤ 0 := by
      have : 0 ≤ (-x).tdiv y := Int.tdiv_nonneg (by omega) (by omega)
      rw [Int.neg_tdiv] at this; omega
    simp [hx, hy]; omega
  · have : x.tdiv y ≤ 0 := by
      have : 0 ≤ x.tdiv (-y) := Int.tdiv_nonneg (by omega) (by omega)
      rw [Int.tdiv_neg] at this; omega
    simp [hx, hy]; omega
  · have : 0 ≤ x.tdiv y := Int.tdiv_nonneg (by omega) (by omega)
    simp [hx, hy]; omega
theorem mod_val {n1 n2 : Bool} {l m : List Int} (h1 : OkL l) (h2 : OkL m) (h0 : mag m ≠ 0) :
    mk (belowB n2 m) (if (belowB n1 l != belowB n2 m) = true ∧ mag l % mag m ≠ 0 then mag m - mag l % mag m else mag l % mag m) = mkI (Int.fmod (val n1 l) (val n2 m)) := by
  have hz : val n2 m ≠ 0 := fun h => h0 (val_zero.mp h)
  have hr : (Int.tmod (val n1 l) (val n2 m)).natAbs = mag l % mag m := by rw [Int.natAbs_tmod, natAbs_val, natAbs_val]
  have hm : (val n2 m).natAbs = mag m := natAbs_val _ _
  have hlt : mag l % mag m < mag m := Nat.mod_lt _ (by omega)
  rw [belowB_val h1, belowB_val h2]
  generalize val n1 l = x at *
  generalize val n2 m = y at *
  have hs : (0 ≤ x → 0 ≤ x.tmod y) ∧ (x ≤ 0 → x.tmod y ≤ 0) := by
    constructor
    · intro h; exact Int.tmod_nonneg _ h
    · intro h
      have : 0 ≤ (-x).tmod y := Int.tmod_nonneg _ (by omega)
      rw [Int.neg_tmod] at this; omega
  have hf : x.fmod y = if (decide (x < 0) != decide (y < 0)) = true ∧ mag l % mag m ≠ 0 then y + x.tmod y else x.tmod y := by
    rw [Int.fmod_eq_tmod]
    by_cases hd : y ∣ x
    · have : x.tmod y = 0 := Int.tmod_eq_zero_of_dvd hd
      have e0 : mag l % mag m = 0 := by rw [← hr, this]; rfl
      simp [hd, e0, this]
    · have hne : x.tmod y ≠ 0 := fun h => hd (Int.dvd_of_tmod_eq_zero h)
      have e0 : mag l % mag m ≠ 0 := by rw [← hr]; omega
      by_cases hx : x < 0 <;> by_cases hy : y < 0 <;> simp [hx, hy, hd, e0] <;> omega
  refine mk_abs _ _ _ ?_ (fun h => ?_)
  · rw [hf]
    split
    · rename_i hc
      obtain ⟨hc, hne⟩ := hc
      by_cases hx : x < 0 <;> by_cases hy : y < 0 <;> simp [hx, hy] at hc <;> omega
    · exact hr
  · rw [hf] at h ⊢
    rw [decide_eq_decide]
    split at h
    · rename_i hc
      rw [if_pos hc]
      obtain ⟨hc, hne⟩ := hc
      by_cases hx : x < 0 <;> by_cases hy : y < 0 <;> simp [hx, hy] at hc <;> omega
    · rename_i hc
      rw [if_neg hc]
      by_cases hx : x < 0 <;> by_cases hy : y < 0 <;> simp [hx, hy] at hc <;> omega
theorem quo_ite {n1 n2 : Bool} {l m : List Int} (h1 : OkL l) (h2 : OkL m) : (if mag m = 0 then (false, [], 13) else mk (belowB n1 l != belowB n2 m) (mag l / mag m)) = if val n2 m = 0 then (false, [], 13) else mkI (Int.tdiv (val n1 l) (val n2 m)) := by
  by_cases h : mag m = 0
  · rw [if_pos h, if_pos (val_zero.mpr h)]
  · rw [if_neg h, if_neg (fun h' => h (val_zero.mp h')), quo_val h1 h2]
theorem mod_ite {n1 n2 : Bool} {l m : List Int} (h1 : OkL l) (h2 : OkL m) :
    (if mag m = 0 then (false, [], 13) else mk (belowB n2 m) (if (belowB n1 l != belowB n2 m) = true ∧ mag l % mag m ≠ 0 then mag m - mag l % mag m else mag l % mag m)) = if val n2 m = 0 then (false, [], 13) else mkI (Int.fmod (val n1 l) (val n2 m)) := by
  by_cases h : mag m = 0
  · rw [if_pos h, if_pos (val_zero.mpr h)]
  · rw [if_neg h, if_neg (fun h' => h (val_zero.mp h')), mod_val h1 h2 h]
/-- What a value is in text. -/
def textI (z : Int) : List UInt8 := NumW.textR (decide (z < 0)) z.natAbs
theorem text_val (neg : Bool) (l : List Int) : NumW.textR neg (mag l) = textI (val neg l) := by
  unfold textI
  rw [natAbs_val]
  unfold NumW.textR
  by_cases h : mag l = 0
  · rw [if_pos h, if_pos h]
  · rw [if_neg h, if_neg h]
    unfold val
    cases neg with
    | true => rw [if_pos rfl, if_pos (by simp; omega)]
    | false => rw [if_neg (by decide), if_neg (by simp)]
end Go.Proofs.YthhpnlbeniihhaaDoor.Vals
namespace Go.Proofs.YthhpnlbeniihhaaDoor
open Go.RowKit Go.Proofs.YthhpnlbeniihhaaDoorW.PrintWords Go.Proofs.YthhpnlbeniihhaaDoorW.PrintLast Go.Proofs.YthhpnlbeniihhaaDoorW.PrintMore Go.Proofs.YthhpnlbeniihhaaDoor.Limb Go.Proofs.YthhpnlbeniihhaaDoor.NumA Go.Proofs.YthhpnlbeniihhaaDoor.NumB Go.Proofs.YthhpnlbeniihhaaDoor.NumC Go.Proofs.YthhpnlbeniihhaaDoor.NumJ Go.Proofs.YthhpnlbeniihhaaDoor.NumP Go.Proofs.YthhpnlbeniihhaaDoor.NumQ Go.Proofs.YthhpnlbeniihhaaDoor.NumR Go.Proofs.YthhpnlbeniihhaaDoor.NumS Go.Proofs.YthhpnlbeniihhaaDoor.NumU Go.Proofs.YthhpnlbeniihhaaDoor.NumV Go.Proofs.YthhpnlbeniihhaaDoor.NumW Go.Proofs.YthhpnlbeniihhaaDoor.Vals
set_option linter.unusedVariables false
set_option linter.unusedSimpArgs false
instance instOkL (l : List Int) : Decidable (OkL l) := by unfold OkL; infer_instance
/-- Limbs, and few of them. -/
def okN (l : List Int) : Prop := OkL l ∧ l.length < 1073741824
instance instOkN (l : List Int) : Decidable (okN l) := by unfold okN; infer_instance
theorem okN.num {w : World} {A : Option Addr} {c : Nat} {l : List Int} (h : okN l) (hr : Kd.C (Kd.int .u32) w A l.length l) (hc : l.length ≤ c) : Num w A c l := ⟨hr, hc, h.1, by have := h.2; omega⟩
def num_Text.f (a0_0 : Bool) (l0_1 : List Int) : Option (ByteArray) := if okN l0_1 then some (⟨(textI (val a0_0 l0_1)).toArray⟩) else none
theorem num_Text.calls (a0_0 : Bool) (A0_1 : Option Addr) (c0_1 : Nat) (l0_1 : List Int) (r : ByteArray) (w : World) (hr0_1 : Kd.C (Kd.int .u32) w A0_1 l0_1.length l0_1) (hc0_1 : l0_1.length ≤ c0_1) (h : num_Text.f a0_0 l0_1 = some r) (ht : Tab w) :
    Calls Tryd.prog 22 #[.agg #[.bool a0_0, .slice A0_1 l0_1.length c0_1]] w fun e w' => e = .returned (.string r) ∧ Below w.heap.size w w' := by
  unfold num_Text.f at h
  by_cases hg : okN l0_1
  · rw [if_pos hg] at h
    have h := Option.some.inj h
    have c := text_calls a0_0 A0_1 c0_1 l0_1 w (hg.num hr0_1 hc0_1) hg.2 ht
    rw [text_val] at c
    rw [h] at c
    exact c
  · rw [if_neg hg] at h; cases h
def num_Cmp.f (a0_0 : Bool) (l0_1 : List Int) (a1_0 : Bool) (l1_1 : List Int) : Option (Int) := if okN l0_1 ∧ okN l1_1 then some (cmpI (val a0_0 l0_1) (val a1_0 l1_1)) else none
def num_Add.f (a0_0 : Bool) (l0_1 : List Int) (a1_0 : Bool) (l1_1 : List Int) : Option (Bool × List Int × Int) := if okN l0_1 ∧ okN l1_1 then some (mkI (val a0_0 l0_1 + val a1_0 l1_1)) else none
def num_Quo.f (a0_0 : Bool) (l0_1 : List Int) (a1_0 : Bool) (l1_1 : List Int) : Option (Bool × List Int × Int) := if okN l0_1 ∧ okN l1_1 then some (if val a1_0 l1_1 = 0 then (false, [], 13) else mkI (Int.tdiv (val a0_0 l0_1) (val a1_0 l1_1))) else none
theorem num_Quo.calls (a0_0 : Bool) (A0_1 : Option Addr) (c0_1 : Nat) (l0_1 : List Int) (a1_0 : Bool) (A1_1 : Option Addr) (c1_1 : Nat) (l1_1 : List Int) (r1 : Bool) (r2 : List Int) (r3 : Int) (w : World) (hr0_1 : Kd.C (Kd.int .u32) w A0_1 l0_1.length l0_1) (hc0_1 : l0_1.length ≤ c0_1) (hr1_1 : Kd.C (Kd.int .u32) w A1_1 l1_1.length l1_1) (hc1_1 : l1_1.length ≤ c1_1) (h : num_Quo.f a0_0 l0_1 a1_0 l1_1 = some (r1, r2, r3)) :
    Calls Tryd.prog 29 #[.agg #[.bool a0_0, .slice A0_1 l0_1.length c0_1], .agg #[.bool a1_0, .slice A1_1 l1_1.length c1_1]] w fun e w' => ∃ v1_ : Value, e = .returned (.tuple #[.agg #[.bool r1, v1_], .int .i64 r3]) ∧ Kd.R (Kd.int .u32) 63 w' w.heap.size (fun _ => True) v1_ r2 ∧ Below w.heap.size w w' := by
  unfold num_Quo.f at h
  by_cases hg : okN l0_1 ∧ okN l1_1
  · rw [if_pos hg] at h
    have h := Option.some.inj h
    have c := quo_calls a0_0 a1_0 A0_1 A1_1 c0_1 c1_1 l0_1 l1_1 w (hg.1.num hr0_1 hc0_1) (hg.2.num hr1_1 hc1_1) (by have := hg.1.2; omega) (by have := hg.2.2; omega)
    rw [quo_ite hg.1.1 hg.2.1] at c
    rw [h] at c
    exact c
  · rw [if_neg hg] at h; cases h
def num_Mod.f (a0_0 : Bool) (l0_1 : List Int) (a1_0 : Bool) (l1_1 : List Int) : Option (Bool × List Int × Int) := if okN l0_1 ∧ okN l1_1 then some (if val a1_0 l1_1 = 0 then (false, [], 13) else mkI (Int.fmod (val a0_0 l0_1) (val a1_0 l1_1))) else none
theorem num_Mod.calls (a0_0 : Bool) (A0_1 : Option Addr) (c0_1 : Nat) (l0_1 : List Int) (a1_0 : Bool) (A1_1 : Option Addr) (c1_1 : Nat) (l1_1 : List Int) (r1 : Bool) (r2 : List Int) (r3 : Int) (w : World) (hr0_1 : Kd.C (Kd.int .u32) w A0_1 l0_1.length l0_1) (hc0_1 : l0_1.length ≤ c0_1) (hr1_1 : Kd.C (Kd.int .u32) w A1_1 l1_1.length l1_1) (hc1_1 : l1_1.length ≤ c1_1) (h : num_Mod.f a0_0 l0_1 a1_0 l1_1 = some (r1, r2, r3)) :
    Calls Tryd.prog 31 #[.agg #[.bool a0_0, .slice A0_1 l0_1.length c0_1], .agg #[.bool a1_0, .slice A1_1 l1_1.length c1_1]] w fun e w' => ∃ v1_ : Value, e = .returned (.tuple #[.agg #[.bool r1, v1_], .int .i64 r3]) ∧ Kd.R (Kd.int .u32) 63 w' w.heap.size (fun _ => True) v1_ r2 ∧ Below w.heap.size w w' := by
  unfold num_Mod.f at h
  by_cases hg : okN l0_1 ∧ okN l1_1
  · rw [if_pos hg] at h
    have h := Option.some.inj h
    have c := mod_calls a0_0 a1_0 A0_1 A1_1 c0_1 c1_1 l0_1 l1_1 w (hg.1.num hr0_1 hc0_1) (hg.2.num hr1_1 hc1_1) (by have := hg.1.2; omega) (by have := hg.2.2; omega)
    rw [mod_ite hg.1.1 hg.2.1] at c
    rw [h] at c
    exact c
  · rw [if_neg hg] at h; cases h
def num_Of.f (a0 : Int) : Option (Bool × List Int) := if -9223372036854775808 ≤ a0 ∧ a0 < 9223372036854775808 then some ((mkI a0).1, (mkI a0).2.1) else none
theorem num_Of.calls (a0 : Int) (r1 : Bool) (r2 : List Int) (w : World) (h : num_Of.f a0 = some (r1, r2)) :
    Calls Tryd.prog 18 #[.int .i64 a0] w fun e w' => ∃ v1_ : Value, e = .returned (.agg #[.bool r1, v1_]) ∧ Kd.R (Kd.int .u32) 63 w' w.heap.size (fun _ => True) v1_ r2 ∧ Below w.heap.size w w' := by
  unfold num_Of.f at h
  by_cases hg : -9223372036854775808 ≤ a0 ∧ a0 < 9223372036854775808
  · rw [if_pos hg] at h
    have h := Option.some.inj h
    have h1 := congrArg Prod.fst h
    have h2 := congrArg Prod.snd h
    have c := NumM.of_calls a0 w hg
    rw [show (mkI a0).1 = r1 from h1, show (mkI a0).2.1 = r2 from h2] at c
    exact c
  · rw [if_neg hg] at h; cases h
def num_Parse.f (a0 : ByteArray) : Option (Bool × List Int × Int) := if a0.size ≤ 140737488355328 then some (parseR a0.data.toList) else none
theorem num_Parse.calls (a0 : ByteArray) (r1 : Bool) (r2 : List Int) (r3 : Int) (w : World) (h : num_Parse.f a0 = some (r1, r2, r3)) :
    Calls Tryd.prog 25 #[.string a0] w fun e w' => ∃ v1_ : Value, e = .returned (.tuple #[.agg #[.bool r1, v1_], .int .i64 r3]) ∧ Kd.R (Kd.int .u32) 63 w' w.heap.size (fun _ => True) v1_ r2 ∧ Below w.heap.size w w' := by
  unfold num_Parse.f at h
  by_cases hg : a0.size ≤ 140737488355328
  · rw [if_pos hg] at h
    have h := Option.some.inj h
    have c := parse_calls NumV.strs a0 w hg
    rw [h] at c
    exact c
  · rw [if_neg hg] at h; cases h
def num_Gcd.f (l0 : List (Bool × List Int)) : Option (Bool × List Int × Int) := if ∀ x ∈ l0, okN x.2 then some (mkI (gcdL l0)) else none
theorem num_Gcd.calls (A0 : Option Addr) (c0 : Nat) (l0 : List (Bool × List Int)) (r1 : Bool) (r2 : List Int) (r3 : Int) (w : World) (hr0 : Kd.C kN w A0 l0.length l0) (hc0 : l0.length ≤ c0) (h : num_Gcd.f l0 = some (r1, r2, r3)) :
    Calls Tryd.prog 34 #[.slice A0 l0.length c0] w fun e w' => ∃ v1_ : Value, e = .returned (.tuple #[.agg #[.bool r1, v1_], .int .i64 r3]) ∧ Kd.R (Kd.int .u32) 63 w' w.heap.size (fun _ => True) v1_ r2 ∧ Below w.heap.size w w' := by
  unfold num_Gcd.f at h
  by_cases hg : ∀ x ∈ l0, okN x.2
  · rw [if_pos hg] at h
    have h := Option.some.inj h
    have c := gcd_calls A0 c0 1073741824 l0 w hr0 hc0 (fun x hx => ⟨(hg x hx).1, by have := (hg x hx).2; omega⟩) (by decide)
    rw [mk_false, h] at c
    exact c
  · rw [if_neg hg] at h; cases h
end Go.Proofs.YthhpnlbeniihhaaDoor
namespace Go.Proofs.YthhpnlbeniihhaaDoor.Plain
open Go.Proofs.YthhpnlbeniihhaaDoor Go.Proofs.YthhpnlbeniihhaaDoor.Limb Go.Proofs.YthhpnlbeniihhaaDoor.NumA Go.Proofs.YthhpnlbeniihhaaDoor.NumB Go.Proofs.YthhpnlbeniihhaaDoor.NumC Go.Proofs.YthhpnlbeniihhaaDoor.NumJ Go.Proofs.YthhpnlbeniihhaaDoor.NumS Go.Proofs.YthhpnlbeniihhaaDoor.NumU Go.Proofs.YthhpnlbeniihhaaDoor.Vals
/-- A whole number's sign and limbs. -/
def sb (z : Int) : Bool := decide (z < 0)
def sl (z : Int) : List Int := limbs z.natAbs
/-- It is of at most 48 limbs. -/
def Fits (z : Int) : Prop := z.natAbs < 4294967296 ^ 48
instance (z : Int) : Decidable (Fits z) := by unfold Fits; infer_instance
theorem mkI_fits {z : Int} (h : Fits z) : mkI z = (sb z, sl z, 0) := by
  unfold mkI mk sb sl
  rw [if_pos (show z.natAbs < 4294967296 ^ 48 from h)]
  by_cases h0 : z = 0
  · subst h0; rfl
  · simp [h0]
theorem mkI_big {z : Int} (h : ¬ Fits z) : mkI z = (false, [], 6) := by
  unfold mkI mk
  rw [if_neg (show ¬ z.natAbs < 4294967296 ^ 48 from h)]
theorem ok_sl (z : Int) : OkL (sl z) := ok_limbs _
theorem mag_sl (z : Int) : mag (sl z) = z.natAbs := mag_limbs _
theorem val_s (z : Int) : val (sb z) (sl z) = z := by
  unfold val
  rw [mag_sl]
  unfold sb
  by_cases h : z < 0 <;> simp [h] <;> omega
theorem len_sl {z : Int} (h : Fits z) : (sl z).length ≤ 48 := by
  exact (limbs_len _ _).mpr h
theorem okN_sl {z : Int} (h : Fits z) : okN (sl z) := ⟨ok_sl z, by have := len_sl h; omega⟩
theorem sl_nil {z : Int} : sl z = [] ↔ z = 0 := by unfold sl; rw [limbs_nil]; omega
theorem text_at {z : Int} (h : Fits z) : num_Text.f (sb z) (sl z) = some ⟨(textI z).toArray⟩ := by
  unfold num_Text.f; rw [if_pos (okN_sl h), val_s]
section two
variable {y z : Int} (hy : Fits y) (hz : Fits z)
include hy hz
theorem cmp_at : num_Cmp.f (sb y) (sl y) (sb z) (sl z) = some (cmpI y z) := by unfold num_Cmp.f; rw [if_pos ⟨okN_sl hy, okN_sl hz⟩, val_s, val_s]
theorem add_at : num_Add.f (sb y) (sl y) (sb z) (sl z) = some (mkI (y + z)) := by unfold num_Add.f; rw [if_pos ⟨okN_sl hy, okN_sl hz⟩, val_s, val_s]
theorem quo_at : num_Quo.f (sb y) (sl y) (sb z) (sl z) = some (if z = 0 then (false, [], 13) else mkI (Int.tdiv y z)) := by unfold num_Quo.f; rw [if_pos ⟨okN_sl hy, okN_sl hz⟩, val_s, val_s]
theorem mod_at : num_Mod.f (sb y) (sl y) (sb z) (sl z) = some (if z = 0 then (false, [], 13) else mkI (Int.fmod y z)) := by unfold num_Mod.f; rw [if_pos ⟨okN_sl hy, okN_sl hz⟩, val_s, val_s]
end two
theorem of_at {z : Int} (h : -9223372036854775808 ≤ z ∧ z < 9223372036854775808) : num_Of.f z = some (sb z, sl z) := by
  unfold num_Of.f
  rw [if_pos h, mkI_fits (by unfold Fits; exact Nat.lt_of_lt_of_le (show z.natAbs < 4294967296 ^ 2 by omega) (Nat.pow_le_pow_right (by decide) (by decide)))]
end Go.Proofs.YthhpnlbeniihhaaDoor.Plain
namespace Go.Proofs.YthhpnlbeniihhaaDoor
open Go.RowKit Go.Proofs.YthhpnlbeniihhaaDoorW.PrintWords Go.Proofs.YthhpnlbeniihhaaDoorW.PrintLast
/-- A world that makes and draws alone lies between. -/
class Hp (w w' : World) : Prop where
  b : Below w.heap.size w w'
instance hp0 (w : World) : Hp w w := ⟨Below.refl _ _⟩
instance hp1 (w w' : World) (o : Obj) [h : Hp w w'] : Hp w (w'.alloc o) := ⟨below_alloc h.b o⟩
instance hp2 (w w' : World) [h : Hp w w'] : Hp w w'.drew := ⟨below_drew1 h.b⟩
instance hp3 (w w' : World) (n : Nat) [h : Hp w w'] : Hp w (w'.drewN n) := ⟨pw_below_drewN h.b n⟩
section
variable {w w1 w2 : World}
theorem qb {g : Nat} {o : Obj} (h : Aside0 (w.heap[g]? = some o)) [p : Hp w w1] (hb : Below w1.heap.size w1 w2) : Aside0 (w2.heap[g]? = some o) := ⟨blk_below (blk_below h.out p.b) hb⟩
section
variable {α : Type} {d : Kd α} {e base : Nat} {ok : Nat → Prop} {u v : Value} {xs : List α}
theorem qr (h : Aside0 (d.R e w base ok v xs)) [p : Hp w w1] (hb : Below w1.heap.size w1 w2) : Aside0 (d.R e w2 base ok v xs) := ⟨Kd.R_below (Kd.R_below h.out p.b) hb⟩
theorem ql (h : Aside0 (d.R e w base ok v xs)) [p : Hp w w1] : ∀ k, v.ownBlock = some k → k < w1.heap.size := Kd.R_lt (Kd.R_below h.out p.b)
theorem qe {α' : Type} {d' : Kd α'} {e' : Nat} {ok' : Nat → Prop} {ys : List α'} (h : Aside0 (d.R e w base ok u xs)) (ho : d'.R e' w2 w1.heap.size ok' v ys) [p : Hp w w1] (hb : Below w1.heap.size w1 w2) : Aside0 (d.R e w2 base (fun k => ok k ∧ some k ≠ v.ownBlock) u xs) :=
  ⟨Kd.R_elder' (Kd.R_below h.out p.b) (Kd.R_base ho) hb⟩
end
theorem qk {g : Nat} {o : Obj} (h : Aside0 (w.heap[g]? = some o)) [p : Hp w w1] : w1.heap[g]? = some o := blk_below h.out p.b
theorem qq {α : Type} {d : Kd α} {e base : Nat} {ok : Nat → Prop} {v : Value} {xs : List α} (h : Aside0 (d.R e w base ok v xs)) [p : Hp w w1] : d.R e w1 base ok v xs := Kd.R_below h.out p.b
theorem qn {g b : Nat} {o : Obj} (h : Aside0 (w.heap[g]? = some o)) [p : Hp w w1] (hg : b = w1.heap.size) : Aside0 (g ≠ b) := ⟨by rw [hg]; exact Nat.ne_of_lt (blk_lt (blk_below h.out p.b))⟩
theorem qm {g b : Nat} {o : Obj} (h : Aside0 (w.heap[g]? = some o)) [p : Hp w w1] (hg : b = w1.heap.size) : Aside0 (b ≠ g) := ⟨by rw [hg]; exact Nat.ne_of_gt (blk_lt (blk_below h.out p.b))⟩
theorem qg {b : Nat} (hg : b = w1.heap.size) (h : Below w.heap.size w w1) : Aside0 (w.heap.size ≤ b) := ⟨by rw [hg]; exact below_size h⟩
theorem qf {g b j k : Nat} {t : TypeId} {cs : Array Value} {u v : Value} (h : w.heap[g]? = some (.cells cs t (0, 0))) (n : Aside0 (g ≠ b)) : ((w.setCell ⟨b, j, none⟩ u).setCell ⟨b, k, none⟩ v).heap[g]? = some (.cells cs t (0, 0)) := blk_far (blk_far h n.out _) n.out _
theorem qN {g : Nat} {o : Obj} (h : w.heap[g]? = some o) (n : Nat) : (w.drewN n).heap[g]? = some o := h
theorem qW {g : Nat} {o : Obj} (h : w.heap[g]? = some o) : w.drew.heap[g]? = some o := h
theorem qA {g : Nat} {o : Obj} (h : w.heap[g]? = some o) (x : Obj) : (w.alloc x).heap[g]? = some o := blk_alloc h x
theorem qz {α : Type} {d : Kd α} {e base : Nat} {ok : Nat → Prop} {v : Value} {xs : List α} {g t : Nat} {cells : Array Value} (h : Aside0 (d.R e w base ok v xs)) (b : Aside0 (w.heap[g]? = some (.cells cells t (0, 0)))) (ht : ∀ q, q ∈ e :: d.E → q ≠ t) (x y : Value) :
    d.R e ((w.setCell ⟨g, 0, none⟩ x).setCell ⟨g, 1, none⟩ y) base (fun k => ok k ∧ k ≠ g) v xs := Kd.R_far (Kd.R_far (Kd.R_types h.out b.out ht) (fun _ hk => hk.2) x) (fun _ hk => hk.2) y
theorem qx {w W : World} (h : Below w.heap.size w W) (o : Obj) : Below w.heap.size w (W.alloc o) := below_alloc h o
theorem qv {B : Nat} {w W : World} (h : Below B w W) (n : Nat) : Below B w (W.drewN n) := pw_below_drewN h n
theorem qw {base : Nat} {w W : World} (h : Below base w W) : Below base w W.drew := below_drew1 h
theorem qc {g : Nat} {t : TypeId} {cs : Array Value} (h : Aside0 (w.heap[g]? = some (.cells cs t (0, 0)))) (i : Nat) {v : Value} (e : cs[i]? = some v := by rfl) : w.cell? ⟨g, i, none⟩ = some v := (blk_cell h.out i).trans e
theorem zA {α : Type} (l : List α) (i : Nat) (a : α) : l.toArray.setIfInBounds i a = (l.set i a).toArray := by simp
theorem zB {α : Type} (x : α) (l : List α) (b : α) : (x :: l).set 0 b = b :: l := rfl
theorem zC {α : Type} (x : α) (l : List α) (i : Nat) (b : α) : (x :: l).set (i + 1) b = x :: l.set i b := rfl
theorem qs {g j : Nat} {v : Value} (h : Below w.heap.size w w1) (hg : Aside0 (w.heap.size ≤ g)) : Below w.heap.size w (w1.setCell ⟨g, j, none⟩ v) := below_set h hg.out
theorem zM {α β : Type} (f : α → β) (l : List α) : l.toArray.map f = (l.map f).toArray := by simp
theorem zO {α β : Type} (f : α → β) (a : α) (l : List α) : (a :: l).map f = f a :: l.map f := rfl
theorem zP {α β : Type} (f : α → β) : ([] : List α).map f = [] := rfl
theorem qC {α : Type} {d : Kd α} {A : Option Addr} {n : Nat} {xs : List α} (h : Aside0 (Kd.C d w A n xs)) (b : Aside0 (Below w.heap.size w w1)) [p : Hp w1 w2] : Kd.C d w2 A n xs := Kd.C_below (Kd.C_below h.out b.out) p.b
end
end Go.Proofs.YthhpnlbeniihhaaDoor
-- Printed by a program of this session's (wip/tools/printr.py, over the kit's print program).
namespace Go.Proofs.YthhpnlbeniihhaaDoor.PAwk
open Go.RowKit Go.Proofs.YthhpnlbeniihhaaDoorW.PrintWords Go.Proofs.YthhpnlbeniihhaaDoorW.PrintLast Go.Proofs.YthhpnlbeniihhaaDoorW.PrintMore
attribute [local go_sem] max2_int min2_int max_two min_two max_three min_three max_four min_four   -- for this text's walks alone
set_option linter.unusedVariables false
set_option linter.unusedSimpArgs false
def errW : Option Int → Value
  | none => .nilIface
  | some c => .iface 0 (.int .i64 c)
theorem errW_none : errW none = .nilIface := rfl
theorem errW_some (c : Int) : errW (some c) = .iface 0 (.int .i64 c) := rfl
theorem info63 : (Tryd.prog.info? 63).map (fun i => (i.zero, i.size, i.bytes)) = some (some (.int .u32 0), 1, 4) := by kernel_rfl
-- the values' own types
end Go.Proofs.YthhpnlbeniihhaaDoor.PAwk
