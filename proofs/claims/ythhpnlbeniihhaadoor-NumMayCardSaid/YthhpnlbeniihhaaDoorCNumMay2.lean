/- Contracts and plain laws that the row's proof uses (part 2). Conditions: those that each states. -/
import Derived.Lib.ConvBytes
import Derived.Lib.Strings
import Derived.Lib.IndexBytes
import Derived.Lib.SlTrimSet
import Derived.Test.YthhpnlbeniihhaaDoorCNumMay1
namespace Go.Proofs.YthhpnlbeniihhaaDoor.NumO
open Go.RowKit Go.Proofs.YthhpnlbeniihhaaDoorW.PrintWords Go.Proofs.YthhpnlbeniihhaaDoorW.PrintLast Go.Proofs.YthhpnlbeniihhaaDoorW.PrintMore Go.Proofs.YthhpnlbeniihhaaDoor.Limb Go.Proofs.YthhpnlbeniihhaaDoor.NumA Go.Proofs.YthhpnlbeniihhaaDoor.NumB Go.Proofs.YthhpnlbeniihhaaDoor.NumC Go.Proofs.YthhpnlbeniihhaaDoor.NumD Go.Proofs.YthhpnlbeniihhaaDoor.NumE Go.Proofs.YthhpnlbeniihhaaDoor.NumF Go.Proofs.YthhpnlbeniihhaaDoor.NumG Go.Proofs.YthhpnlbeniihhaaDoor.NumH Go.Proofs.YthhpnlbeniihhaaDoor.NumI Go.Proofs.YthhpnlbeniihhaaDoor.NumJ Go.Proofs.YthhpnlbeniihhaaDoor.NumN Go.Proofs.YthhpnlbeniihhaaDoor.Quo
set_option linter.unusedVariables false
set_option linter.unusedSimpArgs false
/-- The rows that parted answers. -/
def Parts (w : World) (a b : Nat) (la lb : Nat) (e : Ending) (w' : World) : Prop :=
  ∃ q r Q R, e = .returned (.tuple #[q, r]) ∧ New w' w.heap.size q Q ∧ New w' w.heap.size r R ∧ OkL Q ∧ OkL R ∧ mag Q = a / b ∧ mag R = a % b ∧ Q.length ≤ la ∧ R.length ≤ lb + 1 ∧ Below w.heap.size w w'
theorem make_run (n : Nat) (h : n < 35184372088832) : ∀ W : World, Sem.run Tryd.prog (Instr.makeSlice 23 (.int .i64 (n : Int)) (.int .i64 (n : Int))) W = .ok (.slice (some ⟨W.heap.size, 0, none⟩) n n) (W.alloc (.cells (madeCells (Value.int .u32 0).cells n) 63 (0, 0))) := by
  intro W
  obtain ⟨i0, hi, hzz⟩ := Option.map_eq_some_iff.1 info32
  simp only [Prod.mk.injEq] at hzz
  obtain ⟨hz0, hz1, hz2⟩ := hzz
  have hr := run_make (P := Tryd.prog) W 23 63 i0 (.int .u32 0) Tryd.underlying23 hi hz0 .i64 .i64 (n : Int) (n : Int) (by omega) (by omega) (by rw [hz2]; omega) (by omega)
  rw [hz1, Nat.mul_one, Int.toNat_natCast] at hr
  exact hr
/-- The world at the loop's head. -/
theorem start_world (w : World) (k : Nat) (v : Value) (X Y : Array Value) :
    ((((((w.alloc (.cells #[.slice none 0 0] 23 (0, 0))).drewN k).setCell ⟨w.heap.size, 0, none⟩ v).alloc (.cells X 63 (0, 0))).alloc (.cells Y 63 (0, 0))).heap[w.heap.size]? = some (.cells #[v] 23 (0, 0)) ∧
    (((((w.alloc (.cells #[.slice none 0 0] 23 (0, 0))).drewN k).setCell ⟨w.heap.size, 0, none⟩ v).alloc (.cells X 63 (0, 0))).alloc (.cells Y 63 (0, 0))).heap[w.heap.size + 1]? = some (.cells X 63 (0, 0)) ∧
    (((((w.alloc (.cells #[.slice none 0 0] 23 (0, 0))).drewN k).setCell ⟨w.heap.size, 0, none⟩ v).alloc (.cells X 63 (0, 0))).alloc (.cells Y 63 (0, 0))).heap[w.heap.size + 1 + 1]? = some (.cells Y 63 (0, 0))) ∧
    Below w.heap.size w (((((w.alloc (.cells #[.slice none 0 0] 23 (0, 0))).drewN k).setCell ⟨w.heap.size, 0, none⟩ v).alloc (.cells X 63 (0, 0))).alloc (.cells Y 63 (0, 0))) := by
  have h0 := blk_new w (.cells #[.slice none 0 0] 23 (0, 0))
  have hs : (((w.alloc (.cells #[.slice none 0 0] 23 (0, 0))).drewN k).setCell ⟨w.heap.size, 0, none⟩ v).heap.size = w.heap.size + 1 := by simp [World.setCell]
  have h1 : (((w.alloc (.cells #[.slice none 0 0] 23 (0, 0))).drewN k).setCell ⟨w.heap.size, 0, none⟩ v).heap[w.heap.size]? = some (.cells #[v] 23 (0, 0)) := blk_put (w := (w.alloc (.cells #[.slice none 0 0] 23 (0, 0))).drewN k) h0 0 v rfl
  have hb : Below w.heap.size w (((w.alloc (.cells #[.slice none 0 0] 23 (0, 0))).drewN k).setCell ⟨w.heap.size, 0, none⟩ v) := below_set (pw_below_drewN (below_alloc (Below.refl w.heap.size w) _) _) (by omega)
  generalize ((w.alloc (.cells #[.slice none 0 0] 23 (0, 0))).drewN k).setCell ⟨w.heap.size, 0, none⟩ v = W at *
  have h2 := blk_new W (.cells X 63 (0, 0))
  have h3 := blk_new (W.alloc (.cells X 63 (0, 0))) (.cells Y 63 (0, 0))
  rw [World.size_alloc] at h3
  rw [hs] at h2 h3
  exact ⟨⟨blk_alloc (blk_alloc h1 _) _, blk_alloc h2 _, h3⟩, below_alloc (below_alloc hb _) _⟩
theorem w64_of {x y : Int} (h : x = y) (h0 : -9223372036854775808 ≤ y) (h1 : y ≤ 9223372036854775807) : wrap64 x = y := by subst h; unfold wrap64; omega
theorem i64_of {x y : Int} (h : x = y) (h0 : -9223372036854775808 ≤ y) (h1 : y ≤ 9223372036854775807) : IntKind.i64.wrap x = y := by subst h; rw [IntKind.wrap_i64]; omega
/-- A row of limbs of the call's own, in no block bq. -/
def NewB (w : World) (base bq : Nat) (v : Value) (l : List Int) : Prop := Kd.R (Kd.int .u32) 63 w base (fun k => k ≠ bq) v l
theorem NewB.of {w : World} {base base' bq : Nat} {v : Value} {l : List Int} (h : New w base v l) (hb : bq < base) (hl : base' ≤ base) : NewB w base' bq v l :=
  Kd.R_lower (Kd.R_mono (Kd.R_bound h) (fun k hk => by have := hk.2.1; omega)) hl
theorem NewB.new {w : World} {base bq : Nat} {v : Value} {l : List Int} (h : NewB w base bq v l) : New w base v l := Kd.R_mono h (fun _ _ => trivial)
theorem NewB.below {w w1 : World} {base bq : Nat} {v : Value} {l : List Int} (h : NewB w base bq v l) (hb : Below w.heap.size w w1) : NewB w1 base bq v l := Kd.R_below h hb
theorem NewB.far {w : World} {base bq : Nat} {v : Value} {l : List Int} (h : NewB w base bq v l) (j : Nat) (u : Value) : NewB (w.setCell ⟨bq, j, none⟩ u) base bq v l := Kd.R_far (p := ⟨bq, j, none⟩) h (fun _ hk => hk) u
theorem NewB.set {w : World} {base bq : Nat} {v : Value} {l : List Int} (h : NewB w base bq v l) {g : Nat} {cells : Array Value} (hb : w.heap[g]? = some (.cells cells 23 (0, 0))) (j : Nat) (u : Value) : NewB (w.setCell ⟨g, j, none⟩ u) base bq v l :=
  Kd.R_set h hb (fun q hq => by
    have : q = 63 := by simpa [Kd.int, Kd.scalar] using hq
    subst this
    decide) j u
/-- The row's cells, as a block. -/
def cellsL (l : List Int) : Array Value := (l.map (Value.int .u32)).toArray
theorem cellsL_set (l : List Int) (i : Nat) (x : Int) : cellsL (l.set i x) = (cellsL l).setIfInBounds i (.int .u32 x) := by
  unfold cellsL
  simp [List.map_set]
theorem cellsL_get (l : List Int) (i : Nat) (h : i < l.length) : (cellsL l)[i]? = some (.int .u32 l[i]) := by
  unfold cellsL
  simp [h]
theorem cellsL_zeros (n : Nat) : madeCells #[.int .u32 0] n = cellsL (List.replicate n 0) := by
  unfold cellsL madeCells
  apply Array.ext'
  apply List.ext_getElem
  · simp
  · intro i h1 h2
    simp [Nat.mod_one]
theorem dblF64 (l : List Int) (ol : OkL l) (bit i c : Nat) (hb : bit < 2) (hc : c < 4294967296) : dblF l bit i c < 18446744073709551616 := by
  have h1 : 2 * nl l i < 2 ^ 64 := by have := nl_lt ol i; omega
  have h2 : (if i = 0 then bit else c) < 2 ^ 64 := by split <;> omega
  exact Nat.or_lt_two_pow h1 h2
theorem enter_parted1 (p q x y : Value) (W : World) : Sem.run Tryd.prog (callFunc 94 #[x, y, p, q]) W = .ok (.enter 94 #[x, y, p, q]) W := by kernel_rfl
theorem row_part (pa pb : Addr) (A : Option Addr) (c : Nat) (l : List Int) (bit : Nat) (w : World) (ha : w.cell? pa = some (.int .u32 bit)) (hb : w.cell? pb = some (.slice A l.length c))
    (hl : Lim w A l) (ol : OkL l) (hlen : l.length < 35184372088832) (hbit : bit < 2) :
    Calls Tryd.prog 65 #[.int .i64 l.length, .func (.func 94) #[] #[.pointer (some pa), .pointer (some pb)]] w fun e w' => ∃ v, e = .returned v ∧ New w' w.heap.size v (pre (dblF l bit) l.length) ∧ Below w.heap.size w w' := by
  refine row_calls 94 (.pointer (some pa)) (.pointer (some pb)) l.length (dblF l bit) w hlen (enter_parted1 _ _) ?_ ?_
  · intro i k hi hk
    exact dblF64 l ol bit i k hbit hk
  · intro i k w1 hi hk hb1
    exact parted1_calls pa pb A c l bit i k w1 (pw_cell_below hb1 ha) (pw_cell_below hb1 hb) (hl.below hb1) ol hi hlen hk hbit
theorem bit_and (x t : Nat) (hx : x < 4294967296) : Go.bits .and .u32 ((x : Int) / 2 ^ t) 1 = ((x / 2 ^ t % 2 : Nat) : Int) := by
  have e : (x : Int) / 2 ^ t = ((x / 2 ^ t : Nat) : Int) := by
    rw [Int.natCast_ediv, Int.natCast_pow]
    rfl
  rw [e]
  have h1 : x / 2 ^ t < 4294967296 := Nat.lt_of_le_of_lt (Nat.div_le_self _ _) hx
  generalize x / 2 ^ t = y at *
  have h2 := u32_and_nat y 1 h1 (by decide)
  rw [nat_mask1] at h2
  exact h2
/-- How things stand at the head of the loop, j bits still to come. -/
def PInv (B : Nat) (a b : List Int) (bq br j : Nat) (w : World) : Prop :=
  j ≤ 32 * a.length ∧ (∃ Q : List Int, w.heap[bq]? = some (.cells (cellsL Q) 63 (0, 0)) ∧ OkL Q ∧ Q.length = a.length ∧ mag Q = 2 ^ j * (mag a / 2 ^ j / mag b)) ∧
    ∃ (v : Value) (R : List Int), w.heap[br]? = some (.cells #[v] 23 (0, 0)) ∧ NewB w B bq v R ∧ OkL R ∧ R.length = b.length + 1 ∧ mag R = mag a / 2 ^ j % mag b
theorem pow32 (n : Nat) : 2 ^ (32 * n) = 4294967296 ^ n := by rw [Nat.pow_mul]
theorem start_inv (B : Nat) (a b : List Int) (oa : OkL a) (bq br bw n2 : Nat) (W : World) (hn : b.length + 1 = n2) (hm : n2 ≤ maxLen) (hne : bw ≠ bq) (hB : B ≤ bw)
    (hq : W.heap[bq]? = some (.cells (madeCells #[.int .u32 0] a.length) 63 (0, 0))) (hR : W.heap[bw]? = some (.cells (madeCells #[.int .u32 0] n2) 63 (0, 0)))
    (hr : W.heap[br]? = some (.cells #[.slice (some ⟨bw, 0, none⟩) n2 n2] 23 (0, 0))) : PInv B a b bq br (32 * a.length) W := by
  rw [cellsL_zeros] at hq hR
  have z : mag a / 2 ^ (32 * a.length) = 0 := by rw [pow32]; exact Nat.div_eq_of_lt (mag_lt oa)
  refine ⟨Nat.le_refl _, ⟨_, hq, zeros_ok _, List.length_replicate, ?_⟩, _, List.replicate n2 0, hr, ?_, zeros_ok _, by rw [List.length_replicate, hn], ?_⟩
  · rw [z, mag_zeros, Nat.zero_div, Nat.mul_zero]
  · have hl : (List.replicate n2 (0 : Int)).length = n2 := List.length_replicate
    refine Kd.R_of_own (enc := Value.int .u32) (h1 := fun _ => rfl) (ok := fun k => k ≠ bq) ?_ (fun k hk => by
      have e : bw = k := by simpa [Value.ownBlock] using hk
      exact e ▸ hne)
    rw [hl]
    refine ⟨by simp [encs], .inr ⟨bw, n2, _, rfl, hB, hR, Nat.le_refl _, hm, by unfold cellsL; simp, ?_⟩⟩
    unfold cellsL
    rw [Nat.mul_one, List.take_of_length_le (by simp)]
    rfl
  · rw [z, mag_zeros, Nat.zero_mod]
set_option maxRecDepth 100000 in
set_option maxHeartbeats 4000000 in
theorem parted_calls (A B : Option Addr) (c d : Nat) (l m : List Int) (w : World) 
    (hl : Lim w A l) (hm : Lim w B m) (ol : OkL l) (om : OkL m) (hc : l.length ≤ c) (hd : m.length ≤ d) (hl2 : l.length < 1099511627776) (hm2 : m.length < 1099511627776) (h0 : mag m ≠ 0) :
    Calls Tryd.prog 69 #[.slice A l.length c, .slice B m.length d] w (Parts w (mag l) (mag m) l.length (tr m).length) := by
  have HL := Aside0.mk hl
  have HM := Aside0.mk hm
  have HC := Aside0.mk hc
  have HD := Aside0.mk hd
  have T1 := Lib.hid (show ∀ W : World, Lim W A l → Calls Tryd.prog 54 #[.slice A l.length c] W _ from fun W hW => trim_calls A c l W hW hc)
  have T2 := Lib.hid (show ∀ W : World, Lim W B m → Calls Tryd.prog 54 #[.slice B m.length d] W _ from fun W hW => trim_calls B d m W hW hd)
  have k1 : (tr l).length < 35184372088832 := by have := tr_len_le l; omega
  have k2 : (tr m).length + 1 < 35184372088832 := by have := tr_len_le m; omega
  have r1 := make_run _ k1
  obtain ⟨n2, hn2⟩ : ∃ n2, (tr m).length + 1 = n2 := ⟨_, rfl⟩
  have HN2 := Aside0.mk hn2
  have r2 := make_run n2 (by omega)
  have wl : wrap64 (((tr m).length : Int) + 1) = (n2 : Int) := by unfold wrap64; omega
  have HWL := Aside0.mk wl
  have HL2 := Aside0.mk hl2
  have HM2 := Aside0.mk hm2
  have OA := Aside0.mk (ok_tr ol)
  have OB := Aside0.mk (ok_tr om)
  have HM0 := Aside0.mk h0
  clear hn2
  clear hl hm hc hd ol om hl2 hm2 h0 k1 k2
  go_enter Tryd.func69, Tryd.ntmps69
  go_wp2_with (first | (go_at_call_of 54 (Value.slice A l.length c); (refine (T1.out _ (HL.out.alloc _)).mono ?_); rintro e w' ⟨rfl, ⟨nd, rfl⟩⟩) | (go_at_call_of 54 (Value.slice B m.length d); (refine (T2.out _ ((HM.out.alloc _).drewN _)).mono ?_); rintro e w' ⟨rfl, ⟨nd2, rfl⟩⟩))
  go_region
  all_goals (clear r1 r2 wl; go_wp2)
  all_goals first
   | (obtain ⟨⟨hr, hq, hR⟩, hb⟩ := start_world w (nd + nd2 + 1) (.slice (some ⟨w.heap.size + 1 + 1, 0, none⟩) n2 n2) (madeCells #[.int .u32 0] (tr l).length) (madeCells #[.int .u32 0] n2)
      obtain ⟨W, hW⟩ : ∃ W, (((((w.alloc (.cells #[.slice none 0 0] 23 (0, 0))).drewN (nd + nd2 + 1)).setCell ⟨w.heap.size, 0, none⟩ (.slice (some ⟨w.heap.size + 1 + 1, 0, none⟩) n2 n2)).alloc (.cells (madeCells #[.int .u32 0] (tr l).length) 63 (0, 0))).alloc (.cells (madeCells #[.int .u32 0] n2) 63 (0, 0))) = W := ⟨_, rfl⟩
      rw [hW] at hr hq hR hb
      rw [hW]
      clear hW
      have hI := start_inv w.heap.size (tr l) (tr m) OA.out (w.heap.size + 1) w.heap.size (w.heap.size + 1 + 1) n2 W HN2.out (by have := HN2.out; have := HM2.out; have := tr_len_le m; unfold maxLen; omega) (by omega) (by omega) hq hR hr
      obtain ⟨bq, hbq⟩ : ∃ bq, w.heap.size + 1 = bq := ⟨_, rfl⟩
      have hbq0 : w.heap.size < bq := by omega
      rw [hbq] at hI
      rw [hbq]
      have HBQ := Aside0.mk hbq0
      clear hbq hbq0)
   | (obtain ⟨⟨hr, hR, hq⟩, hb⟩ := start_world w (nd + nd2 + 1) (.slice (some ⟨w.heap.size + 1, 0, none⟩) n2 n2) (madeCells #[.int .u32 0] n2) (madeCells #[.int .u32 0] (tr l).length)
      obtain ⟨W, hW⟩ : ∃ W, (((((w.alloc (.cells #[.slice none 0 0] 23 (0, 0))).drewN (nd + nd2 + 1)).setCell ⟨w.heap.size, 0, none⟩ (.slice (some ⟨w.heap.size + 1, 0, none⟩) n2 n2)).alloc (.cells (madeCells #[.int .u32 0] n2) 63 (0, 0))).alloc (.cells (madeCells #[.int .u32 0] (tr l).length) 63 (0, 0))) = W := ⟨_, rfl⟩
      rw [hW] at hr hq hR hb
      rw [hW]
      clear hW
      have hI := start_inv w.heap.size (tr l) (tr m) OA.out (w.heap.size + 1 + 1) w.heap.size (w.heap.size + 1) n2 W HN2.out (by have := HN2.out; have := HM2.out; have := tr_len_le m; unfold maxLen; omega) (by omega) (by omega) hq hR hr
      obtain ⟨bq, hbq⟩ : ∃ bq, w.heap.size + 1 + 1 = bq := ⟨_, rfl⟩
      have hbq0 : w.heap.size < bq := by omega
      rw [hbq] at hI
      rw [hbq]
      have HBQ := Aside0.mk hbq0
      clear hbq hbq0)
  all_goals
    have HI := Aside0.mk hI
    have HB := Aside0.mk hb
    clear hI hr hq hR hb
    obtain ⟨x0, hx0⟩ : ∃ x0 : Int, wrap64 (wrap64 (32 * ((tr l).length : Int)) - 1) = x0 := ⟨_, rfl⟩
    rw [hx0]
    have hxe : x0 = 32 * ((tr l).length : Int) - 1 := by
      have h1 := HL2.out
      have h2 := tr_len_le l
      rw [← hx0]
      have e1 : wrap64 (32 * ((tr l).length : Int)) = 32 * ((tr l).length : Int) := by unfold wrap64; omega
      rw [e1]
      unfold wrap64
      omega
    have HXE := Aside0.mk hxe
    clear hxe hx0
    go_loopw [6] (fun v6 w' => ∃ x : Int, v6 = .int .i64 x ∧ Aside0 (-1 ≤ x ∧ PInv w.heap.size (tr l) (tr m) bq w.heap.size (x + 1).toNat w') ∧ Aside0 (Below w.heap.size w w')) (fun v6 _ => (intOf v6 + 1).toNat)
    case atStart => exact ⟨x0, rfl, ⟨by have := HXE.out; omega, by have := HXE.out; rw [show (x0 + 1).toNat = 32 * (tr l).length by omega]; exact HI.out⟩, HB⟩
    case round =>
      clear HI HB HXE
      obtain ⟨x, rfl, HI, HB⟩ := hrel
      by_cases h0 : x = -1
      · subst h0
        obtain ⟨hj, ⟨Q, hQ, okQ, lenQ, magQ⟩, rv, R, hR, hN, okR, lenR, magR⟩ := HI.out.2
        obtain ⟨Ar, cr, rfl, hcr, hlR⟩ := New.lim hN.new
        have HQ := Aside0.mk hQ
        have HQ' := Aside0.mk (And.intro okQ (And.intro lenQ magQ))
        have HR := Aside0.mk hR
        have HN := Aside0.mk hN
        have HR' := Aside0.mk (And.intro okR (And.intro lenR magR))
        have hcr0 := (blk_cell hR 0)
        have hfr0 := blk_frozen hR 0
        clear hj hQ okQ lenQ magQ hR hN okR lenR magR hcr hlR HI
        go_wp2
        go_region
        go_wp2
        obtain ⟨We, hWe⟩ : ∃ We, (wr.setCell ⟨w.heap.size, 0, none⟩ (.slice Ar R.length cr)).drew = We := ⟨_, rfl⟩
        have hsz := blk_lt HQ.out
        have hcw : We.cell? ⟨w.heap.size, 0, none⟩ = some (.slice Ar R.length cr) := by
          rw [← hWe]
          exact (blk_cell (blk_drew (blk_put HR.out 0 _ rfl)) 0).trans rfl
        have hqw : We.heap[bq]? = some (.cells (cellsL Q) 63 (0, 0)) := by
          rw [← hWe]
          exact blk_drew (blk_far HQ.out (by dsimp only; have := HBQ.out; omega) _)
        have hnw : New We w.heap.size (.slice Ar R.length cr) R := by
          rw [← hWe]
          exact (HN.out.set HR.out 0 _).new
        have hbw : Below w.heap.size w We := by
          rw [← hWe]
          exact below_drew (below_set HB.out (Nat.le_refl _))
        rw [hWe]
        have HQW := Aside0.mk hqw
        have HNW := Aside0.mk hnw
        have HBW := Aside0.mk hbw
        clear hWe hqw hnw hbw hsz
        have hlq : Q.length = (tr l).length := HQ'.out.2.1
        have hnq : New We w.heap.size (.slice (some ⟨bq, 0, none⟩) (tr l).length (tr l).length) Q := by
          rw [← hlq]
          exact New.of_block (Nat.le_of_lt HBQ.out) HQW.out (Nat.le_refl _) (by rw [hlq]; have := HL2.out; have := tr_len_le l; unfold maxLen; omega) (by unfold cellsL; simp) (by unfold cellsL; rw [List.take_of_length_le (by simp)])
        have HNQ := Aside0.mk hnq
        clear hnq hlq
        refine bodyPost_ret (v := .tuple #[.slice (some ⟨bq, 0, none⟩) (tr l).length (tr l).length, .slice Ar R.length cr]) (by simp [results, Tryd.results69, go_sem, hcw]) rfl ?_
        refine ⟨_, _, Q, R, rfl, HNQ.out, HNW.out, HQ'.out.1, HR'.out.1, ?_, ?_, by rw [HQ'.out.2.1]; exact tr_len_le l, by rw [HR'.out.2.1]; exact Nat.le_refl _, HBW.out⟩
        · rw [HQ'.out.2.2]
          simp [mag_tr]
        · rw [HR'.out.2.2]
          simp [mag_tr]
      · obtain ⟨i, rfl⟩ := Int.eq_ofNat_of_zero_le (show 0 ≤ x by have := HI.out.1; omega)
        obtain ⟨hj, ⟨Q, hQ, okQ, lenQ, magQ⟩, rv, R, hR, hN, okR, lenR, magR⟩ := HI.out.2
        rw [show ((i : Int) + 1).toNat = i + 1 by omega] at hj magQ magR
        obtain ⟨Ar, cr, rfl, hcr, hlR⟩ := New.lim hN.new
        have HQ := Aside0.mk hQ
        have OQ := Aside0.mk okQ
        have LQ := Aside0.mk lenQ
        have MQ := Aside0.mk magQ
        have HR := Aside0.mk hR
        have HN := Aside0.mk hN
        have OR := Aside0.mk okR
        have LR := Aside0.mk lenR
        have MR := Aside0.mk magR
        have HLR := Aside0.mk hlR
        have HCR := Aside0.mk hcr
        have i0 : (0 : Int) ≤ (i : Int) := by omega
        obtain ⟨xi, hxi⟩ : ∃ xi : Int, (i : Int) - 1 = xi := ⟨_, rfl⟩
        have hil : i < 32 * (tr l).length := by omega
        have hll := HL2.out
        have htl := tr_len_le l
        obtain ⟨dn, hdn⟩ : ∃ dn : Nat, i / 32 = dn := ⟨_, rfl⟩
        obtain ⟨d', hd'⟩ : ∃ d' : Int, (dn : Int) = d' := ⟨_, rfl⟩
        have hA := ((HL.out.take (tr_len_le l)).below HB.out)
        rw [tr_take] at hA
        have d0 : (0 : Int) ≤ d' := by omega
        have d1 : d' < ((tr l).length : Int) := by omega
        obtain ⟨ad, e0, hcell⟩ := hA.at_ d' d0 d1
        have hbit := bit_and (nl (tr l) dn) (i % 32) (nl_lt OA.out dn)
        rw [nl_cast OA.out, hd'] at hbit
        have hbe := bit_limb OA.out i
        rw [hdn] at hbe
        rw [← hbe] at hbit
        obtain ⟨bit, hbt⟩ : ∃ bit, mag (tr l) / 2 ^ i % 2 = bit := ⟨_, rfl⟩
        rw [hbt] at hbit
        have HBT := Aside0.mk hbt
        have hb2 : bit < 2 := by rw [← hbt]; exact Nat.mod_lt _ (by decide)
        have HB2 := Aside0.mk hb2
        have HIL := Aside0.mk hil
        have HDN := Aside0.mk hdn
        have HD' := Aside0.mk hd'
        have p0 := eq_true d0
        have q0 := eq_true d1
        have wd0 : (i : Int) / 32 = d' := by omega
        have wd4 : -9223372036854775808 ≤ d' := by omega
        have wd3 : d' ≤ 9223372036854775807 := by omega
        have hi63 : (i : Int) < 9223372036854775807 := by omega
        have HXI := Aside0.mk hxi
        have xb0 : -9223372036854775808 ≤ xi := by omega
        have xb1 : xi ≤ 9223372036854775807 := by omega
        have wx1 : wrap64 ((i : Int) - 1) = xi := w64_of hxi xb0 xb1
        have wx2 : IntKind.i64.wrap ((i : Int) - 1) = xi := i64_of hxi xb0 xb1
        clear xb0 xb1
        clear hxi hi63
        have wd : wrap64 ((i : Int) / 32) = d' := w64_of wd0 wd4 wd3
        have wd2 : IntKind.i64.wrap ((i : Int) / 32) = d' := i64_of wd0 wd4 wd3
        cases e0
        -- the world in which row is called
        have hr0 : (wr.alloc (.cells #[.int .u32 (bit : Int)] 63 (0, 0))).cell? ⟨w.heap.size, 0, none⟩ = some (.slice Ar R.length cr) := (blk_cell (blk_alloc hR _) 0).trans rfl
        have hb0 : (wr.alloc (.cells #[.int .u32 (bit : Int)] 63 (0, 0))).cell? ⟨wr.heap.size, 0, none⟩ = some (.int .u32 (bit : Int)) := (blk_cell (blk_new wr _) 0).trans rfl
        have CALL := Lib.hid (row_part ⟨wr.heap.size, 0, none⟩ ⟨w.heap.size, 0, none⟩ Ar cr R bit (wr.alloc (.cells #[.int .u32 (bit : Int)] 63 (0, 0))) hb0 hr0 (hlR.alloc _) okR (by have := HM2.out; have := tr_len_le m; omega) hb2)
        clear hb0 wd0 wd3 wd4
        clear hj hQ okQ lenQ magQ hR hN okR lenR magR HI h0 hil hdn hd' hA d0 d1 hll htl hbe hbt hb2 hlR hcr
        go_wp2_with fail
        refine CALL.out.mono ?_
        clear CALL
        rintro e w1 ⟨v1, rfl, hn1, hb1⟩
        obtain ⟨R1, hR1⟩ : ∃ R1, pre (dblF R bit) R.length = R1 := ⟨_, rfl⟩
        have okR1 : OkL R1 := by rw [← hR1]; exact pre_ok _ _
        have lenR1 : R1.length = R.length := by rw [← hR1]; exact pre_length _ _
        have hbm : 0 < mag (tr m) := by rw [mag_tr]; exact Nat.pos_of_ne_zero HM0.out
        have magR1 : mag R1 = 2 * mag R + bit := by
          rw [← hR1]
          refine dbl_value OR.out HB2.out (by rw [LR.out]; omega) ?_
          have h1 : mag R < mag (tr m) := by rw [MR.out]; exact Nat.mod_lt _ hbm
          have h2 := mag_lt OB.out
          have h3 := HB2.out
          rw [LR.out, Nat.pow_succ]
          omega
        rw [hR1] at hn1
        obtain ⟨A1, c1, rfl, hc1, _⟩ := New.lim hn1
        have hbk := blk_below (blk_alloc HR.out (.cells #[.int .u32 (bit : Int)] 63 (0, 0))) hb1
        have hqk := blk_below (blk_alloc HQ.out (.cells #[.int .u32 (bit : Int)] 63 (0, 0))) hb1
        have hB1 := below_step (below_alloc HB.out (.cells #[.int .u32 (bit : Int)] 63 (0, 0))) hb1
        have hlt := blk_lt HQ.out
        have hnb : NewB w1 w.heap.size bq (.slice A1 R1.length c1) R1 := NewB.of hn1 (by rw [World.size_alloc]; omega) (by rw [World.size_alloc]; have := HBQ.out; omega)
        have hcr1 := (blk_cell hbk 0)
        have hfr1 := blk_frozen hbk 0
        have hB1s := below_set (j := 0) (v := .slice A1 R1.length c1) hB1 (Nat.le_refl _)
        have hNs := hnb.set hbk 0 (.slice A1 R1.length c1)
        have hRs := blk_put hbk 0 (.slice A1 R1.length c1) rfl
        have hQs := blk_far hqk (p := ⟨w.heap.size, 0, none⟩) (by dsimp only; have := HBQ.out; omega) (.slice A1 R1.length c1)
        have hMs := ((HM.out.take (tr_len_le m)).below hB1s)
        rw [tr_take] at hMs
        obtain ⟨_, _, e1, _, hl1⟩ := New.lim hNs.new
        obtain ⟨rfl, _, rfl⟩ : _ = A1 ∧ _ ∧ _ = c1 := by injection e1 with h1 h2 h3; exact ⟨h1.symm, trivial, h3.symm⟩
        have hdm : (tr m).length ≤ d := Nat.le_trans (tr_len_le m) HD.out
        have hord := order_calls _ B _ d R1 (tr m) _ hl1 hMs hc1 hdm okR1 OB.out
        have hsp := split_bit (mag (tr l)) i
        rw [HBT.out] at hsp
        have OR1 := Aside0.mk okR1
        have LR1 := Aside0.mk lenR1
        have HB1S := Aside0.mk hB1s
        have HNS := Aside0.mk hNs
        have HRS := Aside0.mk hRs
        have HQS := Aside0.mk hQs
        have HMS := Aside0.mk hMs
        have HL1 := Aside0.mk hl1
        have HC1 := Aside0.mk hc1
        have HDM := Aside0.mk hdm
        have HSP := Aside0.mk hsp
        have HLT := Aside0.mk hlt
        have HBM := Aside0.mk hbm
        by_cases hge : mag (tr m) ≤ 2 * mag R + bit
        · have hst := step_ge hbm rfl MR.out HB2.out hge
          rw [← HSP.out] at hst
          have hmr : mag R1 = 2 * mag R + bit := magR1
          obtain ⟨cv, hcv⟩ : ∃ cv, cmpN (mag R1) (mag (tr m)) = cv := ⟨_, rfl⟩
          have hcv0 : 0 ≤ cv := by
            rw [← hcv, magR1]; unfold cmpN
            rw [if_neg (by omega)]
            split <;> decide
          rw [hcv] at hord
          have HORD := Lib.hid hord
          have t0 : decide (0 ≤ cv) = true := decide_eq_true hcv0
          have HMR := Aside0.mk hmr
          have HST := Aside0.mk hst
          have HGE := Aside0.mk hge
          clear hR1 okR1 lenR1 magR1 hbm hn1 hb1 hbk hqk hB1 hlt hnb hB1s hNs hRs hQs hMs hl1 hc1 hdm hord hsp hge hst hmr hcv hcv0 e1
          go_wp2_with fail
          refine HORD.out.mono ?_
          rintro e w2 ⟨rfl, ⟨nd3, rfl⟩⟩
          clear HORD
          go_wp2_with fail
          have HNum1 : Num _ _ _ R1 := ⟨HL1.out.drewN nd3, HC1.out, OR1.out, by have := LR1.out; have := LR.out; have := HM2.out; have := tr_len_le m; omega⟩
          have HNum2 : Num _ B d (tr m) := ⟨HMS.out.drewN nd3, HDM.out, OB.out, by have := HM2.out; have := tr_len_le m; omega⟩
          refine (less_calls _ _ _ _ R1 (tr m) _ HNum1 HNum2).mono ?_
          clear HNum1 HNum2
          rintro e w3 ⟨v3, rfl, hn3, hb3⟩
          obtain ⟨R3, hR3⟩ : ∃ R3, pre (lessF R1 (tr m)) R1.length = R3 := ⟨_, rfl⟩
          have okR3 : OkL R3 := by rw [← hR3]; exact pre_ok _ _
          have lenR3 : R3.length = R1.length := by rw [← hR3]; exact pre_length _ _
          have magR3 : mag R3 = 2 * mag R + bit - mag (tr m) := by
            rw [← hR3, less_value OR1.out OB.out (by rw [HMR.out]; exact HGE.out), HMR.out]
          rw [hR3] at hn3
          obtain ⟨A3, c3, rfl, _, _⟩ := New.lim hn3
          have hrk := blk_below (blk_drewN HRS.out nd3) hb3
          have hqk := blk_below (blk_drewN HQS.out nd3) hb3
          have hB3 := below_step (pw_below_drewN HB1S.out nd3) hb3
          have hlt := blk_lt HQS.out
          have hnb : NewB w3 w.heap.size bq (.slice A3 R3.length c3) R3 := NewB.of hn3 hlt (Nat.le_of_lt (Nat.lt_trans HBQ.out hlt))
          have hB3s := below_set (j := 0) (v := .slice A3 R3.length c3) hB3 (Nat.le_refl _)
          have hNs := hnb.set hrk 0 (.slice A3 R3.length c3)
          have hRs := blk_put hrk 0 (.slice A3 R3.length c3) rfl
          have hQs := blk_far hqk (p := ⟨w.heap.size, 0, none⟩) (by dsimp only; have := HBQ.out; omega) (.slice A3 R3.length c3)
          have hcr3 := (blk_cell hrk 0)
          have hfr3 := blk_frozen hrk 0
          have HB3S := Aside0.mk hB3s
          have HN3 := Aside0.mk hNs
          have HR3 := Aside0.mk hRs
          have HQ3 := Aside0.mk hQs
          have OR3 := Aside0.mk okR3
          have LR3 := Aside0.mk lenR3
          have MR3 := Aside0.mk magR3
          clear hR3 okR3 lenR3 magR3 hn3 hb3 hrk hqk hB3 hlt hnb hB3s hNs hRs hQs
          go_wp2_with fail
          have hlq : dn < Q.length := by have := LQ.out; have := HIL.out; have := HDN.out; omega
          have hcq := (blk_cell HQ3.out dn).trans (cellsL_get Q dn hlq)
          have hfq := blk_frozen HQ3.out dn
          have hdt : d'.toNat = dn := by have := HD'.out; omega
          have hqn : Q[dn] = ((nl Q dn : Nat) : Int) := by rw [nl_cast OQ.out, rd_nat Q dn hlq]
          rw [hqn] at hcq
          have hcq : (w3.setCell ⟨w.heap.size, 0, none⟩ (.slice A3 R3.length c3)).cell? ⟨bq, d'.toNat, none⟩ = some (.int .u32 ((nl Q dn : Nat) : Int)) := by rw [hdt]; exact hcq
          have hfq : (w3.setCell ⟨w.heap.size, 0, none⟩ (.slice A3 R3.length c3)).frozen? ⟨bq, d'.toNat, none⟩ = false := by rw [hdt]; exact hfq
          obtain ⟨W3, hW3⟩ : ∃ W3, w3.setCell ⟨w.heap.size, 0, none⟩ (.slice A3 R3.length c3) = W3 := ⟨_, rfl⟩
          rw [hW3] at HB3S HN3 HR3 HQ3 hcq hfq
          rw [hW3]
          clear hcr3 hfr3 hcell hr0 hcr1 hfr1
          have HDT := Aside0.mk hdt
          have HLQ := Aside0.mk hlq
          clear hW3 hdt hlq hqn
          obtain ⟨en, hen⟩ : ∃ en : Nat, i % 32 = en := ⟨_, rfl⟩
          have htm : (i : Int).tmod 32 = (en : Int) := by rw [Int.tmod_eq_emod_of_nonneg (by omega)]; omega
          have hen0 : (0 : Int) ≤ (en : Int) := by omega
          have hen1 : (en : Int) < 32 := by omega
          have hen2 : en < 32 := by omega
          have HEN := Aside0.mk hen
          clear hen
          have hor : Go.bits .or .u32 ((nl Q dn : Nat) : Int) (2 ^ en % 4294967296) = ((nl Q (i / 32) ||| 2 ^ (i % 32) : Nat) : Int) := by
            have hp : (2 : Nat) ^ en < 4294967296 := Nat.pow_lt_pow_right (m := en) (n := 32) (by decide) hen2
            have e1 : (2 : Int) ^ en % 4294967296 = ((2 ^ en : Nat) : Int) := by
              have h3 : (2 : Int) ^ en = ((2 ^ en : Nat) : Int) := (Int.natCast_pow 2 en).symm
              rw [h3]
              generalize 2 ^ en = z at hp ⊢
              omega
            rw [e1, HDN.out, HEN.out]
            exact u32_or_nat _ _ (nl_lt OQ.out dn) hp
          have HOR := Aside0.mk hor
          clear hor
          go_region
          rw [HOR.out]
          go_wp2
          go_roundw
          case rel =>
            have hlt2 := set_bit_lt OQ.out i _ MQ.out
            have hos := or_set _ _ (set_bit_limb OQ.out i _ MQ.out)
            have hms := mag_set_bit OQ.out i _ MQ.out (by rw [HDN.out]; exact HLQ.out)
            have hsize := blk_lt HQ3.out
            refine ⟨xi, rfl, ⟨by have := HXI.out; omega, by have := HIL.out; have := HXI.out; omega, ?_, ?_⟩, ⟨below_drew (below_set HB3S.out (by have := HBQ.out; omega))⟩⟩
            · refine ⟨Q.set (i / 32) ((nl Q (i / 32) ||| 2 ^ (i % 32) : Nat) : Int), blk_drew (blk_put HQ3.out d'.toNat _ (by rw [HDT.out, ← HDN.out, cellsL_set])), ok_set OQ.out _ _ (by rw [hos]; omega), by rw [List.length_set]; exact LQ.out, ?_⟩
              rw [show (xi + 1).toNat = i by have := HXI.out; omega, hms, HST.out.1]
            · refine ⟨.slice A3 R3.length c3, R3, blk_drew (blk_far HR3.out (by dsimp only; have := HBQ.out; omega) _), HN3.out.far _ _, OR3.out, by rw [LR3.out, LR1.out, LR.out], ?_⟩
              rw [show (xi + 1).toNat = i by have := HXI.out; omega, MR3.out, HST.out.2]
          case measure => have := HXI.out; simp [intOf]; omega
        · have hlt2 : 2 * mag R + bit < mag (tr m) := Nat.lt_of_not_le hge
          have hst := step_lt hbm rfl MR.out hlt2
          rw [← HSP.out] at hst
          have hcv : cmpN (mag R1) (mag (tr m)) = -1 := by
            rw [magR1]; unfold cmpN
            rw [if_pos hlt2]
          rw [hcv] at hord
          have HORD := Lib.hid hord
          have HMR := Aside0.mk magR1
          have HST := Aside0.mk hst
          clear hR1 okR1 lenR1 magR1 hbm hn1 hb1 hbk hqk hB1 hlt hnb hB1s hNs hRs hQs hMs hl1 hc1 hdm hord hsp hge hst hcv hlt2 e1
          go_wp2_with fail
          refine HORD.out.mono ?_
          rintro e w2 ⟨rfl, ⟨nd3, rfl⟩⟩
          clear HORD
          go_wp2
          go_roundw
          case rel =>
            refine ⟨xi, rfl, ⟨by have := HXI.out; omega, by have := HIL.out; have := HXI.out; omega, ?_, ?_⟩, ⟨pw_below_drewN HB1S.out _⟩⟩
            · refine ⟨Q, blk_drewN HQS.out _, OQ.out, LQ.out, ?_⟩
              rw [show (xi + 1).toNat = i by have := HXI.out; omega, HST.out.1, MQ.out, Nat.pow_succ, Nat.mul_assoc]
            · refine ⟨_, R1, blk_drewN HRS.out _, HNS.out, OR1.out, by rw [LR1.out, LR.out], ?_⟩
              rw [show (xi + 1).toNat = i by have := HXI.out; omega, HMR.out, HST.out.2]
          case measure => have := HXI.out; simp [intOf]; omega
end Go.Proofs.YthhpnlbeniihhaaDoor.NumO
namespace Go.Proofs.YthhpnlbeniihhaaDoor.NumP
open Go.RowKit Go.Proofs.YthhpnlbeniihhaaDoorW.PrintWords Go.Proofs.YthhpnlbeniihhaaDoorW.PrintLast Go.Proofs.YthhpnlbeniihhaaDoorW.PrintMore Go.Proofs.YthhpnlbeniihhaaDoor.Limb Go.Proofs.YthhpnlbeniihhaaDoor.NumA Go.Proofs.YthhpnlbeniihhaaDoor.NumB Go.Proofs.YthhpnlbeniihhaaDoor.NumC Go.Proofs.YthhpnlbeniihhaaDoor.NumD Go.Proofs.YthhpnlbeniihhaaDoor.NumE Go.Proofs.YthhpnlbeniihhaaDoor.NumF Go.Proofs.YthhpnlbeniihhaaDoor.NumG Go.Proofs.YthhpnlbeniihhaaDoor.NumH Go.Proofs.YthhpnlbeniihhaaDoor.NumI Go.Proofs.YthhpnlbeniihhaaDoor.NumJ Go.Proofs.YthhpnlbeniihhaaDoor.NumO
set_option linter.unusedVariables false
set_option linter.unusedSimpArgs false
theorem sgn_zero (neg : Bool) (l : List Int) : (sgn neg l == 0) = decide (mag l = 0) := by
  unfold sgn
  by_cases h : mag l = 0
  · simp [h]
  · cases neg <;> simp [h]
/-- A number in memory stays, whatever is made. -/
theorem _root_.Go.Proofs.YthhpnlbeniihhaaDoor.NumC.Num.next {w w1 w2 : World} {A : Option Addr} {c : Nat} {l : List Int} (h : Num w1 A c l) (hb : Below w1.heap.size w1 w2) : Num w2 A c l := h.below hb
theorem _root_.Go.Proofs.YthhpnlbeniihhaaDoor.NumC.Num.drew1 {w : World} {A : Option Addr} {c : Nat} {l : List Int} (h : Num w A c l) : Num w.drew A c l := ⟨h.lim, h.room, h.ok, h.few⟩
set_option maxRecDepth 100000 in
set_option maxHeartbeats 8000000 in
theorem quo_calls (n1 n2 : Bool) (A B : Option Addr) (c d : Nat) (l m : List Int) (w : World) (hl : Num w A c l) (hm : Num w B d m) (h1 : l.length < 1099511627776) (h2 : m.length < 1099511627776) :
    Calls Tryd.prog 29 #[.agg #[.bool n1, .slice A l.length c], .agg #[.bool n2, .slice B m.length d]] w (Res w (if mag m = 0 then (false, [], 13) else mk (belowB n1 l != belowB n2 m) (mag l / mag m))) := by
  have HL := Aside0.mk hl
  have HM := Aside0.mk hm
  have H1 := Aside0.mk h1
  have H2 := Aside0.mk h2
  have hz := sgn_zero n2 m
  generalize hr : (if mag m = 0 then (false, [], 13) else mk (belowB n1 l != belowB n2 m) (mag l / mag m)) = r
  clear hl hm h1 h2
  go_enter Tryd.func29, Tryd.ntmps29
  go_wp2_with fail
  obtain ⟨b1, b2, b3⟩ := boxes w (.bool n1) (.slice A l.length c) (.bool n2) (.slice B m.length d)
  have HB := Aside0.mk (below_alloc (below_alloc ((Below.refl w.heap.size w).alloc (Nat.le_refl _) (.cells #[.bool n1, .slice A l.length c] 25 (0, 0))) (.cells #[.bool n2, .slice B m.length d] 25 (0, 0))) (.cells #[.bool false, .slice none 0 0] 25 (0, 0)))
  generalize (((w.alloc (.cells #[.bool n1, .slice A l.length c] 25 (0, 0))).alloc (.cells #[.bool n2, .slice B m.length d] 25 (0, 0))).alloc (.cells #[.bool false, .slice none 0 0] 25 (0, 0))) = W at *
  obtain ⟨ha0, ha1⟩ := cell_at b1
  obtain ⟨hb0, hb1⟩ := cell_at b2
  have B3 := Aside0.mk b3
  clear b1 b2 b3
  refine (sign_calls n2 B d m _ (HM.out.below (by first | exact HB.out | exact below_drew1 HB.out | exact pw_below_drewN HB.out _))).mono ?_
  rintro e w1 ⟨rfl, hb⟩
  have q0_ := pw_cell_below hb (a := ⟨w.heap.size, 0, none⟩) (v := .bool n1) (by go_keep); have q1_ := pw_cell_below hb (a := ⟨w.heap.size, 1, none⟩) (v := .slice A l.length c) (by go_keep); have q2_ := pw_cell_below hb (a := ⟨w.heap.size + 1, 0, none⟩) (v := .bool n2) (by go_keep); have q3_ := pw_cell_below hb (a := ⟨w.heap.size + 1, 1, none⟩) (v := .slice B m.length d) (by go_keep); have q4_ := Aside0.mk (below_step (by first | exact HB.out | exact below_drew1 HB.out | exact pw_below_drewN HB.out _) hb); have q5_ := Aside0.mk (blk_below (by first | exact B3.out | exact blk_drew B3.out | exact blk_drewN B3.out _) hb); clear ha0 ha1 hb0 hb1 HB B3 hb; have ha0 := q0_; have ha1 := q1_; have hb0 := q2_; have hb1 := q3_; have HB := q4_; have B3 := q5_; clear q0_ q1_ q2_ q3_ q4_ q5_
  have z0 := (cell_at B3.out).1
  have z1 := (cell_at B3.out).2
  have f0 := blk_frozen B3.out 0
  have f1 := blk_frozen B3.out 1
  by_cases h0 : mag m = 0
  · rw [if_pos h0] at hr
    obtain rfl : (false, [], 13) = r := hr
    have t0 : (sgn n2 m == 0) = true := by rw [hz]; simp [h0]
    clear h0 hz
    go_wp2
    refine bodyPost_ret (results_ct rfl _ _ (w.heap.size + 1 + 1) 25 #[.bool false, .slice none 0 0] (0, 0) _ rfl (blk_put (cs := #[.bool false, .slice none 0 0]) (blk_put (cs := #[.bool false, .slice none 0 0]) B3.out 0 _ rfl) 1 _ rfl) Tryd.underlying25 rfl (by kernel_rfl)) rfl ?_
    exact ⟨.slice none 0 0, rfl, New.nil _ _, below_set (below_set HB.out (by omega)) (by omega)⟩
  · rw [if_neg h0] at hr
    have HR := Aside0.mk hr
    obtain ⟨r1, r2, r3⟩ := r
    have t0 : (sgn n2 m == 0) = false := by rw [hz]; simp [h0]
    have HZ := Aside0.mk h0
    clear h0 hz hr
    go_wp2_with fail
    refine (parted_calls A B c d l m _ (HL.out.below (by first | exact HB.out | exact below_drew1 HB.out | exact pw_below_drewN HB.out _)).lim (HM.out.below (by first | exact HB.out | exact below_drew1 HB.out | exact pw_below_drewN HB.out _)).lim HL.out.ok HM.out.ok HL.out.room HM.out.room H1.out H2.out HZ.out).mono ?_
    rintro e w1 ⟨vq, vr, Q, R, rfl, hq, hR, oq, or', magq, magr, lq, lr, hb⟩
    obtain ⟨Aq, cq, rfl, hcq, hlq⟩ := New.lim hq
    obtain ⟨Ar_, cr_, rfl, hcr, hlr⟩ := New.lim hR
    clear z0 z1 f0 f1
    have NQ := Aside0.mk (show Num w1 Aq cq Q from ⟨hlq, hcq, oq, by have := H1.out; have := H2.out; have := tr_len_le m; omega⟩)
    have VQ := Aside0.mk magq
    clear hq hR oq or' magq magr lq lr hcq hlq hcr hlr
    have q0_ := pw_cell_below hb (a := ⟨w.heap.size, 0, none⟩) (v := .bool n1) (by go_keep); have q1_ := pw_cell_below hb (a := ⟨w.heap.size, 1, none⟩) (v := .slice A l.length c) (by go_keep); have q2_ := pw_cell_below hb (a := ⟨w.heap.size + 1, 0, none⟩) (v := .bool n2) (by go_keep); have q3_ := pw_cell_below hb (a := ⟨w.heap.size + 1, 1, none⟩) (v := .slice B m.length d) (by go_keep); have q4_ := Aside0.mk (below_step (by first | exact HB.out | exact below_drew1 HB.out | exact pw_below_drewN HB.out _) hb); have q5_ := Aside0.mk (blk_below (by first | exact B3.out | exact blk_drew B3.out | exact blk_drewN B3.out _) hb); clear ha0 ha1 hb0 hb1 HB B3 hb; have ha0 := q0_; have ha1 := q1_; have hb0 := q2_; have hb1 := q3_; have HB := q4_; have B3 := q5_; clear q0_ q1_ q2_ q3_ q4_ q5_
    go_wp2
    go_region_held3 (fun w' => w'.cell? ⟨w.heap.size, 0, none⟩ = some (.bool n1) ∧ w'.cell? ⟨w.heap.size, 1, none⟩ = some (.slice A l.length c) ∧ w'.cell? ⟨w.heap.size + 1, 0, none⟩ = some (.bool n2) ∧ w'.cell? ⟨w.heap.size + 1, 1, none⟩ = some (.slice B m.length d))
      (first | exact ⟨by assumption, by assumption, by assumption, by assumption⟩ | exact ⟨by (rw [World.cell?_setCell_far _ _ _ _ (by dsimp only; omega), World.cell?_setCell_far _ _ _ _ (by dsimp only; omega)]; assumption), by (rw [World.cell?_setCell_far _ _ _ _ (by dsimp only; omega), World.cell?_setCell_far _ _ _ _ (by dsimp only; omega)]; assumption), by (rw [World.cell?_setCell_far _ _ _ _ (by dsimp only; omega), World.cell?_setCell_far _ _ _ _ (by dsimp only; omega)]; assumption), by (rw [World.cell?_setCell_far _ _ _ _ (by dsimp only; omega), World.cell?_setCell_far _ _ _ _ (by dsimp only; omega)]; assumption)⟩)
      (first
        | (go_at_call_of 70 (Value.agg #[.bool n1, .slice A l.length c]); refine (below_calls n1 A c l _ (HL.out.below (by first | exact HB.out | exact below_drew1 HB.out | exact pw_below_drewN HB.out _)).lim HL.out.room).mono ?_; rintro e w1 ⟨rfl, hb⟩; have q0_ := pw_cell_below hb (a := ⟨w.heap.size, 0, none⟩) (v := .bool n1) (by go_keep); have q1_ := pw_cell_below hb (a := ⟨w.heap.size, 1, none⟩) (v := .slice A l.length c) (by go_keep); have q2_ := pw_cell_below hb (a := ⟨w.heap.size + 1, 0, none⟩) (v := .bool n2) (by go_keep); have q3_ := pw_cell_below hb (a := ⟨w.heap.size + 1, 1, none⟩) (v := .slice B m.length d) (by go_keep); have q4_ := Aside0.mk (below_step (by first | exact HB.out | exact below_drew1 HB.out | exact pw_below_drewN HB.out _) hb); have q5_ := Aside0.mk (blk_below (by first | exact B3.out | exact blk_drew B3.out | exact blk_drewN B3.out _) hb); have e0_ := Aside0.mk (Num.below (by first | exact NQ.out | exact NQ.out.drew1 | exact NQ.out.drewN _) hb); clear ha0 ha1 hb0 hb1 HB B3 hb NQ; have ha0 := q0_; have ha1 := q1_; have hb0 := q2_; have hb1 := q3_; have HB := q4_; have B3 := q5_; have NQ := e0_; clear q0_ q1_ q2_ q3_ q4_ q5_ e0_)
        | (go_at_call_of 70 (Value.agg #[.bool n2, .slice B m.length d]); refine (below_calls n2 B d m _ (HM.out.below (by first | exact HB.out | exact below_drew1 HB.out | exact pw_below_drewN HB.out _)).lim HM.out.room).mono ?_; rintro e w1 ⟨rfl, hb⟩; have q0_ := pw_cell_below hb (a := ⟨w.heap.size, 0, none⟩) (v := .bool n1) (by go_keep); have q1_ := pw_cell_below hb (a := ⟨w.heap.size, 1, none⟩) (v := .slice A l.length c) (by go_keep); have q2_ := pw_cell_below hb (a := ⟨w.heap.size + 1, 0, none⟩) (v := .bool n2) (by go_keep); have q3_ := pw_cell_below hb (a := ⟨w.heap.size + 1, 1, none⟩) (v := .slice B m.length d) (by go_keep); have q4_ := Aside0.mk (below_step (by first | exact HB.out | exact below_drew1 HB.out | exact pw_below_drewN HB.out _) hb); have q5_ := Aside0.mk (blk_below (by first | exact B3.out | exact blk_drew B3.out | exact blk_drewN B3.out _) hb); have e0_ := Aside0.mk (Num.below (by first | exact NQ.out | exact NQ.out.drew1 | exact NQ.out.drewN _) hb); clear ha0 ha1 hb0 hb1 HB B3 hb NQ; have ha0 := q0_; have ha1 := q1_; have hb0 := q2_; have hb1 := q3_; have HB := q4_; have B3 := q5_; have NQ := e0_; clear q0_ q1_ q2_ q3_ q4_ q5_ e0_)
        | (go_at_call 51; refine ((made_calls (belowB n1 l != belowB n2 m) Aq cq Q _ ((by first | exact NQ.out | exact NQ.out.drew1 | exact NQ.out.drewN _) : Num _ Aq cq Q).lim NQ.out.room NQ.out.ok NQ.out.few).mono ?_); rintro e w1 ⟨v, rfl, hnew, hb⟩; rw [VQ.out, HR.out] at hnew; rw [VQ.out, HR.out]; obtain ⟨Ar, cr, er, _, _⟩ := New.lim hnew; subst er; have RN := Aside0.mk (New.lower (base' := w.heap.size) hnew (below_size (by first | exact HB.out | exact below_drew1 HB.out | exact pw_below_drewN HB.out _))); clear hnew; have q0_ := pw_cell_below hb (a := ⟨w.heap.size, 0, none⟩) (v := .bool n1) (by go_keep); have q1_ := pw_cell_below hb (a := ⟨w.heap.size, 1, none⟩) (v := .slice A l.length c) (by go_keep); have q2_ := pw_cell_below hb (a := ⟨w.heap.size + 1, 0, none⟩) (v := .bool n2) (by go_keep); have q3_ := pw_cell_below hb (a := ⟨w.heap.size + 1, 1, none⟩) (v := .slice B m.length d) (by go_keep); have q4_ := Aside0.mk (below_step (by first | exact HB.out | exact below_drew1 HB.out | exact pw_below_drewN HB.out _) hb); have q5_ := Aside0.mk (blk_below (by first | exact B3.out | exact blk_drew B3.out | exact blk_drewN B3.out _) hb); clear ha0 ha1 hb0 hb1 HB B3 hb; have ha0 := q0_; have ha1 := q1_; have hb0 := q2_; have hb1 := q3_; have HB := q4_; have B3 := q5_; clear q0_ q1_ q2_ q3_ q4_ q5_; have z0 := (cell_at B3.out).1; have z1 := (cell_at B3.out).2; have f0 := blk_frozen B3.out 0; have f1 := blk_frozen B3.out 1))
    go_wp2
    refine bodyPost_ret (results_ct rfl _ _ (w.heap.size + 1 + 1) 25 #[.bool r1, .slice Ar r2.length cr] (0, 0) _ rfl (blk_put (cs := #[.bool r1, .slice none 0 0]) (blk_put (cs := #[.bool false, .slice none 0 0]) B3.out 0 _ rfl) 1 _ rfl) Tryd.underlying25 rfl (by kernel_rfl)) rfl ?_
    exact ⟨_, rfl, New.set (New.set RN.out B3.out 0 _) (blk_put (cs' := #[.bool r1, .slice none 0 0]) B3.out 0 _ rfl) 1 _, below_set (below_set HB.out (by omega)) (by omega)⟩
set_option maxRecDepth 100000 in
set_option maxHeartbeats 8000000 in
theorem mod_calls (n1 n2 : Bool) (A B : Option Addr) (c d : Nat) (l m : List Int) (w : World) (hl : Num w A c l) (hm : Num w B d m) (h1 : l.length < 1099511627776) (h2 : m.length < 1099511627776) :
    Calls Tryd.prog 31 #[.agg #[.bool n1, .slice A l.length c], .agg #[.bool n2, .slice B m.length d]] w (Res w (if mag m = 0 then (false, [], 13) else mk (belowB n2 m) (if (belowB n1 l != belowB n2 m) = true ∧ mag l % mag m ≠ 0 then mag m - mag l % mag m else mag l % mag m))) := by
  have HL := Aside0.mk hl
  have HM := Aside0.mk hm
  have H1 := Aside0.mk h1
  have H2 := Aside0.mk h2
  have hz := sgn_zero n2 m
  generalize hr : (if mag m = 0 then (false, [], 13) else mk (belowB n2 m) (if (belowB n1 l != belowB n2 m) = true ∧ mag l % mag m ≠ 0 then mag m - mag l % mag m else mag l % mag m)) = r
  clear hl hm h1 h2
  go_enter Tryd.func31, Tryd.ntmps31
  go_wp2_with fail
  obtain ⟨b1, b2, b3⟩ := boxes w (.bool n1) (.slice A l.length c) (.bool n2) (.slice B m.length d)
  have HB := Aside0.mk (below_alloc (below_alloc ((Below.refl w.heap.size w).alloc (Nat.le_refl _) (.cells #[.bool n1, .slice A l.length c] 25 (0, 0))) (.cells #[.bool n2, .slice B m.length d] 25 (0, 0))) (.cells #[.bool false, .slice none 0 0] 25 (0, 0)))
  generalize (((w.alloc (.cells #[.bool n1, .slice A l.length c] 25 (0, 0))).alloc (.cells #[.bool n2, .slice B m.length d] 25 (0, 0))).alloc (.cells #[.bool false, .slice none 0 0] 25 (0, 0))) = W at *
  obtain ⟨ha0, ha1⟩ := cell_at b1
  obtain ⟨hb0, hb1⟩ := cell_at b2
  have B3 := Aside0.mk b3
  clear b1 b2 b3
  refine (sign_calls n2 B d m _ (HM.out.below (by first | exact HB.out | exact below_drew1 HB.out | exact pw_below_drewN HB.out _))).mono ?_
  rintro e w1 ⟨rfl, hb⟩
  have q0_ := pw_cell_below hb (a := ⟨w.heap.size, 0, none⟩) (v := .bool n1) (by go_keep); have q1_ := pw_cell_below hb (a := ⟨w.heap.size, 1, none⟩) (v := .slice A l.length c) (by go_keep); have q2_ := pw_cell_below hb (a := ⟨w.heap.size + 1, 0, none⟩) (v := .bool n2) (by go_keep); have q3_ := pw_cell_below hb (a := ⟨w.heap.size + 1, 1, none⟩) (v := .slice B m.length d) (by go_keep); have q4_ := Aside0.mk (below_step (by first | exact HB.out | exact below_drew1 HB.out | exact pw_below_drewN HB.out _) hb); have q5_ := Aside0.mk (blk_below (by first | exact B3.out | exact blk_drew B3.out | exact blk_drewN B3.out _) hb); clear ha0 ha1 hb0 hb1 HB B3 hb; have ha0 := q0_; have ha1 := q1_; have hb0 := q2_; have hb1 := q3_; have HB := q4_; have B3 := q5_; clear q0_ q1_ q2_ q3_ q4_ q5_
  have z0 := (cell_at B3.out).1
  have z1 := (cell_at B3.out).2
  have f0 := blk_frozen B3.out 0
  have f1 := blk_frozen B3.out 1
  by_cases h0 : mag m = 0
  · rw [if_pos h0] at hr
    obtain rfl : (false, [], 13) = r := hr
    have t0 : (sgn n2 m == 0) = true := by rw [hz]; simp [h0]
    clear h0 hz
    go_wp2
    refine bodyPost_ret (results_ct rfl _ _ (w.heap.size + 1 + 1) 25 #[.bool false, .slice none 0 0] (0, 0) _ rfl (blk_put (cs := #[.bool false, .slice none 0 0]) (blk_put (cs := #[.bool false, .slice none 0 0]) B3.out 0 _ rfl) 1 _ rfl) Tryd.underlying25 rfl (by kernel_rfl)) rfl ?_
    exact ⟨.slice none 0 0, rfl, New.nil _ _, below_set (below_set HB.out (by omega)) (by omega)⟩
  · rw [if_neg h0] at hr
    have HR := Aside0.mk hr
    obtain ⟨r1, r2, r3⟩ := r
    have t0 : (sgn n2 m == 0) = false := by rw [hz]; simp [h0]
    have HZ := Aside0.mk h0
    clear h0 hz hr
    go_wp2_with fail
    refine (parted_calls A B c d l m _ (HL.out.below (by first | exact HB.out | exact below_drew1 HB.out | exact pw_below_drewN HB.out _)).lim (HM.out.below (by first | exact HB.out | exact below_drew1 HB.out | exact pw_below_drewN HB.out _)).lim HL.out.ok HM.out.ok HL.out.room HM.out.room H1.out H2.out HZ.out).mono ?_
    rintro e w1 ⟨vq, vr, Q, R, rfl, hq, hR, oq, or', magq, magr, lq, lr, hb⟩
    obtain ⟨Aq, cq, rfl, hcq, hlq⟩ := New.lim hq
    obtain ⟨Ar_, cr_, rfl, hcr, hlr⟩ := New.lim hR
    clear z0 z1 f0 f1
    have NQ := Aside0.mk (show Num w1 Ar_ cr_ R from ⟨hlr, hcr, or', by have := H1.out; have := H2.out; have := tr_len_le m; omega⟩)
    have VQ := Aside0.mk magr
    clear hq hR oq or' magq magr lq lr hcq hlq hcr hlr
    have q0_ := pw_cell_below hb (a := ⟨w.heap.size, 0, none⟩) (v := .bool n1) (by go_keep); have q1_ := pw_cell_below hb (a := ⟨w.heap.size, 1, none⟩) (v := .slice A l.length c) (by go_keep); have q2_ := pw_cell_below hb (a := ⟨w.heap.size + 1, 0, none⟩) (v := .bool n2) (by go_keep); have q3_ := pw_cell_below hb (a := ⟨w.heap.size + 1, 1, none⟩) (v := .slice B m.length d) (by go_keep); have q4_ := Aside0.mk (below_step (by first | exact HB.out | exact below_drew1 HB.out | exact pw_below_drewN HB.out _) hb); have q5_ := Aside0.mk (blk_below (by first | exact B3.out | exact blk_drew B3.out | exact blk_drewN B3.out _) hb); clear ha0 ha1 hb0 hb1 HB B3 hb; have ha0 := q0_; have ha1 := q1_; have hb0 := q2_; have hb1 := q3_; have HB := q4_; have B3 := q5_; clear q0_ q1_ q2_ q3_ q4_ q5_
    obtain ⟨b1, hbb1⟩ : ∃ b, belowB n1 l = b := ⟨_, rfl⟩
    have CB1 := Lib.hid (show ∀ W : World, Num W A c l → Calls Tryd.prog 70 #[.agg #[.bool n1, .slice A l.length c]] W fun e w' => e = .returned (.bool b1) ∧ Below W.heap.size W w' by intro W h; rw [← hbb1]; exact below_calls n1 A c l W h.lim h.room)
    obtain ⟨b2, hbb2⟩ : ∃ b, belowB n2 m = b := ⟨_, rfl⟩
    have CB2 := Lib.hid (show ∀ W : World, Num W B d m → Calls Tryd.prog 70 #[.agg #[.bool n2, .slice B m.length d]] W fun e w' => e = .returned (.bool b2) ∧ Below W.heap.size W w' by intro W h; rw [← hbb2]; exact below_calls n2 B d m W h.lim h.room)
    have hv := HR.out
    rw [hbb1, hbb2, ← VQ.out] at hv
    have tp := tr_len_pos NQ.out.ok
    clear HR hbb1 hbb2
    cases b1 <;> cases b2
    · -- both signs alike
      have HR : Aside0 (mk false (mag R) = (r1, r2, r3)) := ⟨by rw [← hv, if_neg (by simp)]⟩
      clear hv tp
      go_wp2
      refine start_ (n := 11) (S := fun w' => w'.cell? ⟨w.heap.size, 0, none⟩ = some (.bool n1) ∧ w'.cell? ⟨w.heap.size, 1, none⟩ = some (.slice A l.length c) ∧ w'.cell? ⟨w.heap.size + 1, 0, none⟩ = some (.bool n2) ∧ w'.cell? ⟨w.heap.size + 1, 1, none⟩ = some (.slice B m.length d)) (ds := []) #[false, false, false, false, false, false, false, false, false, false, false] (by kernel_rfl) rfl rfl ⟨ha0, ha1, hb0, hb1⟩ (fun hHeld => ?_)
      refine take_ (i := 0) (N := some 20) (v := ?_) (a' := ?_) #[true, false, false, false, false, false, false, false, false, false, false] rfl rfl (by kernel_rfl) (fun _ _ _ h => h) (Or.inl ⟨by rfl, ?_⟩) hHeld ?_ ?_
      rotate_left
      · rintro w' ⟨s0, s1, s2, s3⟩
        go_simp
        with_reducible rfl
      rotate_left
      · simp only [Act.put, List.setIfInBounds_toArray, List.set_cons_zero, List.set_cons_succ, i64_w, i32_w]
        rfl
      refine take_ (i := 2) (N := some 22) (v := ?_) (a' := ?_) #[true, false, true, false, false, false, false, false, false, false, false] rfl rfl (by kernel_rfl) (fun _ _ _ h => h) (Or.inl ⟨by rfl, ?_⟩) hHeld ?_ ?_
      rotate_left
      · rintro w' ⟨s0, s1, s2, s3⟩
        go_simp
        with_reducible rfl
      rotate_left
      · simp only [Act.put, List.setIfInBounds_toArray, List.set_cons_zero, List.set_cons_succ, i64_w, i32_w]
        rfl
      refine one_ (i := 1) (N := some 21) #[true, true, true, false, false, false, false, false, false, false, false] rfl rfl (by kernel_rfl) (by decide) (fun K hK => ?_)
      refine goes_ Tryd.func70 (by kernel_rfl) rfl #[.agg #[.bool n1, .slice A l.length c]] (by rfl) rfl rfl (by simp only [List.map_toArray, List.map_cons, List.map_nil]; rfl) ?_
      with_reducible refine (CB1.out _ (HL.out.below (by first | exact HB.out | exact below_drew1 HB.out | exact pw_below_drewN HB.out _))).mono ?_
      rintro e w1 ⟨rfl, hb⟩
      refine ⟨_, rfl, ?_⟩
      have q0_ := pw_cell_below hb (a := ⟨w.heap.size, 0, none⟩) (v := .bool n1) (by assumption)
      have q1_ := pw_cell_below hb (a := ⟨w.heap.size, 1, none⟩) (v := .slice A l.length c) (by assumption)
      have q2_ := pw_cell_below hb (a := ⟨w.heap.size + 1, 0, none⟩) (v := .bool n2) (by assumption)
      have q3_ := pw_cell_below hb (a := ⟨w.heap.size + 1, 1, none⟩) (v := .slice B m.length d) (by assumption)
      have q4_ := Aside0.mk (below_step (by first | exact HB.out | exact below_drew1 HB.out | exact pw_below_drewN HB.out _) hb)
      have q5_ := Aside0.mk (blk_below (by first | exact B3.out | exact blk_drew B3.out | exact blk_drewN B3.out _) hb)
      have e0_ := Aside0.mk (Num.below (by first | exact NQ.out | exact NQ.out.drew1 | exact NQ.out.drewN _) hb)
      clear ha0 ha1 hb0 hb1 HB B3 hb NQ
      have ha0 := q0_
      have ha1 := q1_
      have hb0 := q2_
      have hb1 := q3_
      have HB := q4_
      have B3 := q5_
      have NQ := e0_
      clear q0_ q1_ q2_ q3_ q4_ q5_ e0_
      refine hK.out _ _ ⟨ha0, ha1, hb0, hb1⟩ (fun hHeld => ?_)
      clear hK K
      refine norm_ (a' := ?_) ?_ ?_
      rotate_left
      · show Act.put _ (some 21) _ = _
        simp only [Act.put, List.setIfInBounds_toArray, List.set_cons_zero, List.set_cons_succ, i64_w, i32_w]
        rfl
      refine one_ (i := 3) (N := some 23) #[true, true, true, true, false, false, false, false, false, false, false] rfl rfl (by kernel_rfl) (by decide) (fun K hK => ?_)
      refine goes_ Tryd.func70 (by kernel_rfl) rfl #[.agg #[.bool n2, .slice B m.length d]] (by rfl) rfl rfl (by simp only [List.map_toArray, List.map_cons, List.map_nil]; rfl) ?_
      with_reducible refine (CB2.out _ (HM.out.below (by first | exact HB.out | exact below_drew1 HB.out | exact pw_below_drewN HB.out _))).mono ?_
      rintro e w1 ⟨rfl, hb⟩
      refine ⟨_, rfl, ?_⟩
      have q0_ := pw_cell_below hb (a := ⟨w.heap.size, 0, none⟩) (v := .bool n1) (by assumption)
      have q1_ := pw_cell_below hb (a := ⟨w.heap.size, 1, none⟩) (v := .slice A l.length c) (by assumption)
      have q2_ := pw_cell_below hb (a := ⟨w.heap.size + 1, 0, none⟩) (v := .bool n2) (by assumption)
      have q3_ := pw_cell_below hb (a := ⟨w.heap.size + 1, 1, none⟩) (v := .slice B m.length d) (by assumption)
      have q4_ := Aside0.mk (below_step (by first | exact HB.out | exact below_drew1 HB.out | exact pw_below_drewN HB.out _) hb)
      have q5_ := Aside0.mk (blk_below (by first | exact B3.out | exact blk_drew B3.out | exact blk_drewN B3.out _) hb)
      have e0_ := Aside0.mk (Num.below (by first | exact NQ.out | exact NQ.out.drew1 | exact NQ.out.drewN _) hb)
      clear ha0 ha1 hb0 hb1 HB B3 hb NQ
      have ha0 := q0_
      have ha1 := q1_
      have hb0 := q2_
      have hb1 := q3_
      have HB := q4_
      have B3 := q5_
      have NQ := e0_
      clear q0_ q1_ q2_ q3_ q4_ q5_ e0_
      refine hK.out _ _ ⟨ha0, ha1, hb0, hb1⟩ (fun hHeld => ?_)
      clear hK K
      refine norm_ (a' := ?_) ?_ ?_
      rotate_left
      · show Act.put _ (some 23) _ = _
        simp only [Act.put, List.setIfInBounds_toArray, List.set_cons_zero, List.set_cons_succ, i64_w, i32_w]
        rfl
      refine pure_ (i := 4) (N := some 24) (v := ?_) (a' := ?_) #[true, true, true, true, true, false, false, false, false, false, false] rfl rfl (by kernel_rfl) (fun _ _ _ h => h) (Or.inl ⟨by rfl, ?_⟩) ?_ ?_
      rotate_left
      · intro w'
        go_simp
        with_reducible rfl
      rotate_left
      · simp only [Act.put, List.setIfInBounds_toArray, List.set_cons_zero, List.set_cons_succ, i64_w, i32_w]
        rfl
      refine pure_ (i := 5) (N := some 25) (v := ?_) (a' := ?_) #[true, true, true, true, true, true, false, false, false, false, false] rfl rfl (by kernel_rfl) (fun _ _ _ h => h) (Or.inl ⟨by rfl, ?_⟩) ?_ ?_
      rotate_left
      · intro w'
        go_simp
        with_reducible rfl
      rotate_left
      · simp only [Act.put, List.setIfInBounds_toArray, List.set_cons_zero, List.set_cons_succ, i64_w, i32_w]
        rfl
      refine pure_ (i := 6) (N := some 26) (v := undef) (a' := ?_) #[true, true, true, true, true, true, true, false, false, false, false] rfl rfl (by kernel_rfl) (fun _ _ _ h => h) (Or.inr ⟨by rfl, rfl⟩) ?_ ?_
      rotate_left
      · simp only [Act.put, List.setIfInBounds_toArray, List.set_cons_zero, List.set_cons_succ, i64_w, i32_w]
        rfl
      refine pure_ (i := 7) (N := some 27) (v := undef) (a' := ?_) #[true, true, true, true, true, true, true, true, false, false, false] rfl rfl (by kernel_rfl) (fun _ _ _ h => h) (Or.inr ⟨by rfl, rfl⟩) ?_ ?_
      rotate_left
      · simp only [Act.put, List.setIfInBounds_toArray, List.set_cons_zero, List.set_cons_succ, i64_w, i32_w]
        rfl
      refine pure_ (i := 8) (N := some 28) (v := undef) (a' := ?_) #[true, true, true, true, true, true, true, true, true, false, false] rfl rfl (by kernel_rfl) (fun _ _ _ h => h) (Or.inr ⟨by rfl, rfl⟩) ?_ ?_
      rotate_left
      · simp only [Act.put, List.setIfInBounds_toArray, List.set_cons_zero, List.set_cons_succ, i64_w, i32_w]
        rfl
      refine pure_ (i := 9) (N := some 29) (v := undef) (a' := ?_) #[true, true, true, true, true, true, true, true, true, true, false] rfl rfl (by kernel_rfl) (fun _ _ _ h => h) (Or.inr ⟨by rfl, rfl⟩) ?_ ?_
      rotate_left
      · simp only [Act.put, List.setIfInBounds_toArray, List.set_cons_zero, List.set_cons_succ, i64_w, i32_w]
        rfl
      refine pure_ (i := 10) (N := some 30) (v := ?_) (a' := ?_) #[true, true, true, true, true, true, true, true, true, true, true] rfl rfl (by kernel_rfl) (fun _ _ _ h => h) (Or.inl ⟨by rfl, ?_⟩) ?_ ?_
      rotate_left
      · intro w'
        go_simp
        with_reducible rfl
      rotate_left
      · simp only [Act.put, List.setIfInBounds_toArray, List.set_cons_zero, List.set_cons_succ, i64_w, i32_w]
        rfl
      refine done_ (by kernel_rfl) ?_
      go_wp2_with fail
      refine (CB2.out _ (HM.out.below (by first | exact HB.out | exact below_drew1 HB.out | exact pw_below_drewN HB.out _))).mono ?_
      rintro e w1 ⟨rfl, hb⟩
      have q0_ := pw_cell_below hb (a := ⟨w.heap.size, 0, none⟩) (v := .bool n1) (by go_keep); have q1_ := pw_cell_below hb (a := ⟨w.heap.size, 1, none⟩) (v := .slice A l.length c) (by go_keep); have q2_ := pw_cell_below hb (a := ⟨w.heap.size + 1, 0, none⟩) (v := .bool n2) (by go_keep); have q3_ := pw_cell_below hb (a := ⟨w.heap.size + 1, 1, none⟩) (v := .slice B m.length d) (by go_keep); have q4_ := Aside0.mk (below_step (by first | exact HB.out | exact below_drew1 HB.out | exact pw_below_drewN HB.out _) hb); have q5_ := Aside0.mk (blk_below (by first | exact B3.out | exact blk_drew B3.out | exact blk_drewN B3.out _) hb); have e0_ := Aside0.mk (Num.below (by first | exact NQ.out | exact NQ.out.drew1 | exact NQ.out.drewN _) hb); clear ha0 ha1 hb0 hb1 HB B3 hb NQ; have ha0 := q0_; have ha1 := q1_; have hb0 := q2_; have hb1 := q3_; have HB := q4_; have B3 := q5_; have NQ := e0_; clear q0_ q1_ q2_ q3_ q4_ q5_ e0_
      go_wp2_with fail
      refine ((made_calls _ Ar_ cr_ R _ ((by first | exact NQ.out | exact NQ.out.drew1 | exact NQ.out.drewN _) : Num _ Ar_ cr_ R).lim NQ.out.room NQ.out.ok NQ.out.few).mono ?_)
      rintro e w1 ⟨v, rfl, hnew, hb⟩
      rw [HR.out] at hnew
      rw [HR.out]
      obtain ⟨Ar, cr, er, _, _⟩ := New.lim hnew
      subst er
      have RN := Aside0.mk (New.lower (base' := w.heap.size) hnew (below_size (by first | exact HB.out | exact below_drew1 HB.out | exact pw_below_drewN HB.out _)))
      clear hnew
      have q0_ := pw_cell_below hb (a := ⟨w.heap.size, 0, none⟩) (v := .bool n1) (by go_keep); have q1_ := pw_cell_below hb (a := ⟨w.heap.size, 1, none⟩) (v := .slice A l.length c) (by go_keep); have q2_ := pw_cell_below hb (a := ⟨w.heap.size + 1, 0, none⟩) (v := .bool n2) (by go_keep); have q3_ := pw_cell_below hb (a := ⟨w.heap.size + 1, 1, none⟩) (v := .slice B m.length d) (by go_keep); have q4_ := Aside0.mk (below_step (by first | exact HB.out | exact below_drew1 HB.out | exact pw_below_drewN HB.out _) hb); have q5_ := Aside0.mk (blk_below (by first | exact B3.out | exact blk_drew B3.out | exact blk_drewN B3.out _) hb); clear ha0 ha1 hb0 hb1 HB B3 hb; have ha0 := q0_; have ha1 := q1_; have hb0 := q2_; have hb1 := q3_; have HB := q4_; have B3 := q5_; clear q0_ q1_ q2_ q3_ q4_ q5_
      have z0 := (cell_at B3.out).1
      have z1 := (cell_at B3.out).2
      have f0 := blk_frozen B3.out 0
      have f1 := blk_frozen B3.out 1
      go_wp2
      refine bodyPost_ret (results_ct rfl _ _ (w.heap.size + 1 + 1) 25 #[.bool r1, .slice Ar r2.length cr] (0, 0) _ rfl (blk_put (cs := #[.bool r1, .slice none 0 0]) (blk_put (cs := #[.bool false, .slice none 0 0]) B3.out 0 _ rfl) 1 _ rfl) Tryd.underlying25 rfl (by kernel_rfl)) rfl ?_
      exact ⟨_, rfl, New.set (New.set RN.out B3.out 0 _) (blk_put (cs' := #[.bool r1, .slice none 0 0]) B3.out 0 _ rfl) 1 _, below_set (below_set HB.out (by omega)) (by omega)⟩
    · by_cases hz : mag R = 0
      · have HR : Aside0 (mk true (mag R) = (r1, r2, r3)) := ⟨by rw [← hv, if_neg (by simp [hz])]⟩
        have t1 : decide (0 < (tr R).length) = false := by rw [tp]; simp [hz]
        clear hv tp hz
        go_wp2; go_region_held3 (fun w' => w'.cell? ⟨w.heap.size, 0, none⟩ = some (.bool n1) ∧ w'.cell? ⟨w.heap.size, 1, none⟩ = some (.slice A l.length c) ∧ w'.cell? ⟨w.heap.size + 1, 0, none⟩ = some (.bool n2) ∧ w'.cell? ⟨w.heap.size + 1, 1, none⟩ = some (.slice B m.length d)) (first | exact ⟨by assumption, by assumption, by assumption, by assumption⟩ | exact ⟨by (rw [World.cell?_setCell_far _ _ _ _ (by dsimp only; omega), World.cell?_setCell_far _ _ _ _ (by dsimp only; omega)]; assumption), by (rw [World.cell?_setCell_far _ _ _ _ (by dsimp only; omega), World.cell?_setCell_far _ _ _ _ (by dsimp only; omega)]; assumption), by (rw [World.cell?_setCell_far _ _ _ _ (by dsimp only; omega), World.cell?_setCell_far _ _ _ _ (by dsimp only; omega)]; assumption), by (rw [World.cell?_setCell_far _ _ _ _ (by dsimp only; omega), World.cell?_setCell_far _ _ _ _ (by dsimp only; omega)]; assumption)⟩) (first | (go_at_call_of 70 (Value.agg #[.bool n1, .slice A l.length c]); refine (CB1.out _ (HL.out.below (by first | exact HB.out | exact below_drew1 HB.out | exact pw_below_drewN HB.out _))).mono ?_; rintro e w1 ⟨rfl, hb⟩; have q0_ := pw_cell_below hb (a := ⟨w.heap.size, 0, none⟩) (v := .bool n1) (by go_keep); have q1_ := pw_cell_below hb (a := ⟨w.heap.size, 1, none⟩) (v := .slice A l.length c) (by go_keep); have q2_ := pw_cell_below hb (a := ⟨w.heap.size + 1, 0, none⟩) (v := .bool n2) (by go_keep); have q3_ := pw_cell_below hb (a := ⟨w.heap.size + 1, 1, none⟩) (v := .slice B m.length d) (by go_keep); have q4_ := Aside0.mk (below_step (by first | exact HB.out | exact below_drew1 HB.out | exact pw_below_drewN HB.out _) hb); have q5_ := Aside0.mk (blk_below (by first | exact B3.out | exact blk_drew B3.out | exact blk_drewN B3.out _) hb); have e0_ := Aside0.mk (Num.below (by first | exact NQ.out | exact NQ.out.drew1 | exact NQ.out.drewN _) hb); clear ha0 ha1 hb0 hb1 HB B3 hb NQ; have ha0 := q0_; have ha1 := q1_; have hb0 := q2_; have hb1 := q3_; have HB := q4_; have B3 := q5_; have NQ := e0_; clear q0_ q1_ q2_ q3_ q4_ q5_ e0_) | (go_at_call_of 70 (Value.agg #[.bool n2, .slice B m.length d]); refine (CB2.out _ (HM.out.below (by first | exact HB.out | exact below_drew1 HB.out | exact pw_below_drewN HB.out _))).mono ?_; rintro e w1 ⟨rfl, hb⟩; have q0_ := pw_cell_below hb (a := ⟨w.heap.size, 0, none⟩) (v := .bool n1) (by go_keep); have q1_ := pw_cell_below hb (a := ⟨w.heap.size, 1, none⟩) (v := .slice A l.length c) (by go_keep); have q2_ := pw_cell_below hb (a := ⟨w.heap.size + 1, 0, none⟩) (v := .bool n2) (by go_keep); have q3_ := pw_cell_below hb (a := ⟨w.heap.size + 1, 1, none⟩) (v := .slice B m.length d) (by go_keep); have q4_ := Aside0.mk (below_step (by first | exact HB.out | exact below_drew1 HB.out | exact pw_below_drewN HB.out _) hb); have q5_ := Aside0.mk (blk_below (by first | exact B3.out | exact blk_drew B3.out | exact blk_drewN B3.out _) hb); have e0_ := Aside0.mk (Num.below (by first | exact NQ.out | exact NQ.out.drew1 | exact NQ.out.drewN _) hb); clear ha0 ha1 hb0 hb1 HB B3 hb NQ; have ha0 := q0_; have ha1 := q1_; have hb0 := q2_; have hb1 := q3_; have HB := q4_; have B3 := q5_; have NQ := e0_; clear q0_ q1_ q2_ q3_ q4_ q5_ e0_) | (go_at_call 54; refine (trim_calls Ar_ cr_ R _ ((by first | exact NQ.out | exact NQ.out.drew1 | exact NQ.out.drewN _) : Num _ Ar_ cr_ R).lim NQ.out.room).mono ?_; rintro e w' ⟨rfl, ⟨nd, rfl⟩⟩))
        go_wp2_with fail
        refine (CB2.out _ (HM.out.below (by first | exact HB.out | exact below_drew1 HB.out | exact pw_below_drewN HB.out _))).mono ?_
        rintro e w1 ⟨rfl, hb⟩
        have q0_ := pw_cell_below hb (a := ⟨w.heap.size, 0, none⟩) (v := .bool n1) (by go_keep); have q1_ := pw_cell_below hb (a := ⟨w.heap.size, 1, none⟩) (v := .slice A l.length c) (by go_keep); have q2_ := pw_cell_below hb (a := ⟨w.heap.size + 1, 0, none⟩) (v := .bool n2) (by go_keep); have q3_ := pw_cell_below hb (a := ⟨w.heap.size + 1, 1, none⟩) (v := .slice B m.length d) (by go_keep); have q4_ := Aside0.mk (below_step (by first | exact HB.out | exact below_drew1 HB.out | exact pw_below_drewN HB.out _) hb); have q5_ := Aside0.mk (blk_below (by first | exact B3.out | exact blk_drew B3.out | exact blk_drewN B3.out _) hb); have e0_ := Aside0.mk (Num.below (by first | exact NQ.out | exact NQ.out.drew1 | exact NQ.out.drewN _) hb); clear ha0 ha1 hb0 hb1 HB B3 hb NQ; have ha0 := q0_; have ha1 := q1_; have hb0 := q2_; have hb1 := q3_; have HB := q4_; have B3 := q5_; have NQ := e0_; clear q0_ q1_ q2_ q3_ q4_ q5_ e0_
        go_wp2_with fail
        refine ((made_calls _ Ar_ cr_ R _ ((by first | exact NQ.out | exact NQ.out.drew1 | exact NQ.out.drewN _) : Num _ Ar_ cr_ R).lim NQ.out.room NQ.out.ok NQ.out.few).mono ?_)
        rintro e w1 ⟨v, rfl, hnew, hb⟩
        rw [HR.out] at hnew
        rw [HR.out]
        obtain ⟨Ar, cr, er, _, _⟩ := New.lim hnew
        subst er
        have RN := Aside0.mk (New.lower (base' := w.heap.size) hnew (below_size (by first | exact HB.out | exact below_drew1 HB.out | exact pw_below_drewN HB.out _)))
        clear hnew
        have q0_ := pw_cell_below hb (a := ⟨w.heap.size, 0, none⟩) (v := .bool n1) (by go_keep); have q1_ := pw_cell_below hb (a := ⟨w.heap.size, 1, none⟩) (v := .slice A l.length c) (by go_keep); have q2_ := pw_cell_below hb (a := ⟨w.heap.size + 1, 0, none⟩) (v := .bool n2) (by go_keep); have q3_ := pw_cell_below hb (a := ⟨w.heap.size + 1, 1, none⟩) (v := .slice B m.length d) (by go_keep); have q4_ := Aside0.mk (below_step (by first | exact HB.out | exact below_drew1 HB.out | exact pw_below_drewN HB.out _) hb); have q5_ := Aside0.mk (blk_below (by first | exact B3.out | exact blk_drew B3.out | exact blk_drewN B3.out _) hb); clear ha0 ha1 hb0 hb1 HB B3 hb; have ha0 := q0_; have ha1 := q1_; have hb0 := q2_; have hb1 := q3_; have HB := q4_; have B3 := q5_; clear q0_ q1_ q2_ q3_ q4_ q5_
        have z0 := (cell_at B3.out).1
        have z1 := (cell_at B3.out).2
        have f0 := blk_frozen B3.out 0
        have f1 := blk_frozen B3.out 1
        go_wp2
        refine bodyPost_ret (results_ct rfl _ _ (w.heap.size + 1 + 1) 25 #[.bool r1, .slice Ar r2.length cr] (0, 0) _ rfl (blk_put (cs := #[.bool r1, .slice none 0 0]) (blk_put (cs := #[.bool false, .slice none 0 0]) B3.out 0 _ rfl) 1 _ rfl) Tryd.underlying25 rfl (by kernel_rfl)) rfl ?_
        exact ⟨_, rfl, New.set (New.set RN.out B3.out 0 _) (blk_put (cs' := #[.bool r1, .slice none 0 0]) B3.out 0 _ rfl) 1 _, below_set (below_set HB.out (by omega)) (by omega)⟩
      · have HR : Aside0 (mk true (mag m - mag R) = (r1, r2, r3)) := ⟨by rw [← hv, if_pos (by simp [hz])]⟩
        have t1 : decide (0 < (tr R).length) = true := by rw [tp]; simp [hz]
        have hlt : mag R ≤ mag (tr m) := by rw [mag_tr, VQ.out]; exact Nat.le_of_lt (Nat.mod_lt _ (Nat.pos_of_ne_zero HZ.out))
        have HLT := Aside0.mk hlt
        clear hv tp hz hlt
        go_wp2; go_region_held3 (fun w' => w'.cell? ⟨w.heap.size, 0, none⟩ = some (.bool n1) ∧ w'.cell? ⟨w.heap.size, 1, none⟩ = some (.slice A l.length c) ∧ w'.cell? ⟨w.heap.size + 1, 0, none⟩ = some (.bool n2) ∧ w'.cell? ⟨w.heap.size + 1, 1, none⟩ = some (.slice B m.length d)) (first | exact ⟨by assumption, by assumption, by assumption, by assumption⟩ | exact ⟨by (rw [World.cell?_setCell_far _ _ _ _ (by dsimp only; omega), World.cell?_setCell_far _ _ _ _ (by dsimp only; omega)]; assumption), by (rw [World.cell?_setCell_far _ _ _ _ (by dsimp only; omega), World.cell?_setCell_far _ _ _ _ (by dsimp only; omega)]; assumption), by (rw [World.cell?_setCell_far _ _ _ _ (by dsimp only; omega), World.cell?_setCell_far _ _ _ _ (by dsimp only; omega)]; assumption), by (rw [World.cell?_setCell_far _ _ _ _ (by dsimp only; omega), World.cell?_setCell_far _ _ _ _ (by dsimp only; omega)]; assumption)⟩) (first | (go_at_call_of 70 (Value.agg #[.bool n1, .slice A l.length c]); refine (CB1.out _ (HL.out.below (by first | exact HB.out | exact below_drew1 HB.out | exact pw_below_drewN HB.out _))).mono ?_; rintro e w1 ⟨rfl, hb⟩; have q0_ := pw_cell_below hb (a := ⟨w.heap.size, 0, none⟩) (v := .bool n1) (by go_keep); have q1_ := pw_cell_below hb (a := ⟨w.heap.size, 1, none⟩) (v := .slice A l.length c) (by go_keep); have q2_ := pw_cell_below hb (a := ⟨w.heap.size + 1, 0, none⟩) (v := .bool n2) (by go_keep); have q3_ := pw_cell_below hb (a := ⟨w.heap.size + 1, 1, none⟩) (v := .slice B m.length d) (by go_keep); have q4_ := Aside0.mk (below_step (by first | exact HB.out | exact below_drew1 HB.out | exact pw_below_drewN HB.out _) hb); have q5_ := Aside0.mk (blk_below (by first | exact B3.out | exact blk_drew B3.out | exact blk_drewN B3.out _) hb); have e0_ := Aside0.mk (Num.below (by first | exact NQ.out | exact NQ.out.drew1 | exact NQ.out.drewN _) hb); clear ha0 ha1 hb0 hb1 HB B3 hb NQ; have ha0 := q0_; have ha1 := q1_; have hb0 := q2_; have hb1 := q3_; have HB := q4_; have B3 := q5_; have NQ := e0_; clear q0_ q1_ q2_ q3_ q4_ q5_ e0_) | (go_at_call_of 70 (Value.agg #[.bool n2, .slice B m.length d]); refine (CB2.out _ (HM.out.below (by first | exact HB.out | exact below_drew1 HB.out | exact pw_below_drewN HB.out _))).mono ?_; rintro e w1 ⟨rfl, hb⟩; have q0_ := pw_cell_below hb (a := ⟨w.heap.size, 0, none⟩) (v := .bool n1) (by go_keep); have q1_ := pw_cell_below hb (a := ⟨w.heap.size, 1, none⟩) (v := .slice A l.length c) (by go_keep); have q2_ := pw_cell_below hb (a := ⟨w.heap.size + 1, 0, none⟩) (v := .bool n2) (by go_keep); have q3_ := pw_cell_below hb (a := ⟨w.heap.size + 1, 1, none⟩) (v := .slice B m.length d) (by go_keep); have q4_ := Aside0.mk (below_step (by first | exact HB.out | exact below_drew1 HB.out | exact pw_below_drewN HB.out _) hb); have q5_ := Aside0.mk (blk_below (by first | exact B3.out | exact blk_drew B3.out | exact blk_drewN B3.out _) hb); have e0_ := Aside0.mk (Num.below (by first | exact NQ.out | exact NQ.out.drew1 | exact NQ.out.drewN _) hb); clear ha0 ha1 hb0 hb1 HB B3 hb NQ; have ha0 := q0_; have ha1 := q1_; have hb0 := q2_; have hb1 := q3_; have HB := q4_; have B3 := q5_; have NQ := e0_; clear q0_ q1_ q2_ q3_ q4_ q5_ e0_) | (go_at_call 54; refine (trim_calls Ar_ cr_ R _ ((by first | exact NQ.out | exact NQ.out.drew1 | exact NQ.out.drewN _) : Num _ Ar_ cr_ R).lim NQ.out.room).mono ?_; rintro e w' ⟨rfl, ⟨nd, rfl⟩⟩))
        go_wp2_with fail
        refine (trim_calls B d m _ (HM.out.below (by first | exact HB.out | exact below_drew1 HB.out | exact pw_below_drewN HB.out _)).lim HM.out.room).mono ?_
        rintro e w' ⟨rfl, ⟨nd2, rfl⟩⟩
        go_wp2_with fail
        refine (less_calls B Ar_ d cr_ (tr m) R _ (HM.out.below (by first | exact HB.out | exact below_drew1 HB.out | exact pw_below_drewN HB.out _)).tr ((by first | exact NQ.out | exact NQ.out.drew1 | exact NQ.out.drewN _) : Num _ Ar_ cr_ R)).mono ?_
        rintro e w1 ⟨v5, rfl, hn5, hb⟩
        obtain ⟨A5, c5, rfl, hc5, hl5⟩ := New.lim hn5
        have hm5 := less_value (HM.out.ok |> ok_tr) NQ.out.ok HLT.out
        have hk5 := pre_ok (lessF (tr m) R) (tr m).length
        have he5 := pre_length (lessF (tr m) R) (tr m).length
        generalize pre (lessF (tr m) R) (tr m).length = R5 at *
        rw [mag_tr] at hm5
        have HR5 : Aside0 (mk true (mag R5) = (r1, r2, r3)) := ⟨by rw [hm5]; exact HR.out⟩
        have NQ5 := Aside0.mk (show Num w1 A5 c5 R5 from ⟨hl5, hc5, hk5, by have := tr_len_le m; have := H2.out; omega⟩)
        clear NQ VQ HR hm5 hk5 he5 hn5 hc5 hl5
        have NQ := NQ5
        have HR := HR5
        clear NQ5 HR5
        have q0_ := pw_cell_below hb (a := ⟨w.heap.size, 0, none⟩) (v := .bool n1) (by go_keep); have q1_ := pw_cell_below hb (a := ⟨w.heap.size, 1, none⟩) (v := .slice A l.length c) (by go_keep); have q2_ := pw_cell_below hb (a := ⟨w.heap.size + 1, 0, none⟩) (v := .bool n2) (by go_keep); have q3_ := pw_cell_below hb (a := ⟨w.heap.size + 1, 1, none⟩) (v := .slice B m.length d) (by go_keep); have q4_ := Aside0.mk (below_step (by first | exact HB.out | exact below_drew1 HB.out | exact pw_below_drewN HB.out _) hb); have q5_ := Aside0.mk (blk_below (by first | exact B3.out | exact blk_drew B3.out | exact blk_drewN B3.out _) hb); clear ha0 ha1 hb0 hb1 HB B3 hb; have ha0 := q0_; have ha1 := q1_; have hb0 := q2_; have hb1 := q3_; have HB := q4_; have B3 := q5_; clear q0_ q1_ q2_ q3_ q4_ q5_
        go_wp2_with fail
        refine (CB2.out _ (HM.out.below (by first | exact HB.out | exact below_drew1 HB.out | exact pw_below_drewN HB.out _))).mono ?_
        rintro e w1 ⟨rfl, hb⟩
        have q0_ := pw_cell_below hb (a := ⟨w.heap.size, 0, none⟩) (v := .bool n1) (by go_keep); have q1_ := pw_cell_below hb (a := ⟨w.heap.size, 1, none⟩) (v := .slice A l.length c) (by go_keep); have q2_ := pw_cell_below hb (a := ⟨w.heap.size + 1, 0, none⟩) (v := .bool n2) (by go_keep); have q3_ := pw_cell_below hb (a := ⟨w.heap.size + 1, 1, none⟩) (v := .slice B m.length d) (by go_keep); have q4_ := Aside0.mk (below_step (by first | exact HB.out | exact below_drew1 HB.out | exact pw_below_drewN HB.out _) hb); have q5_ := Aside0.mk (blk_below (by first | exact B3.out | exact blk_drew B3.out | exact blk_drewN B3.out _) hb); have e0_ := Aside0.mk (Num.below (by first | exact NQ.out | exact NQ.out.drew1 | exact NQ.out.drewN _) hb); clear ha0 ha1 hb0 hb1 HB B3 hb NQ; have ha0 := q0_; have ha1 := q1_; have hb0 := q2_; have hb1 := q3_; have HB := q4_; have B3 := q5_; have NQ := e0_; clear q0_ q1_ q2_ q3_ q4_ q5_ e0_
        go_wp2_with fail
        refine ((made_calls _ A5 c5 R5 _ ((by first | exact NQ.out | exact NQ.out.drew1 | exact NQ.out.drewN _) : Num _ A5 c5 R5).lim NQ.out.room NQ.out.ok NQ.out.few).mono ?_)
        rintro e w1 ⟨v, rfl, hnew, hb⟩
        rw [HR.out] at hnew
        rw [HR.out]
        obtain ⟨Ar, cr, er, _, _⟩ := New.lim hnew
        subst er
        have RN := Aside0.mk (New.lower (base' := w.heap.size) hnew (below_size (by first | exact HB.out | exact below_drew1 HB.out | exact pw_below_drewN HB.out _)))
        clear hnew
        have q0_ := pw_cell_below hb (a := ⟨w.heap.size, 0, none⟩) (v := .bool n1) (by go_keep); have q1_ := pw_cell_below hb (a := ⟨w.heap.size, 1, none⟩) (v := .slice A l.length c) (by go_keep); have q2_ := pw_cell_below hb (a := ⟨w.heap.size + 1, 0, none⟩) (v := .bool n2) (by go_keep); have q3_ := pw_cell_below hb (a := ⟨w.heap.size + 1, 1, none⟩) (v := .slice B m.length d) (by go_keep); have q4_ := Aside0.mk (below_step (by first | exact HB.out | exact below_drew1 HB.out | exact pw_below_drewN HB.out _) hb); have q5_ := Aside0.mk (blk_below (by first | exact B3.out | exact blk_drew B3.out | exact blk_drewN B3.out _) hb); clear ha0 ha1 hb0 hb1 HB B3 hb; have ha0 := q0_; have ha1 := q1_; have hb0 := q2_; have hb1 := q3_; have HB := q4_; have B3 := q5_; clear q0_ q1_ q2_ q3_ q4_ q5_
        have z0 := (cell_at B3.out).1
        have z1 := (cell_at B3.out).2
        have f0 := blk_frozen B3.out 0
        have f1 := blk_frozen B3.out 1
        go_wp2
        refine bodyPost_ret (results_ct rfl _ _ (w.heap.size + 1 + 1) 25 #[.bool r1, .slice Ar r2.length cr] (0, 0) _ rfl (blk_put (cs := #[.bool r1, .slice none 0 0]) (blk_put (cs := #[.bool false, .slice none 0 0]) B3.out 0 _ rfl) 1 _ rfl) Tryd.underlying25 rfl (by kernel_rfl)) rfl ?_
        exact ⟨_, rfl, New.set (New.set RN.out B3.out 0 _) (blk_put (cs' := #[.bool r1, .slice none 0 0]) B3.out 0 _ rfl) 1 _, below_set (below_set HB.out (by omega)) (by omega)⟩
    · by_cases hz : mag R = 0
      · have HR : Aside0 (mk false (mag R) = (r1, r2, r3)) := ⟨by rw [← hv, if_neg (by simp [hz])]⟩
        have t1 : decide (0 < (tr R).length) = false := by rw [tp]; simp [hz]
        clear hv tp hz
        go_wp2; go_region_held3 (fun w' => w'.cell? ⟨w.heap.size, 0, none⟩ = some (.bool n1) ∧ w'.cell? ⟨w.heap.size, 1, none⟩ = some (.slice A l.length c) ∧ w'.cell? ⟨w.heap.size + 1, 0, none⟩ = some (.bool n2) ∧ w'.cell? ⟨w.heap.size + 1, 1, none⟩ = some (.slice B m.length d)) (first | exact ⟨by assumption, by assumption, by assumption, by assumption⟩ | exact ⟨by (rw [World.cell?_setCell_far _ _ _ _ (by dsimp only; omega), World.cell?_setCell_far _ _ _ _ (by dsimp only; omega)]; assumption), by (rw [World.cell?_setCell_far _ _ _ _ (by dsimp only; omega), World.cell?_setCell_far _ _ _ _ (by dsimp only; omega)]; assumption), by (rw [World.cell?_setCell_far _ _ _ _ (by dsimp only; omega), World.cell?_setCell_far _ _ _ _ (by dsimp only; omega)]; assumption), by (rw [World.cell?_setCell_far _ _ _ _ (by dsimp only; omega), World.cell?_setCell_far _ _ _ _ (by dsimp only; omega)]; assumption)⟩) (first | (go_at_call_of 70 (Value.agg #[.bool n1, .slice A l.length c]); refine (CB1.out _ (HL.out.below (by first | exact HB.out | exact below_drew1 HB.out | exact pw_below_drewN HB.out _))).mono ?_; rintro e w1 ⟨rfl, hb⟩; have q0_ := pw_cell_below hb (a := ⟨w.heap.size, 0, none⟩) (v := .bool n1) (by go_keep); have q1_ := pw_cell_below hb (a := ⟨w.heap.size, 1, none⟩) (v := .slice A l.length c) (by go_keep); have q2_ := pw_cell_below hb (a := ⟨w.heap.size + 1, 0, none⟩) (v := .bool n2) (by go_keep); have q3_ := pw_cell_below hb (a := ⟨w.heap.size + 1, 1, none⟩) (v := .slice B m.length d) (by go_keep); have q4_ := Aside0.mk (below_step (by first | exact HB.out | exact below_drew1 HB.out | exact pw_below_drewN HB.out _) hb); have q5_ := Aside0.mk (blk_below (by first | exact B3.out | exact blk_drew B3.out | exact blk_drewN B3.out _) hb); have e0_ := Aside0.mk (Num.below (by first | exact NQ.out | exact NQ.out.drew1 | exact NQ.out.drewN _) hb); clear ha0 ha1 hb0 hb1 HB B3 hb NQ; have ha0 := q0_; have ha1 := q1_; have hb0 := q2_; have hb1 := q3_; have HB := q4_; have B3 := q5_; have NQ := e0_; clear q0_ q1_ q2_ q3_ q4_ q5_ e0_) | (go_at_call_of 70 (Value.agg #[.bool n2, .slice B m.length d]); refine (CB2.out _ (HM.out.below (by first | exact HB.out | exact below_drew1 HB.out | exact pw_below_drewN HB.out _))).mono ?_; rintro e w1 ⟨rfl, hb⟩; have q0_ := pw_cell_below hb (a := ⟨w.heap.size, 0, none⟩) (v := .bool n1) (by go_keep); have q1_ := pw_cell_below hb (a := ⟨w.heap.size, 1, none⟩) (v := .slice A l.length c) (by go_keep); have q2_ := pw_cell_below hb (a := ⟨w.heap.size + 1, 0, none⟩) (v := .bool n2) (by go_keep); have q3_ := pw_cell_below hb (a := ⟨w.heap.size + 1, 1, none⟩) (v := .slice B m.length d) (by go_keep); have q4_ := Aside0.mk (below_step (by first | exact HB.out | exact below_drew1 HB.out | exact pw_below_drewN HB.out _) hb); have q5_ := Aside0.mk (blk_below (by first | exact B3.out | exact blk_drew B3.out | exact blk_drewN B3.out _) hb); have e0_ := Aside0.mk (Num.below (by first | exact NQ.out | exact NQ.out.drew1 | exact NQ.out.drewN _) hb); clear ha0 ha1 hb0 hb1 HB B3 hb NQ; have ha0 := q0_; have ha1 := q1_; have hb0 := q2_; have hb1 := q3_; have HB := q4_; have B3 := q5_; have NQ := e0_; clear q0_ q1_ q2_ q3_ q4_ q5_ e0_) | (go_at_call 54; refine (trim_calls Ar_ cr_ R _ ((by first | exact NQ.out | exact NQ.out.drew1 | exact NQ.out.drewN _) : Num _ Ar_ cr_ R).lim NQ.out.room).mono ?_; rintro e w' ⟨rfl, ⟨nd, rfl⟩⟩))
        go_wp2_with fail
        refine (CB2.out _ (HM.out.below (by first | exact HB.out | exact below_drew1 HB.out | exact pw_below_drewN HB.out _))).mono ?_
        rintro e w1 ⟨rfl, hb⟩
        have q0_ := pw_cell_below hb (a := ⟨w.heap.size, 0, none⟩) (v := .bool n1) (by go_keep); have q1_ := pw_cell_below hb (a := ⟨w.heap.size, 1, none⟩) (v := .slice A l.length c) (by go_keep); have q2_ := pw_cell_below hb (a := ⟨w.heap.size + 1, 0, none⟩) (v := .bool n2) (by go_keep); have q3_ := pw_cell_below hb (a := ⟨w.heap.size + 1, 1, none⟩) (v := .slice B m.length d) (by go_keep); have q4_ := Aside0.mk (below_step (by first | exact HB.out | exact below_drew1 HB.out | exact pw_below_drewN HB.out _) hb); have q5_ := Aside0.mk (blk_below (by first | exact B3.out | exact blk_drew B3.out | exact blk_drewN B3.out _) hb); have e0_ := Aside0.mk (Num.below (by first | exact NQ.out | exact NQ.out.drew1 | exact NQ.out.drewN _) hb); clear ha0 ha1 hb0 hb1 HB B3 hb NQ; have ha0 := q0_; have ha1 := q1_; have hb0 := q2_; have hb1 := q3_; have HB := q4_; have B3 := q5_; have NQ := e0_; clear q0_ q1_ q2_ q3_ q4_ q5_ e0_
        go_wp2_with fail
        refine ((made_calls _ Ar_ cr_ R _ ((by first | exact NQ.out | exact NQ.out.drew1 | exact NQ.out.drewN _) : Num _ Ar_ cr_ R).lim NQ.out.room NQ.out.ok NQ.out.few).mono ?_)
        rintro e w1 ⟨v, rfl, hnew, hb⟩
        rw [HR.out] at hnew
        rw [HR.out]
        obtain ⟨Ar, cr, er, _, _⟩ := New.lim hnew
        subst er
        have RN := Aside0.mk (New.lower (base' := w.heap.size) hnew (below_size (by first | exact HB.out | exact below_drew1 HB.out | exact pw_below_drewN HB.out _)))
        clear hnew
        have q0_ := pw_cell_below hb (a := ⟨w.heap.size, 0, none⟩) (v := .bool n1) (by go_keep); have q1_ := pw_cell_below hb (a := ⟨w.heap.size, 1, none⟩) (v := .slice A l.length c) (by go_keep); have q2_ := pw_cell_below hb (a := ⟨w.heap.size + 1, 0, none⟩) (v := .bool n2) (by go_keep); have q3_ := pw_cell_below hb (a := ⟨w.heap.size + 1, 1, none⟩) (v := .slice B m.length d) (by go_keep); have q4_ := Aside0.mk (below_step (by first | exact HB.out | exact below_drew1 HB.out | exact pw_below_drewN HB.out _) hb); have q5_ := Aside0.mk (blk_below (by first | exact B3.out | exact blk_drew B3.out | exact blk_drewN B3.out _) hb); clear ha0 ha1 hb0 hb1 HB B3 hb; have ha0 := q0_; have ha1 := q1_; have hb0 := q2_; have hb1 := q3_; have HB := q4_; have B3 := q5_; clear q0_ q1_ q2_ q3_ q4_ q5_
        have z0 := (cell_at B3.out).1
        have z1 := (cell_at B3.out).2
        have f0 := blk_frozen B3.out 0
        have f1 := blk_frozen B3.out 1
        go_wp2
        refine bodyPost_ret (results_ct rfl _ _ (w.heap.size + 1 + 1) 25 #[.bool r1, .slice Ar r2.length cr] (0, 0) _ rfl (blk_put (cs := #[.bool r1, .slice none 0 0]) (blk_put (cs := #[.bool false, .slice none 0 0]) B3.out 0 _ rfl) 1 _ rfl) Tryd.underlying25 rfl (by kernel_rfl)) rfl ?_
        exact ⟨_, rfl, New.set (New.set RN.out B3.out 0 _) (blk_put (cs' := #[.bool r1, .slice none 0 0]) B3.out 0 _ rfl) 1 _, below_set (below_set HB.out (by omega)) (by omega)⟩
      · have HR : Aside0 (mk false (mag m - mag R) = (r1, r2, r3)) := ⟨by rw [← hv, if_pos (by simp [hz])]⟩
        have t1 : decide (0 < (tr R).length) = true := by rw [tp]; simp [hz]
        have hlt : mag R ≤ mag (tr m) := by rw [mag_tr, VQ.out]; exact Nat.le_of_lt (Nat.mod_lt _ (Nat.pos_of_ne_zero HZ.out))
        have HLT := Aside0.mk hlt
        clear hv tp hz hlt
        go_wp2; go_region_held3 (fun w' => w'.cell? ⟨w.heap.size, 0, none⟩ = some (.bool n1) ∧ w'.cell? ⟨w.heap.size, 1, none⟩ = some (.slice A l.length c) ∧ w'.cell? ⟨w.heap.size + 1, 0, none⟩ = some (.bool n2) ∧ w'.cell? ⟨w.heap.size + 1, 1, none⟩ = some (.slice B m.length d)) (first | exact ⟨by assumption, by assumption, by assumption, by assumption⟩ | exact ⟨by (rw [World.cell?_setCell_far _ _ _ _ (by dsimp only; omega), World.cell?_setCell_far _ _ _ _ (by dsimp only; omega)]; assumption), by (rw [World.cell?_setCell_far _ _ _ _ (by dsimp only; omega), World.cell?_setCell_far _ _ _ _ (by dsimp only; omega)]; assumption), by (rw [World.cell?_setCell_far _ _ _ _ (by dsimp only; omega), World.cell?_setCell_far _ _ _ _ (by dsimp only; omega)]; assumption), by (rw [World.cell?_setCell_far _ _ _ _ (by dsimp only; omega), World.cell?_setCell_far _ _ _ _ (by dsimp only; omega)]; assumption)⟩) (first | (go_at_call_of 70 (Value.agg #[.bool n1, .slice A l.length c]); refine (CB1.out _ (HL.out.below (by first | exact HB.out | exact below_drew1 HB.out | exact pw_below_drewN HB.out _))).mono ?_; rintro e w1 ⟨rfl, hb⟩; have q0_ := pw_cell_below hb (a := ⟨w.heap.size, 0, none⟩) (v := .bool n1) (by go_keep); have q1_ := pw_cell_below hb (a := ⟨w.heap.size, 1, none⟩) (v := .slice A l.length c) (by go_keep); have q2_ := pw_cell_below hb (a := ⟨w.heap.size + 1, 0, none⟩) (v := .bool n2) (by go_keep); have q3_ := pw_cell_below hb (a := ⟨w.heap.size + 1, 1, none⟩) (v := .slice B m.length d) (by go_keep); have q4_ := Aside0.mk (below_step (by first | exact HB.out | exact below_drew1 HB.out | exact pw_below_drewN HB.out _) hb); have q5_ := Aside0.mk (blk_below (by first | exact B3.out | exact blk_drew B3.out | exact blk_drewN B3.out _) hb); have e0_ := Aside0.mk (Num.below (by first | exact NQ.out | exact NQ.out.drew1 | exact NQ.out.drewN _) hb); clear ha0 ha1 hb0 hb1 HB B3 hb NQ; have ha0 := q0_; have ha1 := q1_; have hb0 := q2_; have hb1 := q3_; have HB := q4_; have B3 := q5_; have NQ := e0_; clear q0_ q1_ q2_ q3_ q4_ q5_ e0_) | (go_at_call_of 70 (Value.agg #[.bool n2, .slice B m.length d]); refine (CB2.out _ (HM.out.below (by first | exact HB.out | exact below_drew1 HB.out | exact pw_below_drewN HB.out _))).mono ?_; rintro e w1 ⟨rfl, hb⟩; have q0_ := pw_cell_below hb (a := ⟨w.heap.size, 0, none⟩) (v := .bool n1) (by go_keep); have q1_ := pw_cell_below hb (a := ⟨w.heap.size, 1, none⟩) (v := .slice A l.length c) (by go_keep); have q2_ := pw_cell_below hb (a := ⟨w.heap.size + 1, 0, none⟩) (v := .bool n2) (by go_keep); have q3_ := pw_cell_below hb (a := ⟨w.heap.size + 1, 1, none⟩) (v := .slice B m.length d) (by go_keep); have q4_ := Aside0.mk (below_step (by first | exact HB.out | exact below_drew1 HB.out | exact pw_below_drewN HB.out _) hb); have q5_ := Aside0.mk (blk_below (by first | exact B3.out | exact blk_drew B3.out | exact blk_drewN B3.out _) hb); have e0_ := Aside0.mk (Num.below (by first | exact NQ.out | exact NQ.out.drew1 | exact NQ.out.drewN _) hb); clear ha0 ha1 hb0 hb1 HB B3 hb NQ; have ha0 := q0_; have ha1 := q1_; have hb0 := q2_; have hb1 := q3_; have HB := q4_; have B3 := q5_; have NQ := e0_; clear q0_ q1_ q2_ q3_ q4_ q5_ e0_) | (go_at_call 54; refine (trim_calls Ar_ cr_ R _ ((by first | exact NQ.out | exact NQ.out.drew1 | exact NQ.out.drewN _) : Num _ Ar_ cr_ R).lim NQ.out.room).mono ?_; rintro e w' ⟨rfl, ⟨nd, rfl⟩⟩))
        go_wp2_with fail
        refine (trim_calls B d m _ (HM.out.below (by first | exact HB.out | exact below_drew1 HB.out | exact pw_below_drewN HB.out _)).lim HM.out.room).mono ?_
        rintro e w' ⟨rfl, ⟨nd2, rfl⟩⟩
        go_wp2_with fail
        refine (less_calls B Ar_ d cr_ (tr m) R _ (HM.out.below (by first | exact HB.out | exact below_drew1 HB.out | exact pw_below_drewN HB.out _)).tr ((by first | exact NQ.out | exact NQ.out.drew1 | exact NQ.out.drewN _) : Num _ Ar_ cr_ R)).mono ?_
        rintro e w1 ⟨v5, rfl, hn5, hb⟩
        obtain ⟨A5, c5, rfl, hc5, hl5⟩ := New.lim hn5
        have hm5 := less_value (HM.out.ok |> ok_tr) NQ.out.ok HLT.out
        have hk5 := pre_ok (lessF (tr m) R) (tr m).length
        have he5 := pre_length (lessF (tr m) R) (tr m).length
        generalize pre (lessF (tr m) R) (tr m).length = R5 at *
        rw [mag_tr] at hm5
        have HR5 : Aside0 (mk false (mag R5) = (r1, r2, r3)) := ⟨by rw [hm5]; exact HR.out⟩
        have NQ5 := Aside0.mk (show Num w1 A5 c5 R5 from ⟨hl5, hc5, hk5, by have := tr_len_le m; have := H2.out; omega⟩)
        clear NQ VQ HR hm5 hk5 he5 hn5 hc5 hl5
        have NQ := NQ5
        have HR := HR5
        clear NQ5 HR5
        have q0_ := pw_cell_below hb (a := ⟨w.heap.size, 0, none⟩) (v := .bool n1) (by go_keep); have q1_ := pw_cell_below hb (a := ⟨w.heap.size, 1, none⟩) (v := .slice A l.length c) (by go_keep); have q2_ := pw_cell_below hb (a := ⟨w.heap.size + 1, 0, none⟩) (v := .bool n2) (by go_keep); have q3_ := pw_cell_below hb (a := ⟨w.heap.size + 1, 1, none⟩) (v := .slice B m.length d) (by go_keep); have q4_ := Aside0.mk (below_step (by first | exact HB.out | exact below_drew1 HB.out | exact pw_below_drewN HB.out _) hb); have q5_ := Aside0.mk (blk_below (by first | exact B3.out | exact blk_drew B3.out | exact blk_drewN B3.out _) hb); clear ha0 ha1 hb0 hb1 HB B3 hb; have ha0 := q0_; have ha1 := q1_; have hb0 := q2_; have hb1 := q3_; have HB := q4_; have B3 := q5_; clear q0_ q1_ q2_ q3_ q4_ q5_
        go_wp2_with fail
        refine (CB2.out _ (HM.out.below (by first | exact HB.out | exact below_drew1 HB.out | exact pw_below_drewN HB.out _))).mono ?_
        rintro e w1 ⟨rfl, hb⟩
        have q0_ := pw_cell_below hb (a := ⟨w.heap.size, 0, none⟩) (v := .bool n1) (by go_keep); have q1_ := pw_cell_below hb (a := ⟨w.heap.size, 1, none⟩) (v := .slice A l.length c) (by go_keep); have q2_ := pw_cell_below hb (a := ⟨w.heap.size + 1, 0, none⟩) (v := .bool n2) (by go_keep); have q3_ := pw_cell_below hb (a := ⟨w.heap.size + 1, 1, none⟩) (v := .slice B m.length d) (by go_keep); have q4_ := Aside0.mk (below_step (by first | exact HB.out | exact below_drew1 HB.out | exact pw_below_drewN HB.out _) hb); have q5_ := Aside0.mk (blk_below (by first | exact B3.out | exact blk_drew B3.out | exact blk_drewN B3.out _) hb); have e0_ := Aside0.mk (Num.below (by first | exact NQ.out | exact NQ.out.drew1 | exact NQ.out.drewN _) hb); clear ha0 ha1 hb0 hb1 HB B3 hb NQ; have ha0 := q0_; have ha1 := q1_; have hb0 := q2_; have hb1 := q3_; have HB := q4_; have B3 := q5_; have NQ := e0_; clear q0_ q1_ q2_ q3_ q4_ q5_ e0_
        go_wp2_with fail
        refine ((made_calls _ A5 c5 R5 _ ((by first | exact NQ.out | exact NQ.out.drew1 | exact NQ.out.drewN _) : Num _ A5 c5 R5).lim NQ.out.room NQ.out.ok NQ.out.few).mono ?_)
        rintro e w1 ⟨v, rfl, hnew, hb⟩
        rw [HR.out] at hnew
        rw [HR.out]
        obtain ⟨Ar, cr, er, _, _⟩ := New.lim hnew
        subst er
        have RN := Aside0.mk (New.lower (base' := w.heap.size) hnew (below_size (by first | exact HB.out | exact below_drew1 HB.out | exact pw_below_drewN HB.out _)))
        clear hnew
        have q0_ := pw_cell_below hb (a := ⟨w.heap.size, 0, none⟩) (v := .bool n1) (by go_keep); have q1_ := pw_cell_below hb (a := ⟨w.heap.size, 1, none⟩) (v := .slice A l.length c) (by go_keep); have q2_ := pw_cell_below hb (a := ⟨w.heap.size + 1, 0, none⟩) (v := .bool n2) (by go_keep); have q3_ := pw_cell_below hb (a := ⟨w.heap.size + 1, 1, none⟩) (v := .slice B m.length d) (by go_keep); have q4_ := Aside0.mk (below_step (by first | exact HB.out | exact below_drew1 HB.out | exact pw_below_drewN HB.out _) hb); have q5_ := Aside0.mk (blk_below (by first | exact B3.out | exact blk_drew B3.out | exact blk_drewN B3.out _) hb); clear ha0 ha1 hb0 hb1 HB B3 hb; have ha0 := q0_; have ha1 := q1_; have hb0 := q2_; have hb1 := q3_; have HB := q4_; have B3 := q5_; clear q0_ q1_ q2_ q3_ q4_ q5_
        have z0 := (cell_at B3.out).1
        have z1 := (cell_at B3.out).2
        have f0 := blk_frozen B3.out 0
        have f1 := blk_frozen B3.out 1
        go_wp2
        refine bodyPost_ret (results_ct rfl _ _ (w.heap.size + 1 + 1) 25 #[.bool r1, .slice Ar r2.length cr] (0, 0) _ rfl (blk_put (cs := #[.bool r1, .slice none 0 0]) (blk_put (cs := #[.bool false, .slice none 0 0]) B3.out 0 _ rfl) 1 _ rfl) Tryd.underlying25 rfl (by kernel_rfl)) rfl ?_
        exact ⟨_, rfl, New.set (New.set RN.out B3.out 0 _) (blk_put (cs' := #[.bool r1, .slice none 0 0]) B3.out 0 _ rfl) 1 _, below_set (below_set HB.out (by omega)) (by omega)⟩
    · -- both signs alike
      have HR : Aside0 (mk true (mag R) = (r1, r2, r3)) := ⟨by rw [← hv, if_neg (by simp)]⟩
      clear hv tp
      go_wp2
      refine start_ (n := 11) (S := fun w' => w'.cell? ⟨w.heap.size, 0, none⟩ = some (.bool n1) ∧ w'.cell? ⟨w.heap.size, 1, none⟩ = some (.slice A l.length c) ∧ w'.cell? ⟨w.heap.size + 1, 0, none⟩ = some (.bool n2) ∧ w'.cell? ⟨w.heap.size + 1, 1, none⟩ = some (.slice B m.length d)) (ds := []) #[false, false, false, false, false, false, false, false, false, false, false] (by kernel_rfl) rfl rfl ⟨ha0, ha1, hb0, hb1⟩ (fun hHeld => ?_)
      refine take_ (i := 0) (N := some 20) (v := ?_) (a' := ?_) #[true, false, false, false, false, false, false, false, false, false, false] rfl rfl (by kernel_rfl) (fun _ _ _ h => h) (Or.inl ⟨by rfl, ?_⟩) hHeld ?_ ?_
      rotate_left
      · rintro w' ⟨s0, s1, s2, s3⟩
        go_simp
        with_reducible rfl
      rotate_left
      · simp only [Act.put, List.setIfInBounds_toArray, List.set_cons_zero, List.set_cons_succ, i64_w, i32_w]
        rfl
      refine take_ (i := 2) (N := some 22) (v := ?_) (a' := ?_) #[true, false, true, false, false, false, false, false, false, false, false] rfl rfl (by kernel_rfl) (fun _ _ _ h => h) (Or.inl ⟨by rfl, ?_⟩) hHeld ?_ ?_
      rotate_left
      · rintro w' ⟨s0, s1, s2, s3⟩
        go_simp
        with_reducible rfl
      rotate_left
      · simp only [Act.put, List.setIfInBounds_toArray, List.set_cons_zero, List.set_cons_succ, i64_w, i32_w]
        rfl
      refine one_ (i := 1) (N := some 21) #[true, true, true, false, false, false, false, false, false, false, false] rfl rfl (by kernel_rfl) (by decide) (fun K hK => ?_)
      refine goes_ Tryd.func70 (by kernel_rfl) rfl #[.agg #[.bool n1, .slice A l.length c]] (by rfl) rfl rfl (by simp only [List.map_toArray, List.map_cons, List.map_nil]; rfl) ?_
      with_reducible refine (CB1.out _ (HL.out.below (by first | exact HB.out | exact below_drew1 HB.out | exact pw_below_drewN HB.out _))).mono ?_
      rintro e w1 ⟨rfl, hb⟩
      refine ⟨_, rfl, ?_⟩
      have q0_ := pw_cell_below hb (a := ⟨w.heap.size, 0, none⟩) (v := .bool n1) (by assumption)
      have q1_ := pw_cell_below hb (a := ⟨w.heap.size, 1, none⟩) (v := .slice A l.length c) (by assumption)
      have q2_ := pw_cell_below hb (a := ⟨w.heap.size + 1, 0, none⟩) (v := .bool n2) (by assumption)
      have q3_ := pw_cell_below hb (a := ⟨w.heap.size + 1, 1, none⟩) (v := .slice B m.length d) (by assumption)
      have q4_ := Aside0.mk (below_step (by first | exact HB.out | exact below_drew1 HB.out | exact pw_below_drewN HB.out _) hb)
      have q5_ := Aside0.mk (blk_below (by first | exact B3.out | exact blk_drew B3.out | exact blk_drewN B3.out _) hb)
      have e0_ := Aside0.mk (Num.below (by first | exact NQ.out | exact NQ.out.drew1 | exact NQ.out.drewN _) hb)
      clear ha0 ha1 hb0 hb1 HB B3 hb NQ
      have ha0 := q0_
      have ha1 := q1_
      have hb0 := q2_
      have hb1 := q3_
      have HB := q4_
      have B3 := q5_
      have NQ := e0_
      clear q0_ q1_ q2_ q3_ q4_ q5_ e0_
      refine hK.out _ _ ⟨ha0, ha1, hb0, hb1⟩ (fun hHeld => ?_)
      clear hK K
      refine norm_ (a' := ?_) ?_ ?_
      rotate_left
      · show Act.put _ (some 21) _ = _
        simp only [Act.put, List.setIfInBounds_toArray, List.set_cons_zero, List.set_cons_succ, i64_w, i32_w]
        rfl
      refine one_ (i := 3) (N := some 23) #[true, true, true, true, false, false, false, false, false, false, false] rfl rfl (by kernel_rfl) (by decide) (fun K hK => ?_)
      refine goes_ Tryd.func70 (by kernel_rfl) rfl #[.agg #[.bool n2, .slice B m.length d]] (by rfl) rfl rfl (by simp only [List.map_toArray, List.map_cons, List.map_nil]; rfl) ?_
      with_reducible refine (CB2.out _ (HM.out.below (by first | exact HB.out | exact below_drew1 HB.out | exact pw_below_drewN HB.out _))).mono ?_
      rintro e w1 ⟨rfl, hb⟩
      refine ⟨_, rfl, ?_⟩
      have q0_ := pw_cell_below hb (a := ⟨w.heap.size, 0, none⟩) (v := .bool n1) (by assumption)
      have q1_ := pw_cell_below hb (a := ⟨w.heap.size, 1, none⟩) (v := .slice A l.length c) (by assumption)
      have q2_ := pw_cell_below hb (a := ⟨w.heap.size + 1, 0, none⟩) (v := .bool n2) (by assumption)
      have q3_ := pw_cell_below hb (a := ⟨w.heap.size + 1, 1, none⟩) (v := .slice B m.length d) (by assumption)
      have q4_ := Aside0.mk (below_step (by first | exact HB.out | exact below_drew1 HB.out | exact pw_below_drewN HB.out _) hb)
      have q5_ := Aside0.mk (blk_below (by first | exact B3.out | exact blk_drew B3.out | exact blk_drewN B3.out _) hb)
      have e0_ := Aside0.mk (Num.below (by first | exact NQ.out | exact NQ.out.drew1 | exact NQ.out.drewN _) hb)
      clear ha0 ha1 hb0 hb1 HB B3 hb NQ
      have ha0 := q0_
      have ha1 := q1_
      have hb0 := q2_
      have hb1 := q3_
      have HB := q4_
      have B3 := q5_
      have NQ := e0_
      clear q0_ q1_ q2_ q3_ q4_ q5_ e0_
      refine hK.out _ _ ⟨ha0, ha1, hb0, hb1⟩ (fun hHeld => ?_)
      clear hK K
      refine norm_ (a' := ?_) ?_ ?_
      rotate_left
      · show Act.put _ (some 23) _ = _
        simp only [Act.put, List.setIfInBounds_toArray, List.set_cons_zero, List.set_cons_succ, i64_w, i32_w]
        rfl
      refine pure_ (i := 4) (N := some 24) (v := ?_) (a' := ?_) #[true, true, true, true, true, false, false, false, false, false, false] rfl rfl (by kernel_rfl) (fun _ _ _ h => h) (Or.inl ⟨by rfl, ?_⟩) ?_ ?_
      rotate_left
      · intro w'
        go_simp
        with_reducible rfl
      rotate_left
      · simp only [Act.put, List.setIfInBounds_toArray, List.set_cons_zero, List.set_cons_succ, i64_w, i32_w]
        rfl
      refine pure_ (i := 5) (N := some 25) (v := ?_) (a' := ?_) #[true, true, true, true, true, true, false, false, false, false, false] rfl rfl (by kernel_rfl) (fun _ _ _ h => h) (Or.inl ⟨by rfl, ?_⟩) ?_ ?_
      rotate_left
      · intro w'
        go_simp
        with_reducible rfl
      rotate_left
      · simp only [Act.put, List.setIfInBounds_toArray, List.set_cons_zero, List.set_cons_succ, i64_w, i32_w]
        rfl
      refine pure_ (i := 6) (N := some 26) (v := undef) (a' := ?_) #[true, true, true, true, true, true, true, false, false, false, false] rfl rfl (by kernel_rfl) (fun _ _ _ h => h) (Or.inr ⟨by rfl, rfl⟩) ?_ ?_
      rotate_left
      · simp only [Act.put, List.setIfInBounds_toArray, List.set_cons_zero, List.set_cons_succ, i64_w, i32_w]
        rfl
      refine pure_ (i := 7) (N := some 27) (v := undef) (a' := ?_) #[true, true, true, true, true, true, true, true, false, false, false] rfl rfl (by kernel_rfl) (fun _ _ _ h => h) (Or.inr ⟨by rfl, rfl⟩) ?_ ?_
      rotate_left
      · simp only [Act.put, List.setIfInBounds_toArray, List.set_cons_zero, List.set_cons_succ, i64_w, i32_w]
        rfl
      refine pure_ (i := 8) (N := some 28) (v := undef) (a' := ?_) #[true, true, true, true, true, true, true, true, true, false, false] rfl rfl (by kernel_rfl) (fun _ _ _ h => h) (Or.inr ⟨by rfl, rfl⟩) ?_ ?_
      rotate_left
      · simp only [Act.put, List.setIfInBounds_toArray, List.set_cons_zero, List.set_cons_succ, i64_w, i32_w]
        rfl
      refine pure_ (i := 9) (N := some 29) (v := undef) (a' := ?_) #[true, true, true, true, true, true, true, true, true, true, false] rfl rfl (by kernel_rfl) (fun _ _ _ h => h) (Or.inr ⟨by rfl, rfl⟩) ?_ ?_
      rotate_left
      · simp only [Act.put, List.setIfInBounds_toArray, List.set_cons_zero, List.set_cons_succ, i64_w, i32_w]
        rfl
      refine pure_ (i := 10) (N := some 30) (v := ?_) (a' := ?_) #[true, true, true, true, true, true, true, true, true, true, true] rfl rfl (by kernel_rfl) (fun _ _ _ h => h) (Or.inl ⟨by rfl, ?_⟩) ?_ ?_
      rotate_left
      · intro w'
        go_simp
        with_reducible rfl
      rotate_left
      · simp only [Act.put, List.setIfInBounds_toArray, List.set_cons_zero, List.set_cons_succ, i64_w, i32_w]
        rfl
      refine done_ (by kernel_rfl) ?_
      go_wp2_with fail
      refine (CB2.out _ (HM.out.below (by first | exact HB.out | exact below_drew1 HB.out | exact pw_below_drewN HB.out _))).mono ?_
      rintro e w1 ⟨rfl, hb⟩
      have q0_ := pw_cell_below hb (a := ⟨w.heap.size, 0, none⟩) (v := .bool n1) (by go_keep); have q1_ := pw_cell_below hb (a := ⟨w.heap.size, 1, none⟩) (v := .slice A l.length c) (by go_keep); have q2_ := pw_cell_below hb (a := ⟨w.heap.size + 1, 0, none⟩) (v := .bool n2) (by go_keep); have q3_ := pw_cell_below hb (a := ⟨w.heap.size + 1, 1, none⟩) (v := .slice B m.length d) (by go_keep); have q4_ := Aside0.mk (below_step (by first | exact HB.out | exact below_drew1 HB.out | exact pw_below_drewN HB.out _) hb); have q5_ := Aside0.mk (blk_below (by first | exact B3.out | exact blk_drew B3.out | exact blk_drewN B3.out _) hb); have e0_ := Aside0.mk (Num.below (by first | exact NQ.out | exact NQ.out.drew1 | exact NQ.out.drewN _) hb); clear ha0 ha1 hb0 hb1 HB B3 hb NQ; have ha0 := q0_; have ha1 := q1_; have hb0 := q2_; have hb1 := q3_; have HB := q4_; have B3 := q5_; have NQ := e0_; clear q0_ q1_ q2_ q3_ q4_ q5_ e0_
      go_wp2_with fail
      refine ((made_calls _ Ar_ cr_ R _ ((by first | exact NQ.out | exact NQ.out.drew1 | exact NQ.out.drewN _) : Num _ Ar_ cr_ R).lim NQ.out.room NQ.out.ok NQ.out.few).mono ?_)
      rintro e w1 ⟨v, rfl, hnew, hb⟩
      rw [HR.out] at hnew
      rw [HR.out]
      obtain ⟨Ar, cr, er, _, _⟩ := New.lim hnew
      subst er
      have RN := Aside0.mk (New.lower (base' := w.heap.size) hnew (below_size (by first | exact HB.out | exact below_drew1 HB.out | exact pw_below_drewN HB.out _)))
      clear hnew
      have q0_ := pw_cell_below hb (a := ⟨w.heap.size, 0, none⟩) (v := .bool n1) (by go_keep); have q1_ := pw_cell_below hb (a := ⟨w.heap.size, 1, none⟩) (v := .slice A l.length c) (by go_keep); have q2_ := pw_cell_below hb (a := ⟨w.heap.size + 1, 0, none⟩) (v := .bool n2) (by go_keep); have q3_ := pw_cell_below hb (a := ⟨w.heap.size + 1, 1, none⟩) (v := .slice B m.length d) (by go_keep); have q4_ := Aside0.mk (below_step (by first | exact HB.out | exact below_drew1 HB.out | exact pw_below_drewN HB.out _) hb); have q5_ := Aside0.mk (blk_below (by first | exact B3.out | exact blk_drew B3.out | exact blk_drewN B3.out _) hb); clear ha0 ha1 hb0 hb1 HB B3 hb; have ha0 := q0_; have ha1 := q1_; have hb0 := q2_; have hb1 := q3_; have HB := q4_; have B3 := q5_; clear q0_ q1_ q2_ q3_ q4_ q5_
      have z0 := (cell_at B3.out).1
      have z1 := (cell_at B3.out).2
      have f0 := blk_frozen B3.out 0
      have f1 := blk_frozen B3.out 1
      go_wp2
      refine bodyPost_ret (results_ct rfl _ _ (w.heap.size + 1 + 1) 25 #[.bool r1, .slice Ar r2.length cr] (0, 0) _ rfl (blk_put (cs := #[.bool r1, .slice none 0 0]) (blk_put (cs := #[.bool false, .slice none 0 0]) B3.out 0 _ rfl) 1 _ rfl) Tryd.underlying25 rfl (by kernel_rfl)) rfl ?_
      exact ⟨_, rfl, New.set (New.set RN.out B3.out 0 _) (blk_put (cs' := #[.bool r1, .slice none 0 0]) B3.out 0 _ rfl) 1 _, below_set (below_set HB.out (by omega)) (by omega)⟩
end Go.Proofs.YthhpnlbeniihhaaDoor.NumP
namespace Go.Proofs.YthhpnlbeniihhaaDoor.NumQ
open Go.RowKit Go.Proofs.YthhpnlbeniihhaaDoorW.PrintWords Go.Proofs.YthhpnlbeniihhaaDoorW.PrintLast Go.Proofs.YthhpnlbeniihhaaDoorW.PrintMore Go.Proofs.YthhpnlbeniihhaaDoor.Limb Go.Proofs.YthhpnlbeniihhaaDoor.NumA Go.Proofs.YthhpnlbeniihhaaDoor.NumB Go.Proofs.YthhpnlbeniihhaaDoor.NumC Go.Proofs.YthhpnlbeniihhaaDoor.NumD Go.Proofs.YthhpnlbeniihhaaDoor.NumE Go.Proofs.YthhpnlbeniihhaaDoor.NumF Go.Proofs.YthhpnlbeniihhaaDoor.NumG Go.Proofs.YthhpnlbeniihhaaDoor.NumH
set_option linter.unusedVariables false
set_option linter.unusedSimpArgs false
/-- Few limbs, no nought at the end, no sign of nought. -/
def mayB (neg : Bool) (l : List Int) : Bool := decide (l.length ≤ 48) && decide ((tr l).length = l.length) && (!neg || decide (0 < l.length))
set_option maxRecDepth 100000 in
set_option maxHeartbeats 8000000 in
theorem may_calls (neg : Bool) (A : Option Addr) (c : Nat) (l : List Int) (w : World) (hl : Num w A c l) :
    Calls Tryd.prog 48 #[.agg #[.bool neg, .slice A l.length c]] w fun e w' => e = .returned (.bool (mayB neg l)) ∧ Below w.heap.size w w' := by
  have HL := Aside0.mk hl
  have b1 := blk_new w (.cells #[.bool neg, .slice A l.length c] 25 (0, 0))
  have HB := Aside0.mk ((Below.refl w.heap.size w).alloc (Nat.le_refl _) (.cells #[.bool neg, .slice A l.length c] 25 (0, 0)))
  generalize hr : mayB neg l = r
  have HR := Aside0.mk hr
  clear hl hr
  go_enter Tryd.func48, Tryd.ntmps48
  go_wp2
  generalize (w.alloc (.cells #[.bool neg, .slice A l.length c] 25 (0, 0))) = W at *
  obtain ⟨ha0, ha1⟩ := cell_at b1
  clear b1
  by_cases h1 : l.length ≤ 48
  · have t1 : decide (l.length ≤ 48) = true := decide_eq_true h1
    have t2 : decide ((l.length : Int) ≤ 48) = true := decide_eq_true (by omega)
    by_cases h2 : (tr l).length = l.length
    · have s1 : ((tr l).length == l.length) = true := beq_iff_eq.mpr h2
      have s2 : (((tr l).length : Int) == (l.length : Int)) = true := by simp [h2]
      cases neg with
      | false =>
        have hr : r = true := by rw [← HR.out]; unfold mayB; simp [h1, h2]
        clear h1 h2
        subst hr
        refine start_ (n := 26) (S := fun w' => w'.cell? ⟨w.heap.size, 0, none⟩ = some (.bool false) ∧ w'.cell? ⟨w.heap.size, 1, none⟩ = some (.slice A l.length c)) (ds := []) #[false, false, false, false, false, false, false, false, false, false, false, false, false, false, false, false, false, false, false, false, false, false, false, false, false, false] (by kernel_rfl) rfl rfl ⟨ha0, ha1⟩ (fun hHeld => ?_)
        refine pure_ (i := 0) (N := some 3) (v := ?_) (a' := ?_) #[true, false, false, false, false, false, false, false, false, false, false, false, false, false, false, false, false, false, false, false, false, false, false, false, false, false] rfl rfl (by kernel_rfl) (fun _ _ _ h => h) (Or.inl ⟨by rfl, ?_⟩) ?_ ?_
        rotate_left
        · intro w'
          go_simp
          with_reducible rfl
        rotate_left
        · simp only [Act.put, List.setIfInBounds_toArray, List.set_cons_zero, List.set_cons_succ, i64_w, i32_w]
          rfl
        refine take_ (i := 1) (N := some 4) (v := ?_) (a' := ?_) #[true, true, false, false, false, false, false, false, false, false, false, false, false, false, false, false, false, false, false, false, false, false, false, false, false, false] rfl rfl (by kernel_rfl) (fun _ _ _ h => h) (Or.inl ⟨by rfl, ?_⟩) hHeld ?_ ?_
        rotate_left
        · rintro w' ⟨s0, s1⟩
          go_simp
          with_reducible rfl
        rotate_left
        · simp only [Act.put, List.setIfInBounds_toArray, List.set_cons_zero, List.set_cons_succ, i64_w, i32_w]
          rfl
        refine pure_ (i := 2) (N := some 5) (v := ?_) (a' := ?_) #[true, true, true, false, false, false, false, false, false, false, false, false, false, false, false, false, false, false, false, false, false, false, false, false, false, false] rfl rfl (by kernel_rfl) (fun _ _ _ h => h) (Or.inl ⟨by rfl, ?_⟩) ?_ ?_
        rotate_left
        · intro w'
          go_simp
          with_reducible rfl
        rotate_left
        · simp only [Act.put, List.setIfInBounds_toArray, List.set_cons_zero, List.set_cons_succ, i64_w, i32_w]
          rfl
        refine pure_ (i := 3) (N := some 6) (v := ?_) (a' := ?_) #[true, true, true, true, false, false, false, false, false, false, false, false, false, false, false, false, false, false, false, false, false, false, false, false, false, false] rfl rfl (by kernel_rfl) (fun _ _ _ h => h) (Or.inl ⟨by rfl, ?_⟩) ?_ ?_
        rotate_left
        · intro w'
          go_simp
          with_reducible rfl
        rotate_left
        · simp only [Act.put, List.setIfInBounds_toArray, List.set_cons_zero, List.set_cons_succ, i64_w, i32_w]
          rfl
        refine pure_ (i := 4) (N := some 7) (v := ?_) (a' := ?_) #[true, true, true, true, true, false, false, false, false, false, false, false, false, false, false, false, false, false, false, false, false, false, false, false, false, false] rfl rfl (by kernel_rfl) (fun _ _ _ h => h) (Or.inl ⟨by rfl, ?_⟩) ?_ ?_
        rotate_left
        · intro w'
          go_simp
          with_reducible rfl
        rotate_left
        · simp only [Act.put, List.setIfInBounds_toArray, List.set_cons_zero, List.set_cons_succ, i64_w, i32_w]
          rfl
        refine pure_ (i := 5) (N := some 8) (v := ?_) (a' := ?_) #[true, true, true, true, true, true, false, false, false, false, false, false, false, false, false, false, false, false, false, false, false, false, false, false, false, false] rfl rfl (by kernel_rfl) (fun _ _ _ h => h) (Or.inl ⟨by rfl, ?_⟩) ?_ ?_
        rotate_left
        · intro w'
          go_simp
          with_reducible rfl
        rotate_left
        · simp only [Act.put, List.setIfInBounds_toArray, List.set_cons_zero, List.set_cons_succ, i64_w, i32_w]
          rfl
        refine pure_ (i := 9) (N := some 12) (v := ?_) (a' := ?_) #[true, true, true, true, true, true, false, false, false, true, false, false, false, false, false, false, false, false, false, false, false, false, false, false, false, false] rfl rfl (by kernel_rfl) (fun _ _ _ h => h) (Or.inl ⟨by rfl, ?_⟩) ?_ ?_
        rotate_left
        · intro w'
          go_simp
          with_reducible rfl
        rotate_left
        · simp only [Act.put, List.setIfInBounds_toArray, List.set_cons_zero, List.set_cons_succ, i64_w, i32_w]
          rfl
        refine take_ (i := 6) (N := some 9) (v := ?_) (a' := ?_) #[true, true, true, true, true, true, true, false, false, true, false, false, false, false, false, false, false, false, false, false, false, false, false, false, false, false] rfl rfl (by kernel_rfl) (fun _ _ _ h => h) (Or.inl ⟨by rfl, ?_⟩) hHeld ?_ ?_
        rotate_left
        · rintro w' ⟨s0, s1⟩
          go_simp
          with_reducible rfl
        rotate_left
        · simp only [Act.put, List.setIfInBounds_toArray, List.set_cons_zero, List.set_cons_succ, i64_w, i32_w]
          rfl
        refine take_ (i := 10) (N := some 13) (v := ?_) (a' := ?_) #[true, true, true, true, true, true, true, false, false, true, true, false, false, false, false, false, false, false, false, false, false, false, false, false, false, false] rfl rfl (by kernel_rfl) (fun _ _ _ h => h) (Or.inl ⟨by rfl, ?_⟩) hHeld ?_ ?_
        rotate_left
        · rintro w' ⟨s0, s1⟩
          go_simp
          with_reducible rfl
        rotate_left
        · simp only [Act.put, List.setIfInBounds_toArray, List.set_cons_zero, List.set_cons_succ, i64_w, i32_w]
          rfl
        refine pure_ (i := 11) (N := some 14) (v := ?_) (a' := ?_) #[true, true, true, true, true, true, true, false, false, true, true, true, false, false, false, false, false, false, false, false, false, false, false, false, false, false] rfl rfl (by kernel_rfl) (fun _ _ _ h => h) (Or.inl ⟨by rfl, ?_⟩) ?_ ?_
        rotate_left
        · intro w'
          go_simp
          with_reducible rfl
        rotate_left
        · simp only [Act.put, List.setIfInBounds_toArray, List.set_cons_zero, List.set_cons_succ, i64_w, i32_w]
          rfl
        refine one_ (i := 7) (N := some 10) #[true, true, true, true, true, true, true, true, false, true, true, true, false, false, false, false, false, false, false, false, false, false, false, false, false, false] rfl rfl (by kernel_rfl) (by decide) (fun K hK => ?_)
        refine goes_ Tryd.func54 (by kernel_rfl) rfl #[.slice A l.length c] (by rfl) rfl rfl (by simp only [List.map_toArray, List.map_cons, List.map_nil]; rfl) ?_
        with_reducible refine (trim_calls A c l _ (HL.out.below (by first | exact HB.out | exact below_drew1 HB.out | exact pw_below_drewN HB.out _)).lim HL.out.room).mono ?_
        rintro e w' ⟨rfl, ⟨nd, rfl⟩⟩
        refine ⟨_, rfl, ?_⟩
        refine hK.out _ _ ⟨ha0, ha1⟩ (fun hHeld => ?_)
        clear hK K
        refine norm_ (a' := ?_) ?_ ?_
        rotate_left
        · show Act.put _ (some 10) _ = _
          simp only [Act.put, List.setIfInBounds_toArray, List.set_cons_zero, List.set_cons_succ, i64_w, i32_w]
          rfl
        refine pure_ (i := 8) (N := some 11) (v := ?_) (a' := ?_) #[true, true, true, true, true, true, true, true, true, true, true, true, false, false, false, false, false, false, false, false, false, false, false, false, false, false] rfl rfl (by kernel_rfl) (fun _ _ _ h => h) (Or.inl ⟨by rfl, ?_⟩) ?_ ?_
        rotate_left
        · intro w'
          go_simp
          with_reducible rfl
        rotate_left
        · simp only [Act.put, List.setIfInBounds_toArray, List.set_cons_zero, List.set_cons_succ, i64_w, i32_w]
          rfl
        refine pure_ (i := 12) (N := some 15) (v := ?_) (a' := ?_) #[true, true, true, true, true, true, true, true, true, true, true, true, true, false, false, false, false, false, false, false, false, false, false, false, false, false] rfl rfl (by kernel_rfl) (fun _ _ _ h => h) (Or.inl ⟨by rfl, ?_⟩) ?_ ?_
        rotate_left
        · intro w'
          go_simp
          with_reducible rfl
        rotate_left
        · simp only [Act.put, List.setIfInBounds_toArray, List.set_cons_zero, List.set_cons_succ, i64_w, i32_w]
          rfl
        refine pure_ (i := 13) (N := some 16) (v := ?_) (a' := ?_) #[true, true, true, true, true, true, true, true, true, true, true, true, true, true, false, false, false, false, false, false, false, false, false, false, false, false] rfl rfl (by kernel_rfl) (fun _ _ _ h => h) (Or.inl ⟨by rfl, ?_⟩) ?_ ?_
        rotate_left
        · intro w'
          go_simp
          with_reducible rfl
        rotate_left
        · simp only [Act.put, List.setIfInBounds_toArray, List.set_cons_zero, List.set_cons_succ, i64_w, i32_w]
          rfl
        refine pure_ (i := 14) (N := some 17) (v := ?_) (a' := ?_) #[true, true, true, true, true, true, true, true, true, true, true, true, true, true, true, false, false, false, false, false, false, false, false, false, false, false] rfl rfl (by kernel_rfl) (fun _ _ _ h => h) (Or.inl ⟨by rfl, ?_⟩) ?_ ?_
        rotate_left
        · intro w'
          go_simp
          with_reducible rfl
        rotate_left
        · simp only [Act.put, List.setIfInBounds_toArray, List.set_cons_zero, List.set_cons_succ, i64_w, i32_w]
          rfl
        refine pure_ (i := 15) (N := some 18) (v := ?_) (a' := ?_) #[true, true, true, true, true, true, true, true, true, true, true, true, true, true, true, true, false, false, false, false, false, false, false, false, false, false] rfl rfl (by kernel_rfl) (fun _ _ _ h => h) (Or.inl ⟨by rfl, ?_⟩) ?_ ?_
        rotate_left
        · intro w'
          go_simp
          with_reducible rfl
        rotate_left
        · simp only [Act.put, List.setIfInBounds_toArray, List.set_cons_zero, List.set_cons_succ, i64_w, i32_w]
          rfl
        refine take_ (i := 16) (N := some 19) (v := ?_) (a' := ?_) #[true, true, true, true, true, true, true, true, true, true, true, true, true, true, true, true, true, false, false, false, false, false, false, false, false, false] rfl rfl (by kernel_rfl) (fun _ _ _ h => h) (Or.inl ⟨by rfl, ?_⟩) hHeld ?_ ?_
        rotate_left
        · rintro w' ⟨s0, s1⟩
          go_simp
          with_reducible rfl
        rotate_left
        · simp only [Act.put, List.setIfInBounds_toArray, List.set_cons_zero, List.set_cons_succ, i64_w, i32_w]
          rfl
        refine pure_ (i := 17) (N := some 20) (v := ?_) (a' := ?_) #[true, true, true, true, true, true, true, true, true, true, true, true, true, true, true, true, true, true, false, false, false, false, false, false, false, false] rfl rfl (by kernel_rfl) (fun _ _ _ h => h) (Or.inl ⟨by rfl, ?_⟩) ?_ ?_
        rotate_left
        · intro w'
          go_simp
          with_reducible rfl
        rotate_left
        · simp only [Act.put, List.setIfInBounds_toArray, List.set_cons_zero, List.set_cons_succ, i64_w, i32_w]
          rfl
        refine pure_ (i := 18) (N := some 21) (v := ?_) (a' := ?_) #[true, true, true, true, true, true, true, true, true, true, true, true, true, true, true, true, true, true, true, false, false, false, false, false, false, false] rfl rfl (by kernel_rfl) (fun _ _ _ h => h) (Or.inl ⟨by rfl, ?_⟩) ?_ ?_
        rotate_left
        · intro w'
          go_simp
          with_reducible rfl
        rotate_left
        · simp only [Act.put, List.setIfInBounds_toArray, List.set_cons_zero, List.set_cons_succ, i64_w, i32_w]
          rfl
        refine pure_ (i := 19) (N := some 22) (v := undef) (a' := ?_) #[true, true, true, true, true, true, true, true, true, true, true, true, true, true, true, true, true, true, true, true, false, false, false, false, false, false] rfl rfl (by kernel_rfl) (fun _ _ _ h => h) (Or.inr ⟨by rfl, rfl⟩) ?_ ?_
        rotate_left
        · simp only [Act.put, List.setIfInBounds_toArray, List.set_cons_zero, List.set_cons_succ, i64_w, i32_w]
          rfl
        refine pure_ (i := 20) (N := some 23) (v := undef) (a' := ?_) #[true, true, true, true, true, true, true, true, true, true, true, true, true, true, true, true, true, true, true, true, true, false, false, false, false, false] rfl rfl (by kernel_rfl) (fun _ _ _ h => h) (Or.inr ⟨by rfl, rfl⟩) ?_ ?_
        rotate_left
        · simp only [Act.put, List.setIfInBounds_toArray, List.set_cons_zero, List.set_cons_succ, i64_w, i32_w]
          rfl
        refine pure_ (i := 21) (N := some 24) (v := undef) (a' := ?_) #[true, true, true, true, true, true, true, true, true, true, true, true, true, true, true, true, true, true, true, true, true, true, false, false, false, false] rfl rfl (by kernel_rfl) (fun _ _ _ h => h) (Or.inr ⟨by rfl, rfl⟩) ?_ ?_
        rotate_left
        · simp only [Act.put, List.setIfInBounds_toArray, List.set_cons_zero, List.set_cons_succ, i64_w, i32_w]
          rfl
        refine pure_ (i := 22) (N := some 25) (v := undef) (a' := ?_) #[true, true, true, true, true, true, true, true, true, true, true, true, true, true, true, true, true, true, true, true, true, true, true, false, false, false] rfl rfl (by kernel_rfl) (fun _ _ _ h => h) (Or.inr ⟨by rfl, rfl⟩) ?_ ?_
        rotate_left
        · simp only [Act.put, List.setIfInBounds_toArray, List.set_cons_zero, List.set_cons_succ, i64_w, i32_w]
          rfl
        refine pure_ (i := 23) (N := some 26) (v := ?_) (a' := ?_) #[true, true, true, true, true, true, true, true, true, true, true, true, true, true, true, true, true, true, true, true, true, true, true, true, false, false] rfl rfl (by kernel_rfl) (fun _ _ _ h => h) (Or.inl ⟨by rfl, ?_⟩) ?_ ?_
        rotate_left
        · intro w'
          go_simp
          with_reducible rfl
        rotate_left
        · simp only [Act.put, List.setIfInBounds_toArray, List.set_cons_zero, List.set_cons_succ, i64_w, i32_w]
          rfl
        refine pure_ (i := 24) (N := some 27) (v := ?_) (a' := ?_) #[true, true, true, true, true, true, true, true, true, true, true, true, true, true, true, true, true, true, true, true, true, true, true, true, true, false] rfl rfl (by kernel_rfl) (fun _ _ _ h => h) (Or.inl ⟨by rfl, ?_⟩) ?_ ?_
        rotate_left
        · intro w'
          go_simp
          with_reducible rfl
        rotate_left
        · simp only [Act.put, List.setIfInBounds_toArray, List.set_cons_zero, List.set_cons_succ, i64_w, i32_w]
          rfl
        refine pure_ (i := 25) (N := some 2) (v := ?_) (a' := ?_) #[true, true, true, true, true, true, true, true, true, true, true, true, true, true, true, true, true, true, true, true, true, true, true, true, true, true] rfl rfl (by kernel_rfl) (fun _ _ _ h => h) (Or.inl ⟨by rfl, ?_⟩) ?_ ?_
        rotate_left
        · intro w'
          go_simp
          with_reducible rfl
        rotate_left
        · simp only [Act.put, List.setIfInBounds_toArray, List.set_cons_zero, List.set_cons_succ, i64_w, i32_w]
          rfl
        refine done_ (by kernel_rfl) ?_
        go_wp2
        go_ret
        exact ⟨rfl, by first | exact HB.out | exact below_drew1 HB.out | exact pw_below_drewN HB.out _ | exact pw_below_drewN (below_drew1 HB.out) _⟩

      | true =>
        by_cases h3 : 0 < l.length
        · have u1 : decide (0 < l.length) = true := decide_eq_true h3
          have u2 : decide (0 < (l.length : Int)) = true := decide_eq_true (by omega)
          have hr : r = true := by rw [← HR.out]; unfold mayB; simp [h1, h2, h3]
          clear h1 h2 h3
          subst hr
          refine start_ (n := 26) (S := fun w' => w'.cell? ⟨w.heap.size, 0, none⟩ = some (.bool true) ∧ w'.cell? ⟨w.heap.size, 1, none⟩ = some (.slice A l.length c)) (ds := []) #[false, false, false, false, false, false, false, false, false, false, false, false, false, false, false, false, false, false, false, false, false, false, false, false, false, false] (by kernel_rfl) rfl rfl ⟨ha0, ha1⟩ (fun hHeld => ?_)
          refine pure_ (i := 0) (N := some 3) (v := ?_) (a' := ?_) #[true, false, false, false, false, false, false, false, false, false, false, false, false, false, false, false, false, false, false, false, false, false, false, false, false, false] rfl rfl (by kernel_rfl) (fun _ _ _ h => h) (Or.inl ⟨by rfl, ?_⟩) ?_ ?_
          rotate_left
          · intro w'
            go_simp
            with_reducible rfl
          rotate_left
          · simp only [Act.put, List.setIfInBounds_toArray, List.set_cons_zero, List.set_cons_succ, i64_w, i32_w]
            rfl
          refine take_ (i := 1) (N := some 4) (v := ?_) (a' := ?_) #[true, true, false, false, false, false, false, false, false, false, false, false, false, false, false, false, false, false, false, false, false, false, false, false, false, false] rfl rfl (by kernel_rfl) (fun _ _ _ h => h) (Or.inl ⟨by rfl, ?_⟩) hHeld ?_ ?_
          rotate_left
          · rintro w' ⟨s0, s1⟩
            go_simp
            with_reducible rfl
          rotate_left
          · simp only [Act.put, List.setIfInBounds_toArray, List.set_cons_zero, List.set_cons_succ, i64_w, i32_w]
            rfl
          refine pure_ (i := 2) (N := some 5) (v := ?_) (a' := ?_) #[true, true, true, false, false, false, false, false, false, false, false, false, false, false, false, false, false, false, false, false, false, false, false, false, false, false] rfl rfl (by kernel_rfl) (fun _ _ _ h => h) (Or.inl ⟨by rfl, ?_⟩) ?_ ?_
          rotate_left
          · intro w'
            go_simp
            with_reducible rfl
          rotate_left
          · simp only [Act.put, List.setIfInBounds_toArray, List.set_cons_zero, List.set_cons_succ, i64_w, i32_w]
            rfl
          refine pure_ (i := 3) (N := some 6) (v := ?_) (a' := ?_) #[true, true, true, true, false, false, false, false, false, false, false, false, false, false, false, false, false, false, false, false, false, false, false, false, false, false] rfl rfl (by kernel_rfl) (fun _ _ _ h => h) (Or.inl ⟨by rfl, ?_⟩) ?_ ?_
          rotate_left
          · intro w'
            go_simp
            with_reducible rfl
          rotate_left
          · simp only [Act.put, List.setIfInBounds_toArray, List.set_cons_zero, List.set_cons_succ, i64_w, i32_w]
            rfl
          refine pure_ (i := 4) (N := some 7) (v := ?_) (a' := ?_) #[true, true, true, true, true, false, false, false, false, false, false, false, false, false, false, false, false, false, false, false, false, false, false, false, false, false] rfl rfl (by kernel_rfl) (fun _ _ _ h => h) (Or.inl ⟨by rfl, ?_⟩) ?_ ?_
          rotate_left
          · intro w'
            go_simp
            with_reducible rfl
          rotate_left
          · simp only [Act.put, List.setIfInBounds_toArray, List.set_cons_zero, List.set_cons_succ, i64_w, i32_w]
            rfl
          refine pure_ (i := 5) (N := some 8) (v := ?_) (a' := ?_) #[true, true, true, true, true, true, false, false, false, false, false, false, false, false, false, false, false, false, false, false, false, false, false, false, false, false] rfl rfl (by kernel_rfl) (fun _ _ _ h => h) (Or.inl ⟨by rfl, ?_⟩) ?_ ?_
          rotate_left
          · intro w'
            go_simp
            with_reducible rfl
          rotate_left
          · simp only [Act.put, List.setIfInBounds_toArray, List.set_cons_zero, List.set_cons_succ, i64_w, i32_w]
            rfl
          refine pure_ (i := 9) (N := some 12) (v := ?_) (a' := ?_) #[true, true, true, true, true, true, false, false, false, true, false, false, false, false, false, false, false, false, false, false, false, false, false, false, false, false] rfl rfl (by kernel_rfl) (fun _ _ _ h => h) (Or.inl ⟨by rfl, ?_⟩) ?_ ?_
          rotate_left
          · intro w'
            go_simp
            with_reducible rfl
          rotate_left
          · simp only [Act.put, List.setIfInBounds_toArray, List.set_cons_zero, List.set_cons_succ, i64_w, i32_w]
            rfl
          refine take_ (i := 6) (N := some 9) (v := ?_) (a' := ?_) #[true, true, true, true, true, true, true, false, false, true, false, false, false, false, false, false, false, false, false, false, false, false, false, false, false, false] rfl rfl (by kernel_rfl) (fun _ _ _ h => h) (Or.inl ⟨by rfl, ?_⟩) hHeld ?_ ?_
          rotate_left
          · rintro w' ⟨s0, s1⟩
            go_simp
            with_reducible rfl
          rotate_left
          · simp only [Act.put, List.setIfInBounds_toArray, List.set_cons_zero, List.set_cons_succ, i64_w, i32_w]
            rfl
          refine take_ (i := 10) (N := some 13) (v := ?_) (a' := ?_) #[true, true, true, true, true, true, true, false, false, true, true, false, false, false, false, false, false, false, false, false, false, false, false, false, false, false] rfl rfl (by kernel_rfl) (fun _ _ _ h => h) (Or.inl ⟨by rfl, ?_⟩) hHeld ?_ ?_
          rotate_left
          · rintro w' ⟨s0, s1⟩
            go_simp
            with_reducible rfl
          rotate_left
          · simp only [Act.put, List.setIfInBounds_toArray, List.set_cons_zero, List.set_cons_succ, i64_w, i32_w]
            rfl
          refine pure_ (i := 11) (N := some 14) (v := ?_) (a' := ?_) #[true, true, true, true, true, true, true, false, false, true, true, true, false, false, false, false, false, false, false, false, false, false, false, false, false, false] rfl rfl (by kernel_rfl) (fun _ _ _ h => h) (Or.inl ⟨by rfl, ?_⟩) ?_ ?_
          rotate_left
          · intro w'
            go_simp
            with_reducible rfl
          rotate_left
          · simp only [Act.put, List.setIfInBounds_toArray, List.set_cons_zero, List.set_cons_succ, i64_w, i32_w]
            rfl
          refine one_ (i := 7) (N := some 10) #[true, true, true, true, true, true, true, true, false, true, true, true, false, false, false, false, false, false, false, false, false, false, false, false, false, false] rfl rfl (by kernel_rfl) (by decide) (fun K hK => ?_)
          refine goes_ Tryd.func54 (by kernel_rfl) rfl #[.slice A l.length c] (by rfl) rfl rfl (by simp only [List.map_toArray, List.map_cons, List.map_nil]; rfl) ?_
          with_reducible refine (trim_calls A c l _ (HL.out.below (by first | exact HB.out | exact below_drew1 HB.out | exact pw_below_drewN HB.out _)).lim HL.out.room).mono ?_
          rintro e w' ⟨rfl, ⟨nd, rfl⟩⟩
          refine ⟨_, rfl, ?_⟩
          refine hK.out _ _ ⟨ha0, ha1⟩ (fun hHeld => ?_)
          clear hK K
          refine norm_ (a' := ?_) ?_ ?_
          rotate_left
          · show Act.put _ (some 10) _ = _
            simp only [Act.put, List.setIfInBounds_toArray, List.set_cons_zero, List.set_cons_succ, i64_w, i32_w]
            rfl
          refine pure_ (i := 8) (N := some 11) (v := ?_) (a' := ?_) #[true, true, true, true, true, true, true, true, true, true, true, true, false, false, false, false, false, false, false, false, false, false, false, false, false, false] rfl rfl (by kernel_rfl) (fun _ _ _ h => h) (Or.inl ⟨by rfl, ?_⟩) ?_ ?_
          rotate_left
          · intro w'
            go_simp
            with_reducible rfl
          rotate_left
          · simp only [Act.put, List.setIfInBounds_toArray, List.set_cons_zero, List.set_cons_succ, i64_w, i32_w]
            rfl
          refine pure_ (i := 12) (N := some 15) (v := ?_) (a' := ?_) #[true, true, true, true, true, true, true, true, true, true, true, true, true, false, false, false, false, false, false, false, false, false, false, false, false, false] rfl rfl (by kernel_rfl) (fun _ _ _ h => h) (Or.inl ⟨by rfl, ?_⟩) ?_ ?_
          rotate_left
          · intro w'
            go_simp
            with_reducible rfl
          rotate_left
          · simp only [Act.put, List.setIfInBounds_toArray, List.set_cons_zero, List.set_cons_succ, i64_w, i32_w]
            rfl
          refine pure_ (i := 13) (N := some 16) (v := ?_) (a' := ?_) #[true, true, true, true, true, true, true, true, true, true, true, true, true, true, false, false, false, false, false, false, false, false, false, false, false, false] rfl rfl (by kernel_rfl) (fun _ _ _ h => h) (Or.inl ⟨by rfl, ?_⟩) ?_ ?_
          rotate_left
          · intro w'
            go_simp
            with_reducible rfl
          rotate_left
          · simp only [Act.put, List.setIfInBounds_toArray, List.set_cons_zero, List.set_cons_succ, i64_w, i32_w]
            rfl
          refine pure_ (i := 14) (N := some 17) (v := ?_) (a' := ?_) #[true, true, true, true, true, true, true, true, true, true, true, true, true, true, true, false, false, false, false, false, false, false, false, false, false, false] rfl rfl (by kernel_rfl) (fun _ _ _ h => h) (Or.inl ⟨by rfl, ?_⟩) ?_ ?_
          rotate_left
          · intro w'
            go_simp
            with_reducible rfl
          rotate_left
          · simp only [Act.put, List.setIfInBounds_toArray, List.set_cons_zero, List.set_cons_succ, i64_w, i32_w]
            rfl
          refine pure_ (i := 15) (N := some 18) (v := ?_) (a' := ?_) #[true, true, true, true, true, true, true, true, true, true, true, true, true, true, true, true, false, false, false, false, false, false, false, false, false, false] rfl rfl (by kernel_rfl) (fun _ _ _ h => h) (Or.inl ⟨by rfl, ?_⟩) ?_ ?_
          rotate_left
          · intro w'
            go_simp
            with_reducible rfl
          rotate_left
          · simp only [Act.put, List.setIfInBounds_toArray, List.set_cons_zero, List.set_cons_succ, i64_w, i32_w]
            rfl
          refine take_ (i := 16) (N := some 19) (v := ?_) (a' := ?_) #[true, true, true, true, true, true, true, true, true, true, true, true, true, true, true, true, true, false, false, false, false, false, false, false, false, false] rfl rfl (by kernel_rfl) (fun _ _ _ h => h) (Or.inl ⟨by rfl, ?_⟩) hHeld ?_ ?_
          rotate_left
          · rintro w' ⟨s0, s1⟩
            go_simp
            with_reducible rfl
          rotate_left
          · simp only [Act.put, List.setIfInBounds_toArray, List.set_cons_zero, List.set_cons_succ, i64_w, i32_w]
            rfl
          refine pure_ (i := 17) (N := some 20) (v := ?_) (a' := ?_) #[true, true, true, true, true, true, true, true, true, true, true, true, true, true, true, true, true, true, false, false, false, false, false, false, false, false] rfl rfl (by kernel_rfl) (fun _ _ _ h => h) (Or.inl ⟨by rfl, ?_⟩) ?_ ?_
          rotate_left
          · intro w'
            go_simp
            with_reducible rfl
          rotate_left
          · simp only [Act.put, List.setIfInBounds_toArray, List.set_cons_zero, List.set_cons_succ, i64_w, i32_w]
            rfl
          refine pure_ (i := 18) (N := some 21) (v := ?_) (a' := ?_) #[true, true, true, true, true, true, true, true, true, true, true, true, true, true, true, true, true, true, true, false, false, false, false, false, false, false] rfl rfl (by kernel_rfl) (fun _ _ _ h => h) (Or.inl ⟨by rfl, ?_⟩) ?_ ?_
          rotate_left
          · intro w'
            go_simp
            with_reducible rfl
          rotate_left
          · simp only [Act.put, List.setIfInBounds_toArray, List.set_cons_zero, List.set_cons_succ, i64_w, i32_w]
            rfl
          refine pure_ (i := 19) (N := some 22) (v := ?_) (a' := ?_) #[true, true, true, true, true, true, true, true, true, true, true, true, true, true, true, true, true, true, true, true, false, false, false, false, false, false] rfl rfl (by kernel_rfl) (fun _ _ _ h => h) (Or.inl ⟨by rfl, ?_⟩) ?_ ?_
          rotate_left
          · intro w'
            go_simp
            with_reducible rfl
          rotate_left
          · simp only [Act.put, List.setIfInBounds_toArray, List.set_cons_zero, List.set_cons_succ, i64_w, i32_w]
            rfl
          refine take_ (i := 20) (N := some 23) (v := ?_) (a' := ?_) #[true, true, true, true, true, true, true, true, true, true, true, true, true, true, true, true, true, true, true, true, true, false, false, false, false, false] rfl rfl (by kernel_rfl) (fun _ _ _ h => h) (Or.inl ⟨by rfl, ?_⟩) hHeld ?_ ?_
          rotate_left
          · rintro w' ⟨s0, s1⟩
            go_simp
            with_reducible rfl
          rotate_left
          · simp only [Act.put, List.setIfInBounds_toArray, List.set_cons_zero, List.set_cons_succ, i64_w, i32_w]
            rfl
          refine pure_ (i := 21) (N := some 24) (v := ?_) (a' := ?_) #[true, true, true, true, true, true, true, true, true, true, true, true, true, true, true, true, true, true, true, true, true, true, false, false, false, false] rfl rfl (by kernel_rfl) (fun _ _ _ h => h) (Or.inl ⟨by rfl, ?_⟩) ?_ ?_
          rotate_left
          · intro w'
            go_simp
            with_reducible rfl
          rotate_left
          · simp only [Act.put, List.setIfInBounds_toArray, List.set_cons_zero, List.set_cons_succ, i64_w, i32_w]
            rfl
          refine pure_ (i := 22) (N := some 25) (v := ?_) (a' := ?_) #[true, true, true, true, true, true, true, true, true, true, true, true, true, true, true, true, true, true, true, true, true, true, true, false, false, false] rfl rfl (by kernel_rfl) (fun _ _ _ h => h) (Or.inl ⟨by rfl, ?_⟩) ?_ ?_
          rotate_left
          · intro w'
            go_simp
            with_reducible rfl
          rotate_left
          · simp only [Act.put, List.setIfInBounds_toArray, List.set_cons_zero, List.set_cons_succ, i64_w, i32_w]
            rfl
          refine pure_ (i := 23) (N := some 26) (v := ?_) (a' := ?_) #[true, true, true, true, true, true, true, true, true, true, true, true, true, true, true, true, true, true, true, true, true, true, true, true, false, false] rfl rfl (by kernel_rfl) (fun _ _ _ h => h) (Or.inl ⟨by rfl, ?_⟩) ?_ ?_
          rotate_left
          · intro w'
            go_simp
            with_reducible rfl
          rotate_left
          · simp only [Act.put, List.setIfInBounds_toArray, List.set_cons_zero, List.set_cons_succ, i64_w, i32_w]
            rfl
          refine pure_ (i := 24) (N := some 27) (v := ?_) (a' := ?_) #[true, true, true, true, true, true, true, true, true, true, true, true, true, true, true, true, true, true, true, true, true, true, true, true, true, false] rfl rfl (by kernel_rfl) (fun _ _ _ h => h) (Or.inl ⟨by rfl, ?_⟩) ?_ ?_
          rotate_left
          · intro w'
            go_simp
            with_reducible rfl
          rotate_left
          · simp only [Act.put, List.setIfInBounds_toArray, List.set_cons_zero, List.set_cons_succ, i64_w, i32_w]
            rfl
          refine pure_ (i := 25) (N := some 2) (v := ?_) (a' := ?_) #[true, true, true, true, true, true, true, true, true, true, true, true, true, true, true, true, true, true, true, true, true, true, true, true, true, true] rfl rfl (by kernel_rfl) (fun _ _ _ h => h) (Or.inl ⟨by rfl, ?_⟩) ?_ ?_
          rotate_left
          · intro w'
            go_simp
            with_reducible rfl
          rotate_left
          · simp only [Act.put, List.setIfInBounds_toArray, List.set_cons_zero, List.set_cons_succ, i64_w, i32_w]
            rfl
          refine done_ (by kernel_rfl) ?_
          go_wp2
          go_ret
          exact ⟨rfl, by first | exact HB.out | exact below_drew1 HB.out | exact pw_below_drewN HB.out _ | exact pw_below_drewN (below_drew1 HB.out) _⟩

        · have u1 : decide (0 < l.length) = false := decide_eq_false h3
          have u2 : decide (0 < (l.length : Int)) = false := decide_eq_false (by omega)
          have hr : r = false := by rw [← HR.out]; unfold mayB; simp [h1, h2, h3]
          clear h1 h2 h3
          subst hr
          refine start_ (n := 26) (S := fun w' => w'.cell? ⟨w.heap.size, 0, none⟩ = some (.bool true) ∧ w'.cell? ⟨w.heap.size, 1, none⟩ = some (.slice A l.length c)) (ds := []) #[false, false, false, false, false, false, false, false, false, false, false, false, false, false, false, false, false, false, false, false, false, false, false, false, false, false] (by kernel_rfl) rfl rfl ⟨ha0, ha1⟩ (fun hHeld => ?_)
          refine pure_ (i := 0) (N := some 3) (v := ?_) (a' := ?_) #[true, false, false, false, false, false, false, false, false, false, false, false, false, false, false, false, false, false, false, false, false, false, false, false, false, false] rfl rfl (by kernel_rfl) (fun _ _ _ h => h) (Or.inl ⟨by rfl, ?_⟩) ?_ ?_
          rotate_left
          · intro w'
            go_simp
            with_reducible rfl
          rotate_left
          · simp only [Act.put, List.setIfInBounds_toArray, List.set_cons_zero, List.set_cons_succ, i64_w, i32_w]
            rfl
          refine take_ (i := 1) (N := some 4) (v := ?_) (a' := ?_) #[true, true, false, false, false, false, false, false, false, false, false, false, false, false, false, false, false, false, false, false, false, false, false, false, false, false] rfl rfl (by kernel_rfl) (fun _ _ _ h => h) (Or.inl ⟨by rfl, ?_⟩) hHeld ?_ ?_
          rotate_left
          · rintro w' ⟨s0, s1⟩
            go_simp
            with_reducible rfl
          rotate_left
          · simp only [Act.put, List.setIfInBounds_toArray, List.set_cons_zero, List.set_cons_succ, i64_w, i32_w]
            rfl
          refine pure_ (i := 2) (N := some 5) (v := ?_) (a' := ?_) #[true, true, true, false, false, false, false, false, false, false, false, false, false, false, false, false, false, false, false, false, false, false, false, false, false, false] rfl rfl (by kernel_rfl) (fun _ _ _ h => h) (Or.inl ⟨by rfl, ?_⟩) ?_ ?_
          rotate_left
          · intro w'
            go_simp
            with_reducible rfl
          rotate_left
          · simp only [Act.put, List.setIfInBounds_toArray, List.set_cons_zero, List.set_cons_succ, i64_w, i32_w]
            rfl
          refine pure_ (i := 3) (N := some 6) (v := ?_) (a' := ?_) #[true, true, true, true, false, false, false, false, false, false, false, false, false, false, false, false, false, false, false, false, false, false, false, false, false, false] rfl rfl (by kernel_rfl) (fun _ _ _ h => h) (Or.inl ⟨by rfl, ?_⟩) ?_ ?_
          rotate_left
          · intro w'
            go_simp
            with_reducible rfl
          rotate_left
          · simp only [Act.put, List.setIfInBounds_toArray, List.set_cons_zero, List.set_cons_succ, i64_w, i32_w]
            rfl
          refine pure_ (i := 4) (N := some 7) (v := ?_) (a' := ?_) #[true, true, true, true, true, false, false, false, false, false, false, false, false, false, false, false, false, false, false, false, false, false, false, false, false, false] rfl rfl (by kernel_rfl) (fun _ _ _ h => h) (Or.inl ⟨by rfl, ?_⟩) ?_ ?_
          rotate_left
          · intro w'
            go_simp
            with_reducible rfl
          rotate_left
          · simp only [Act.put, List.setIfInBounds_toArray, List.set_cons_zero, List.set_cons_succ, i64_w, i32_w]
            rfl
          refine pure_ (i := 5) (N := some 8) (v := ?_) (a' := ?_) #[true, true, true, true, true, true, false, false, false, false, false, false, false, false, false, false, false, false, false, false, false, false, false, false, false, false] rfl rfl (by kernel_rfl) (fun _ _ _ h => h) (Or.inl ⟨by rfl, ?_⟩) ?_ ?_
          rotate_left
          · intro w'
            go_simp
            with_reducible rfl
          rotate_left
          · simp only [Act.put, List.setIfInBounds_toArray, List.set_cons_zero, List.set_cons_succ, i64_w, i32_w]
            rfl
          refine pure_ (i := 9) (N := some 12) (v := ?_) (a' := ?_) #[true, true, true, true, true, true, false, false, false, true, false, false, false, false, false, false, false, false, false, false, false, false, false, false, false, false] rfl rfl (by kernel_rfl) (fun _ _ _ h => h) (Or.inl ⟨by rfl, ?_⟩) ?_ ?_
          rotate_left
          · intro w'
            go_simp
            with_reducible rfl
          rotate_left
          · simp only [Act.put, List.setIfInBounds_toArray, List.set_cons_zero, List.set_cons_succ, i64_w, i32_w]
            rfl
          refine take_ (i := 6) (N := some 9) (v := ?_) (a' := ?_) #[true, true, true, true, true, true, true, false, false, true, false, false, false, false, false, false, false, false, false, false, false, false, false, false, false, false] rfl rfl (by kernel_rfl) (fun _ _ _ h => h) (Or.inl ⟨by rfl, ?_⟩) hHeld ?_ ?_
          rotate_left
          · rintro w' ⟨s0, s1⟩
            go_simp
            with_reducible rfl
          rotate_left
          · simp only [Act.put, List.setIfInBounds_toArray, List.set_cons_zero, List.set_cons_succ, i64_w, i32_w]
            rfl
          refine take_ (i := 10) (N := some 13) (v := ?_) (a' := ?_) #[true, true, true, true, true, true, true, false, false, true, true, false, false, false, false, false, false, false, false, false, false, false, false, false, false, false] rfl rfl (by kernel_rfl) (fun _ _ _ h => h) (Or.inl ⟨by rfl, ?_⟩) hHeld ?_ ?_
          rotate_left
          · rintro w' ⟨s0, s1⟩
            go_simp
            with_reducible rfl
          rotate_left
          · simp only [Act.put, List.setIfInBounds_toArray, List.set_cons_zero, List.set_cons_succ, i64_w, i32_w]
            rfl
          refine pure_ (i := 11) (N := some 14) (v := ?_) (a' := ?_) #[true, true, true, true, true, true, true, false, false, true, true, true, false, false, false, false, false, false, false, false, false, false, false, false, false, false] rfl rfl (by kernel_rfl) (fun _ _ _ h => h) (Or.inl ⟨by rfl, ?_⟩) ?_ ?_
          rotate_left
          · intro w'
            go_simp
            with_reducible rfl
          rotate_left
          · simp only [Act.put, List.setIfInBounds_toArray, List.set_cons_zero, List.set_cons_succ, i64_w, i32_w]
            rfl
          refine one_ (i := 7) (N := some 10) #[true, true, true, true, true, true, true, true, false, true, true, true, false, false, false, false, false, false, false, false, false, false, false, false, false, false] rfl rfl (by kernel_rfl) (by decide) (fun K hK => ?_)
          refine goes_ Tryd.func54 (by kernel_rfl) rfl #[.slice A l.length c] (by rfl) rfl rfl (by simp only [List.map_toArray, List.map_cons, List.map_nil]; rfl) ?_
          with_reducible refine (trim_calls A c l _ (HL.out.below (by first | exact HB.out | exact below_drew1 HB.out | exact pw_below_drewN HB.out _)).lim HL.out.room).mono ?_
          rintro e w' ⟨rfl, ⟨nd, rfl⟩⟩
          refine ⟨_, rfl, ?_⟩
          refine hK.out _ _ ⟨ha0, ha1⟩ (fun hHeld => ?_)
          clear hK K
          refine norm_ (a' := ?_) ?_ ?_
          rotate_left
          · show Act.put _ (some 10) _ = _
            simp only [Act.put, List.setIfInBounds_toArray, List.set_cons_zero, List.set_cons_succ, i64_w, i32_w]
            rfl
          refine pure_ (i := 8) (N := some 11) (v := ?_) (a' := ?_) #[true, true, true, true, true, true, true, true, true, true, true, true, false, false, false, false, false, false, false, false, false, false, false, false, false, false] rfl rfl (by kernel_rfl) (fun _ _ _ h => h) (Or.inl ⟨by rfl, ?_⟩) ?_ ?_
          rotate_left
          · intro w'
            go_simp
            with_reducible rfl
          rotate_left
          · simp only [Act.put, List.setIfInBounds_toArray, List.set_cons_zero, List.set_cons_succ, i64_w, i32_w]
            rfl
          refine pure_ (i := 12) (N := some 15) (v := ?_) (a' := ?_) #[true, true, true, true, true, true, true, true, true, true, true, true, true, false, false, false, false, false, false, false, false, false, false, false, false, false] rfl rfl (by kernel_rfl) (fun _ _ _ h => h) (Or.inl ⟨by rfl, ?_⟩) ?_ ?_
          rotate_left
          · intro w'
            go_simp
            with_reducible rfl
          rotate_left
          · simp only [Act.put, List.setIfInBounds_toArray, List.set_cons_zero, List.set_cons_succ, i64_w, i32_w]
            rfl
          refine pure_ (i := 13) (N := some 16) (v := ?_) (a' := ?_) #[true, true, true, true, true, true, true, true, true, true, true, true, true, true, false, false, false, false, false, false, false, false, false, false, false, false] rfl rfl (by kernel_rfl) (fun _ _ _ h => h) (Or.inl ⟨by rfl, ?_⟩) ?_ ?_
          rotate_left
          · intro w'
            go_simp
            with_reducible rfl
          rotate_left
          · simp only [Act.put, List.setIfInBounds_toArray, List.set_cons_zero, List.set_cons_succ, i64_w, i32_w]
            rfl
          refine pure_ (i := 14) (N := some 17) (v := ?_) (a' := ?_) #[true, true, true, true, true, true, true, true, true, true, true, true, true, true, true, false, false, false, false, false, false, false, false, false, false, false] rfl rfl (by kernel_rfl) (fun _ _ _ h => h) (Or.inl ⟨by rfl, ?_⟩) ?_ ?_
          rotate_left
          · intro w'
            go_simp
            with_reducible rfl
          rotate_left
          · simp only [Act.put, List.setIfInBounds_toArray, List.set_cons_zero, List.set_cons_succ, i64_w, i32_w]
            rfl
          refine pure_ (i := 15) (N := some 18) (v := ?_) (a' := ?_) #[true, true, true, true, true, true, true, true, true, true, true, true, true, true, true, true, false, false, false, false, false, false, false, false, false, false] rfl rfl (by kernel_rfl) (fun _ _ _ h => h) (Or.inl ⟨by rfl, ?_⟩) ?_ ?_
          rotate_left
          · intro w'
            go_simp
            with_reducible rfl
          rotate_left
          · simp only [Act.put, List.setIfInBounds_toArray, List.set_cons_zero, List.set_cons_succ, i64_w, i32_w]
            rfl
          refine take_ (i := 16) (N := some 19) (v := ?_) (a' := ?_) #[true, true, true, true, true, true, true, true, true, true, true, true, true, true, true, true, true, false, false, false, false, false, false, false, false, false] rfl rfl (by kernel_rfl) (fun _ _ _ h => h) (Or.inl ⟨by rfl, ?_⟩) hHeld ?_ ?_
          rotate_left
          · rintro w' ⟨s0, s1⟩
            go_simp
            with_reducible rfl
          rotate_left
          · simp only [Act.put, List.setIfInBounds_toArray, List.set_cons_zero, List.set_cons_succ, i64_w, i32_w]
            rfl
          refine pure_ (i := 17) (N := some 20) (v := ?_) (a' := ?_) #[true, true, true, true, true, true, true, true, true, true, true, true, true, true, true, true, true, true, false, false, false, false, false, false, false, false] rfl rfl (by kernel_rfl) (fun _ _ _ h => h) (Or.inl ⟨by rfl, ?_⟩) ?_ ?_
          rotate_left
          · intro w'
            go_simp
            with_reducible rfl
          rotate_left
          · simp only [Act.put, List.setIfInBounds_toArray, List.set_cons_zero, List.set_cons_succ, i64_w, i32_w]
            rfl
          refine pure_ (i := 18) (N := some 21) (v := ?_) (a' := ?_) #[true, true, true, true, true, true, true, true, true, true, true, true, true, true, true, true, true, true, true, false, false, false, false, false, false, false] rfl rfl (by kernel_rfl) (fun _ _ _ h => h) (Or.inl ⟨by rfl, ?_⟩) ?_ ?_
          rotate_left
          · intro w'
            go_simp
            with_reducible rfl
          rotate_left
          · simp only [Act.put, List.setIfInBounds_toArray, List.set_cons_zero, List.set_cons_succ, i64_w, i32_w]
            rfl
          refine pure_ (i := 19) (N := some 22) (v := ?_) (a' := ?_) #[true, true, true, true, true, true, true, true, true, true, true, true, true, true, true, true, true, true, true, true, false, false, false, false, false, false] rfl rfl (by kernel_rfl) (fun _ _ _ h => h) (Or.inl ⟨by rfl, ?_⟩) ?_ ?_
          rotate_left
          · intro w'
            go_simp
            with_reducible rfl
          rotate_left
          · simp only [Act.put, List.setIfInBounds_toArray, List.set_cons_zero, List.set_cons_succ, i64_w, i32_w]
            rfl
          refine take_ (i := 20) (N := some 23) (v := ?_) (a' := ?_) #[true, true, true, true, true, true, true, true, true, true, true, true, true, true, true, true, true, true, true, true, true, false, false, false, false, false] rfl rfl (by kernel_rfl) (fun _ _ _ h => h) (Or.inl ⟨by rfl, ?_⟩) hHeld ?_ ?_
          rotate_left
          · rintro w' ⟨s0, s1⟩
            go_simp
            with_reducible rfl
          rotate_left
          · simp only [Act.put, List.setIfInBounds_toArray, List.set_cons_zero, List.set_cons_succ, i64_w, i32_w]
            rfl
          refine pure_ (i := 21) (N := some 24) (v := ?_) (a' := ?_) #[true, true, true, true, true, true, true, true, true, true, true, true, true, true, true, true, true, true, true, true, true, true, false, false, false, false] rfl rfl (by kernel_rfl) (fun _ _ _ h => h) (Or.inl ⟨by rfl, ?_⟩) ?_ ?_
          rotate_left
          · intro w'
            go_simp
            with_reducible rfl
          rotate_left
          · simp only [Act.put, List.setIfInBounds_toArray, List.set_cons_zero, List.set_cons_succ, i64_w, i32_w]
            rfl
          refine pure_ (i := 22) (N := some 25) (v := ?_) (a' := ?_) #[true, true, true, true, true, true, true, true, true, true, true, true, true, true, true, true, true, true, true, true, true, true, true, false, false, false] rfl rfl (by kernel_rfl) (fun _ _ _ h => h) (Or.inl ⟨by rfl, ?_⟩) ?_ ?_
          rotate_left
          · intro w'
            go_simp
            with_reducible rfl
          rotate_left
          · simp only [Act.put, List.setIfInBounds_toArray, List.set_cons_zero, List.set_cons_succ, i64_w, i32_w]
            rfl
          refine pure_ (i := 23) (N := some 26) (v := ?_) (a' := ?_) #[true, true, true, true, true, true, true, true, true, true, true, true, true, true, true, true, true, true, true, true, true, true, true, true, false, false] rfl rfl (by kernel_rfl) (fun _ _ _ h => h) (Or.inl ⟨by rfl, ?_⟩) ?_ ?_
          rotate_left
          · intro w'
            go_simp
            with_reducible rfl
          rotate_left
          · simp only [Act.put, List.setIfInBounds_toArray, List.set_cons_zero, List.set_cons_succ, i64_w, i32_w]
            rfl
          refine pure_ (i := 24) (N := some 27) (v := ?_) (a' := ?_) #[true, true, true, true, true, true, true, true, true, true, true, true, true, true, true, true, true, true, true, true, true, true, true, true, true, false] rfl rfl (by kernel_rfl) (fun _ _ _ h => h) (Or.inl ⟨by rfl, ?_⟩) ?_ ?_
          rotate_left
          · intro w'
            go_simp
            with_reducible rfl
          rotate_left
          · simp only [Act.put, List.setIfInBounds_toArray, List.set_cons_zero, List.set_cons_succ, i64_w, i32_w]
            rfl
          refine pure_ (i := 25) (N := some 2) (v := ?_) (a' := ?_) #[true, true, true, true, true, true, true, true, true, true, true, true, true, true, true, true, true, true, true, true, true, true, true, true, true, true] rfl rfl (by kernel_rfl) (fun _ _ _ h => h) (Or.inl ⟨by rfl, ?_⟩) ?_ ?_
          rotate_left
          · intro w'
            go_simp
            with_reducible rfl
          rotate_left
          · simp only [Act.put, List.setIfInBounds_toArray, List.set_cons_zero, List.set_cons_succ, i64_w, i32_w]
            rfl
          refine done_ (by kernel_rfl) ?_
          go_wp2
          go_ret
          exact ⟨rfl, by first | exact HB.out | exact below_drew1 HB.out | exact pw_below_drewN HB.out _ | exact pw_below_drewN (below_drew1 HB.out) _⟩

    · have s1 : ((tr l).length == l.length) = false := beq_eq_false_iff_ne.mpr h2
      have s2 : (((tr l).length : Int) == (l.length : Int)) = false := by simp; omega
      have hr : r = false := by rw [← HR.out]; unfold mayB; simp [h2]
      clear h1 h2
      subst hr
      cases neg
      · skip
        refine start_ (n := 26) (S := fun w' => w'.cell? ⟨w.heap.size, 0, none⟩ = some (.bool false) ∧ w'.cell? ⟨w.heap.size, 1, none⟩ = some (.slice A l.length c)) (ds := []) #[false, false, false, false, false, false, false, false, false, false, false, false, false, false, false, false, false, false, false, false, false, false, false, false, false, false] (by kernel_rfl) rfl rfl ⟨ha0, ha1⟩ (fun hHeld => ?_)
        refine pure_ (i := 0) (N := some 3) (v := ?_) (a' := ?_) #[true, false, false, false, false, false, false, false, false, false, false, false, false, false, false, false, false, false, false, false, false, false, false, false, false, false] rfl rfl (by kernel_rfl) (fun _ _ _ h => h) (Or.inl ⟨by rfl, ?_⟩) ?_ ?_
        rotate_left
        · intro w'
          go_simp
          with_reducible rfl
        rotate_left
        · simp only [Act.put, List.setIfInBounds_toArray, List.set_cons_zero, List.set_cons_succ, i64_w, i32_w]
          rfl
        refine take_ (i := 1) (N := some 4) (v := ?_) (a' := ?_) #[true, true, false, false, false, false, false, false, false, false, false, false, false, false, false, false, false, false, false, false, false, false, false, false, false, false] rfl rfl (by kernel_rfl) (fun _ _ _ h => h) (Or.inl ⟨by rfl, ?_⟩) hHeld ?_ ?_
        rotate_left
        · rintro w' ⟨s0, s1⟩
          go_simp
          with_reducible rfl
        rotate_left
        · simp only [Act.put, List.setIfInBounds_toArray, List.set_cons_zero, List.set_cons_succ, i64_w, i32_w]
          rfl
        refine pure_ (i := 2) (N := some 5) (v := ?_) (a' := ?_) #[true, true, true, false, false, false, false, false, false, false, false, false, false, false, false, false, false, false, false, false, false, false, false, false, false, false] rfl rfl (by kernel_rfl) (fun _ _ _ h => h) (Or.inl ⟨by rfl, ?_⟩) ?_ ?_
        rotate_left
        · intro w'
          go_simp
          with_reducible rfl
        rotate_left
        · simp only [Act.put, List.setIfInBounds_toArray, List.set_cons_zero, List.set_cons_succ, i64_w, i32_w]
          rfl
        refine pure_ (i := 3) (N := some 6) (v := ?_) (a' := ?_) #[true, true, true, true, false, false, false, false, false, false, false, false, false, false, false, false, false, false, false, false, false, false, false, false, false, false] rfl rfl (by kernel_rfl) (fun _ _ _ h => h) (Or.inl ⟨by rfl, ?_⟩) ?_ ?_
        rotate_left
        · intro w'
          go_simp
          with_reducible rfl
        rotate_left
        · simp only [Act.put, List.setIfInBounds_toArray, List.set_cons_zero, List.set_cons_succ, i64_w, i32_w]
          rfl
        refine pure_ (i := 4) (N := some 7) (v := ?_) (a' := ?_) #[true, true, true, true, true, false, false, false, false, false, false, false, false, false, false, false, false, false, false, false, false, false, false, false, false, false] rfl rfl (by kernel_rfl) (fun _ _ _ h => h) (Or.inl ⟨by rfl, ?_⟩) ?_ ?_
        rotate_left
        · intro w'
          go_simp
          with_reducible rfl
        rotate_left
        · simp only [Act.put, List.setIfInBounds_toArray, List.set_cons_zero, List.set_cons_succ, i64_w, i32_w]
          rfl
        refine pure_ (i := 5) (N := some 8) (v := ?_) (a' := ?_) #[true, true, true, true, true, true, false, false, false, false, false, false, false, false, false, false, false, false, false, false, false, false, false, false, false, false] rfl rfl (by kernel_rfl) (fun _ _ _ h => h) (Or.inl ⟨by rfl, ?_⟩) ?_ ?_
        rotate_left
        · intro w'
          go_simp
          with_reducible rfl
        rotate_left
        · simp only [Act.put, List.setIfInBounds_toArray, List.set_cons_zero, List.set_cons_succ, i64_w, i32_w]
          rfl
        refine pure_ (i := 9) (N := some 12) (v := ?_) (a' := ?_) #[true, true, true, true, true, true, false, false, false, true, false, false, false, false, false, false, false, false, false, false, false, false, false, false, false, false] rfl rfl (by kernel_rfl) (fun _ _ _ h => h) (Or.inl ⟨by rfl, ?_⟩) ?_ ?_
        rotate_left
        · intro w'
          go_simp
          with_reducible rfl
        rotate_left
        · simp only [Act.put, List.setIfInBounds_toArray, List.set_cons_zero, List.set_cons_succ, i64_w, i32_w]
          rfl
        refine take_ (i := 6) (N := some 9) (v := ?_) (a' := ?_) #[true, true, true, true, true, true, true, false, false, true, false, false, false, false, false, false, false, false, false, false, false, false, false, false, false, false] rfl rfl (by kernel_rfl) (fun _ _ _ h => h) (Or.inl ⟨by rfl, ?_⟩) hHeld ?_ ?_
        rotate_left
        · rintro w' ⟨s0, s1⟩
          go_simp
          with_reducible rfl
        rotate_left
        · simp only [Act.put, List.setIfInBounds_toArray, List.set_cons_zero, List.set_cons_succ, i64_w, i32_w]
          rfl
        refine take_ (i := 10) (N := some 13) (v := ?_) (a' := ?_) #[true, true, true, true, true, true, true, false, false, true, true, false, false, false, false, false, false, false, false, false, false, false, false, false, false, false] rfl rfl (by kernel_rfl) (fun _ _ _ h => h) (Or.inl ⟨by rfl, ?_⟩) hHeld ?_ ?_
        rotate_left
        · rintro w' ⟨s0, s1⟩
          go_simp
          with_reducible rfl
        rotate_left
        · simp only [Act.put, List.setIfInBounds_toArray, List.set_cons_zero, List.set_cons_succ, i64_w, i32_w]
          rfl
        refine pure_ (i := 11) (N := some 14) (v := ?_) (a' := ?_) #[true, true, true, true, true, true, true, false, false, true, true, true, false, false, false, false, false, false, false, false, false, false, false, false, false, false] rfl rfl (by kernel_rfl) (fun _ _ _ h => h) (Or.inl ⟨by rfl, ?_⟩) ?_ ?_
        rotate_left
        · intro w'
          go_simp
          with_reducible rfl
        rotate_left
        · simp only [Act.put, List.setIfInBounds_toArray, List.set_cons_zero, List.set_cons_succ, i64_w, i32_w]
          rfl
        refine one_ (i := 7) (N := some 10) #[true, true, true, true, true, true, true, true, false, true, true, true, false, false, false, false, false, false, false, false, false, false, false, false, false, false] rfl rfl (by kernel_rfl) (by decide) (fun K hK => ?_)
        refine goes_ Tryd.func54 (by kernel_rfl) rfl #[.slice A l.length c] (by rfl) rfl rfl (by simp only [List.map_toArray, List.map_cons, List.map_nil]; rfl) ?_
        with_reducible refine (trim_calls A c l _ (HL.out.below (by first | exact HB.out | exact below_drew1 HB.out | exact pw_below_drewN HB.out _)).lim HL.out.room).mono ?_
        rintro e w' ⟨rfl, ⟨nd, rfl⟩⟩
        refine ⟨_, rfl, ?_⟩
        refine hK.out _ _ ⟨ha0, ha1⟩ (fun hHeld => ?_)
        clear hK K
        refine norm_ (a' := ?_) ?_ ?_
        rotate_left
        · show Act.put _ (some 10) _ = _
          simp only [Act.put, List.setIfInBounds_toArray, List.set_cons_zero, List.set_cons_succ, i64_w, i32_w]
          rfl
        refine pure_ (i := 8) (N := some 11) (v := ?_) (a' := ?_) #[true, true, true, true, true, true, true, true, true, true, true, true, false, false, false, false, false, false, false, false, false, false, false, false, false, false] rfl rfl (by kernel_rfl) (fun _ _ _ h => h) (Or.inl ⟨by rfl, ?_⟩) ?_ ?_
        rotate_left
        · intro w'
          go_simp
          with_reducible rfl
        rotate_left
        · simp only [Act.put, List.setIfInBounds_toArray, List.set_cons_zero, List.set_cons_succ, i64_w, i32_w]
          rfl
        refine pure_ (i := 12) (N := some 15) (v := ?_) (a' := ?_) #[true, true, true, true, true, true, true, true, true, true, true, true, true, false, false, false, false, false, false, false, false, false, false, false, false, false] rfl rfl (by kernel_rfl) (fun _ _ _ h => h) (Or.inl ⟨by rfl, ?_⟩) ?_ ?_
        rotate_left
        · intro w'
          go_simp
          with_reducible rfl
        rotate_left
        · simp only [Act.put, List.setIfInBounds_toArray, List.set_cons_zero, List.set_cons_succ, i64_w, i32_w]
          rfl
        refine pure_ (i := 13) (N := some 16) (v := ?_) (a' := ?_) #[true, true, true, true, true, true, true, true, true, true, true, true, true, true, false, false, false, false, false, false, false, false, false, false, false, false] rfl rfl (by kernel_rfl) (fun _ _ _ h => h) (Or.inl ⟨by rfl, ?_⟩) ?_ ?_
        rotate_left
        · intro w'
          go_simp
          with_reducible rfl
        rotate_left
        · simp only [Act.put, List.setIfInBounds_toArray, List.set_cons_zero, List.set_cons_succ, i64_w, i32_w]
          rfl
        refine pure_ (i := 14) (N := some 17) (v := ?_) (a' := ?_) #[true, true, true, true, true, true, true, true, true, true, true, true, true, true, true, false, false, false, false, false, false, false, false, false, false, false] rfl rfl (by kernel_rfl) (fun _ _ _ h => h) (Or.inl ⟨by rfl, ?_⟩) ?_ ?_
        rotate_left
        · intro w'
          go_simp
          with_reducible rfl
        rotate_left
        · simp only [Act.put, List.setIfInBounds_toArray, List.set_cons_zero, List.set_cons_succ, i64_w, i32_w]
          rfl
        refine pure_ (i := 15) (N := some 18) (v := undef) (a' := ?_) #[true, true, true, true, true, true, true, true, true, true, true, true, true, true, true, true, false, false, false, false, false, false, false, false, false, false] rfl rfl (by kernel_rfl) (fun _ _ _ h => h) (Or.inr ⟨by rfl, rfl⟩) ?_ ?_
        rotate_left
        · simp only [Act.put, List.setIfInBounds_toArray, List.set_cons_zero, List.set_cons_succ, i64_w, i32_w]
          rfl
        refine pure_ (i := 16) (N := some 19) (v := undef) (a' := ?_) #[true, true, true, true, true, true, true, true, true, true, true, true, true, true, true, true, true, false, false, false, false, false, false, false, false, false] rfl rfl (by kernel_rfl) (fun _ _ _ h => h) (Or.inr ⟨by rfl, rfl⟩) ?_ ?_
        rotate_left
        · simp only [Act.put, List.setIfInBounds_toArray, List.set_cons_zero, List.set_cons_succ, i64_w, i32_w]
          rfl
        refine pure_ (i := 17) (N := some 20) (v := undef) (a' := ?_) #[true, true, true, true, true, true, true, true, true, true, true, true, true, true, true, true, true, true, false, false, false, false, false, false, false, false] rfl rfl (by kernel_rfl) (fun _ _ _ h => h) (Or.inr ⟨by rfl, rfl⟩) ?_ ?_
        rotate_left
        · simp only [Act.put, List.setIfInBounds_toArray, List.set_cons_zero, List.set_cons_succ, i64_w, i32_w]
          rfl
        refine pure_ (i := 18) (N := some 21) (v := undef) (a' := ?_) #[true, true, true, true, true, true, true, true, true, true, true, true, true, true, true, true, true, true, true, false, false, false, false, false, false, false] rfl rfl (by kernel_rfl) (fun _ _ _ h => h) (Or.inr ⟨by rfl, rfl⟩) ?_ ?_
        rotate_left
        · simp only [Act.put, List.setIfInBounds_toArray, List.set_cons_zero, List.set_cons_succ, i64_w, i32_w]
          rfl
        refine pure_ (i := 19) (N := some 22) (v := undef) (a' := ?_) #[true, true, true, true, true, true, true, true, true, true, true, true, true, true, true, true, true, true, true, true, false, false, false, false, false, false] rfl rfl (by kernel_rfl) (fun _ _ _ h => h) (Or.inr ⟨by rfl, rfl⟩) ?_ ?_
        rotate_left
        · simp only [Act.put, List.setIfInBounds_toArray, List.set_cons_zero, List.set_cons_succ, i64_w, i32_w]
          rfl
        refine pure_ (i := 20) (N := some 23) (v := undef) (a' := ?_) #[true, true, true, true, true, true, true, true, true, true, true, true, true, true, true, true, true, true, true, true, true, false, false, false, false, false] rfl rfl (by kernel_rfl) (fun _ _ _ h => h) (Or.inr ⟨by rfl, rfl⟩) ?_ ?_
        rotate_left
        · simp only [Act.put, List.setIfInBounds_toArray, List.set_cons_zero, List.set_cons_succ, i64_w, i32_w]
          rfl
        refine pure_ (i := 21) (N := some 24) (v := undef) (a' := ?_) #[true, true, true, true, true, true, true, true, true, true, true, true, true, true, true, true, true, true, true, true, true, true, false, false, false, false] rfl rfl (by kernel_rfl) (fun _ _ _ h => h) (Or.inr ⟨by rfl, rfl⟩) ?_ ?_
        rotate_left
        · simp only [Act.put, List.setIfInBounds_toArray, List.set_cons_zero, List.set_cons_succ, i64_w, i32_w]
          rfl
        refine pure_ (i := 22) (N := some 25) (v := undef) (a' := ?_) #[true, true, true, true, true, true, true, true, true, true, true, true, true, true, true, true, true, true, true, true, true, true, true, false, false, false] rfl rfl (by kernel_rfl) (fun _ _ _ h => h) (Or.inr ⟨by rfl, rfl⟩) ?_ ?_
        rotate_left
        · simp only [Act.put, List.setIfInBounds_toArray, List.set_cons_zero, List.set_cons_succ, i64_w, i32_w]
          rfl
        refine pure_ (i := 23) (N := some 26) (v := undef) (a' := ?_) #[true, true, true, true, true, true, true, true, true, true, true, true, true, true, true, true, true, true, true, true, true, true, true, true, false, false] rfl rfl (by kernel_rfl) (fun _ _ _ h => h) (Or.inr ⟨by rfl, rfl⟩) ?_ ?_
        rotate_left
        · simp only [Act.put, List.setIfInBounds_toArray, List.set_cons_zero, List.set_cons_succ, i64_w, i32_w]
          rfl
        refine pure_ (i := 24) (N := some 27) (v := ?_) (a' := ?_) #[true, true, true, true, true, true, true, true, true, true, true, true, true, true, true, true, true, true, true, true, true, true, true, true, true, false] rfl rfl (by kernel_rfl) (fun _ _ _ h => h) (Or.inl ⟨by rfl, ?_⟩) ?_ ?_
        rotate_left
        · intro w'
          go_simp
          with_reducible rfl
        rotate_left
        · simp only [Act.put, List.setIfInBounds_toArray, List.set_cons_zero, List.set_cons_succ, i64_w, i32_w]
          rfl
        refine pure_ (i := 25) (N := some 2) (v := ?_) (a' := ?_) #[true, true, true, true, true, true, true, true, true, true, true, true, true, true, true, true, true, true, true, true, true, true, true, true, true, true] rfl rfl (by kernel_rfl) (fun _ _ _ h => h) (Or.inl ⟨by rfl, ?_⟩) ?_ ?_
        rotate_left
        · intro w'
          go_simp
          with_reducible rfl
        rotate_left
        · simp only [Act.put, List.setIfInBounds_toArray, List.set_cons_zero, List.set_cons_succ, i64_w, i32_w]
          rfl
        refine done_ (by kernel_rfl) ?_
        go_wp2
        go_ret
        exact ⟨rfl, by first | exact HB.out | exact below_drew1 HB.out | exact pw_below_drewN HB.out _ | exact pw_below_drewN (below_drew1 HB.out) _⟩

      · skip
        refine start_ (n := 26) (S := fun w' => w'.cell? ⟨w.heap.size, 0, none⟩ = some (.bool true) ∧ w'.cell? ⟨w.heap.size, 1, none⟩ = some (.slice A l.length c)) (ds := []) #[false, false, false, false, false, false, false, false, false, false, false, false, false, false, false, false, false, false, false, false, false, false, false, false, false, false] (by kernel_rfl) rfl rfl ⟨ha0, ha1⟩ (fun hHeld => ?_)
        refine pure_ (i := 0) (N := some 3) (v := ?_) (a' := ?_) #[true, false, false, false, false, false, false, false, false, false, false, false, false, false, false, false, false, false, false, false, false, false, false, false, false, false] rfl rfl (by kernel_rfl) (fun _ _ _ h => h) (Or.inl ⟨by rfl, ?_⟩) ?_ ?_
        rotate_left
        · intro w'
          go_simp
          with_reducible rfl
        rotate_left
        · simp only [Act.put, List.setIfInBounds_toArray, List.set_cons_zero, List.set_cons_succ, i64_w, i32_w]
          rfl
        refine take_ (i := 1) (N := some 4) (v := ?_) (a' := ?_) #[true, true, false, false, false, false, false, false, false, false, false, false, false, false, false, false, false, false, false, false, false, false, false, false, false, false] rfl rfl (by kernel_rfl) (fun _ _ _ h => h) (Or.inl ⟨by rfl, ?_⟩) hHeld ?_ ?_
        rotate_left
        · rintro w' ⟨s0, s1⟩
          go_simp
          with_reducible rfl
        rotate_left
        · simp only [Act.put, List.setIfInBounds_toArray, List.set_cons_zero, List.set_cons_succ, i64_w, i32_w]
          rfl
        refine pure_ (i := 2) (N := some 5) (v := ?_) (a' := ?_) #[true, true, true, false, false, false, false, false, false, false, false, false, false, false, false, false, false, false, false, false, false, false, false, false, false, false] rfl rfl (by kernel_rfl) (fun _ _ _ h => h) (Or.inl ⟨by rfl, ?_⟩) ?_ ?_
        rotate_left
        · intro w'
          go_simp
          with_reducible rfl
        rotate_left
        · simp only [Act.put, List.setIfInBounds_toArray, List.set_cons_zero, List.set_cons_succ, i64_w, i32_w]
          rfl
        refine pure_ (i := 3) (N := some 6) (v := ?_) (a' := ?_) #[true, true, true, true, false, false, false, false, false, false, false, false, false, false, false, false, false, false, false, false, false, false, false, false, false, false] rfl rfl (by kernel_rfl) (fun _ _ _ h => h) (Or.inl ⟨by rfl, ?_⟩) ?_ ?_
        rotate_left
        · intro w'
          go_simp
          with_reducible rfl
        rotate_left
        · simp only [Act.put, List.setIfInBounds_toArray, List.set_cons_zero, List.set_cons_succ, i64_w, i32_w]
          rfl
        refine pure_ (i := 4) (N := some 7) (v := ?_) (a' := ?_) #[true, true, true, true, true, false, false, false, false, false, false, false, false, false, false, false, false, false, false, false, false, false, false, false, false, false] rfl rfl (by kernel_rfl) (fun _ _ _ h => h) (Or.inl ⟨by rfl, ?_⟩) ?_ ?_
        rotate_left
        · intro w'
          go_simp
          with_reducible rfl
        rotate_left
        · simp only [Act.put, List.setIfInBounds_toArray, List.set_cons_zero, List.set_cons_succ, i64_w, i32_w]
          rfl
        refine pure_ (i := 5) (N := some 8) (v := ?_) (a' := ?_) #[true, true, true, true, true, true, false, false, false, false, false, false, false, false, false, false, false, false, false, false, false, false, false, false, false, false] rfl rfl (by kernel_rfl) (fun _ _ _ h => h) (Or.inl ⟨by rfl, ?_⟩) ?_ ?_
        rotate_left
        · intro w'
          go_simp
          with_reducible rfl
        rotate_left
        · simp only [Act.put, List.setIfInBounds_toArray, List.set_cons_zero, List.set_cons_succ, i64_w, i32_w]
          rfl
        refine pure_ (i := 9) (N := some 12) (v := ?_) (a' := ?_) #[true, true, true, true, true, true, false, false, false, true, false, false, false, false, false, false, false, false, false, false, false, false, false, false, false, false] rfl rfl (by kernel_rfl) (fun _ _ _ h => h) (Or.inl ⟨by rfl, ?_⟩) ?_ ?_
        rotate_left
        · intro w'
          go_simp
          with_reducible rfl
        rotate_left
        · simp only [Act.put, List.setIfInBounds_toArray, List.set_cons_zero, List.set_cons_succ, i64_w, i32_w]
          rfl
        refine take_ (i := 6) (N := some 9) (v := ?_) (a' := ?_) #[true, true, true, true, true, true, true, false, false, true, false, false, false, false, false, false, false, false, false, false, false, false, false, false, false, false] rfl rfl (by kernel_rfl) (fun _ _ _ h => h) (Or.inl ⟨by rfl, ?_⟩) hHeld ?_ ?_
        rotate_left
        · rintro w' ⟨s0, s1⟩
          go_simp
          with_reducible rfl
        rotate_left
        · simp only [Act.put, List.setIfInBounds_toArray, List.set_cons_zero, List.set_cons_succ, i64_w, i32_w]
          rfl
        refine take_ (i := 10) (N := some 13) (v := ?_) (a' := ?_) #[true, true, true, true, true, true, true, false, false, true, true, false, false, false, false, false, false, false, false, false, false, false, false, false, false, false] rfl rfl (by kernel_rfl) (fun _ _ _ h => h) (Or.inl ⟨by rfl, ?_⟩) hHeld ?_ ?_
        rotate_left
        · rintro w' ⟨s0, s1⟩
          go_simp
          with_reducible rfl
        rotate_left
        · simp only [Act.put, List.setIfInBounds_toArray, List.set_cons_zero, List.set_cons_succ, i64_w, i32_w]
          rfl
        refine pure_ (i := 11) (N := some 14) (v := ?_) (a' := ?_) #[true, true, true, true, true, true, true, false, false, true, true, true, false, false, false, false, false, false, false, false, false, false, false, false, false, false] rfl rfl (by kernel_rfl) (fun _ _ _ h => h) (Or.inl ⟨by rfl, ?_⟩) ?_ ?_
        rotate_left
        · intro w'
          go_simp
          with_reducible rfl
        rotate_left
        · simp only [Act.put, List.setIfInBounds_toArray, List.set_cons_zero, List.set_cons_succ, i64_w, i32_w]
          rfl
        refine one_ (i := 7) (N := some 10) #[true, true, true, true, true, true, true, true, false, true, true, true, false, false, false, false, false, false, false, false, false, false, false, false, false, false] rfl rfl (by kernel_rfl) (by decide) (fun K hK => ?_)
        refine goes_ Tryd.func54 (by kernel_rfl) rfl #[.slice A l.length c] (by rfl) rfl rfl (by simp only [List.map_toArray, List.map_cons, List.map_nil]; rfl) ?_
        with_reducible refine (trim_calls A c l _ (HL.out.below (by first | exact HB.out | exact below_drew1 HB.out | exact pw_below_drewN HB.out _)).lim HL.out.room).mono ?_
        rintro e w' ⟨rfl, ⟨nd, rfl⟩⟩
        refine ⟨_, rfl, ?_⟩
        refine hK.out _ _ ⟨ha0, ha1⟩ (fun hHeld => ?_)
        clear hK K
        refine norm_ (a' := ?_) ?_ ?_
        rotate_left
        · show Act.put _ (some 10) _ = _
          simp only [Act.put, List.setIfInBounds_toArray, List.set_cons_zero, List.set_cons_succ, i64_w, i32_w]
          rfl
        refine pure_ (i := 8) (N := some 11) (v := ?_) (a' := ?_) #[true, true, true, true, true, true, true, true, true, true, true, true, false, false, false, false, false, false, false, false, false, false, false, false, false, false] rfl rfl (by kernel_rfl) (fun _ _ _ h => h) (Or.inl ⟨by rfl, ?_⟩) ?_ ?_
        rotate_left
        · intro w'
          go_simp
          with_reducible rfl
        rotate_left
        · simp only [Act.put, List.setIfInBounds_toArray, List.set_cons_zero, List.set_cons_succ, i64_w, i32_w]
          rfl
        refine pure_ (i := 12) (N := some 15) (v := ?_) (a' := ?_) #[true, true, true, true, true, true, true, true, true, true, true, true, true, false, false, false, false, false, false, false, false, false, false, false, false, false] rfl rfl (by kernel_rfl) (fun _ _ _ h => h) (Or.inl ⟨by rfl, ?_⟩) ?_ ?_
        rotate_left
        · intro w'
          go_simp
          with_reducible rfl
        rotate_left
        · simp only [Act.put, List.setIfInBounds_toArray, List.set_cons_zero, List.set_cons_succ, i64_w, i32_w]
          rfl
        refine pure_ (i := 13) (N := some 16) (v := ?_) (a' := ?_) #[true, true, true, true, true, true, true, true, true, true, true, true, true, true, false, false, false, false, false, false, false, false, false, false, false, false] rfl rfl (by kernel_rfl) (fun _ _ _ h => h) (Or.inl ⟨by rfl, ?_⟩) ?_ ?_
        rotate_left
        · intro w'
          go_simp
          with_reducible rfl
        rotate_left
        · simp only [Act.put, List.setIfInBounds_toArray, List.set_cons_zero, List.set_cons_succ, i64_w, i32_w]
          rfl
        refine pure_ (i := 14) (N := some 17) (v := ?_) (a' := ?_) #[true, true, true, true, true, true, true, true, true, true, true, true, true, true, true, false, false, false, false, false, false, false, false, false, false, false] rfl rfl (by kernel_rfl) (fun _ _ _ h => h) (Or.inl ⟨by rfl, ?_⟩) ?_ ?_
        rotate_left
        · intro w'
          go_simp
          with_reducible rfl
        rotate_left
        · simp only [Act.put, List.setIfInBounds_toArray, List.set_cons_zero, List.set_cons_succ, i64_w, i32_w]
          rfl
        refine pure_ (i := 15) (N := some 18) (v := undef) (a' := ?_) #[true, true, true, true, true, true, true, true, true, true, true, true, true, true, true, true, false, false, false, false, false, false, false, false, false, false] rfl rfl (by kernel_rfl) (fun _ _ _ h => h) (Or.inr ⟨by rfl, rfl⟩) ?_ ?_
        rotate_left
        · simp only [Act.put, List.setIfInBounds_toArray, List.set_cons_zero, List.set_cons_succ, i64_w, i32_w]
          rfl
        refine pure_ (i := 16) (N := some 19) (v := undef) (a' := ?_) #[true, true, true, true, true, true, true, true, true, true, true, true, true, true, true, true, true, false, false, false, false, false, false, false, false, false] rfl rfl (by kernel_rfl) (fun _ _ _ h => h) (Or.inr ⟨by rfl, rfl⟩) ?_ ?_
        rotate_left
        · simp only [Act.put, List.setIfInBounds_toArray, List.set_cons_zero, List.set_cons_succ, i64_w, i32_w]
          rfl
        refine pure_ (i := 17) (N := some 20) (v := undef) (a' := ?_) #[true, true, true, true, true, true, true, true, true, true, true, true, true, true, true, true, true, true, false, false, false, false, false, false, false, false] rfl rfl (by kernel_rfl) (fun _ _ _ h => h) (Or.inr ⟨by rfl, rfl⟩) ?_ ?_
        rotate_left
        · simp only [Act.put, List.setIfInBounds_toArray, List.set_cons_zero, List.set_cons_succ, i64_w, i32_w]
          rfl
        refine pure_ (i := 18) (N := some 21) (v := undef) (a' := ?_) #[true, true, true, true, true, true, true, true, true, true, true, true, true, true, true, true, true, true, true, false, false, false, false, false, false, false] rfl rfl (by kernel_rfl) (fun _ _ _ h => h) (Or.inr ⟨by rfl, rfl⟩) ?_ ?_
        rotate_left
        · simp only [Act.put, List.setIfInBounds_toArray, List.set_cons_zero, List.set_cons_succ, i64_w, i32_w]
          rfl
        refine pure_ (i := 19) (N := some 22) (v := undef) (a' := ?_) #[true, true, true, true, true, true, true, true, true, true, true, true, true, true, true, true, true, true, true, true, false, false, false, false, false, false] rfl rfl (by kernel_rfl) (fun _ _ _ h => h) (Or.inr ⟨by rfl, rfl⟩) ?_ ?_
        rotate_left
        · simp only [Act.put, List.setIfInBounds_toArray, List.set_cons_zero, List.set_cons_succ, i64_w, i32_w]
          rfl
        refine pure_ (i := 20) (N := some 23) (v := undef) (a' := ?_) #[true, true, true, true, true, true, true, true, true, true, true, true, true, true, true, true, true, true, true, true, true, false, false, false, false, false] rfl rfl (by kernel_rfl) (fun _ _ _ h => h) (Or.inr ⟨by rfl, rfl⟩) ?_ ?_
        rotate_left
        · simp only [Act.put, List.setIfInBounds_toArray, List.set_cons_zero, List.set_cons_succ, i64_w, i32_w]
          rfl
        refine pure_ (i := 21) (N := some 24) (v := undef) (a' := ?_) #[true, true, true, true, true, true, true, true, true, true, true, true, true, true, true, true, true, true, true, true, true, true, false, false, false, false] rfl rfl (by kernel_rfl) (fun _ _ _ h => h) (Or.inr ⟨by rfl, rfl⟩) ?_ ?_
        rotate_left
        · simp only [Act.put, List.setIfInBounds_toArray, List.set_cons_zero, List.set_cons_succ, i64_w, i32_w]
          rfl
        refine pure_ (i := 22) (N := some 25) (v := undef) (a' := ?_) #[true, true, true, true, true, true, true, true, true, true, true, true, true, true, true, true, true, true, true, true, true, true, true, false, false, false] rfl rfl (by kernel_rfl) (fun _ _ _ h => h) (Or.inr ⟨by rfl, rfl⟩) ?_ ?_
        rotate_left
        · simp only [Act.put, List.setIfInBounds_toArray, List.set_cons_zero, List.set_cons_succ, i64_w, i32_w]
          rfl
        refine pure_ (i := 23) (N := some 26) (v := undef) (a' := ?_) #[true, true, true, true, true, true, true, true, true, true, true, true, true, true, true, true, true, true, true, true, true, true, true, true, false, false] rfl rfl (by kernel_rfl) (fun _ _ _ h => h) (Or.inr ⟨by rfl, rfl⟩) ?_ ?_
        rotate_left
        · simp only [Act.put, List.setIfInBounds_toArray, List.set_cons_zero, List.set_cons_succ, i64_w, i32_w]
          rfl
        refine pure_ (i := 24) (N := some 27) (v := ?_) (a' := ?_) #[true, true, true, true, true, true, true, true, true, true, true, true, true, true, true, true, true, true, true, true, true, true, true, true, true, false] rfl rfl (by kernel_rfl) (fun _ _ _ h => h) (Or.inl ⟨by rfl, ?_⟩) ?_ ?_
        rotate_left
        · intro w'
          go_simp
          with_reducible rfl
        rotate_left
        · simp only [Act.put, List.setIfInBounds_toArray, List.set_cons_zero, List.set_cons_succ, i64_w, i32_w]
          rfl
        refine pure_ (i := 25) (N := some 2) (v := ?_) (a' := ?_) #[true, true, true, true, true, true, true, true, true, true, true, true, true, true, true, true, true, true, true, true, true, true, true, true, true, true] rfl rfl (by kernel_rfl) (fun _ _ _ h => h) (Or.inl ⟨by rfl, ?_⟩) ?_ ?_
        rotate_left
        · intro w'
          go_simp
          with_reducible rfl
        rotate_left
        · simp only [Act.put, List.setIfInBounds_toArray, List.set_cons_zero, List.set_cons_succ, i64_w, i32_w]
          rfl
        refine done_ (by kernel_rfl) ?_
        go_wp2
        go_ret
        exact ⟨rfl, by first | exact HB.out | exact below_drew1 HB.out | exact pw_below_drewN HB.out _ | exact pw_below_drewN (below_drew1 HB.out) _⟩

  · have t1 : decide (l.length ≤ 48) = false := decide_eq_false h1
    have t2 : decide ((l.length : Int) ≤ 48) = false := decide_eq_false (by omega)
    have hr : r = false := by rw [← HR.out]; unfold mayB; simp [h1]
    clear h1
    subst hr
    cases neg
    · skip
      refine start_ (n := 26) (S := fun w' => w'.cell? ⟨w.heap.size, 0, none⟩ = some (.bool false) ∧ w'.cell? ⟨w.heap.size, 1, none⟩ = some (.slice A l.length c)) (ds := []) #[false, false, false, false, false, false, false, false, false, false, false, false, false, false, false, false, false, false, false, false, false, false, false, false, false, false] (by kernel_rfl) rfl rfl ⟨ha0, ha1⟩ (fun hHeld => ?_)
      refine pure_ (i := 0) (N := some 3) (v := ?_) (a' := ?_) #[true, false, false, false, false, false, false, false, false, false, false, false, false, false, false, false, false, false, false, false, false, false, false, false, false, false] rfl rfl (by kernel_rfl) (fun _ _ _ h => h) (Or.inl ⟨by rfl, ?_⟩) ?_ ?_
      rotate_left
      · intro w'
        go_simp
        with_reducible rfl
      rotate_left
      · simp only [Act.put, List.setIfInBounds_toArray, List.set_cons_zero, List.set_cons_succ, i64_w, i32_w]
        rfl
      refine take_ (i := 1) (N := some 4) (v := ?_) (a' := ?_) #[true, true, false, false, false, false, false, false, false, false, false, false, false, false, false, false, false, false, false, false, false, false, false, false, false, false] rfl rfl (by kernel_rfl) (fun _ _ _ h => h) (Or.inl ⟨by rfl, ?_⟩) hHeld ?_ ?_
      rotate_left
      · rintro w' ⟨s0, s1⟩
        go_simp
        with_reducible rfl
      rotate_left
      · simp only [Act.put, List.setIfInBounds_toArray, List.set_cons_zero, List.set_cons_succ, i64_w, i32_w]
        rfl
      refine pure_ (i := 2) (N := some 5) (v := ?_) (a' := ?_) #[true, true, true, false, false, false, false, false, false, false, false, false, false, false, false, false, false, false, false, false, false, false, false, false, false, false] rfl rfl (by kernel_rfl) (fun _ _ _ h => h) (Or.inl ⟨by rfl, ?_⟩) ?_ ?_
      rotate_left
      · intro w'
        go_simp
        with_reducible rfl
      rotate_left
      · simp only [Act.put, List.setIfInBounds_toArray, List.set_cons_zero, List.set_cons_succ, i64_w, i32_w]
        rfl
      refine pure_ (i := 3) (N := some 6) (v := ?_) (a' := ?_) #[true, true, true, true, false, false, false, false, false, false, false, false, false, false, false, false, false, false, false, false, false, false, false, false, false, false] rfl rfl (by kernel_rfl) (fun _ _ _ h => h) (Or.inl ⟨by rfl, ?_⟩) ?_ ?_
      rotate_left
      · intro w'
        go_simp
        with_reducible rfl
      rotate_left
      · simp only [Act.put, List.setIfInBounds_toArray, List.set_cons_zero, List.set_cons_succ, i64_w, i32_w]
        rfl
      refine pure_ (i := 4) (N := some 7) (v := ?_) (a' := ?_) #[true, true, true, true, true, false, false, false, false, false, false, false, false, false, false, false, false, false, false, false, false, false, false, false, false, false] rfl rfl (by kernel_rfl) (fun _ _ _ h => h) (Or.inl ⟨by rfl, ?_⟩) ?_ ?_
      rotate_left
      · intro w'
        go_simp
        with_reducible rfl
      rotate_left
      · simp only [Act.put, List.setIfInBounds_toArray, List.set_cons_zero, List.set_cons_succ, i64_w, i32_w]
        rfl
      refine pure_ (i := 5) (N := some 8) (v := undef) (a' := ?_) #[true, true, true, true, true, true, false, false, false, false, false, false, false, false, false, false, false, false, false, false, false, false, false, false, false, false] rfl rfl (by kernel_rfl) (fun _ _ _ h => h) (Or.inr ⟨by rfl, rfl⟩) ?_ ?_
      rotate_left
      · simp only [Act.put, List.setIfInBounds_toArray, List.set_cons_zero, List.set_cons_succ, i64_w, i32_w]
        rfl
      refine pure_ (i := 6) (N := some 9) (v := undef) (a' := ?_) #[true, true, true, true, true, true, true, false, false, false, false, false, false, false, false, false, false, false, false, false, false, false, false, false, false, false] rfl rfl (by kernel_rfl) (fun _ _ _ h => h) (Or.inr ⟨by rfl, rfl⟩) ?_ ?_
      rotate_left
      · simp only [Act.put, List.setIfInBounds_toArray, List.set_cons_zero, List.set_cons_succ, i64_w, i32_w]
        rfl
      refine pure_ (i := 7) (N := some 10) (v := undef) (a' := ?_) #[true, true, true, true, true, true, true, true, false, false, false, false, false, false, false, false, false, false, false, false, false, false, false, false, false, false] rfl rfl (by kernel_rfl) (fun _ _ _ h => h) (Or.inr ⟨by rfl, rfl⟩) ?_ ?_
      rotate_left
      · simp only [Act.put, List.setIfInBounds_toArray, List.set_cons_zero, List.set_cons_succ, i64_w, i32_w]
        rfl
      refine pure_ (i := 8) (N := some 11) (v := undef) (a' := ?_) #[true, true, true, true, true, true, true, true, true, false, false, false, false, false, false, false, false, false, false, false, false, false, false, false, false, false] rfl rfl (by kernel_rfl) (fun _ _ _ h => h) (Or.inr ⟨by rfl, rfl⟩) ?_ ?_
      rotate_left
      · simp only [Act.put, List.setIfInBounds_toArray, List.set_cons_zero, List.set_cons_succ, i64_w, i32_w]
        rfl
      refine pure_ (i := 9) (N := some 12) (v := undef) (a' := ?_) #[true, true, true, true, true, true, true, true, true, true, false, false, false, false, false, false, false, false, false, false, false, false, false, false, false, false] rfl rfl (by kernel_rfl) (fun _ _ _ h => h) (Or.inr ⟨by rfl, rfl⟩) ?_ ?_
      rotate_left
      · simp only [Act.put, List.setIfInBounds_toArray, List.set_cons_zero, List.set_cons_succ, i64_w, i32_w]
        rfl
      refine pure_ (i := 10) (N := some 13) (v := undef) (a' := ?_) #[true, true, true, true, true, true, true, true, true, true, true, false, false, false, false, false, false, false, false, false, false, false, false, false, false, false] rfl rfl (by kernel_rfl) (fun _ _ _ h => h) (Or.inr ⟨by rfl, rfl⟩) ?_ ?_
      rotate_left
      · simp only [Act.put, List.setIfInBounds_toArray, List.set_cons_zero, List.set_cons_succ, i64_w, i32_w]
        rfl
      refine pure_ (i := 11) (N := some 14) (v := undef) (a' := ?_) #[true, true, true, true, true, true, true, true, true, true, true, true, false, false, false, false, false, false, false, false, false, false, false, false, false, false] rfl rfl (by kernel_rfl) (fun _ _ _ h => h) (Or.inr ⟨by rfl, rfl⟩) ?_ ?_
      rotate_left
      · simp only [Act.put, List.setIfInBounds_toArray, List.set_cons_zero, List.set_cons_succ, i64_w, i32_w]
        rfl
      refine pure_ (i := 12) (N := some 15) (v := undef) (a' := ?_) #[true, true, true, true, true, true, true, true, true, true, true, true, true, false, false, false, false, false, false, false, false, false, false, false, false, false] rfl rfl (by kernel_rfl) (fun _ _ _ h => h) (Or.inr ⟨by rfl, rfl⟩) ?_ ?_
      rotate_left
      · simp only [Act.put, List.setIfInBounds_toArray, List.set_cons_zero, List.set_cons_succ, i64_w, i32_w]
        rfl
      refine pure_ (i := 13) (N := some 16) (v := ?_) (a' := ?_) #[true, true, true, true, true, true, true, true, true, true, true, true, true, true, false, false, false, false, false, false, false, false, false, false, false, false] rfl rfl (by kernel_rfl) (fun _ _ _ h => h) (Or.inl ⟨by rfl, ?_⟩) ?_ ?_
      rotate_left
      · intro w'
        go_simp
        with_reducible rfl
      rotate_left
      · simp only [Act.put, List.setIfInBounds_toArray, List.set_cons_zero, List.set_cons_succ, i64_w, i32_w]
        rfl
      refine pure_ (i := 14) (N := some 17) (v := ?_) (a' := ?_) #[true, true, true, true, true, true, true, true, true, true, true, true, true, true, true, false, false, false, false, false, false, false, false, false, false, false] rfl rfl (by kernel_rfl) (fun _ _ _ h => h) (Or.inl ⟨by rfl, ?_⟩) ?_ ?_
      rotate_left
      · intro w'
        go_simp
        with_reducible rfl
      rotate_left
      · simp only [Act.put, List.setIfInBounds_toArray, List.set_cons_zero, List.set_cons_succ, i64_w, i32_w]
        rfl
      refine pure_ (i := 15) (N := some 18) (v := undef) (a' := ?_) #[true, true, true, true, true, true, true, true, true, true, true, true, true, true, true, true, false, false, false, false, false, false, false, false, false, false] rfl rfl (by kernel_rfl) (fun _ _ _ h => h) (Or.inr ⟨by rfl, rfl⟩) ?_ ?_
      rotate_left
      · simp only [Act.put, List.setIfInBounds_toArray, List.set_cons_zero, List.set_cons_succ, i64_w, i32_w]
        rfl
      refine pure_ (i := 16) (N := some 19) (v := undef) (a' := ?_) #[true, true, true, true, true, true, true, true, true, true, true, true, true, true, true, true, true, false, false, false, false, false, false, false, false, false] rfl rfl (by kernel_rfl) (fun _ _ _ h => h) (Or.inr ⟨by rfl, rfl⟩) ?_ ?_
      rotate_left
      · simp only [Act.put, List.setIfInBounds_toArray, List.set_cons_zero, List.set_cons_succ, i64_w, i32_w]
        rfl
      refine pure_ (i := 17) (N := some 20) (v := undef) (a' := ?_) #[true, true, true, true, true, true, true, true, true, true, true, true, true, true, true, true, true, true, false, false, false, false, false, false, false, false] rfl rfl (by kernel_rfl) (fun _ _ _ h => h) (Or.inr ⟨by rfl, rfl⟩) ?_ ?_
      rotate_left
      · simp only [Act.put, List.setIfInBounds_toArray, List.set_cons_zero, List.set_cons_succ, i64_w, i32_w]
        rfl
      refine pure_ (i := 18) (N := some 21) (v := undef) (a' := ?_) #[true, true, true, true, true, true, true, true, true, true, true, true, true, true, true, true, true, true, true, false, false, false, false, false, false, false] rfl rfl (by kernel_rfl) (fun _ _ _ h => h) (Or.inr ⟨by rfl, rfl⟩) ?_ ?_
      rotate_left
      · simp only [Act.put, List.setIfInBounds_toArray, List.set_cons_zero, List.set_cons_succ, i64_w, i32_w]
        rfl
      refine pure_ (i := 19) (N := some 22) (v := undef) (a' := ?_) #[true, true, true, true, true, true, true, true, true, true, true, true, true, true, true, true, true, true, true, true, false, false, false, false, false, false] rfl rfl (by kernel_rfl) (fun _ _ _ h => h) (Or.inr ⟨by rfl, rfl⟩) ?_ ?_
      rotate_left
      · simp only [Act.put, List.setIfInBounds_toArray, List.set_cons_zero, List.set_cons_succ, i64_w, i32_w]
        rfl
      refine pure_ (i := 20) (N := some 23) (v := undef) (a' := ?_) #[true, true, true, true, true, true, true, true, true, true, true, true, true, true, true, true, true, true, true, true, true, false, false, false, false, false] rfl rfl (by kernel_rfl) (fun _ _ _ h => h) (Or.inr ⟨by rfl, rfl⟩) ?_ ?_
      rotate_left
      · simp only [Act.put, List.setIfInBounds_toArray, List.set_cons_zero, List.set_cons_succ, i64_w, i32_w]
        rfl
      refine pure_ (i := 21) (N := some 24) (v := undef) (a' := ?_) #[true, true, true, true, true, true, true, true, true, true, true, true, true, true, true, true, true, true, true, true, true, true, false, false, false, false] rfl rfl (by kernel_rfl) (fun _ _ _ h => h) (Or.inr ⟨by rfl, rfl⟩) ?_ ?_
      rotate_left
      · simp only [Act.put, List.setIfInBounds_toArray, List.set_cons_zero, List.set_cons_succ, i64_w, i32_w]
        rfl
      refine pure_ (i := 22) (N := some 25) (v := undef) (a' := ?_) #[true, true, true, true, true, true, true, true, true, true, true, true, true, true, true, true, true, true, true, true, true, true, true, false, false, false] rfl rfl (by kernel_rfl) (fun _ _ _ h => h) (Or.inr ⟨by rfl, rfl⟩) ?_ ?_
      rotate_left
      · simp only [Act.put, List.setIfInBounds_toArray, List.set_cons_zero, List.set_cons_succ, i64_w, i32_w]
        rfl
      refine pure_ (i := 23) (N := some 26) (v := undef) (a' := ?_) #[true, true, true, true, true, true, true, true, true, true, true, true, true, true, true, true, true, true, true, true, true, true, true, true, false, false] rfl rfl (by kernel_rfl) (fun _ _ _ h => h) (Or.inr ⟨by rfl, rfl⟩) ?_ ?_
      rotate_left
      · simp only [Act.put, List.setIfInBounds_toArray, List.set_cons_zero, List.set_cons_succ, i64_w, i32_w]
        rfl
      refine pure_ (i := 24) (N := some 27) (v := ?_) (a' := ?_) #[true, true, true, true, true, true, true, true, true, true, true, true, true, true, true, true, true, true, true, true, true, true, true, true, true, false] rfl rfl (by kernel_rfl) (fun _ _ _ h => h) (Or.inl ⟨by rfl, ?_⟩) ?_ ?_
      rotate_left
      · intro w'
        go_simp
        with_reducible rfl
      rotate_left
      · simp only [Act.put, List.setIfInBounds_toArray, List.set_cons_zero, List.set_cons_succ, i64_w, i32_w]
        rfl
      refine pure_ (i := 25) (N := some 2) (v := ?_) (a' := ?_) #[true, true, true, true, true, true, true, true, true, true, true, true, true, true, true, true, true, true, true, true, true, true, true, true, true, true] rfl rfl (by kernel_rfl) (fun _ _ _ h => h) (Or.inl ⟨by rfl, ?_⟩) ?_ ?_
      rotate_left
      · intro w'
        go_simp
        with_reducible rfl
      rotate_left
      · simp only [Act.put, List.setIfInBounds_toArray, List.set_cons_zero, List.set_cons_succ, i64_w, i32_w]
        rfl
      refine done_ (by kernel_rfl) ?_
      go_wp2
      go_ret
      exact ⟨rfl, by first | exact HB.out | exact below_drew1 HB.out | exact pw_below_drewN HB.out _ | exact pw_below_drewN (below_drew1 HB.out) _⟩

    · skip
      refine start_ (n := 26) (S := fun w' => w'.cell? ⟨w.heap.size, 0, none⟩ = some (.bool true) ∧ w'.cell? ⟨w.heap.size, 1, none⟩ = some (.slice A l.length c)) (ds := []) #[false, false, false, false, false, false, false, false, false, false, false, false, false, false, false, false, false, false, false, false, false, false, false, false, false, false] (by kernel_rfl) rfl rfl ⟨ha0, ha1⟩ (fun hHeld => ?_)
      refine pure_ (i := 0) (N := some 3) (v := ?_) (a' := ?_) #[true, false, false, false, false, false, false, false, false, false, false, false, false, false, false, false, false, false, false, false, false, false, false, false, false, false] rfl rfl (by kernel_rfl) (fun _ _ _ h => h) (Or.inl ⟨by rfl, ?_⟩) ?_ ?_
      rotate_left
      · intro w'
        go_simp
        with_reducible rfl
      rotate_left
      · simp only [Act.put, List.setIfInBounds_toArray, List.set_cons_zero, List.set_cons_succ, i64_w, i32_w]
        rfl
      refine take_ (i := 1) (N := some 4) (v := ?_) (a' := ?_) #[true, true, false, false, false, false, false, false, false, false, false, false, false, false, false, false, false, false, false, false, false, false, false, false, false, false] rfl rfl (by kernel_rfl) (fun _ _ _ h => h) (Or.inl ⟨by rfl, ?_⟩) hHeld ?_ ?_
      rotate_left
      · rintro w' ⟨s0, s1⟩
        go_simp
        with_reducible rfl
      rotate_left
      · simp only [Act.put, List.setIfInBounds_toArray, List.set_cons_zero, List.set_cons_succ, i64_w, i32_w]
        rfl
      refine pure_ (i := 2) (N := some 5) (v := ?_) (a' := ?_) #[true, true, true, false, false, false, false, false, false, false, false, false, false, false, false, false, false, false, false, false, false, false, false, false, false, false] rfl rfl (by kernel_rfl) (fun _ _ _ h => h) (Or.inl ⟨by rfl, ?_⟩) ?_ ?_
      rotate_left
      · intro w'
        go_simp
        with_reducible rfl
      rotate_left
      · simp only [Act.put, List.setIfInBounds_toArray, List.set_cons_zero, List.set_cons_succ, i64_w, i32_w]
        rfl
      refine pure_ (i := 3) (N := some 6) (v := ?_) (a' := ?_) #[true, true, true, true, false, false, false, false, false, false, false, false, false, false, false, false, false, false, false, false, false, false, false, false, false, false] rfl rfl (by kernel_rfl) (fun _ _ _ h => h) (Or.inl ⟨by rfl, ?_⟩) ?_ ?_
      rotate_left
      · intro w'
        go_simp
        with_reducible rfl
      rotate_left
      · simp only [Act.put, List.setIfInBounds_toArray, List.set_cons_zero, List.set_cons_succ, i64_w, i32_w]
        rfl
      refine pure_ (i := 4) (N := some 7) (v := ?_) (a' := ?_) #[true, true, true, true, true, false, false, false, false, false, false, false, false, false, false, false, false, false, false, false, false, false, false, false, false, false] rfl rfl (by kernel_rfl) (fun _ _ _ h => h) (Or.inl ⟨by rfl, ?_⟩) ?_ ?_
      rotate_left
      · intro w'
        go_simp
        with_reducible rfl
      rotate_left
      · simp only [Act.put, List.setIfInBounds_toArray, List.set_cons_zero, List.set_cons_succ, i64_w, i32_w]
        rfl
      refine pure_ (i := 5) (N := some 8) (v := undef) (a' := ?_) #[true, true, true, true, true, true, false, false, false, false, false, false, false, false, false, false, false, false, false, false, false, false, false, false, false, false] rfl rfl (by kernel_rfl) (fun _ _ _ h => h) (Or.inr ⟨by rfl, rfl⟩) ?_ ?_
      rotate_left
      · simp only [Act.put, List.setIfInBounds_toArray, List.set_cons_zero, List.set_cons_succ, i64_w, i32_w]
        rfl
      refine pure_ (i := 6) (N := some 9) (v := undef) (a' := ?_) #[true, true, true, true, true, true, true, false, false, false, false, false, false, false, false, false, false, false, false, false, false, false, false, false, false, false] rfl rfl (by kernel_rfl) (fun _ _ _ h => h) (Or.inr ⟨by rfl, rfl⟩) ?_ ?_
      rotate_left
      · simp only [Act.put, List.setIfInBounds_toArray, List.set_cons_zero, List.set_cons_succ, i64_w, i32_w]
        rfl
      refine pure_ (i := 7) (N := some 10) (v := undef) (a' := ?_) #[true, true, true, true, true, true, true, true, false, false, false, false, false, false, false, false, false, false, false, false, false, false, false, false, false, false] rfl rfl (by kernel_rfl) (fun _ _ _ h => h) (Or.inr ⟨by rfl, rfl⟩) ?_ ?_
      rotate_left
      · simp only [Act.put, List.setIfInBounds_toArray, List.set_cons_zero, List.set_cons_succ, i64_w, i32_w]
        rfl
      refine pure_ (i := 8) (N := some 11) (v := undef) (a' := ?_) #[true, true, true, true, true, true, true, true, true, false, false, false, false, false, false, false, false, false, false, false, false, false, false, false, false, false] rfl rfl (by kernel_rfl) (fun _ _ _ h => h) (Or.inr ⟨by rfl, rfl⟩) ?_ ?_
      rotate_left
      · simp only [Act.put, List.setIfInBounds_toArray, List.set_cons_zero, List.set_cons_succ, i64_w, i32_w]
        rfl
      refine pure_ (i := 9) (N := some 12) (v := undef) (a' := ?_) #[true, true, true, true, true, true, true, true, true, true, false, false, false, false, false, false, false, false, false, false, false, false, false, false, false, false] rfl rfl (by kernel_rfl) (fun _ _ _ h => h) (Or.inr ⟨by rfl, rfl⟩) ?_ ?_
      rotate_left
      · simp only [Act.put, List.setIfInBounds_toArray, List.set_cons_zero, List.set_cons_succ, i64_w, i32_w]
        rfl
      refine pure_ (i := 10) (N := some 13) (v := undef) (a' := ?_) #[true, true, true, true, true, true, true, true, true, true, true, false, false, false, false, false, false, false, false, false, false, false, false, false, false, false] rfl rfl (by kernel_rfl) (fun _ _ _ h => h) (Or.inr ⟨by rfl, rfl⟩) ?_ ?_
      rotate_left
      · simp only [Act.put, List.setIfInBounds_toArray, List.set_cons_zero, List.set_cons_succ, i64_w, i32_w]
        rfl
      refine pure_ (i := 11) (N := some 14) (v := undef) (a' := ?_) #[true, true, true, true, true, true, true, true, true, true, true, true, false, false, false, false, false, false, false, false, false, false, false, false, false, false] rfl rfl (by kernel_rfl) (fun _ _ _ h => h) (Or.inr ⟨by rfl, rfl⟩) ?_ ?_
      rotate_left
      · simp only [Act.put, List.setIfInBounds_toArray, List.set_cons_zero, List.set_cons_succ, i64_w, i32_w]
        rfl
      refine pure_ (i := 12) (N := some 15) (v := undef) (a' := ?_) #[true, true, true, true, true, true, true, true, true, true, true, true, true, false, false, false, false, false, false, false, false, false, false, false, false, false] rfl rfl (by kernel_rfl) (fun _ _ _ h => h) (Or.inr ⟨by rfl, rfl⟩) ?_ ?_
      rotate_left
      · simp only [Act.put, List.setIfInBounds_toArray, List.set_cons_zero, List.set_cons_succ, i64_w, i32_w]
        rfl
      refine pure_ (i := 13) (N := some 16) (v := ?_) (a' := ?_) #[true, true, true, true, true, true, true, true, true, true, true, true, true, true, false, false, false, false, false, false, false, false, false, false, false, false] rfl rfl (by kernel_rfl) (fun _ _ _ h => h) (Or.inl ⟨by rfl, ?_⟩) ?_ ?_
      rotate_left
      · intro w'
        go_simp
        with_reducible rfl
      rotate_left
      · simp only [Act.put, List.setIfInBounds_toArray, List.set_cons_zero, List.set_cons_succ, i64_w, i32_w]
        rfl
      refine pure_ (i := 14) (N := some 17) (v := ?_) (a' := ?_) #[true, true, true, true, true, true, true, true, true, true, true, true, true, true, true, false, false, false, false, false, false, false, false, false, false, false] rfl rfl (by kernel_rfl) (fun _ _ _ h => h) (Or.inl ⟨by rfl, ?_⟩) ?_ ?_
      rotate_left
      · intro w'
        go_simp
        with_reducible rfl
      rotate_left
      · simp only [Act.put, List.setIfInBounds_toArray, List.set_cons_zero, List.set_cons_succ, i64_w, i32_w]
        rfl
      refine pure_ (i := 15) (N := some 18) (v := undef) (a' := ?_) #[true, true, true, true, true, true, true, true, true, true, true, true, true, true, true, true, false, false, false, false, false, false, false, false, false, false] rfl rfl (by kernel_rfl) (fun _ _ _ h => h) (Or.inr ⟨by rfl, rfl⟩) ?_ ?_
      rotate_left
      · simp only [Act.put, List.setIfInBounds_toArray, List.set_cons_zero, List.set_cons_succ, i64_w, i32_w]
        rfl
      refine pure_ (i := 16) (N := some 19) (v := undef) (a' := ?_) #[true, true, true, true, true, true, true, true, true, true, true, true, true, true, true, true, true, false, false, false, false, false, false, false, false, false] rfl rfl (by kernel_rfl) (fun _ _ _ h => h) (Or.inr ⟨by rfl, rfl⟩) ?_ ?_
      rotate_left
      · simp only [Act.put, List.setIfInBounds_toArray, List.set_cons_zero, List.set_cons_succ, i64_w, i32_w]
        rfl
      refine pure_ (i := 17) (N := some 20) (v := undef) (a' := ?_) #[true, true, true, true, true, true, true, true, true, true, true, true, true, true, true, true, true, true, false, false, false, false, false, false, false, false] rfl rfl (by kernel_rfl) (fun _ _ _ h => h) (Or.inr ⟨by rfl, rfl⟩) ?_ ?_
      rotate_left
      · simp only [Act.put, List.setIfInBounds_toArray, List.set_cons_zero, List.set_cons_succ, i64_w, i32_w]
        rfl
      refine pure_ (i := 18) (N := some 21) (v := undef) (a' := ?_) #[true, true, true, true, true, true, true, true, true, true, true, true, true, true, true, true, true, true, true, false, false, false, false, false, false, false] rfl rfl (by kernel_rfl) (fun _ _ _ h => h) (Or.inr ⟨by rfl, rfl⟩) ?_ ?_
      rotate_left
      · simp only [Act.put, List.setIfInBounds_toArray, List.set_cons_zero, List.set_cons_succ, i64_w, i32_w]
        rfl
      refine pure_ (i := 19) (N := some 22) (v := undef) (a' := ?_) #[true, true, true, true, true, true, true, true, true, true, true, true, true, true, true, true, true, true, true, true, false, false, false, false, false, false] rfl rfl (by kernel_rfl) (fun _ _ _ h => h) (Or.inr ⟨by rfl, rfl⟩) ?_ ?_
      rotate_left
      · simp only [Act.put, List.setIfInBounds_toArray, List.set_cons_zero, List.set_cons_succ, i64_w, i32_w]
        rfl
      refine pure_ (i := 20) (N := some 23) (v := undef) (a' := ?_) #[true, true, true, true, true, true, true, true, true, true, true, true, true, true, true, true, true, true, true, true, true, false, false, false, false, false] rfl rfl (by kernel_rfl) (fun _ _ _ h => h) (Or.inr ⟨by rfl, rfl⟩) ?_ ?_
      rotate_left
      · simp only [Act.put, List.setIfInBounds_toArray, List.set_cons_zero, List.set_cons_succ, i64_w, i32_w]
        rfl
      refine pure_ (i := 21) (N := some 24) (v := undef) (a' := ?_) #[true, true, true, true, true, true, true, true, true, true, true, true, true, true, true, true, true, true, true, true, true, true, false, false, false, false] rfl rfl (by kernel_rfl) (fun _ _ _ h => h) (Or.inr ⟨by rfl, rfl⟩) ?_ ?_
      rotate_left
      · simp only [Act.put, List.setIfInBounds_toArray, List.set_cons_zero, List.set_cons_succ, i64_w, i32_w]
        rfl
      refine pure_ (i := 22) (N := some 25) (v := undef) (a' := ?_) #[true, true, true, true, true, true, true, true, true, true, true, true, true, true, true, true, true, true, true, true, true, true, true, false, false, false] rfl rfl (by kernel_rfl) (fun _ _ _ h => h) (Or.inr ⟨by rfl, rfl⟩) ?_ ?_
      rotate_left
      · simp only [Act.put, List.setIfInBounds_toArray, List.set_cons_zero, List.set_cons_succ, i64_w, i32_w]
        rfl
      refine pure_ (i := 23) (N := some 26) (v := undef) (a' := ?_) #[true, true, true, true, true, true, true, true, true, true, true, true, true, true, true, true, true, true, true, true, true, true, true, true, false, false] rfl rfl (by kernel_rfl) (fun _ _ _ h => h) (Or.inr ⟨by rfl, rfl⟩) ?_ ?_
      rotate_left
      · simp only [Act.put, List.setIfInBounds_toArray, List.set_cons_zero, List.set_cons_succ, i64_w, i32_w]
        rfl
      refine pure_ (i := 24) (N := some 27) (v := ?_) (a' := ?_) #[true, true, true, true, true, true, true, true, true, true, true, true, true, true, true, true, true, true, true, true, true, true, true, true, true, false] rfl rfl (by kernel_rfl) (fun _ _ _ h => h) (Or.inl ⟨by rfl, ?_⟩) ?_ ?_
      rotate_left
      · intro w'
        go_simp
        with_reducible rfl
      rotate_left
      · simp only [Act.put, List.setIfInBounds_toArray, List.set_cons_zero, List.set_cons_succ, i64_w, i32_w]
        rfl
      refine pure_ (i := 25) (N := some 2) (v := ?_) (a' := ?_) #[true, true, true, true, true, true, true, true, true, true, true, true, true, true, true, true, true, true, true, true, true, true, true, true, true, true] rfl rfl (by kernel_rfl) (fun _ _ _ h => h) (Or.inl ⟨by rfl, ?_⟩) ?_ ?_
      rotate_left
      · intro w'
        go_simp
        with_reducible rfl
      rotate_left
      · simp only [Act.put, List.setIfInBounds_toArray, List.set_cons_zero, List.set_cons_succ, i64_w, i32_w]
        rfl
      refine done_ (by kernel_rfl) ?_
      go_wp2
      go_ret
      exact ⟨rfl, by first | exact HB.out | exact below_drew1 HB.out | exact pw_below_drewN HB.out _ | exact pw_below_drewN (below_drew1 HB.out) _⟩
end Go.Proofs.YthhpnlbeniihhaaDoor.NumQ
namespace Go.Proofs.YthhpnlbeniihhaaDoor.NumR
open Go.RowKit Go.Proofs.YthhpnlbeniihhaaDoorW.PrintWords Go.Proofs.YthhpnlbeniihhaaDoorW.PrintLast Go.Proofs.YthhpnlbeniihhaaDoorW.PrintMore Go.Proofs.YthhpnlbeniihhaaDoor.Limb Go.Proofs.YthhpnlbeniihhaaDoor.NumA Go.Proofs.YthhpnlbeniihhaaDoor.NumB Go.Proofs.YthhpnlbeniihhaaDoor.NumC Go.Proofs.YthhpnlbeniihhaaDoor.NumD Go.Proofs.YthhpnlbeniihhaaDoor.NumE Go.Proofs.YthhpnlbeniihhaaDoor.NumF Go.Proofs.YthhpnlbeniihhaaDoor.NumG Go.Proofs.YthhpnlbeniihhaaDoor.NumH Go.Proofs.YthhpnlbeniihhaaDoor.NumJ Go.Proofs.YthhpnlbeniihhaaDoor.NumO
set_option linter.unusedVariables false
set_option linter.unusedSimpArgs false
/-- A whole number that fits into 61 bits, or none. -/
def fixR (neg : Bool) (l : List Int) : Int × Bool := if mag l < 1152921504606846976 ∨ (neg = true ∧ mag l = 1152921504606846976) then (val neg l, true) else (0, false)
theorem or_limb (x y k : Nat) (hk : k < 2) (hx : x < 4294967296 ^ k) (hy : y < 4294967296) : Go.bits .or .u64 (x : Int) (IntKind.u64.wrap (IntKind.u64.wrap (y : Int) * 2 ^ (32 * k))) = ((x + 4294967296 ^ k * y : Nat) : Int) := by
  have e0 : IntKind.u64.wrap (y : Int) = (y : Int) := by rw [IntKind.wrap_u64]; omega
  rw [e0]
  obtain rfl | rfl : k = 0 ∨ k = 1 := by omega
  · have : x = 0 := by simpa using hx
    subst this
    have e1 : IntKind.u64.wrap ((y : Int) * 2 ^ (32 * 0)) = ((y : Nat) : Int) := by rw [IntKind.wrap_u64]; simp; omega
    rw [e1, u64_or_nat 0 y (by decide) (by omega)]
    simp
  · have hx' : x < 4294967296 := by simpa using hx
    have e1 : IntKind.u64.wrap ((y : Int) * 2 ^ (32 * 1)) = ((4294967296 * y : Nat) : Int) := by rw [IntKind.wrap_u64]; simp; omega
    rw [e1, u64_or_nat x (4294967296 * y) (by omega) (by omega), Nat.or_comm]
    rw [nat_join 32 (4294967296 * y) x (by simp [Nat.mul_mod_right]) hx', Nat.pow_one, Nat.add_comm]
theorem ret2 {a b : Int} {p q : Bool} (h : a = b) (g : p = q) : Ending.returned (.tuple #[.int .i64 a, .bool p]) = .returned (.tuple #[.int .i64 b, .bool q]) := by rw [h, g]
set_option maxRecDepth 100000 in
set_option maxHeartbeats 8000000 in
theorem fix_calls (neg : Bool) (A : Option Addr) (c : Nat) (l : List Int) (w : World) (hl : Num w A c l) :
    Calls Tryd.prog 40 #[.agg #[.bool neg, .slice A l.length c]] w fun e w' => e = .returned (.tuple #[.int .i64 (fixR neg l).1, .bool (fixR neg l).2]) ∧ Below w.heap.size w w' := by
  have HL := Aside0.mk hl
  have b1 := blk_new w (.cells #[.bool neg, .slice A l.length c] 25 (0, 0))
  have HB := Aside0.mk ((Below.refl w.heap.size w).alloc (Nat.le_refl _) (.cells #[.bool neg, .slice A l.length c] 25 (0, 0)))
  generalize hr : fixR neg l = r
  have HR := Aside0.mk hr
  clear hl hr
  go_enter Tryd.func40, Tryd.ntmps40
  go_wp2_with fail
  refine (trim_calls A c l _ (HL.out.alloc _).lim HL.out.room).mono ?_
  rintro e w' ⟨rfl, ⟨nd, rfl⟩⟩
  have B1 := Aside0.mk (blk_drewN b1 nd)
  have HB1 := Aside0.mk (pw_below_drewN HB.out nd)
  obtain ⟨W, hW⟩ : ∃ W, (w.alloc (.cells #[.bool neg, .slice A l.length c] 25 (0, 0))).drewN nd = W := ⟨_, rfl⟩
  rw [hW] at B1 HB1
  rw [hW]
  have HT := Aside0.mk ((HL.out.below HB1.out).tr)
  obtain ⟨t, ht⟩ : ∃ t, tr l = t := ⟨_, rfl⟩
  rw [ht] at HT
  rw [ht]
  have HTE := Aside0.mk ht
  clear hW b1 HB ht
  obtain ⟨hc0, hc1⟩ := cell_at B1.out
  by_cases h2 : (2 : Int) < (t.length : Int)
  · have hbig : ¬ mag l < 18446744073709551616 := by
      intro h
      have h3 := (limbs_len (mag l) 2).mpr h
      rw [← tr_limbs HL.out.ok, HTE.out] at h3
      omega
    have hr : r = (0, false) := by
      rw [← HR.out]; unfold fixR
      rw [if_neg (by rintro (h | ⟨_, h⟩) <;> omega)]
    subst hr
    clear hbig
    have H2 := Aside0.mk h2
    go_wp2
    go_loop [5, 13] (fun x i => ∃ (k : Nat) (v : Int), k ≤ 2 ∧ i = .int .i64 k ∧ x = .int .u64 v) (fun _ i => 2 - (intOf i).toNat)
    case atStart => exact ⟨0, 0, by omega, rfl, rfl⟩
    case round =>
      obtain ⟨k, v, hk, rfl, rfl⟩ := hrel
      by_cases hlt : k < 2
      · have i0 : (0 : Int) ≤ (k : Int) := by omega
        have i1 : (k : Int) < (t.length : Int) := by omega
        have i2 : (k : Int) < 2 := by omega
        obtain ⟨ad, e0, hcell⟩ := HT.out.lim.at_ (k : Int) i0 i1
        rw [Int.toNat_natCast] at hcell
        have p0 := eq_true i0
        have q0 := eq_true i1
        have w1 : IntKind.i64.wrap (32 * (k : Int)) = ((32 * k : Nat) : Int) := by rw [IntKind.wrap_i64]; omega
        have HK := Aside0.mk hlt
        cases e0
        have w2 : IntKind.i64.wrap ((k : Int) + 1) = ((k + 1 : Nat) : Int) := by rw [IntKind.wrap_i64]; omega
        clear h2
        go_wp2
        go_round
        case rel => exact ⟨k + 1, _, by have := HK.out; omega, by go_num, rfl⟩
        case measure => have := HK.out; simp [intOf]; omega
      · have hke : k = 2 := by omega
        subst hke
        go_wp2
        go_ret2
        exact ⟨rfl, HB1.out⟩
  · have hle : t.length ≤ 2 := by omega
    have HLE := Aside0.mk hle
    have ok := HT.out.ok
    have OK := Aside0.mk ok
    clear ok
    have hle2 : (t.length : Int) ≤ 2 := by omega
    clear hle
    go_wp2
    go_loop [5, 13] (fun x i => ∃ k : Nat, k ≤ t.length ∧ i = .int .i64 k ∧ x = .int .u64 (mag (t.take k) : Nat)) (fun _ i => t.length - (intOf i).toNat)
    case atStart => exact ⟨0, by omega, rfl, rfl⟩
    case round =>
      obtain ⟨k, hk, rfl, rfl⟩ := hrel
      by_cases hlt : k < t.length
      · have hb1 := mag_take_lt OK.out k hk
        have hn := mag_take_next t k
        have hx := nl_lt OK.out k
        have i0 : (0 : Int) ≤ (k : Int) := by omega
        have i1 : (k : Int) < (t.length : Int) := by omega
        obtain ⟨ad, e0, hcell⟩ := HT.out.lim.at_ (k : Int) i0 i1
        rw [Int.toNat_natCast, ← nl_cast OK.out] at hcell
        have p0 := eq_true i0
        have q0 := eq_true i1
        have hk2 : k < 2 := by omega
        have w1 : IntKind.i64.wrap (32 * (k : Int)) = ((32 * k : Nat) : Int) := by rw [IntKind.wrap_i64]; omega
        have w2 : IntKind.i64.wrap ((k : Int) + 1) = ((k + 1 : Nat) : Int) := by rw [IntKind.wrap_i64]; omega
        have HK := Aside0.mk hlt
        have HK2 := Aside0.mk hk2
        have HB2 := Aside0.mk hb1
        have HN := Aside0.mk hn
        have HX := Aside0.mk hx
        cases e0
        clear h2 hn hb1 hx hk2
        go_wp2
        go_round
        case rel => exact ⟨k + 1, HK.out, by go_num, by rw [or_limb _ _ _ HK2.out HB2.out HX.out, HN.out]⟩
        case measure => have := HK.out; simp [intOf]; omega
      · have hke : k = t.length := by omega
        subst hke
        have hv : mag (t.take t.length) = mag l := by rw [List.take_length, ← HTE.out, mag_tr]
        rw [hv]
        clear hlt hk h2 hv
        obtain ⟨v, hv⟩ : ∃ v, mag l = v := ⟨_, rfl⟩
        have hfr : r = if v < 1152921504606846976 ∨ (neg = true ∧ v = 1152921504606846976) then (if neg then -(v : Int) else (v : Int), true) else (0, false) := by
          rw [← HR.out, ← hv]; rfl
        rw [hv]
        clear HR hv
        by_cases hgt : 1152921504606846976 < v
        · have t1 : decide (1152921504606846976 < v) = true := decide_eq_true hgt
          have t2 : decide ((1152921504606846976 : Int) < (v : Int)) = true := decide_eq_true (by omega)
          rw [if_neg (by rintro (h | ⟨_, h⟩) <;> omega)] at hfr
          subst hfr
          go_wp2
          go_ret2
          exact ⟨rfl, HB1.out⟩
        · have t1 : decide (1152921504606846976 < v) = false := decide_eq_false hgt
          have t2 : decide ((1152921504606846976 : Int) < (v : Int)) = false := decide_eq_false (by omega)
          by_cases heq : v = 1152921504606846976
          · subst heq
            cases neg with
            | false =>
              rw [if_neg (by simp)] at hfr
              subst hfr
              clear t1 t2 hgt
              go_wp2
              go_ret2
              exact ⟨rfl, HB1.out⟩
            | true =>
              rw [if_pos (by simp)] at hfr
              subst hfr
              clear t1 t2 hgt
              go_wp2
              go_ret2
              exact ⟨ret2 (by decide) rfl, HB1.out⟩
          · have s1 : (v == 1152921504606846976) = false := beq_eq_false_iff_ne.mpr heq
            have s2 : ((v : Int) == 1152921504606846976) = false := by simp; omega
            have hlt : v < 1152921504606846976 := by omega
            rw [if_pos (Or.inl hlt)] at hfr
            subst hfr
            have HV := Aside0.mk hlt
            clear hgt heq hlt
            cases neg with
            | false =>
              go_wp2
              go_ret2
              exact ⟨ret2 (by have := HV.out; first | rfl | (unfold wrap64; omega) | (simp; unfold wrap64; omega) | (trace_state; rw [if_neg (by decide)]; unfold wrap64; omega)) rfl, HB1.out⟩
            | true =>
              go_wp2
              go_ret2
              exact ⟨ret2 (by have := HV.out; first | rfl | (unfold wrap64; omega) | (simp; unfold wrap64; omega) | (trace_state; rw [if_pos rfl]; unfold wrap64; omega)) rfl, HB1.out⟩
end Go.Proofs.YthhpnlbeniihhaaDoor.NumR
namespace Go.Proofs.YthhpnlbeniihhaaDoor.NumS
end Go.Proofs.YthhpnlbeniihhaaDoor.NumS
namespace Go.Proofs.YthhpnlbeniihhaaDoor.NumT
open Go.RowKit Go.Proofs.YthhpnlbeniihhaaDoorW.PrintWords Go.Proofs.YthhpnlbeniihhaaDoorW.PrintLast Go.Proofs.YthhpnlbeniihhaaDoorW.PrintMore Go.Proofs.YthhpnlbeniihhaaDoor.Limb Go.Proofs.YthhpnlbeniihhaaDoor.NumA Go.Proofs.YthhpnlbeniihhaaDoor.NumB Go.Proofs.YthhpnlbeniihhaaDoor.NumC Go.Proofs.YthhpnlbeniihhaaDoor.NumD Go.Proofs.YthhpnlbeniihhaaDoor.NumE Go.Proofs.YthhpnlbeniihhaaDoor.NumF Go.Proofs.YthhpnlbeniihhaaDoor.NumG Go.Proofs.YthhpnlbeniihhaaDoor.NumH Go.Proofs.YthhpnlbeniihhaaDoor.NumJ Go.Proofs.YthhpnlbeniihhaaDoor.NumO
set_option linter.unusedVariables false
set_option linter.unusedSimpArgs false
/-- Ten times a row, and a digit: one limb's step. -/
def tenF (l : List Int) (dg : Nat) (i c : Nat) : Nat := 10 * nl l i + (if i = 0 then dg else c)
theorem tenF64 (l : List Int) (ol : OkL l) (dg i c : Nat) (hd : dg < 10) (hc : c < 4294967296) : tenF l dg i c < 18446744073709551616 := by
  have := nl_lt ol i
  unfold tenF
  split <;> omega
set_option maxRecDepth 100000 in
set_option maxHeartbeats 4000000 in
theorem parse1_calls (pa pb : Addr) (A : Option Addr) (c : Nat) (l : List Int) (dg i k : Nat) (w : World) (ha : w.cell? pa = some (.int .u8 ((dg + 48 : Nat) : Int))) (hb : w.cell? pb = some (.slice A l.length c))
    (hl : Lim w A l) (ol : OkL l) (hi : i < 35184372088832) (hk : k < 4294967296) (hdg : dg < 10) :
    Calls Tryd.prog 66 #[.int .i64 i, .int .u64 k, .pointer (some pa), .pointer (some pb)] w fun e w' => e = .returned (.int .u64 (tenF l dg i k : Nat)) ∧ Below w.heap.size w w' := by
  have HL := Aside0.mk hl
  have OL := Aside0.mk ol
  have i0 : (0 : Int) ≤ (i : Int) := by omega
  have hx := nl_lt ol i
  have hc := nl_cast ol i
  have C := limb_calls A c l (i : Int) w hl ol i0
  rw [← hc] at C
  unfold tenF
  generalize nl l i = x at *
  have CC := Lib.hid C
  have w0 : IntKind.u64.wrap (10 * (x : Int)) = 10 * (x : Int) := by rw [IntKind.wrap_u64]; omega
  clear hl ol C hc
  by_cases h0 : i = 0
  · have d0 : ((i : Int) == 0) = true := by rw [h0]; rfl
    have w1 : IntKind.u8.wrap (((dg + 48 : Nat) : Int) - 48) = (dg : Int) := by rw [IntKind.wrap_u8]; omega
    have w2 : IntKind.u64.wrap (dg : Int) = (dg : Int) := by rw [IntKind.wrap_u64]; omega
    have w3 : IntKind.u64.wrap (10 * (x : Int) + (dg : Int)) = ((10 * x + dg : Nat) : Int) := by rw [IntKind.wrap_u64]; omega
    rw [if_pos h0]
    obtain ⟨d8, hd8⟩ : ∃ d8 : Int, ((dg + 48 : Nat) : Int) = d8 := ⟨_, rfl⟩
    rw [hd8] at ha w1
    clear i0 hi hk h0 hx hdg hd8
    go_enter Tryd.func66, Tryd.ntmps66
    go_wp2_with fail
    refine CC.out.mono ?_
    rintro e w' ⟨rfl, ⟨nd, rfl⟩⟩
    go_wp2
    go_ret
    exact ⟨rfl, pw_below_drewN (Below.refl _ _) _⟩
  · have d0 : ((i : Int) == 0) = false := by simp; omega
    have w3 : IntKind.u64.wrap (10 * (x : Int) + (k : Int)) = ((10 * x + k : Nat) : Int) := by rw [IntKind.wrap_u64]; omega
    rw [if_neg h0]
    clear i0 hi hk h0 hx hdg
    go_enter Tryd.func66, Tryd.ntmps66
    go_wp2_with fail
    refine CC.out.mono ?_
    rintro e w' ⟨rfl, ⟨nd, rfl⟩⟩
    go_wp2
    go_ret
    exact ⟨rfl, pw_below_drewN (Below.refl _ _) _⟩
theorem enter_parse1 (p q x y : Value) (W : World) : Sem.run Tryd.prog (callFunc 66 #[x, y, p, q]) W = .ok (.enter 66 #[x, y, p, q]) W := by kernel_rfl
theorem row_parse (pa pb : Addr) (A : Option Addr) (c : Nat) (l : List Int) (dg n : Nat) (w : World) (ha : w.cell? pa = some (.int .u8 ((dg + 48 : Nat) : Int))) (hb : w.cell? pb = some (.slice A l.length c))
    (hl : Lim w A l) (ol : OkL l) (hn : n < 35184372088832) (hdg : dg < 10) :
    Calls Tryd.prog 65 #[.int .i64 n, .func (.func 66) #[] #[.pointer (some pa), .pointer (some pb)]] w fun e w' => ∃ v, e = .returned v ∧ New w' w.heap.size v (pre (tenF l dg) n) ∧ Below w.heap.size w w' := by
  refine row_calls 66 (.pointer (some pa)) (.pointer (some pb)) n (tenF l dg) w hn (enter_parse1 _ _) ?_ ?_
  · intro i k hi hk
    exact tenF64 l ol dg i k hdg hk
  · intro i k w1 hi hk hb1
    exact parse1_calls pa pb A c l dg i k w1 (pw_cell_below hb1 ha) (pw_cell_below hb1 hb) (hl.below hb1) ol (by omega) hk hdg
theorem ten_inv (l : List Int) (dg : Nat) (i : Nat) : mag (pre (tenF l dg) (i + 1)) + 4294967296 ^ (i + 1) * carry (tenF l dg) (i + 1) = 10 * mag (l.take (i + 1)) + dg := by
  induction i with
  | zero =>
    rw [mag_pre_succ, mag_take_next]
    show mag (pre (tenF l dg) 0) + _ + 4294967296 ^ (0 + 1) * (tenF l dg 0 (carry (tenF l dg) 0) / 4294967296) = _
    have hx : tenF l dg 0 (carry (tenF l dg) 0) = 10 * nl l 0 + dg := by unfold tenF; rw [if_pos rfl]
    rw [hx]
    have h0 : mag (pre (tenF l dg) 0) = 0 := rfl
    have h1 : mag (l.take 0) = 0 := rfl
    rw [h0, h1, Nat.pow_zero, Nat.pow_one, Nat.one_mul, Nat.one_mul]
    omega
  | succ i ih =>
    rw [mag_pre_succ, mag_take_next]
    show _ + 4294967296 ^ (i + 1 + 1) * (tenF l dg (i + 1) (carry (tenF l dg) (i + 1)) / 4294967296) = _
    have hx : tenF l dg (i + 1) (carry (tenF l dg) (i + 1)) = 10 * nl l (i + 1) + carry (tenF l dg) (i + 1) := by
      unfold tenF
      rw [if_neg (by omega)]
    rw [hx]
    generalize carry (tenF l dg) (i + 1) = k at *
    generalize nl l (i + 1) = x at *
    rw [Nat.pow_succ 4294967296 (i + 1)]
    generalize 4294967296 ^ (i + 1) = K at *
    generalize mag (pre (tenF l dg) (i + 1)) = P at *
    generalize mag (l.take (i + 1)) = T at *
    have hd := Nat.div_add_mod (10 * x + k) 4294967296
    generalize (10 * x + k) / 4294967296 = D at *
    generalize (10 * x + k) % 4294967296 = M at *
    have e : K * (10 * x + k) = K * (4294967296 * D + M) := by rw [hd]
    rw [Nat.mul_add, Nat.mul_add, Nat.mul_left_comm K 10 x] at e
    rw [Nat.mul_assoc K, Nat.mul_add 10]
    omega
theorem ten_value {l : List Int} (ok : OkL l) {dg : Nat} (hd : dg < 10) : mag (pre (tenF l dg) (l.length + 1)) = 10 * mag l + dg := by
  have inv := ten_inv l dg l.length
  have hl : mag (l.take (l.length + 1)) = mag l := mag_take_all (by omega)
  rw [hl] at inv
  have hlt := mag_lt ok
  have hc : carry (tenF l dg) (l.length + 1) = 0 := by
    rcases Nat.eq_zero_or_pos (carry (tenF l dg) (l.length + 1)) with e | e
    · exact e
    · exfalso
      have h1 := Nat.le_mul_of_pos_right (4294967296 ^ (l.length + 1)) e
      have h2 : 4294967296 ^ (l.length + 1) = 4294967296 ^ l.length * 4294967296 := Nat.pow_succ ..
      omega
  rw [hc, Nat.mul_zero] at inv
  omega
end Go.Proofs.YthhpnlbeniihhaaDoor.NumT
namespace Go.Proofs.YthhpnlbeniihhaaDoor.NumU
open Go.RowKit Go.Proofs.YthhpnlbeniihhaaDoorW.PrintWords Go.Proofs.YthhpnlbeniihhaaDoorW.PrintLast Go.Proofs.YthhpnlbeniihhaaDoorW.PrintMore Go.Proofs.YthhpnlbeniihhaaDoor.Limb Go.Proofs.YthhpnlbeniihhaaDoor.NumA Go.Proofs.YthhpnlbeniihhaaDoor.NumB Go.Proofs.YthhpnlbeniihhaaDoor.NumC Go.Proofs.YthhpnlbeniihhaaDoor.NumD Go.Proofs.YthhpnlbeniihhaaDoor.NumE Go.Proofs.YthhpnlbeniihhaaDoor.NumF Go.Proofs.YthhpnlbeniihhaaDoor.NumG Go.Proofs.YthhpnlbeniihhaaDoor.NumH Go.Proofs.YthhpnlbeniihhaaDoor.NumJ Go.Proofs.YthhpnlbeniihhaaDoor.NumO Go.Proofs.YthhpnlbeniihhaaDoor.NumT
set_option linter.unusedVariables false
set_option linter.unusedSimpArgs false
/-- A digit's byte. -/
def isDig (b : UInt8) : Bool := decide (48 ≤ b.toNat ∧ b.toNat ≤ 57)
/-- The value of digits. -/
def decv (l : List UInt8) : Nat := l.foldl (fun a b => 10 * a + (b.toNat - 48)) 0
/-- What Parse answers of a text's digits. -/
def digR (neg : Bool) (l : List UInt8) : Bool × List Int × Int := if l ≠ [] ∧ l.all isDig = true then mk neg (decv l) else (false, [], 9)
/-- What Parse answers of a text. -/
def parseR (l : List UInt8) : Bool × List Int × Int :=
  match l with
  | [] => digR false []
  | b :: l => if b = 45 then digR true l else if b = 43 then digR false l else digR false (b :: l)
/-- The ten digits. -/
def ten : List UInt8 := [48, 49, 50, 51, 52, 53, 54, 55, 56, 57]
theorem ten_isDig (b : UInt8) : ten.contains b = isDig b := by
  unfold isDig ten
  rw [Bool.eq_iff_iff]
  simp only [List.contains_iff_mem, decide_eq_true_eq, List.mem_cons, List.mem_nil_iff, or_false]
  constructor
  · rintro (rfl | rfl | rfl | rfl | rfl | rfl | rfl | rfl | rfl | rfl) <;> decide
  · rintro ⟨h1, h2⟩
    have : b.toNat = 48 ∨ b.toNat = 49 ∨ b.toNat = 50 ∨ b.toNat = 51 ∨ b.toNat = 52 ∨ b.toNat = 53 ∨ b.toNat = 54 ∨ b.toNat = 55 ∨ b.toNat = 56 ∨ b.toNat = 57 := by omega
    rcases this with h | h | h | h | h | h | h | h | h | h <;> simp [← UInt8.toNat_inj, h]
theorem dropWhile_nil {p : UInt8 → Bool} : ∀ l : List UInt8, l.dropWhile p = [] ↔ l.all p = true
  | [] => by simp
  | a :: l => by
    by_cases h : p a = true
    · rw [List.dropWhile_cons_of_pos h, dropWhile_nil l]; simp [h]
    · rw [List.dropWhile_cons_of_neg h]; simp [h]
theorem all_dropWhile {p : UInt8 → Bool} : ∀ l : List UInt8, (l.dropWhile p).all p = l.all p
  | [] => rfl
  | a :: l => by
    by_cases h : p a = true
    · rw [List.dropWhile_cons_of_pos h, all_dropWhile l]; simp [h]
    · rw [List.dropWhile_cons_of_neg h]
theorem trim_all (l : List UInt8) : Lib.trimS l ten = [] ↔ l.all isDig = true := by
  unfold Lib.trimS Lib.trimLeftS Lib.trimRightS
  have e : (fun x => ten.contains x) = isDig := funext ten_isDig
  rw [e, dropWhile_nil, List.all_reverse, all_dropWhile, List.all_reverse]
theorem decv_snoc (l : List UInt8) (b : UInt8) : decv (l ++ [b]) = 10 * decv l + (b.toNat - 48) := by unfold decv; rw [List.foldl_append]; rfl
theorem decv_mono (l m : List UInt8) : decv l ≤ decv (l ++ m) := by
  induction m generalizing l with
  | nil => simp
  | cons b m ih =>
    have h := ih (l ++ [b])
    rw [decv_snoc, List.append_assoc] at h
    have e : [b] ++ m = b :: m := rfl
    rw [e] at h
    omega
theorem below_bytes {B : Nat} {w W : World} (h : Below B w W) (hB : B ≤ W.heap.size) (e : TypeId) (s : ByteArray) : Below B w (Lib.bytesWorld W e s) := by
  refine ⟨h.os, h.tape, h.output, by rw [Lib.bytesWorld_size]; exact Nat.le_succ_of_le h.size, fun k hk => ?_⟩
  rw [Lib.bytesWorld_at_old W e s k (Nat.lt_of_lt_of_le hk hB)]
  exact h.block k hk
theorem bytes_cell (w W : World) (e : TypeId) (s : ByteArray) {ob : Obj} (ho : (Lib.bytesWorld w e s).heap[w.heap.size]? = some ob) (h : W.heap[w.heap.size]? = some ob) (j : Nat) (hj : j < s.size) : W.cell? ⟨w.heap.size, j, none⟩ = some (.int .u8 (s.data.toList.getD j 0).toNat) := by
  have c := Lib.bytesWorld_cell w e s j hj
  unfold World.cell? at c ⊢
  rw [ho] at c
  rw [h]
  exact c
theorem New.set23 {w : World} {base : Nat} {v : Value} {l : List Int} (h : New w base v l) {g : Nat} {cells : Array Value} (hb : w.heap[g]? = some (.cells cells 23 (0, 0))) (j : Nat) (u : Value) : New (w.setCell ⟨g, j, none⟩ u) base v l :=
  Kd.R_set h hb (fun q hq => by
    have : q = 63 := by simpa [Kd.int, Kd.scalar] using hq
    subst this
    decide) j u
theorem New.take {w : World} {base : Nat} {A : Option Addr} {n c : Nat} {l : List Int} (h : New w base (.slice A n c) l) (m : Nat) (hm : m ≤ l.length) : New w base (.slice A m c) (l.take m) := by
  obtain ⟨h1, h2⟩ := h.own
  refine New.of_own ?_
  rw [List.length_take, Nat.min_eq_left hm, List.map_take]
  refine ⟨by rw [List.length_take, List.length_map]; omega, ?_⟩
  rcases h2 with ⟨e, h3⟩ | ⟨g, cap, cur, e, hg, hh, h3, h4, h5, h6⟩
  · injection e with e1 e2 e3
    subst e1 e3
    have hl : l = [] := by simpa using h3
    subst hl
    have : m = 0 := by simpa using hm
    subst this
    exact .inl ⟨rfl, by simp⟩
  · injection e with e1 e2 e3
    subst e1 e3
    refine .inr ⟨g, _, cur, rfl, hg, hh, by omega, h4, h5, ?_⟩
    rw [← h6, Nat.mul_one, Nat.mul_one, List.take_take, Nat.min_eq_left hm]
/-- How things stand at the head of Parse's loop. -/
def ParI (B bm : Nat) (l : List UInt8) (i : Nat) (w' : World) : Prop :=
  i ≤ l.length ∧ ∃ (v : Value) (M : List Int), w'.heap[bm]? = some (.cells #[v] 23 (0, 0)) ∧ New w' B v M ∧ OkL M ∧ tr M = M ∧ mag M = decv (l.take i) ∧ M.length ≤ 48
theorem take_snoc8 (l : List UInt8) (i : Nat) (h : i < l.length) : l.take (i + 1) = l.take i ++ [l.getD i 0] := by
  rw [List.take_succ_eq_append_getElem h, List.getD_eq_getElem?_getD, List.getElem?_eq_getElem h]
  rfl
theorem all_getD (l : List UInt8) (h : l.all isDig = true) (i : Nat) (hi : i < l.length) : 48 ≤ (l.getD i 0).toNat ∧ (l.getD i 0).toNat ≤ 57 := by
  have h2 := List.all_eq_true.mp h l[i] (List.getElem_mem hi)
  unfold isDig at h2
  rw [List.getD_eq_getElem?_getD, List.getElem?_eq_getElem hi]
  simpa using h2
theorem mk_big (neg : Bool) (v n : Nat) (l : List Int) (hl : OkL l) (hle : mag l ≤ v) (h : 48 < (tr l).length) : mk neg v = (false, [], 6) := by
  unfold mk
  rw [if_neg]
  intro h2
  have h3 : mag l < 4294967296 ^ 48 := Nat.lt_of_le_of_lt hle h2
  rw [← tr_len_48 hl] at h3
  omega
/-- HasPrefix and Trim, as the walk takes them. -/
structure Strs : Prop where
  pre : ∀ (s p : ByteArray) (w : World), Calls Tryd.prog 63 #[.string s, .string p] w fun e w' => e = .returned (.bool (Lib.hasPrefix s.data.toList p.data.toList)) ∧ w' = w
  trim : ∀ (s : ByteArray) (w : World), s.size ≤ 9223372036854775807 → Calls Tryd.prog 64 #[.string s, .string ⟨#[48, 49, 50, 51, 52, 53, 54, 55, 56, 57]⟩] w fun e w' => e = .returned (.string ⟨(Lib.trimS s.data.toList ten).toArray⟩) ∧ Below w.heap.size w w'
set_option maxRecDepth 100000 in
set_option maxHeartbeats 8000000 in
theorem parse_calls (S : Strs) (s : ByteArray) (w : World) (hs : s.size ≤ 140737488355328) :
    Calls Tryd.prog 25 #[.string s] w (Res w (parseR s.data.toList)) := by
  have HS := Lib.hid S
  have HSZ := Aside0.mk hs
  generalize hr : parseR s.data.toList = r
  have b1 := blk_new w (.cells #[.bool false, .slice none 0 0] 25 (0, 0))
  have hb1 := (Below.refl w.heap.size w).alloc (Nat.le_refl _) (.cells #[.bool false, .slice none 0 0] 25 (0, 0))
  have B1 := Aside0.mk b1
  have HB := Aside0.mk hb1
  have HR := Aside0.mk hr
  clear S hs hr b1 hb1
  go_enter Tryd.func25, Tryd.ntmps25
  go_wp2_with fail
  refine (HS.out.pre s _ _).mono ?_
  rintro e w' ⟨rfl, rfl⟩
  have hpre : ∀ c : UInt8, Lib.hasPrefix s.data.toList [c] = decide (s.data.toList.head? = some c) := by
    intro c
    unfold Lib.hasPrefix
    cases s.data.toList with
    | nil => rfl
    | cons b l =>
      rw [Bool.eq_iff_iff]
      simp only [List.isPrefixOf, Bool.and_true, beq_iff_eq, decide_eq_true_eq, List.head?_cons, Option.some.injEq]
      exact eq_comm
  have e45 : Lib.hasPrefix s.data.toList (⟨#[45]⟩ : ByteArray).data.toList = decide (s.data.toList.head? = some 45) := hpre 45
  have e43 : Lib.hasPrefix s.data.toList (⟨#[43]⟩ : ByteArray).data.toList = decide (s.data.toList.head? = some 43) := hpre 43
  have hsz : s.size = s.data.toList.length := Lib.size_eq s
  rw [e45]
  have E43 := Aside0.mk e43
  have HSE := Aside0.mk hsz
  clear e45 e43 hpre hsz
  -- the digits, the sign, three ways
  have key : (∃ l, s.data.toList = 45 :: l ∧ r = digR true l) ∨ (∃ l, s.data.toList = 43 :: l ∧ r = digR false l) ∨ (s.data.toList.head? ≠ some 45 ∧ s.data.toList.head? ≠ some 43 ∧ r = digR false s.data.toList) := by
    have h := HR.out
    cases hl : s.data.toList with
    | nil => rw [hl] at h; exact Or.inr (Or.inr ⟨by simp, by simp, h.symm⟩)
    | cons b l =>
      rw [hl] at h
      simp only [parseR] at h
      by_cases h1 : b = 45
      · rw [if_pos h1] at h; exact Or.inl ⟨l, by rw [h1], h.symm⟩
      · rw [if_neg h1] at h
        by_cases h2 : b = 43
        · rw [if_pos h2] at h; exact Or.inr (Or.inl ⟨l, by rw [h2], h.symm⟩)
        · rw [if_neg h2] at h; exact Or.inr (Or.inr ⟨by simp [h1], by simp [h2], h.symm⟩)
  rcases key with ⟨l, hl, hr⟩ | ⟨l, hl, hr⟩ | ⟨h1, h2, hr⟩
  · have d1 : decide (s.data.toList.head? = some 45) = true := by rw [hl]; rfl
    have d2 : decide (s.data.toList.head? = some 43) = false := by rw [hl]; rfl
    have z1 : (1 : Int) ≤ (s.size : Int) := by rw [HSE.out, hl, List.length_cons]; omega
    obtain ⟨D, hD⟩ : ∃ D, s.extract 1 s.size = D := ⟨_, rfl⟩
    have hd : D.data.toList = l := by
      rw [← hD, Lib.extract_to_end, hl]
      rfl
    have hds : D.size ≤ 140737488355328 := by
      have e : D.size = D.data.toList.length := Lib.size_eq D
      rw [e, hd]
      have e2 := HSE.out
      rw [hl, List.length_cons] at e2
      have := HSZ.out
      omega
    have HLL := Aside0.mk hl
    have HD := Aside0.mk hd
    have DSZ := Aside0.mk hds
    have HRR := Aside0.mk hr
    rw [d1]
    clear hl hr hds hd d1
    by_cases hne : l = []
    · have ei : D.toList.isEmpty = true := by rw [Lib.toList_data, HD.out, hne]; rfl
      have el : D.toList = [] := by rw [Lib.toList_data, HD.out, hne]
      have hrv : Aside0 (r = (false, [], 9)) := ⟨by rw [HRR.out]; unfold digR; rw [if_neg (by simp [hne])]⟩
      clear hne
      go_wp2
      refine bodyPost_ret (results_ct rfl _ _ w.heap.size 25 #[.bool false, .slice none 0 0] (0, 0) _ rfl B1.out Tryd.underlying25 rfl (by kernel_rfl)) rfl ?_
      show Res w r _ _
      rw [hrv.out]
      exact ⟨.slice none 0 0, rfl, New.nil _ _, HB.out⟩

    · have ei : D.toList.isEmpty = false := by rw [Lib.toList_data, HD.out]; simpa using hne
      have el : (D.toList = []) = False := by rw [Lib.toList_data, HD.out]; exact eq_false hne
      have HNE := Aside0.mk hne
      clear hne
      go_wp2_with fail
      refine (HS.out.trim D _ (by have := DSZ.out; omega)).mono ?_
      rw [HD.out]
      rintro e w1 ⟨rfl, hb⟩
      have B2 := Aside0.mk (blk_below B1.out hb)
      have HB2 := Aside0.mk (below_step HB.out hb)
      have hta := trim_all l
      obtain ⟨tl, htl⟩ : ∃ tl, Lib.trimS l ten = tl := ⟨_, rfl⟩
      rw [htl] at hta
      rw [htl]
      obtain ⟨T, hT⟩ : ∃ T : ByteArray, (⟨tl.toArray⟩ : ByteArray) = T := ⟨_, rfl⟩
      have hT2 : T.data.toList = tl := by rw [← hT]
      rw [hT]
      clear hT hb htl
      by_cases hall : l.all isDig = true
      · have ti : T.toList.isEmpty = true := by rw [Lib.toList_data, hT2, hta.mpr hall]; rfl
        have tl' : T.toList = [] := by rw [Lib.toList_data, hT2, hta.mpr hall]
        have hrv : Aside0 (r = mk true (decv l)) := ⟨by rw [HRR.out]; unfold digR; rw [if_pos ⟨HNE.out, hall⟩]⟩
        have HALL := Aside0.mk hall
        clear hta hall hT2 B1 HB HRR
        have hcv : ∀ W, (convert 9 32 (.string D)).run Tryd.prog W = .ok (.slice (some ⟨W.heap.size, 0, none⟩) D.size (grownCap W D.size 0 5)) (Lib.bytesWorld W 5 D) := fun W => Lib.run_convert_string_bytes W _ _ _ D Tryd.underlying9 Tryd.underlying32 Tryd.underlying5
        go_wp2
        have hW1 := blk_new w1 (.cells #[.slice none 0 0] 23 (0, 0))
        have hDl : D.size = l.length := by rw [Lib.size_eq, HD.out]
        obtain ⟨W1, hW⟩ : ∃ W1, w1.alloc (.cells #[.slice none 0 0] 23 (0, 0)) = W1 := ⟨_, rfl⟩
        have hs1 : W1.heap.size = w1.heap.size + 1 := by rw [← hW, World.size_alloc]
        have hbk := blk_alloc B2.out (.cells #[.slice none 0 0] 23 (0, 0))
        have hbw := below_alloc HB2.out (.cells #[.slice none 0 0] 23 (0, 0))
        rw [hW] at hW1 hbk hbw
        rw [hW]
        have hob := Lib.bytesWorld_at_new W1 5 D
        have HCELL := Lib.hid (show ∀ W j, W.heap[W1.heap.size]? = some _ → j < D.size → W.cell? ⟨W1.heap.size, j, none⟩ = some (.int .u8 ((D.data.toList.getD j 0).toNat : Int)) from fun W j h hj => bytes_cell W1 W 5 D hob h j hj)
        obtain ⟨ob, hobe⟩ : ∃ ob, Obj.cells (Lib.bytesCells W1 5 D) 5 ((Lib.bytesCells W1 5 D).size, (Lib.bytesCells W1 5 D).size + 1) = ob := ⟨_, rfl⟩
        rw [hobe] at hob HCELL
        have hw1 := (Lib.bytesWorld_at_old W1 5 D w1.heap.size (by omega)).trans hW1
        have hbk2 := (Lib.bytesWorld_at_old W1 5 D w.heap.size (blk_lt hbk)).trans hbk
        have hbw2 := below_bytes hbw (below_size hbw) 5 D
        obtain ⟨bb, hbb⟩ : ∃ bb, W1.heap.size = bb := ⟨_, rfl⟩
        obtain ⟨bm, hbm⟩ : ∃ bm, w1.heap.size = bm := ⟨_, rfl⟩
        rw [hbb] at hob HCELL
        rw [hbm] at hw1
        have hlt1 : w.heap.size ≤ bm := by rw [← hbm]; exact below_size HB2.out
        have hlt2 : bm < bb := by omega
        have hdl0 := HD.out
        rw [hdl0] at HCELL
        clear hdl0
        have hb3 : w1.heap.size + 1 = bb := by omega
        rw [hb3, hbm]
        obtain ⟨gc, hgc⟩ : ∃ gc, grownCap W1 D.size 0 5 = gc := ⟨_, rfl⟩
        rw [hgc]
        obtain ⟨Wb, hWb⟩ : ∃ Wb, Lib.bytesWorld W1 5 D = Wb := ⟨_, rfl⟩
        rw [hWb] at hob hw1 hbk2 hbw2
        rw [hWb]
        have B3 := Aside0.mk hbk2
        have HB3 := Aside0.mk hbw2
        have HOB := Aside0.mk hob
        have HM := Aside0.mk hw1
        have HL1 := Aside0.mk hlt1
        have HL2 := Aside0.mk hlt2
        have HDL := Aside0.mk hDl
        clear hW hW1 hs1 hbk hbw hobe hw1 hbk2 hbw2 hbb hbm hlt1 hlt2 hb3 hgc hWb hob hcv hDl B2 HB2
        go_loopw [30] (fun v30 w' => ∃ i : Nat, v30 = .int .i64 i ∧ Aside0 (ParI w.heap.size bm l i w') ∧ Aside0 (w'.heap[bb]? = some ob) ∧ Aside0 (w'.heap[w.heap.size]? = some (.cells #[.bool false, .slice none 0 0] 25 (0, 0))) ∧ Aside0 (Below w.heap.size w w')) (fun v30 _ => D.size - (intOf v30).toNat)
        case atStart => exact ⟨0, rfl, ⟨⟨Nat.zero_le _, _, [], HM.out, New.nil _ _, by intro x hx; simp at hx, rfl, rfl, by simp⟩⟩, HOB, B3, HB3⟩
        case round =>
          clear B3 HB3 HOB HM
          obtain ⟨i, rfl, HI, HOB, B3, HB3⟩ := hrel
          obtain ⟨hil, v, M, hM, hN, okM, trM, magM, lenM⟩ := HI.out
          obtain ⟨Am, cm, rfl, hcm, hlm⟩ := New.lim hN
          have hdl := HDL.out
          have hsz := DSZ.out
          by_cases hi : i < D.size
          · have i0 : (0 : Int) ≤ (i : Int) := by omega
            have i1 : (i : Int) < (D.size : Int) := by omega
            have p0 := eq_true i0
            have q0 := eq_true i1
            have hcell := HCELL.out wr i HOB.out hi
            have hdg := all_getD l HALL.out i (by omega)
            obtain ⟨dg, hdge⟩ : ∃ dg, (l.getD i 0).toNat - 48 = dg := ⟨_, rfl⟩
            have hd10 : dg < 10 := by omega
            rw [show (l.getD i 0).toNat = dg + 48 by omega] at hcell
            obtain ⟨d8, hd8⟩ : ∃ d8 : Int, ((dg + 48 : Nat) : Int) = d8 := ⟨_, rfl⟩
            rw [hd8] at hcell
            have hm0 : (wr.alloc (.cells #[.int .u8 d8] 5 (0, 0))).cell? ⟨bm, 0, none⟩ = some (.slice Am M.length cm) := (blk_cell (blk_alloc hM _) 0).trans rfl
            have hb0 : (wr.alloc (.cells #[.int .u8 d8] 5 (0, 0))).cell? ⟨wr.heap.size, 0, none⟩ = some (.int .u8 ((dg + 48 : Nat) : Int)) := by rw [hd8]; exact (blk_cell (blk_new wr _) 0).trans rfl
            obtain ⟨n2, hn2⟩ : ∃ n2, M.length + 1 = n2 := ⟨_, rfl⟩
            have CALL := Lib.hid (row_parse ⟨wr.heap.size, 0, none⟩ ⟨bm, 0, none⟩ Am cm M dg n2 _ hb0 hm0 (hlm.alloc _) okM (by omega) hd10)
            have wn0 : ((M.length : Int) + 1) = (n2 : Int) := by omega
            have wn1 : IntKind.i64.wrap ((M.length : Int) + 1) = (n2 : Int) := i64_of wn0 (by omega) (by omega)
            have wn2 : wrap64 ((M.length : Int) + 1) = (n2 : Int) := w64_of wn0 (by omega) (by omega)
            have wi0 : ((i : Int) + 1) = ((i + 1 : Nat) : Int) := by omega
            have HWI := Aside0.mk wi0
            have hm63 : ((i + 1 : Nat) : Int) ≤ 9223372036854775807 := by omega
            have wi1 : IntKind.i64.wrap ((i : Int) + 1) = ((i + 1 : Nat) : Int) := i64_of wi0 (Int.le_trans (by decide) (Int.natCast_nonneg _)) hm63
            have wi2 : wrap64 ((i : Int) + 1) = ((i + 1 : Nat) : Int) := w64_of wi0 (Int.le_trans (by decide) (Int.natCast_nonneg _)) hm63
            have HM := Aside0.mk hM
            have OM := Aside0.mk okM
            have TM := Aside0.mk trM
            have MM := Aside0.mk magM
            have LM := Aside0.mk lenM
            have HN2 := Aside0.mk hn2
            have HDG := Aside0.mk hdge
            have HD10 := Aside0.mk hd10
            have HII := Aside0.mk hi
            clear hb0 wn0 wi0 hm63 hil hM hN okM trM magM lenM hcm hlm hdl hsz hi hdg hdge hd10 hd8 hn2 HI i0 i1
            go_wp2_with fail
            refine CALL.out.mono ?_
            clear CALL
            rintro e w2 ⟨v1, rfl, hn1, hb1⟩
            have hval := ten_value OM.out HD10.out
            rw [HN2.out] at hval
            have okP := pre_ok (tenF M dg) n2
            have lenP := pre_length (tenF M dg) n2
            generalize pre (tenF M dg) n2 = P at *
            obtain ⟨A1, c1, rfl, hc1, hl1⟩ := New.lim hn1
            have hbk := blk_below (blk_alloc HM.out (.cells #[.int .u8 d8] 5 (0, 0))) hb1
            have hok := blk_below (blk_alloc HOB.out (.cells #[.int .u8 d8] 5 (0, 0))) hb1
            have hrk := blk_below (blk_alloc B3.out (.cells #[.int .u8 d8] 5 (0, 0))) hb1
            have hbl := below_step (below_alloc HB3.out (.cells #[.int .u8 d8] 5 (0, 0))) hb1
            have hn1' : New w2 w.heap.size (.slice A1 P.length c1) P := New.lower hn1 (by rw [World.size_alloc]; have := below_size HB3.out; omega)
            have HNP := Aside0.mk hn1'
            have HLP := Aside0.mk hl1
            have HCP := Aside0.mk hc1
            have OP := Aside0.mk okP
            have VP := Aside0.mk hval
            have HMK := Aside0.mk hbk
            have HOK := Aside0.mk hok
            have HRK := Aside0.mk hrk
            have HBL := Aside0.mk hbl
            have hcm2 := (blk_cell hbk 0)
            have hfm2 := blk_frozen hbk 0
            clear hn1 hb1 hval okP lenP hc1 hl1 hbk hok hrk hbl hn1' hcell hm0
            go_wp2_with fail
            refine (trim_calls A1 c1 P _ HLP.out HCP.out).mono ?_
            rintro e w' ⟨rfl, ⟨nd, rfl⟩⟩
            have hcm3 : (w2.drewN nd).cell? ⟨bm, 0, none⟩ = _ := hcm2
            have hfm3 : (w2.drewN nd).frozen? ⟨bm, 0, none⟩ = false := hfm2
            have hM3 := blk_put (blk_drewN HMK.out nd) 0 (.slice A1 (tr P).length c1) rfl
            have hO3 : ((w2.drewN nd).setCell ⟨bm, 0, none⟩ (.slice A1 (tr P).length c1)).heap[bb]? = some ob := (Below.heap_setCell _ _ _ _ (by dsimp only; have := HL2.out; omega)).trans (blk_drewN HOK.out nd)
            have hne : w.heap.size ≠ bm := by
              intro h
              have h1 := HMK.out
              have h2 := HRK.out
              rw [← h, h2] at h1
              injection h1 with h1
              injection h1 with _ h1
              exact absurd h1 (by decide)
            have hR3 := blk_far (blk_drewN HRK.out nd) (p := ⟨bm, 0, none⟩) hne (.slice A1 (tr P).length c1)
            have hB3 := below_set (j := 0) (v := .slice A1 (tr P).length c1) (pw_below_drewN HBL.out nd) HL1.out
            have hN3 : New ((w2.drewN nd).setCell ⟨bm, 0, none⟩ (.slice A1 (tr P).length c1)) w.heap.size (.slice A1 (tr P).length c1) (tr P) := by
              have h1 := New.take (HNP.out) (tr P).length (tr_len_le P)
              rw [tr_take] at h1
              exact New.set23 h1 (blk_drewN HMK.out nd) 0 _
            have HM3 := Aside0.mk hM3
            have HO3 := Aside0.mk hO3
            have HR3 := Aside0.mk hR3
            have HBB3 := Aside0.mk hB3
            have HN3 := Aside0.mk hN3
            have hz0 := (cell_at hR3).1
            have hz1 := (cell_at hR3).2
            have hy0 := blk_frozen hR3 0
            have hy1 := blk_frozen hR3 1
            have HZ := Aside0.mk (And.intro hz0 (And.intro hz1 (And.intro hy0 hy1)))
            clear hM3 hO3 hR3 hB3 hN3 hne hz0 hz1 hy0 hy1
            by_cases h48 : 48 < (tr P).length
            · have t1 : decide (48 < (tr P).length) = true := decide_eq_true h48
              have t2 : decide ((48 : Int) < ((tr P).length : Int)) = true := decide_eq_true (by omega)
              have hbig := mk_big true (decv l) 0 P OP.out (by
                have h1 := decv_mono (l.take (i + 1)) (l.drop (i + 1))
                rw [List.take_append_drop] at h1
                rw [take_snoc8 l i (by have := HDL.out; have := HII.out; omega), decv_snoc, HDG.out, ← MM.out] at h1
                rw [VP.out]
                exact h1) h48
              have hrv2 : Aside0 (r = (false, [], 6)) := ⟨by rw [hrv.out, hbig]⟩
              clear hbig h48
              obtain ⟨hz0, hz1, _, _⟩ := HZ.out
              have hy0 := blk_frozen HRK.out 0
              have hy1 := blk_frozen HRK.out 1
              go_wp2
              refine bodyPost_ret (results_ct rfl _ _ w.heap.size 25 #[.bool false, .slice none 0 0] (0, 0) _ rfl (blk_put (cs := #[.bool false, .slice none 0 0]) (blk_put (cs := #[.bool false, .slice none 0 0]) HR3.out 0 _ rfl) 1 _ rfl) Tryd.underlying25 rfl (by kernel_rfl)) rfl ?_
              show Res w r _ _
              rw [hrv2.out]
              exact ⟨.slice none 0 0, rfl, New.nil _ _, below_set (below_set HBB3.out (Nat.le_refl _)) (Nat.le_refl _)⟩
            · have t1 : decide (48 < (tr P).length) = false := decide_eq_false h48
              have t2 : decide ((48 : Int) < ((tr P).length : Int)) = false := decide_eq_false (by omega)
              have H48 := Aside0.mk h48
              clear h48
              go_wp2
              go_roundw
              case rel =>
                refine ⟨i + 1, by go_num, ⟨⟨by have := HDL.out; have := HII.out; omega, _, tr P, HM3.out, HN3.out, ok_tr OP.out, tr_tr P, ?_, by have := H48.out; omega⟩⟩, HO3, HR3, HBB3⟩
                rw [mag_tr, VP.out, take_snoc8 l i (by have := HDL.out; have := HII.out; omega), decv_snoc, HDG.out, MM.out]
              case measure => have := HII.out; simp [intOf]; omega
          · have hie : i = l.length := by omega
            have hv : mag M = decv l := by rw [magM, hie, List.take_length]
            have t1 : decide (i < D.size) = false := decide_eq_false hi
            have t2 : decide ((i : Int) < (D.size : Int)) = false := decide_eq_false (by omega)
            have hmc := (blk_cell hM 0)
            have LM := Aside0.mk hlm
            have CM := Aside0.mk hcm
            have OM := Aside0.mk okM
            have VM := Aside0.mk hv
            have L48 := Aside0.mk lenM
            have HN := Aside0.mk hN
            clear hil hM hN okM trM magM lenM hcm hlm hdl hsz hi hie hv HI
            go_wp2_with fail
            refine (made_calls true Am cm M _ LM.out CM.out OM.out (by have := L48.out; omega)).mono ?_
            rw [VM.out, ← hrv.out]
            rintro e w2 ⟨v, rfl, hnew, hb⟩
            obtain ⟨Ar, cr, er, _, _⟩ := New.lim hnew
            subst er
            obtain ⟨r1, r2, r3⟩ := r
            have RN := Aside0.mk (New.lower (base' := w.heap.size) hnew (below_size HB3.out))
            have B4 := Aside0.mk (blk_below B3.out hb)
            have HB4 := Aside0.mk (below_step HB3.out hb)
            have z0 := (cell_at B4.out).1
            have z1 := (cell_at B4.out).2
            have f0 := blk_frozen B4.out 0
            have f1 := blk_frozen B4.out 1
            clear hnew hb
            go_wp2
            refine bodyPost_ret (results_ct rfl _ _ w.heap.size 25 #[.bool r1, .slice Ar r2.length cr] (0, 0) _ rfl (blk_put (cs := #[.bool r1, .slice none 0 0]) (blk_put (cs := #[.bool false, .slice none 0 0]) B4.out 0 _ rfl) 1 _ rfl) Tryd.underlying25 rfl (by kernel_rfl)) rfl ?_
            exact ⟨_, rfl, New.set (New.set RN.out B4.out 0 _) (blk_put (cs' := #[.bool r1, .slice none 0 0]) B4.out 0 _ rfl) 1 _, below_set (below_set HB4.out (Nat.le_refl _)) (Nat.le_refl _)⟩
      · have hne2 : tl ≠ [] := fun h => hall (hta.mp h)
        have ti : T.toList.isEmpty = false := by rw [Lib.toList_data, hT2]; simpa using hne2
        have tl' : (T.toList = []) = False := by rw [Lib.toList_data, hT2]; exact eq_false hne2
        have hrv : Aside0 (r = (false, [], 9)) := ⟨by rw [HRR.out]; unfold digR; rw [if_neg (fun h => hall h.2)]⟩
        have z0 := (cell_at B2.out).1
        have z1 := (cell_at B2.out).2
        have f0 := blk_frozen B2.out 0
        have f1 := blk_frozen B2.out 1
        clear hta hall hT2 hne2
        go_wp2
        refine bodyPost_ret (results_ct rfl _ _ w.heap.size 25 #[.bool false, .slice none 0 0] (0, 0) _ rfl (blk_put (cs := #[.bool false, .slice none 0 0]) (blk_put (cs := #[.bool false, .slice none 0 0]) B2.out 0 _ rfl) 1 _ rfl) Tryd.underlying25 rfl (by kernel_rfl)) rfl ?_
        show Res w r _ _
        rw [hrv.out]
        exact ⟨.slice none 0 0, rfl, New.nil _ _, below_set (below_set HB2.out (Nat.le_refl _)) (Nat.le_refl _)⟩
  · have d1 : decide (s.data.toList.head? = some 45) = false := by rw [hl]; rfl
    have d2 : decide (s.data.toList.head? = some 43) = true := by rw [hl]; rfl
    have z1 : (1 : Int) ≤ (s.size : Int) := by rw [HSE.out, hl, List.length_cons]; omega
    obtain ⟨D, hD⟩ : ∃ D, s.extract 1 s.size = D := ⟨_, rfl⟩
    have hd : D.data.toList = l := by
      rw [← hD, Lib.extract_to_end, hl]
      rfl
    have hds : D.size ≤ 140737488355328 := by
      have e : D.size = D.data.toList.length := Lib.size_eq D
      rw [e, hd]
      have e2 := HSE.out
      rw [hl, List.length_cons] at e2
      have := HSZ.out
      omega
    have HLL := Aside0.mk hl
    have HD := Aside0.mk hd
    have DSZ := Aside0.mk hds
    have HRR := Aside0.mk hr
    rw [d1]
    clear hl hr hds hd d1
    go_wp2_with fail
    refine (HS.out.pre s _ _).mono ?_
    rintro e w' ⟨rfl, rfl⟩
    rw [E43.out, d2]
    clear d2
    by_cases hne : l = []
    · have ei : D.toList.isEmpty = true := by rw [Lib.toList_data, HD.out, hne]; rfl
      have el : D.toList = [] := by rw [Lib.toList_data, HD.out, hne]
      have hrv : Aside0 (r = (false, [], 9)) := ⟨by rw [HRR.out]; unfold digR; rw [if_neg (by simp [hne])]⟩
      clear hne
      go_wp2
      refine bodyPost_ret (results_ct rfl _ _ w.heap.size 25 #[.bool false, .slice none 0 0] (0, 0) _ rfl B1.out Tryd.underlying25 rfl (by kernel_rfl)) rfl ?_
      show Res w r _ _
      rw [hrv.out]
      exact ⟨.slice none 0 0, rfl, New.nil _ _, HB.out⟩

    · have ei : D.toList.isEmpty = false := by rw [Lib.toList_data, HD.out]; simpa using hne
      have el : (D.toList = []) = False := by rw [Lib.toList_data, HD.out]; exact eq_false hne
      have HNE := Aside0.mk hne
      clear hne
      go_wp2_with fail
      refine (HS.out.trim D _ (by have := DSZ.out; omega)).mono ?_
      rw [HD.out]
      rintro e w1 ⟨rfl, hb⟩
      have B2 := Aside0.mk (blk_below B1.out hb)
      have HB2 := Aside0.mk (below_step HB.out hb)
      have hta := trim_all l
      obtain ⟨tl, htl⟩ : ∃ tl, Lib.trimS l ten = tl := ⟨_, rfl⟩
      rw [htl] at hta
      rw [htl]
      obtain ⟨T, hT⟩ : ∃ T : ByteArray, (⟨tl.toArray⟩ : ByteArray) = T := ⟨_, rfl⟩
      have hT2 : T.data.toList = tl := by rw [← hT]
      rw [hT]
      clear hT hb htl
      by_cases hall : l.all isDig = true
      · have ti : T.toList.isEmpty = true := by rw [Lib.toList_data, hT2, hta.mpr hall]; rfl
        have tl' : T.toList = [] := by rw [Lib.toList_data, hT2, hta.mpr hall]
        have hrv : Aside0 (r = mk false (decv l)) := ⟨by rw [HRR.out]; unfold digR; rw [if_pos ⟨HNE.out, hall⟩]⟩
        have HALL := Aside0.mk hall
        clear hta hall hT2 B1 HB HRR
        have hcv : ∀ W, (convert 9 32 (.string D)).run Tryd.prog W = .ok (.slice (some ⟨W.heap.size, 0, none⟩) D.size (grownCap W D.size 0 5)) (Lib.bytesWorld W 5 D) := fun W => Lib.run_convert_string_bytes W _ _ _ D Tryd.underlying9 Tryd.underlying32 Tryd.underlying5
        go_wp2
        have hW1 := blk_new w1 (.cells #[.slice none 0 0] 23 (0, 0))
        have hDl : D.size = l.length := by rw [Lib.size_eq, HD.out]
        obtain ⟨W1, hW⟩ : ∃ W1, w1.alloc (.cells #[.slice none 0 0] 23 (0, 0)) = W1 := ⟨_, rfl⟩
        have hs1 : W1.heap.size = w1.heap.size + 1 := by rw [← hW, World.size_alloc]
        have hbk := blk_alloc B2.out (.cells #[.slice none 0 0] 23 (0, 0))
        have hbw := below_alloc HB2.out (.cells #[.slice none 0 0] 23 (0, 0))
        rw [hW] at hW1 hbk hbw
        rw [hW]
        have hob := Lib.bytesWorld_at_new W1 5 D
        have HCELL := Lib.hid (show ∀ W j, W.heap[W1.heap.size]? = some _ → j < D.size → W.cell? ⟨W1.heap.size, j, none⟩ = some (.int .u8 ((D.data.toList.getD j 0).toNat : Int)) from fun W j h hj => bytes_cell W1 W 5 D hob h j hj)
        obtain ⟨ob, hobe⟩ : ∃ ob, Obj.cells (Lib.bytesCells W1 5 D) 5 ((Lib.bytesCells W1 5 D).size, (Lib.bytesCells W1 5 D).size + 1) = ob := ⟨_, rfl⟩
        rw [hobe] at hob HCELL
        have hw1 := (Lib.bytesWorld_at_old W1 5 D w1.heap.size (by omega)).trans hW1
        have hbk2 := (Lib.bytesWorld_at_old W1 5 D w.heap.size (blk_lt hbk)).trans hbk
        have hbw2 := below_bytes hbw (below_size hbw) 5 D
        obtain ⟨bb, hbb⟩ : ∃ bb, W1.heap.size = bb := ⟨_, rfl⟩
        obtain ⟨bm, hbm⟩ : ∃ bm, w1.heap.size = bm := ⟨_, rfl⟩
        rw [hbb] at hob HCELL
        rw [hbm] at hw1
        have hlt1 : w.heap.size ≤ bm := by rw [← hbm]; exact below_size HB2.out
        have hlt2 : bm < bb := by omega
        have hdl0 := HD.out
        rw [hdl0] at HCELL
        clear hdl0
        have hb3 : w1.heap.size + 1 = bb := by omega
        rw [hb3, hbm]
        obtain ⟨gc, hgc⟩ : ∃ gc, grownCap W1 D.size 0 5 = gc := ⟨_, rfl⟩
        rw [hgc]
        obtain ⟨Wb, hWb⟩ : ∃ Wb, Lib.bytesWorld W1 5 D = Wb := ⟨_, rfl⟩
        rw [hWb] at hob hw1 hbk2 hbw2
        rw [hWb]
        have B3 := Aside0.mk hbk2
        have HB3 := Aside0.mk hbw2
        have HOB := Aside0.mk hob
        have HM := Aside0.mk hw1
        have HL1 := Aside0.mk hlt1
        have HL2 := Aside0.mk hlt2
        have HDL := Aside0.mk hDl
        clear hW hW1 hs1 hbk hbw hobe hw1 hbk2 hbw2 hbb hbm hlt1 hlt2 hb3 hgc hWb hob hcv hDl B2 HB2
        go_loopw [30] (fun v30 w' => ∃ i : Nat, v30 = .int .i64 i ∧ Aside0 (ParI w.heap.size bm l i w') ∧ Aside0 (w'.heap[bb]? = some ob) ∧ Aside0 (w'.heap[w.heap.size]? = some (.cells #[.bool false, .slice none 0 0] 25 (0, 0))) ∧ Aside0 (Below w.heap.size w w')) (fun v30 _ => D.size - (intOf v30).toNat)
        case atStart => exact ⟨0, rfl, ⟨⟨Nat.zero_le _, _, [], HM.out, New.nil _ _, by intro x hx; simp at hx, rfl, rfl, by simp⟩⟩, HOB, B3, HB3⟩
        case round =>
          clear B3 HB3 HOB HM
          obtain ⟨i, rfl, HI, HOB, B3, HB3⟩ := hrel
          obtain ⟨hil, v, M, hM, hN, okM, trM, magM, lenM⟩ := HI.out
          obtain ⟨Am, cm, rfl, hcm, hlm⟩ := New.lim hN
          have hdl := HDL.out
          have hsz := DSZ.out
          by_cases hi : i < D.size
          · have i0 : (0 : Int) ≤ (i : Int) := by omega
            have i1 : (i : Int) < (D.size : Int) := by omega
            have p0 := eq_true i0
            have q0 := eq_true i1
            have hcell := HCELL.out wr i HOB.out hi
            have hdg := all_getD l HALL.out i (by omega)
            obtain ⟨dg, hdge⟩ : ∃ dg, (l.getD i 0).toNat - 48 = dg := ⟨_, rfl⟩
            have hd10 : dg < 10 := by omega
            rw [show (l.getD i 0).toNat = dg + 48 by omega] at hcell
            obtain ⟨d8, hd8⟩ : ∃ d8 : Int, ((dg + 48 : Nat) : Int) = d8 := ⟨_, rfl⟩
            rw [hd8] at hcell
            have hm0 : (wr.alloc (.cells #[.int .u8 d8] 5 (0, 0))).cell? ⟨bm, 0, none⟩ = some (.slice Am M.length cm) := (blk_cell (blk_alloc hM _) 0).trans rfl
            have hb0 : (wr.alloc (.cells #[.int .u8 d8] 5 (0, 0))).cell? ⟨wr.heap.size, 0, none⟩ = some (.int .u8 ((dg + 48 : Nat) : Int)) := by rw [hd8]; exact (blk_cell (blk_new wr _) 0).trans rfl
            obtain ⟨n2, hn2⟩ : ∃ n2, M.length + 1 = n2 := ⟨_, rfl⟩
            have CALL := Lib.hid (row_parse ⟨wr.heap.size, 0, none⟩ ⟨bm, 0, none⟩ Am cm M dg n2 _ hb0 hm0 (hlm.alloc _) okM (by omega) hd10)
            have wn0 : ((M.length : Int) + 1) = (n2 : Int) := by omega
            have wn1 : IntKind.i64.wrap ((M.length : Int) + 1) = (n2 : Int) := i64_of wn0 (by omega) (by omega)
            have wn2 : wrap64 ((M.length : Int) + 1) = (n2 : Int) := w64_of wn0 (by omega) (by omega)
            have wi0 : ((i : Int) + 1) = ((i + 1 : Nat) : Int) := by omega
            have HWI := Aside0.mk wi0
            have hm63 : ((i + 1 : Nat) : Int) ≤ 9223372036854775807 := by omega
            have wi1 : IntKind.i64.wrap ((i : Int) + 1) = ((i + 1 : Nat) : Int) := i64_of wi0 (Int.le_trans (by decide) (Int.natCast_nonneg _)) hm63
            have wi2 : wrap64 ((i : Int) + 1) = ((i + 1 : Nat) : Int) := w64_of wi0 (Int.le_trans (by decide) (Int.natCast_nonneg _)) hm63
            have HM := Aside0.mk hM
            have OM := Aside0.mk okM
            have TM := Aside0.mk trM
            have MM := Aside0.mk magM
            have LM := Aside0.mk lenM
            have HN2 := Aside0.mk hn2
            have HDG := Aside0.mk hdge
            have HD10 := Aside0.mk hd10
            have HII := Aside0.mk hi
            clear hb0 wn0 wi0 hm63 hil hM hN okM trM magM lenM hcm hlm hdl hsz hi hdg hdge hd10 hd8 hn2 HI i0 i1
            go_wp2_with fail
            refine CALL.out.mono ?_
            clear CALL
            rintro e w2 ⟨v1, rfl, hn1, hb1⟩
            have hval := ten_value OM.out HD10.out
            rw [HN2.out] at hval
            have okP := pre_ok (tenF M dg) n2
            have lenP := pre_length (tenF M dg) n2
            generalize pre (tenF M dg) n2 = P at *
            obtain ⟨A1, c1, rfl, hc1, hl1⟩ := New.lim hn1
            have hbk := blk_below (blk_alloc HM.out (.cells #[.int .u8 d8] 5 (0, 0))) hb1
            have hok := blk_below (blk_alloc HOB.out (.cells #[.int .u8 d8] 5 (0, 0))) hb1
            have hrk := blk_below (blk_alloc B3.out (.cells #[.int .u8 d8] 5 (0, 0))) hb1
            have hbl := below_step (below_alloc HB3.out (.cells #[.int .u8 d8] 5 (0, 0))) hb1
            have hn1' : New w2 w.heap.size (.slice A1 P.length c1) P := New.lower hn1 (by rw [World.size_alloc]; have := below_size HB3.out; omega)
            have HNP := Aside0.mk hn1'
            have HLP := Aside0.mk hl1
            have HCP := Aside0.mk hc1
            have OP := Aside0.mk okP
            have VP := Aside0.mk hval
            have HMK := Aside0.mk hbk
            have HOK := Aside0.mk hok
            have HRK := Aside0.mk hrk
            have HBL := Aside0.mk hbl
            have hcm2 := (blk_cell hbk 0)
            have hfm2 := blk_frozen hbk 0
            clear hn1 hb1 hval okP lenP hc1 hl1 hbk hok hrk hbl hn1' hcell hm0
            go_wp2_with fail
            refine (trim_calls A1 c1 P _ HLP.out HCP.out).mono ?_
            rintro e w' ⟨rfl, ⟨nd, rfl⟩⟩
            have hcm3 : (w2.drewN nd).cell? ⟨bm, 0, none⟩ = _ := hcm2
            have hfm3 : (w2.drewN nd).frozen? ⟨bm, 0, none⟩ = false := hfm2
            have hM3 := blk_put (blk_drewN HMK.out nd) 0 (.slice A1 (tr P).length c1) rfl
            have hO3 : ((w2.drewN nd).setCell ⟨bm, 0, none⟩ (.slice A1 (tr P).length c1)).heap[bb]? = some ob := (Below.heap_setCell _ _ _ _ (by dsimp only; have := HL2.out; omega)).trans (blk_drewN HOK.out nd)
            have hne : w.heap.size ≠ bm := by
              intro h
              have h1 := HMK.out
              have h2 := HRK.out
              rw [← h, h2] at h1
              injection h1 with h1
              injection h1 with _ h1
              exact absurd h1 (by decide)
            have hR3 := blk_far (blk_drewN HRK.out nd) (p := ⟨bm, 0, none⟩) hne (.slice A1 (tr P).length c1)
            have hB3 := below_set (j := 0) (v := .slice A1 (tr P).length c1) (pw_below_drewN HBL.out nd) HL1.out
            have hN3 : New ((w2.drewN nd).setCell ⟨bm, 0, none⟩ (.slice A1 (tr P).length c1)) w.heap.size (.slice A1 (tr P).length c1) (tr P) := by
              have h1 := New.take (HNP.out) (tr P).length (tr_len_le P)
              rw [tr_take] at h1
              exact New.set23 h1 (blk_drewN HMK.out nd) 0 _
            have HM3 := Aside0.mk hM3
            have HO3 := Aside0.mk hO3
            have HR3 := Aside0.mk hR3
            have HBB3 := Aside0.mk hB3
            have HN3 := Aside0.mk hN3
            have hz0 := (cell_at hR3).1
            have hz1 := (cell_at hR3).2
            have hy0 := blk_frozen hR3 0
            have hy1 := blk_frozen hR3 1
            have HZ := Aside0.mk (And.intro hz0 (And.intro hz1 (And.intro hy0 hy1)))
            clear hM3 hO3 hR3 hB3 hN3 hne hz0 hz1 hy0 hy1
            by_cases h48 : 48 < (tr P).length
            · have t1 : decide (48 < (tr P).length) = true := decide_eq_true h48
              have t2 : decide ((48 : Int) < ((tr P).length : Int)) = true := decide_eq_true (by omega)
              have hbig := mk_big false (decv l) 0 P OP.out (by
                have h1 := decv_mono (l.take (i + 1)) (l.drop (i + 1))
                rw [List.take_append_drop] at h1
                rw [take_snoc8 l i (by have := HDL.out; have := HII.out; omega), decv_snoc, HDG.out, ← MM.out] at h1
                rw [VP.out]
                exact h1) h48
              have hrv2 : Aside0 (r = (false, [], 6)) := ⟨by rw [hrv.out, hbig]⟩
              clear hbig h48
              obtain ⟨hz0, hz1, _, _⟩ := HZ.out
              have hy0 := blk_frozen HRK.out 0
              have hy1 := blk_frozen HRK.out 1
              go_wp2
              refine bodyPost_ret (results_ct rfl _ _ w.heap.size 25 #[.bool false, .slice none 0 0] (0, 0) _ rfl (blk_put (cs := #[.bool false, .slice none 0 0]) (blk_put (cs := #[.bool false, .slice none 0 0]) HR3.out 0 _ rfl) 1 _ rfl) Tryd.underlying25 rfl (by kernel_rfl)) rfl ?_
              show Res w r _ _
              rw [hrv2.out]
              exact ⟨.slice none 0 0, rfl, New.nil _ _, below_set (below_set HBB3.out (Nat.le_refl _)) (Nat.le_refl _)⟩
            · have t1 : decide (48 < (tr P).length) = false := decide_eq_false h48
              have t2 : decide ((48 : Int) < ((tr P).length : Int)) = false := decide_eq_false (by omega)
              have H48 := Aside0.mk h48
              clear h48
              go_wp2
              go_roundw
              case rel =>
                refine ⟨i + 1, by go_num, ⟨⟨by have := HDL.out; have := HII.out; omega, _, tr P, HM3.out, HN3.out, ok_tr OP.out, tr_tr P, ?_, by have := H48.out; omega⟩⟩, HO3, HR3, HBB3⟩
                rw [mag_tr, VP.out, take_snoc8 l i (by have := HDL.out; have := HII.out; omega), decv_snoc, HDG.out, MM.out]
              case measure => have := HII.out; simp [intOf]; omega
          · have hie : i = l.length := by omega
            have hv : mag M = decv l := by rw [magM, hie, List.take_length]
            have t1 : decide (i < D.size) = false := decide_eq_false hi
            have t2 : decide ((i : Int) < (D.size : Int)) = false := decide_eq_false (by omega)
            have hmc := (blk_cell hM 0)
            have LM := Aside0.mk hlm
            have CM := Aside0.mk hcm
            have OM := Aside0.mk okM
            have VM := Aside0.mk hv
            have L48 := Aside0.mk lenM
            have HN := Aside0.mk hN
            clear hil hM hN okM trM magM lenM hcm hlm hdl hsz hi hie hv HI
            go_wp2_with fail
            refine (made_calls false Am cm M _ LM.out CM.out OM.out (by have := L48.out; omega)).mono ?_
            rw [VM.out, ← hrv.out]
            rintro e w2 ⟨v, rfl, hnew, hb⟩
            obtain ⟨Ar, cr, er, _, _⟩ := New.lim hnew
            subst er
            obtain ⟨r1, r2, r3⟩ := r
            have RN := Aside0.mk (New.lower (base' := w.heap.size) hnew (below_size HB3.out))
            have B4 := Aside0.mk (blk_below B3.out hb)
            have HB4 := Aside0.mk (below_step HB3.out hb)
            have z0 := (cell_at B4.out).1
            have z1 := (cell_at B4.out).2
            have f0 := blk_frozen B4.out 0
            have f1 := blk_frozen B4.out 1
            clear hnew hb
            go_wp2
            refine bodyPost_ret (results_ct rfl _ _ w.heap.size 25 #[.bool r1, .slice Ar r2.length cr] (0, 0) _ rfl (blk_put (cs := #[.bool r1, .slice none 0 0]) (blk_put (cs := #[.bool false, .slice none 0 0]) B4.out 0 _ rfl) 1 _ rfl) Tryd.underlying25 rfl (by kernel_rfl)) rfl ?_
            exact ⟨_, rfl, New.set (New.set RN.out B4.out 0 _) (blk_put (cs' := #[.bool r1, .slice none 0 0]) B4.out 0 _ rfl) 1 _, below_set (below_set HB4.out (Nat.le_refl _)) (Nat.le_refl _)⟩
      · have hne2 : tl ≠ [] := fun h => hall (hta.mp h)
        have ti : T.toList.isEmpty = false := by rw [Lib.toList_data, hT2]; simpa using hne2
        have tl' : (T.toList = []) = False := by rw [Lib.toList_data, hT2]; exact eq_false hne2
        have hrv : Aside0 (r = (false, [], 9)) := ⟨by rw [HRR.out]; unfold digR; rw [if_neg (fun h => hall h.2)]⟩
        have z0 := (cell_at B2.out).1
        have z1 := (cell_at B2.out).2
        have f0 := blk_frozen B2.out 0
        have f1 := blk_frozen B2.out 1
        clear hta hall hT2 hne2
        go_wp2
        refine bodyPost_ret (results_ct rfl _ _ w.heap.size 25 #[.bool false, .slice none 0 0] (0, 0) _ rfl (blk_put (cs := #[.bool false, .slice none 0 0]) (blk_put (cs := #[.bool false, .slice none 0 0]) B2.out 0 _ rfl) 1 _ rfl) Tryd.underlying25 rfl (by kernel_rfl)) rfl ?_
        show Res w r _ _
        rw [hrv.out]
        exact ⟨.slice none 0 0, rfl, New.nil _ _, below_set (below_set HB2.out (Nat.le_refl _)) (Nat.le_refl _)⟩
  · have d1 : decide (s.data.toList.head? = some 45) = false := decide_eq_false h1
    have d2 : decide (s.data.toList.head? = some 43) = false := decide_eq_false h2
    obtain ⟨l, hl⟩ : ∃ l, s.data.toList = l := ⟨_, rfl⟩
    obtain ⟨D, hD⟩ : ∃ D, D = s := ⟨_, rfl⟩
    subst hD
    have hds : D.size ≤ 140737488355328 := by have := HSZ.out; omega
    rw [hl] at hr
    have HD := Aside0.mk hl
    have DSZ := Aside0.mk hds
    have HRR := Aside0.mk hr
    rw [d1]
    clear hl hr hds h1 h2 d1
    go_wp2_with fail
    refine (HS.out.pre D _ _).mono ?_
    rintro e w' ⟨rfl, rfl⟩
    rw [E43.out, d2]
    clear d2
    by_cases hne : l = []
    · have ei : D.toList.isEmpty = true := by rw [Lib.toList_data, HD.out, hne]; rfl
      have el : D.toList = [] := by rw [Lib.toList_data, HD.out, hne]
      have hrv : Aside0 (r = (false, [], 9)) := ⟨by rw [HRR.out]; unfold digR; rw [if_neg (by simp [hne])]⟩
      clear hne
      go_wp2
      refine bodyPost_ret (results_ct rfl _ _ w.heap.size 25 #[.bool false, .slice none 0 0] (0, 0) _ rfl B1.out Tryd.underlying25 rfl (by kernel_rfl)) rfl ?_
      show Res w r _ _
      rw [hrv.out]
      exact ⟨.slice none 0 0, rfl, New.nil _ _, HB.out⟩

    · have ei : D.toList.isEmpty = false := by rw [Lib.toList_data, HD.out]; simpa using hne
      have el : (D.toList = []) = False := by rw [Lib.toList_data, HD.out]; exact eq_false hne
      have HNE := Aside0.mk hne
      clear hne
      go_wp2_with fail
      refine (HS.out.trim D _ (by have := DSZ.out; omega)).mono ?_
      rw [HD.out]
      rintro e w1 ⟨rfl, hb⟩
      have B2 := Aside0.mk (blk_below B1.out hb)
      have HB2 := Aside0.mk (below_step HB.out hb)
      have hta := trim_all l
      obtain ⟨tl, htl⟩ : ∃ tl, Lib.trimS l ten = tl := ⟨_, rfl⟩
      rw [htl] at hta
      rw [htl]
      obtain ⟨T, hT⟩ : ∃ T : ByteArray, (⟨tl.toArray⟩ : ByteArray) = T := ⟨_, rfl⟩
      have hT2 : T.data.toList = tl := by rw [← hT]
      rw [hT]
      clear hT hb htl
      by_cases hall : l.all isDig = true
      · have ti : T.toList.isEmpty = true := by rw [Lib.toList_data, hT2, hta.mpr hall]; rfl
        have tl' : T.toList = [] := by rw [Lib.toList_data, hT2, hta.mpr hall]
        have hrv : Aside0 (r = mk false (decv l)) := ⟨by rw [HRR.out]; unfold digR; rw [if_pos ⟨HNE.out, hall⟩]⟩
        have HALL := Aside0.mk hall
        clear hta hall hT2 B1 HB HRR
        have hcv : ∀ W, (convert 9 32 (.string D)).run Tryd.prog W = .ok (.slice (some ⟨W.heap.size, 0, none⟩) D.size (grownCap W D.size 0 5)) (Lib.bytesWorld W 5 D) := fun W => Lib.run_convert_string_bytes W _ _ _ D Tryd.underlying9 Tryd.underlying32 Tryd.underlying5
        go_wp2
        have hW1 := blk_new w1 (.cells #[.slice none 0 0] 23 (0, 0))
        have hDl : D.size = l.length := by rw [Lib.size_eq, HD.out]
        obtain ⟨W1, hW⟩ : ∃ W1, w1.alloc (.cells #[.slice none 0 0] 23 (0, 0)) = W1 := ⟨_, rfl⟩
        have hs1 : W1.heap.size = w1.heap.size + 1 := by rw [← hW, World.size_alloc]
        have hbk := blk_alloc B2.out (.cells #[.slice none 0 0] 23 (0, 0))
        have hbw := below_alloc HB2.out (.cells #[.slice none 0 0] 23 (0, 0))
        rw [hW] at hW1 hbk hbw
        rw [hW]
        have hob := Lib.bytesWorld_at_new W1 5 D
        have HCELL := Lib.hid (show ∀ W j, W.heap[W1.heap.size]? = some _ → j < D.size → W.cell? ⟨W1.heap.size, j, none⟩ = some (.int .u8 ((D.data.toList.getD j 0).toNat : Int)) from fun W j h hj => bytes_cell W1 W 5 D hob h j hj)
        obtain ⟨ob, hobe⟩ : ∃ ob, Obj.cells (Lib.bytesCells W1 5 D) 5 ((Lib.bytesCells W1 5 D).size, (Lib.bytesCells W1 5 D).size + 1) = ob := ⟨_, rfl⟩
        rw [hobe] at hob HCELL
        have hw1 := (Lib.bytesWorld_at_old W1 5 D w1.heap.size (by omega)).trans hW1
        have hbk2 := (Lib.bytesWorld_at_old W1 5 D w.heap.size (blk_lt hbk)).trans hbk
        have hbw2 := below_bytes hbw (below_size hbw) 5 D
        obtain ⟨bb, hbb⟩ : ∃ bb, W1.heap.size = bb := ⟨_, rfl⟩
        obtain ⟨bm, hbm⟩ : ∃ bm, w1.heap.size = bm := ⟨_, rfl⟩
        rw [hbb] at hob HCELL
        rw [hbm] at hw1
        have hlt1 : w.heap.size ≤ bm := by rw [← hbm]; exact below_size HB2.out
        have hlt2 : bm < bb := by omega
        have hdl0 := HD.out
        rw [hdl0] at HCELL
        clear hdl0
        have hb3 : w1.heap.size + 1 = bb := by omega
        rw [hb3, hbm]
        obtain ⟨gc, hgc⟩ : ∃ gc, grownCap W1 D.size 0 5 = gc := ⟨_, rfl⟩
        rw [hgc]
        obtain ⟨Wb, hWb⟩ : ∃ Wb, Lib.bytesWorld W1 5 D = Wb := ⟨_, rfl⟩
        rw [hWb] at hob hw1 hbk2 hbw2
        rw [hWb]
        have B3 := Aside0.mk hbk2
        have HB3 := Aside0.mk hbw2
        have HOB := Aside0.mk hob
        have HM := Aside0.mk hw1
        have HL1 := Aside0.mk hlt1
        have HL2 := Aside0.mk hlt2
        have HDL := Aside0.mk hDl
        clear hW hW1 hs1 hbk hbw hobe hw1 hbk2 hbw2 hbb hbm hlt1 hlt2 hb3 hgc hWb hob hcv hDl B2 HB2
        go_loopw [30] (fun v30 w' => ∃ i : Nat, v30 = .int .i64 i ∧ Aside0 (ParI w.heap.size bm l i w') ∧ Aside0 (w'.heap[bb]? = some ob) ∧ Aside0 (w'.heap[w.heap.size]? = some (.cells #[.bool false, .slice none 0 0] 25 (0, 0))) ∧ Aside0 (Below w.heap.size w w')) (fun v30 _ => D.size - (intOf v30).toNat)
        case atStart => exact ⟨0, rfl, ⟨⟨Nat.zero_le _, _, [], HM.out, New.nil _ _, by intro x hx; simp at hx, rfl, rfl, by simp⟩⟩, HOB, B3, HB3⟩
        case round =>
          clear B3 HB3 HOB HM
          obtain ⟨i, rfl, HI, HOB, B3, HB3⟩ := hrel
          obtain ⟨hil, v, M, hM, hN, okM, trM, magM, lenM⟩ := HI.out
          obtain ⟨Am, cm, rfl, hcm, hlm⟩ := New.lim hN
          have hdl := HDL.out
          have hsz := DSZ.out
          by_cases hi : i < D.size
          · have i0 : (0 : Int) ≤ (i : Int) := by omega
            have i1 : (i : Int) < (D.size : Int) := by omega
            have p0 := eq_true i0
            have q0 := eq_true i1
            have hcell := HCELL.out wr i HOB.out hi
            have hdg := all_getD l HALL.out i (by omega)
            obtain ⟨dg, hdge⟩ : ∃ dg, (l.getD i 0).toNat - 48 = dg := ⟨_, rfl⟩
            have hd10 : dg < 10 := by omega
            rw [show (l.getD i 0).toNat = dg + 48 by omega] at hcell
            obtain ⟨d8, hd8⟩ : ∃ d8 : Int, ((dg + 48 : Nat) : Int) = d8 := ⟨_, rfl⟩
            rw [hd8] at hcell
            have hm0 : (wr.alloc (.cells #[.int .u8 d8] 5 (0, 0))).cell? ⟨bm, 0, none⟩ = some (.slice Am M.length cm) := (blk_cell (blk_alloc hM _) 0).trans rfl
            have hb0 : (wr.alloc (.cells #[.int .u8 d8] 5 (0, 0))).cell? ⟨wr.heap.size, 0, none⟩ = some (.int .u8 ((dg + 48 : Nat) : Int)) := by rw [hd8]; exact (blk_cell (blk_new wr _) 0).trans rfl
            obtain ⟨n2, hn2⟩ : ∃ n2, M.length + 1 = n2 := ⟨_, rfl⟩
            have CALL := Lib.hid (row_parse ⟨wr.heap.size, 0, none⟩ ⟨bm, 0, none⟩ Am cm M dg n2 _ hb0 hm0 (hlm.alloc _) okM (by omega) hd10)
            have wn0 : ((M.length : Int) + 1) = (n2 : Int) := by omega
            have wn1 : IntKind.i64.wrap ((M.length : Int) + 1) = (n2 : Int) := i64_of wn0 (by omega) (by omega)
            have wn2 : wrap64 ((M.length : Int) + 1) = (n2 : Int) := w64_of wn0 (by omega) (by omega)
            have wi0 : ((i : Int) + 1) = ((i + 1 : Nat) : Int) := by omega
            have HWI := Aside0.mk wi0
            have hm63 : ((i + 1 : Nat) : Int) ≤ 9223372036854775807 := by omega
            have wi1 : IntKind.i64.wrap ((i : Int) + 1) = ((i + 1 : Nat) : Int) := i64_of wi0 (Int.le_trans (by decide) (Int.natCast_nonneg _)) hm63
            have wi2 : wrap64 ((i : Int) + 1) = ((i + 1 : Nat) : Int) := w64_of wi0 (Int.le_trans (by decide) (Int.natCast_nonneg _)) hm63
            have HM := Aside0.mk hM
            have OM := Aside0.mk okM
            have TM := Aside0.mk trM
            have MM := Aside0.mk magM
            have LM := Aside0.mk lenM
            have HN2 := Aside0.mk hn2
            have HDG := Aside0.mk hdge
            have HD10 := Aside0.mk hd10
            have HII := Aside0.mk hi
            clear hb0 wn0 wi0 hm63 hil hM hN okM trM magM lenM hcm hlm hdl hsz hi hdg hdge hd10 hd8 hn2 HI i0 i1
            go_wp2_with fail
            refine CALL.out.mono ?_
            clear CALL
            rintro e w2 ⟨v1, rfl, hn1, hb1⟩
            have hval := ten_value OM.out HD10.out
            rw [HN2.out] at hval
            have okP := pre_ok (tenF M dg) n2
            have lenP := pre_length (tenF M dg) n2
            generalize pre (tenF M dg) n2 = P at *
            obtain ⟨A1, c1, rfl, hc1, hl1⟩ := New.lim hn1
            have hbk := blk_below (blk_alloc HM.out (.cells #[.int .u8 d8] 5 (0, 0))) hb1
            have hok := blk_below (blk_alloc HOB.out (.cells #[.int .u8 d8] 5 (0, 0))) hb1
            have hrk := blk_below (blk_alloc B3.out (.cells #[.int .u8 d8] 5 (0, 0))) hb1
            have hbl := below_step (below_alloc HB3.out (.cells #[.int .u8 d8] 5 (0, 0))) hb1
            have hn1' : New w2 w.heap.size (.slice A1 P.length c1) P := New.lower hn1 (by rw [World.size_alloc]; have := below_size HB3.out; omega)
            have HNP := Aside0.mk hn1'
            have HLP := Aside0.mk hl1
            have HCP := Aside0.mk hc1
            have OP := Aside0.mk okP
            have VP := Aside0.mk hval
            have HMK := Aside0.mk hbk
            have HOK := Aside0.mk hok
            have HRK := Aside0.mk hrk
            have HBL := Aside0.mk hbl
            have hcm2 := (blk_cell hbk 0)
            have hfm2 := blk_frozen hbk 0
            clear hn1 hb1 hval okP lenP hc1 hl1 hbk hok hrk hbl hn1' hcell hm0
            go_wp2_with fail
            refine (trim_calls A1 c1 P _ HLP.out HCP.out).mono ?_
            rintro e w' ⟨rfl, ⟨nd, rfl⟩⟩
            have hcm3 : (w2.drewN nd).cell? ⟨bm, 0, none⟩ = _ := hcm2
            have hfm3 : (w2.drewN nd).frozen? ⟨bm, 0, none⟩ = false := hfm2
            have hM3 := blk_put (blk_drewN HMK.out nd) 0 (.slice A1 (tr P).length c1) rfl
            have hO3 : ((w2.drewN nd).setCell ⟨bm, 0, none⟩ (.slice A1 (tr P).length c1)).heap[bb]? = some ob := (Below.heap_setCell _ _ _ _ (by dsimp only; have := HL2.out; omega)).trans (blk_drewN HOK.out nd)
            have hne : w.heap.size ≠ bm := by
              intro h
              have h1 := HMK.out
              have h2 := HRK.out
              rw [← h, h2] at h1
              injection h1 with h1
              injection h1 with _ h1
              exact absurd h1 (by decide)
            have hR3 := blk_far (blk_drewN HRK.out nd) (p := ⟨bm, 0, none⟩) hne (.slice A1 (tr P).length c1)
            have hB3 := below_set (j := 0) (v := .slice A1 (tr P).length c1) (pw_below_drewN HBL.out nd) HL1.out
            have hN3 : New ((w2.drewN nd).setCell ⟨bm, 0, none⟩ (.slice A1 (tr P).length c1)) w.heap.size (.slice A1 (tr P).length c1) (tr P) := by
              have h1 := New.take (HNP.out) (tr P).length (tr_len_le P)
              rw [tr_take] at h1
              exact New.set23 h1 (blk_drewN HMK.out nd) 0 _
            have HM3 := Aside0.mk hM3
            have HO3 := Aside0.mk hO3
            have HR3 := Aside0.mk hR3
            have HBB3 := Aside0.mk hB3
            have HN3 := Aside0.mk hN3
            have hz0 := (cell_at hR3).1
            have hz1 := (cell_at hR3).2
            have hy0 := blk_frozen hR3 0
            have hy1 := blk_frozen hR3 1
            have HZ := Aside0.mk (And.intro hz0 (And.intro hz1 (And.intro hy0 hy1)))
            clear hM3 hO3 hR3 hB3 hN3 hne hz0 hz1 hy0 hy1
            by_cases h48 : 48 < (tr P).length
            · have t1 : decide (48 < (tr P).length) = true := decide_eq_true h48
              have t2 : decide ((48 : Int) < ((tr P).length : Int)) = true := decide_eq_true (by omega)
              have hbig := mk_big false (decv l) 0 P OP.out (by
                have h1 := decv_mono (l.take (i + 1)) (l.drop (i + 1))
                rw [List.take_append_drop] at h1
                rw [take_snoc8 l i (by have := HDL.out; have := HII.out; omega), decv_snoc, HDG.out, ← MM.out] at h1
                rw [VP.out]
                exact h1) h48
              have hrv2 : Aside0 (r = (false, [], 6)) := ⟨by rw [hrv.out, hbig]⟩
              clear hbig h48
              obtain ⟨hz0, hz1, _, _⟩ := HZ.out
              have hy0 := blk_frozen HRK.out 0
              have hy1 := blk_frozen HRK.out 1
              go_wp2
              refine bodyPost_ret (results_ct rfl _ _ w.heap.size 25 #[.bool false, .slice none 0 0] (0, 0) _ rfl (blk_put (cs := #[.bool false, .slice none 0 0]) (blk_put (cs := #[.bool false, .slice none 0 0]) HR3.out 0 _ rfl) 1 _ rfl) Tryd.underlying25 rfl (by kernel_rfl)) rfl ?_
              show Res w r _ _
              rw [hrv2.out]
              exact ⟨.slice none 0 0, rfl, New.nil _ _, below_set (below_set HBB3.out (Nat.le_refl _)) (Nat.le_refl _)⟩
            · have t1 : decide (48 < (tr P).length) = false := decide_eq_false h48
              have t2 : decide ((48 : Int) < ((tr P).length : Int)) = false := decide_eq_false (by omega)
              have H48 := Aside0.mk h48
              clear h48
              go_wp2
              go_roundw
              case rel =>
                refine ⟨i + 1, by go_num, ⟨⟨by have := HDL.out; have := HII.out; omega, _, tr P, HM3.out, HN3.out, ok_tr OP.out, tr_tr P, ?_, by have := H48.out; omega⟩⟩, HO3, HR3, HBB3⟩
                rw [mag_tr, VP.out, take_snoc8 l i (by have := HDL.out; have := HII.out; omega), decv_snoc, HDG.out, MM.out]
              case measure => have := HII.out; simp [intOf]; omega
          · have hie : i = l.length := by omega
            have hv : mag M = decv l := by rw [magM, hie, List.take_length]
            have t1 : decide (i < D.size) = false := decide_eq_false hi
            have t2 : decide ((i : Int) < (D.size : Int)) = false := decide_eq_false (by omega)
            have hmc := (blk_cell hM 0)
            have LM := Aside0.mk hlm
            have CM := Aside0.mk hcm
            have OM := Aside0.mk okM
            have VM := Aside0.mk hv
            have L48 := Aside0.mk lenM
            have HN := Aside0.mk hN
            clear hil hM hN okM trM magM lenM hcm hlm hdl hsz hi hie hv HI
            go_wp2_with fail
            refine (made_calls false Am cm M _ LM.out CM.out OM.out (by have := L48.out; omega)).mono ?_
            rw [VM.out, ← hrv.out]
            rintro e w2 ⟨v, rfl, hnew, hb⟩
            obtain ⟨Ar, cr, er, _, _⟩ := New.lim hnew
            subst er
            obtain ⟨r1, r2, r3⟩ := r
            have RN := Aside0.mk (New.lower (base' := w.heap.size) hnew (below_size HB3.out))
            have B4 := Aside0.mk (blk_below B3.out hb)
            have HB4 := Aside0.mk (below_step HB3.out hb)
            have z0 := (cell_at B4.out).1
            have z1 := (cell_at B4.out).2
            have f0 := blk_frozen B4.out 0
            have f1 := blk_frozen B4.out 1
            clear hnew hb
            go_wp2
            refine bodyPost_ret (results_ct rfl _ _ w.heap.size 25 #[.bool r1, .slice Ar r2.length cr] (0, 0) _ rfl (blk_put (cs := #[.bool r1, .slice none 0 0]) (blk_put (cs := #[.bool false, .slice none 0 0]) B4.out 0 _ rfl) 1 _ rfl) Tryd.underlying25 rfl (by kernel_rfl)) rfl ?_
            exact ⟨_, rfl, New.set (New.set RN.out B4.out 0 _) (blk_put (cs' := #[.bool r1, .slice none 0 0]) B4.out 0 _ rfl) 1 _, below_set (below_set HB4.out (Nat.le_refl _)) (Nat.le_refl _)⟩
      · have hne2 : tl ≠ [] := fun h => hall (hta.mp h)
        have ti : T.toList.isEmpty = false := by rw [Lib.toList_data, hT2]; simpa using hne2
        have tl' : (T.toList = []) = False := by rw [Lib.toList_data, hT2]; exact eq_false hne2
        have hrv : Aside0 (r = (false, [], 9)) := ⟨by rw [HRR.out]; unfold digR; rw [if_neg (fun h => hall h.2)]⟩
        have z0 := (cell_at B2.out).1
        have z1 := (cell_at B2.out).2
        have f0 := blk_frozen B2.out 0
        have f1 := blk_frozen B2.out 1
        clear hta hall hT2 hne2
        go_wp2
        refine bodyPost_ret (results_ct rfl _ _ w.heap.size 25 #[.bool false, .slice none 0 0] (0, 0) _ rfl (blk_put (cs := #[.bool false, .slice none 0 0]) (blk_put (cs := #[.bool false, .slice none 0 0]) B2.out 0 _ rfl) 1 _ rfl) Tryd.underlying25 rfl (by kernel_rfl)) rfl ?_
        show Res w r _ _
        rw [hrv.out]
        exact ⟨.slice none 0 0, rfl, New.nil _ _, below_set (below_set HB2.out (Nat.le_refl _)) (Nat.le_refl _)⟩
end Go.Proofs.YthhpnlbeniihhaaDoor.NumU
