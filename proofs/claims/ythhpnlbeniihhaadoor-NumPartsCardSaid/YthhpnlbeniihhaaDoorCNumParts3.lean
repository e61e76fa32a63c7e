/- Of any two numbers: the greatest number that divides both, and what is left of them (law NumParts). Conditions: none. -/
import Derived.Test.YthhpnlbeniihhaaDoorCards
import Derived.WalkKit
import Derived.ProofKit
import Derived.OpenShut
import Derived.ShutString
import Derived.ChangeOld
import Derived.ChangeStays
import Derived.ChangeSlices
import Derived.Below
import Derived.SizedLaws
import Derived.Deep.DeepHandedRow
import Derived.Lib.LaidTab
import Derived.LaidLaws
import Derived.Carry
import Derived.Test.YthhpnlbeniihhaaDoorProg
import Derived.Deep.Draws
import Derived.Deep.AppendLies
import Derived.Maps.AppendAt
import Derived.OwnWalk
import Derived.Laws.BytesArg
import Derived.Laws.MakeOwn
import Derived.Laws.OwnMore
import Derived.Deep.OwnRows
import Derived.Tactics
import Derived.Lib.ConvBytes
import Derived.Laws.Slices
import Derived.KernelRfl
import Derived.RowKit3
import Derived.Deep.LoopGhost
import Derived.Deep.QuietTactic
import Derived.BigQuiet
import Derived.WideLaws
import Derived.Deep.DeepCutAuto
import Derived.Deep.CutBlock
import Derived.Deep.RegionHeld3
import Derived.Laws.Rows
import Derived.Lib.AppendStr
import Derived.ArgAppend
import Derived.Laws.IdiomCopy
import Derived.OrdersHeld
import Derived.Laws.BitsLemmas
import Derived.RowKit
import Derived.Test.YthhpnlbeniihhaaDoorTie
import Derived.Test.YthhpnlbeniihhaaDoorCNumParts2
namespace Go.Proofs.YthhpnlbeniihhaaDoor
open Go.RowKit Go.Proofs.YthhpnlbeniihhaaDoorW.PrintWords Go.Proofs.YthhpnlbeniihhaaDoorW.PrintLast Go.Proofs.YthhpnlbeniihhaaDoorW.PrintMore Go.Proofs.YthhpnlbeniihhaaDoor.Limb Go.Proofs.YthhpnlbeniihhaaDoor.NumB Go.Proofs.YthhpnlbeniihhaaDoor.NumG Go.Proofs.YthhpnlbeniihhaaDoor.NumJ Go.Proofs.YthhpnlbeniihhaaDoor.NumU Go.Proofs.YthhpnlbeniihhaaDoor.Vals Go.Proofs.YthhpnlbeniihhaaDoor.Plain
set_option linter.unusedVariables false
theorem fits_small {z : Int} (h : z.natAbs < 4294967296) : Fits z := Nat.lt_of_lt_of_le (show z.natAbs < 4294967296 ^ 1 by omega) (Nat.pow_le_pow_right (by decide) (by decide))
theorem text_lit (l m : List UInt8) (h : l = m) : ((⟨l.toArray⟩ : ByteArray).toList = m) := by
  rw [← h, ByteArray.toList_eq]
theorem awake_true : PAwk.morainelaw02_awake.f = some true := by
  have p1 : num_Parse.f (⟨#[45, 48, 48, 55]⟩ : ByteArray) = some (sb (-7), sl (-7), 0) := by
    unfold num_Parse.f
    rw [if_pos (by decide), ← mkI_fits (fits_small (by decide))]
    have : parseR (⟨#[45, 48, 48, 55]⟩ : ByteArray).data.toList = mk true 7 := by
      show digR true [48, 48, 55] = _
      unfold digR
      rw [if_pos (by decide), show decv [48, 48, 55] = 7 by decide]
    rw [this, mk_true]; rfl
  have p2 : num_Parse.f (⟨#[43]⟩ : ByteArray) = some (false, [], 9) := by
    unfold num_Parse.f
    rw [if_pos (by decide)]
    have : parseR (⟨#[43]⟩ : ByteArray).data.toList = digR false [] := rfl
    rw [this]; rfl
  have a0 : sb 0 = false := rfl
  have a1 : sl 0 = [] := sl_nil.mpr rfl
  have t1 : textI (-7) = [45, 55] := by decide +kernel
  have t2 : textI 1 = [49] := by decide +kernel
  have t3 : num_Text.f false [0, 1] = some ⟨(textI 4294967296).toArray⟩ := by
    have h1 : sb 4294967296 = false := rfl
    have h2 : sl 4294967296 = [0, 1] := by
      unfold sl
      rw [limbs_pos (by decide), limbs_pos (by decide), limbs_nil.mpr (by decide)]
      decide
    rw [← h1, ← h2]
    exact text_at (Nat.lt_of_lt_of_le (show (4294967296 : Int).natAbs < 4294967296 ^ 2 by decide) (Nat.pow_le_pow_right (by decide) (by decide)))
  have t4 : textI 4294967296 = [52, 50, 57, 52, 57, 54, 55, 50, 57, 54] := by decide +kernel
  have m1 : num_Mod.f (sb (-7)) (sl (-7)) (sb 2) (sl 2) = some (sb 1, sl 1, 0) := by
    rw [mod_at (fits_small (by decide)) (fits_small (by decide)), if_neg (by decide), show Int.fmod (-7) 2 = 1 by decide, mkI_fits (fits_small (by decide))]
  have q1 : num_Quo.f (sb 7) (sl 7) (sb 0) (sl 0) = some (false, [], 13) := by
    rw [quo_at (fits_small (by decide)) (fits_small (by decide)), if_pos rfl]
  unfold PAwk.morainelaw02_awake.f
  rw [p1, bsome, p2, bsome, of_at (by decide), bsome, of_at (by decide), bsome]
  show ((num_Mod.f (sb (-7)) (sl (-7)) (sb 2) (sl 2)).bind _) = _
  rw [m1, bsome, of_at (by decide), bsome, of_at (by decide), bsome]
  show ((num_Quo.f (sb 7) (sl 7) (sb 0) (sl 0)).bind _) = _
  rw [q1, bsome]
  dsimp only
  rw [if_pos rfl, text_at (fits_small (by decide)), bsome, if_pos (text_lit _ _ t1), if_pos rfl, if_pos rfl, text_at (fits_small (by decide)), bsome, if_pos (text_lit _ _ t2), if_pos rfl, t3, bsome, text_lit _ _ t4]
  rfl
def morainelaw02_awake.f : Option Bool := some true
theorem morainelaw02_awake.calls (r : Bool) (w : World) (h : morainelaw02_awake.f = some r) (ht : NumV.Tab w) :
    Calls Tryd.prog 20 #[] w fun e w' => e = .returned (.bool r) ∧ Below w.heap.size w w' := by
  obtain rfl := Option.some.inj h
  exact PAwk.morainelaw02_awake.calls true w rfl awake_true ht
end Go.Proofs.YthhpnlbeniihhaaDoor
namespace Go.Proofs.YthhpnlbeniihhaaDoor.Row
open Go.ChangeShapes Go.WideShapes Go.ChangeAt Go.RowKit Go.Proofs.YthhpnlbeniihhaaDoor.Limb Go.Proofs.YthhpnlbeniihhaaDoor.NumA
theorem laid_tail {P : Program} {x : String × DataW Unit} {r : List (String × DataW Unit)} {w : World} (h : laidMet P (x :: r) w) : laidMet P r w := by
  obtain ⟨ps, ⟨g, t, cs, fuel, p, q, _, _, _, _, hr, rfl⟩, hnd, hall⟩ := h
  exact ⟨q, hr, (List.nodup_append.mp hnd).2.1, fun b off hb => hall b off (List.mem_append_right _ hb)⟩
theorem gTab : Tryd.prog.globalNamed "internal/strconv.uint64pow10" = some 0 := by kernel_rfl
theorem tab {W : World} (h : laidMetH Tryd.prog Rows.numOrderRow.laid W) : NumV.Tab W := by
  have h1 : laidMet Tryd.prog Rows.numOrderRow.laid W := h
  have h2 : laidMet Tryd.prog (("internal/strconv.uint64pow10", Rows.laid_internal_strconv_uint64pow10) :: _) W := laid_tail (laid_tail h1)
  exact Lib.tabIs_of_head (t := 131) (e := 64) (n := 20) gTab (by kernel_rfl) (by kernel_rfl) (by kernel_rfl) (by kernel_rfl) (by kernel_rfl) h2
/-- The plain leaves of a table's datum. -/
def leaf : DataW Unit → List Value
  | .lit (.int k n) => [.int k n]
  | _ => []
def leaves : DataW Unit → List Value
  | .agg ds => ds.flatMap fun d => match d with
    | .agg es => es.flatMap leaf
    | d => leaf d
  | _ => []
def put (l : List Value) : Obj → Obj
  | .cells _ t frozen => .cells l.toArray t frozen
  | o => o
/-- A world for the witness: the five tables hold what is listed. -/
noncomputable def laidWorld (os : Os) : World :=
  { World.holding Tryd.prog os ⟨#[], #[], []⟩ with heap := (((((World.holding Tryd.prog os ⟨#[], #[], []⟩).heap.modify 0 (put (leaves Rows.laid_internal_strconv_uint64pow10))).modify 2 (put (leaves Rows.laid_unicode_utf8_first))).modify 3 (put (leaves Rows.laid_unicode_utf8_acceptRanges))).modify 4 (put (leaves Rows.laid_math_bits_deBruijn32tab))).modify 5 (put (leaves Rows.laid_math_bits_deBruijn64tab)) }
theorem laid_met (os : Os) (args : Array Value) : laidMet Tryd.prog Rows.numOrderRow.laid ((laidWorld os).forCall (fun _ _ => 0) ⟨#[], args, []⟩).memory :=
  laidMet_of_run' 8 (by kernel_rfl) (by kernel_rfl)
end Go.Proofs.YthhpnlbeniihhaaDoor.Row
namespace Go.Proofs.YthhpnlbeniihhaaDoor.Row
open Go.ChangeShapes Go.WideShapes Go.ChangeAt Go.RowKit Go.Proofs.YthhpnlbeniihhaaDoor.Limb Go.Proofs.YthhpnlbeniihhaaDoor.NumA
theorem laidOut : laidOutB Tryd.prog = true := by kernel_rfl
set_option maxRecDepth 100000
section
variable {H : Type} {enc : TypeId × Value → H} {W : World} {base : Nat}
open Go.Proofs.YthhpnlbeniihhaaDoorW.PrintWords Go.Proofs.YthhpnlbeniihhaaDoorW.PrintLast Go.Proofs.YthhpnlbeniihhaaDoorW.PrintMore
/-- A number that is handed in: its sign, its limbs in a row that is read. -/
theorem open_num {v : Value} {d : DataW H} {p : List MemPlace} (hval : Value.okWide Tryd.prog W .any base 25 v) (h : DataW.Trod enc Tryd.prog W 0 (fun _ => true) true 25 v d p) :
    ∃ (n : Bool) (A : Option Addr) (c : Nat) (l : List Int), v = .agg #[.bool n, .slice A l.length c] ∧ OkL l ∧ l.length ≤ c ∧ Kd.C (Kd.int .u32) W A l.length l ∧ ((∀ n ∈ d.weights Tryd.prog 25, n ≤ reachBytes) → l.length < 35184372088832) := by
  obtain ⟨cs, rfl, hsz⟩ := okWide_struct Tryd.underlying25 hval
  obtain ⟨fuel, hf⟩ := h
  obtain ⟨y0, y1, m, hd, hl, h0, h1⟩ := trod_struct2 Tryd.underlying25 hf
  obtain ⟨rfl, -⟩ := Prod.mk.inj hd
  have hc2 : Tryd.prog.cellsOf 25 = 2 := by kernel_rfl
  have hc1 : Tryd.prog.cellsOf 4 = 1 := by kernel_rfl
  have hc3 : Tryd.prog.cellsOf 23 = 1 := by kernel_rfl
  rw [hc2] at hsz
  obtain ⟨u0, u1, rfl⟩ : ∃ u0 u1, cs = #[u0, u1] := by
    match cs, hsz with
    | ⟨[u0, u1]⟩, _ => exact ⟨u0, u1, rfl⟩
  dsimp only at h0 h1
  rw [hc1] at h0
  rw [hc3] at h1
  have e0 : (List.take 1 (List.drop 0 (Value.agg #[u0, u1]).cells.toList)) = [u0] := rfl
  have e1 : (List.take 1 (List.drop 1 (Value.agg #[u0, u1]).cells.toList)) = [u1] := rfl
  rw [e0] at h0
  rw [e1] at h1
  obtain ⟨b, hb, -⟩ := DataW.trod_bool (Tryd.underlying4) h0
  obtain rfl : u0 = .bool b := by simpa using hb
  rcases open_ints Tryd.underlying23 Tryd.underlying63 (by kernel_rfl) h1 with ⟨hcs, hy1⟩ | ⟨x, ln, c, zs, hcs, _, hl2, hm, hz, hy1, hcell, hwz⟩
  · obtain rfl : u1 = .slice none 0 0 := by simpa using hcs
    exact ⟨b, none, 0, [], rfl, (fun x hx => by cases hx), Nat.le_refl _, Kd.C_of_reads (d := 0) ⟨rfl, by decide, fun i => absurd i (by decide)⟩, fun _ => by decide⟩
  · obtain rfl : u1 = .slice (some x) ln c := by simpa using hcs
    have hz' : zs.length = c := by simpa using hz
    have hln : (zs.take ln).length = ln := by rw [List.length_take]; omega
    refine ⟨b, some x, c, zs.take ln, by rw [hln], ?_, by rw [hln]; exact hl2, ?_, ?_⟩
    · intro y hy
      have := bounds_u32 (hwz y (List.mem_of_mem_take hy))
      omega
    · rw [hln]
      refine Kd.C_of_reads (d := 0) ⟨hln, ?_, ?_⟩
      · unfold maxLen at hm; omega
      · intro _
        refine ⟨x, rfl, fun j hj => ?_⟩
        rw [hcell j (by omega)]
        congr 2
        rw [List.getD_eq_getElem?_getD, List.getD_eq_getElem?_getD, List.getElem?_take_of_lt hj]
    · intro hw
      have hb4 : Tryd.prog.bytesOf 63 = 4 := by kernel_rfl
      have h3 := hw ((zs.length) * 4) (by
        subst hy1
        simp only [DataW.weights, Tryd.underlying25, List.map_cons, List.map_nil, DataW.weightsEach, Tryd.underlying23, hb4, List.mem_append, List.mem_cons]
        refine .inr (.inl (.inl ?_))
        have : (lits (H := H) .u32 (zs.take ln)).length + (lits (H := H) .u32 (zs.drop ln)).length = zs.length := by simp [lits]; omega
        rw [this])
      rw [hln]
      unfold reachBytes at h3
      omega
end
end Go.Proofs.YthhpnlbeniihhaaDoor.Row
namespace Go.Proofs.YthhpnlbeniihhaaDoor
open Go.RowKit Go.Proofs.YthhpnlbeniihhaaDoorW.PrintWords Go.Proofs.YthhpnlbeniihhaaDoorW.PrintLast Go.Proofs.YthhpnlbeniihhaaDoorW.PrintMore Go.Proofs.YthhpnlbeniihhaaDoor.Limb
set_option linter.unusedVariables false
set_option linter.unusedSimpArgs false
/-- Boxes (block, cells, type), rows of bytes, rows of limbs: all made since w0; the rows of limbs are no two the same. -/
structure St (w0 W : World) (B : List (Nat × Array Value × Nat)) (R8 R32 : List (Value × List Int)) : Prop where
  below : Below w0.heap.size w0 W
  ge : ∀ p ∈ B, w0.heap.size ≤ p.1
  box : ∀ p ∈ B, W.heap[p.1]? = some (.cells p.2.1 p.2.2 (0, 0))
  ty : ∀ p ∈ B, p.2.2 ≠ 5 ∧ p.2.2 ≠ 63
  nd : B.Pairwise (fun p q => p.1 ≠ q.1)
  r8 : ∀ p ∈ R8, Kd.R (Kd.int .u8) 5 W w0.heap.size (fun _ => True) p.1 p.2
  r32 : ∀ p ∈ R32, Kd.R (Kd.int .u32) 63 W w0.heap.size (fun _ => True) p.1 p.2
  ap : R32.Pairwise (fun p q => ∀ k, p.1.ownBlock = some k → q.1.ownBlock ≠ some k)
namespace St
variable {w0 W W1 : World} {B : List (Nat × Array Value × Nat)} {R8 R32 : List (Value × List Int)}
theorem start (w : World) : St w w [] [] [] :=
  ⟨Below.refl _ _, (fun p h => by cases h), (fun p h => by cases h), (fun p h => by cases h), .nil, (fun p h => by cases h), (fun p h => by cases h), .nil⟩
theorem call (S : St w0 W B R8 R32) (hb : Below W.heap.size W W1) : St w0 W1 B R8 R32 :=
  ⟨below_step S.below hb, S.ge, fun p h => blk_below (S.box p h) hb, S.ty, S.nd, fun p h => Kd.R_below (S.r8 p h) hb, fun p h => Kd.R_below (S.r32 p h) hb, S.ap⟩
theorem drewN (S : St w0 W B R8 R32) (n : Nat) : St w0 (W.drewN n) B R8 R32 := S.call (pw_below_drewN (Below.refl _ _) n)
theorem drew (S : St w0 W B R8 R32) : St w0 W.drew B R8 R32 := S.call (below_drew1 (Below.refl _ _))
theorem alloc (S : St w0 W B R8 R32) (o : Obj) : St w0 (W.alloc o) B R8 R32 := S.call (below_alloc (Below.refl _ _) o)
/-- A row of limbs that a call has made: it is none of those that were there. -/
theorem call32 (S : St w0 W B R8 R32) (hb : Below W.heap.size W W1) {v : Value} {xs : List Int} {ok : Nat → Prop} (hR : Kd.R (Kd.int .u32) 63 W1 W.heap.size ok v xs) : St w0 W1 B R8 ((v, xs) :: R32) := by
  have T := S.call hb
  refine ⟨T.below, T.ge, T.box, T.ty, T.nd, T.r8, fun p h => ?_, List.pairwise_cons.mpr ⟨fun p h k hk e => ?_, T.ap⟩⟩
  · rcases List.mem_cons.mp h with rfl | h
    · exact Kd.R_mono (Kd.R_lower hR (below_size S.below)) (fun _ _ => trivial)
    · exact T.r32 p h
  · have h1 := Kd.R_base hR k hk
    have h2 := Kd.R_lt (S.r32 p h) k e
    omega
theorem newblk (S : St w0 W B R8 R32) (o : Obj) : (W.alloc o).heap[W.heap.size]? = some o := blk_new W o
/-- A box that is made. -/
theorem boxed (S : St w0 W B R8 R32) (cs : Array Value) (t : Nat) (ht : t ≠ 5 ∧ t ≠ 63) : St w0 (W.alloc (.cells cs t (0, 0))) ((W.heap.size, cs, t) :: B) R8 R32 := by
  have T := S.alloc (.cells cs t (0, 0))
  refine ⟨T.below, fun p h => ?_, fun p h => ?_, fun p h => ?_, List.pairwise_cons.mpr ⟨fun p h e => ?_, T.nd⟩, T.r8, T.r32, T.ap⟩
  · rcases List.mem_cons.mp h with rfl | h
    · exact below_size S.below
    · exact S.ge p h
  · rcases List.mem_cons.mp h with rfl | h
    · exact blk_new W _
    · exact T.box p h
  · rcases List.mem_cons.mp h with rfl | h
    · exact ht
    · exact S.ty p h
  · have := blk_lt (S.box p h)
    have e1 : W.heap.size = p.1 := e
    omega
/-- A store into the box that was made last. -/
theorem set0 {g : Nat} {cs : Array Value} {t : Nat} (S : St w0 W ((g, cs, t) :: B) R8 R32) (j : Nat) (v : Value) : St w0 (W.setCell ⟨g, j, none⟩ v) ((g, cs.setIfInBounds j v, t) :: B) R8 R32 := by
  have hg := S.box _ List.mem_cons_self
  have ht := S.ty _ List.mem_cons_self
  obtain ⟨hn, hnd⟩ := List.pairwise_cons.mp S.nd
  refine ⟨below_set S.below (S.ge _ List.mem_cons_self), fun p h => ?_, fun p h => ?_, fun p h => ?_, List.pairwise_cons.mpr ⟨fun p h => hn p h, hnd⟩, fun p h => ?_, fun p h => ?_, S.ap⟩
  · rcases List.mem_cons.mp h with rfl | h
    · exact S.ge (g, cs, t) List.mem_cons_self
    · exact S.ge p (List.mem_cons_of_mem _ h)
  · rcases List.mem_cons.mp h with rfl | h
    · exact blk_set hg j v
    · exact blk_far (S.box p (List.mem_cons_of_mem _ h)) (p := ⟨g, j, none⟩) (fun e => hn p h e.symm) v
  · rcases List.mem_cons.mp h with rfl | h
    · exact ht
    · exact S.ty p (List.mem_cons_of_mem _ h)
  · exact Kd.R_set (S.r8 p h) hg (fun q hq => by
      have : q = 5 := by simpa [Kd.int, Kd.scalar] using hq
      subst this; exact fun e => ht.1 e.symm) j v
  · exact Kd.R_set (S.r32 p h) hg (fun q hq => by
      have : q = 63 := by simpa [Kd.int, Kd.scalar] using hq
      subst this; exact fun e => ht.2 e.symm) j v
/-- A variable of two cells, made of what a call answered: the facts that the walk wants, and the state behind it. -/
theorem put (S : St w0 W B R8 R32) (z0 z1 v0 v1 : Value) (t : Nat) (ht : t ≠ 5 ∧ t ≠ 63) :
    (W.alloc (.cells #[z0, z1] t (0, 0))).cell? ⟨W.heap.size, 0, none⟩ = some z0 ∧ (W.alloc (.cells #[z0, z1] t (0, 0))).cell? ⟨W.heap.size, 1, none⟩ = some z1 ∧
    (W.alloc (.cells #[z0, z1] t (0, 0))).frozen? ⟨W.heap.size, 0, none⟩ = false ∧ (W.alloc (.cells #[z0, z1] t (0, 0))).frozen? ⟨W.heap.size, 1, none⟩ = false ∧
    St w0 (((W.alloc (.cells #[z0, z1] t (0, 0))).setCell ⟨W.heap.size, 0, none⟩ v0).setCell ⟨W.heap.size, 1, none⟩ v1) ((W.heap.size, #[v0, v1], t) :: B) R8 R32 := by
  have T := S.boxed #[z0, z1] t ht
  have hg := T.box _ List.mem_cons_self
  exact ⟨blk_cell hg 0, blk_cell hg 1, blk_frozen hg 0, blk_frozen hg 1, (T.set0 0 v0).set0 1 v1⟩
/-- What a box of two cells holds. -/
theorem cells (S : St w0 W B R8 R32) (i : Nat) {g t : Nat} {x y : Value} (h : B[i]? = some (g, #[x, y], t)) : W.cell? ⟨g, 0, none⟩ = some x ∧ W.cell? ⟨g, 1, none⟩ = some y := by
  have hg := S.box _ (List.mem_of_getElem? h)
  exact ⟨blk_cell hg 0, blk_cell hg 1⟩
theorem bits (S : St w0 W B R8 R32) (i : Nat) {A : Option Addr} {n c : Nat} {xs : List Int} (h : R8[i]? = some (.slice A n c, xs)) : n = xs.length ∧ n ≤ c ∧ Kd.C (Kd.int .u8) W A xs.length xs := Kd.R_reads' (S.r8 _ (List.mem_of_getElem? h))
theorem limbs (S : St w0 W B R8 R32) (i : Nat) {A : Option Addr} {n c : Nat} {xs : List Int} (h : R32[i]? = some (.slice A n c, xs)) : n = xs.length ∧ n ≤ c ∧ Kd.C (Kd.int .u32) W A xs.length xs := Kd.R_reads' (S.r32 _ (List.mem_of_getElem? h))
/-- What came in reads as it did. -/
theorem came {α : Type} {d : Kd α} {A : Option Addr} {n : Nat} {xs : List α} (S : St w0 W B R8 R32) (h : Kd.C d w0 A n xs) : Kd.C d W A n xs := Kd.C_below h S.below
end St
end Go.Proofs.YthhpnlbeniihhaaDoor
-- Printed by a program of this session's (wip/tools/printr.py, over the kit's print program).
namespace Go.Proofs.YthhpnlbeniihhaaDoor.PRef
open Go.RowKit Go.Proofs.YthhpnlbeniihhaaDoorW.PrintWords Go.Proofs.YthhpnlbeniihhaaDoorW.PrintLast Go.Proofs.YthhpnlbeniihhaaDoorW.PrintMore
attribute [local go_sem] max2_int min2_int max_two min_two max_three min_three max_four min_four   -- for this text's walks alone
set_option linter.unusedVariables false
set_option linter.unusedSimpArgs false
def errW : Option Int → Value
  | none => .nilIface
  | some c => .iface 0 (.int .i64 c)
theorem errW_none : errW none = .nilIface := rfl
theorem errW_some (c : Int) : errW (some c) = .iface 0 (.int .i64 c) := rfl
end Go.Proofs.YthhpnlbeniihhaaDoor.PRef
namespace Go.Proofs.YthhpnlbeniihhaaDoor.PRef
end Go.Proofs.YthhpnlbeniihhaaDoor.PRef
namespace Go.Proofs.YthhpnlbeniihhaaDoor.PRef
end Go.Proofs.YthhpnlbeniihhaaDoor.PRef
namespace Go.Proofs.YthhpnlbeniihhaaDoor.PRef
end Go.Proofs.YthhpnlbeniihhaaDoor.PRef
namespace Go.Proofs.YthhpnlbeniihhaaDoor.PRef
end Go.Proofs.YthhpnlbeniihhaaDoor.PRef
namespace Go.Proofs.YthhpnlbeniihhaaDoor.Bit
open Go.Proofs.YthhpnlbeniihhaaDoor.Limb
set_option linter.unusedVariables false
set_option linter.unusedSimpArgs false
/-- The value of a row. -/
def bv : List Int → Nat
  | [] => 0
  | x :: l => x.toNat + 2 * bv l
/-- The row of a value. -/
def bits (n : Nat) : List Int := if h : n = 0 then [] else ((n % 2 : Nat) : Int) :: bits (n / 2)
termination_by n
decreasing_by exact Nat.div_lt_self (by omega) (by decide)
end Go.Proofs.YthhpnlbeniihhaaDoor.Bit
namespace Go.Proofs.YthhpnlbeniihhaaDoor.RefA
end Go.Proofs.YthhpnlbeniihhaaDoor.RefA
namespace Go.Proofs.YthhpnlbeniihhaaDoor.RefB
end Go.Proofs.YthhpnlbeniihhaaDoor.RefB
namespace Go.Proofs.YthhpnlbeniihhaaDoor.PRef
end Go.Proofs.YthhpnlbeniihhaaDoor.PRef
namespace Go.Proofs.YthhpnlbeniihhaaDoor.PRef
end Go.Proofs.YthhpnlbeniihhaaDoor.PRef
namespace Go.Proofs.YthhpnlbeniihhaaDoor.RefC
open Go.RowKit Go.Proofs.YthhpnlbeniihhaaDoorW.PrintWords Go.Proofs.YthhpnlbeniihhaaDoorW.PrintLast Go.Proofs.YthhpnlbeniihhaaDoorW.PrintMore Go.Proofs.YthhpnlbeniihhaaDoor.Limb Go.Proofs.YthhpnlbeniihhaaDoor.Bit Go.Proofs.YthhpnlbeniihhaaDoor.NumA Go.Proofs.YthhpnlbeniihhaaDoor.NumE Go.Proofs.YthhpnlbeniihhaaDoor.NumG Go.Proofs.YthhpnlbeniihhaaDoor.NumJ Go.Proofs.YthhpnlbeniihhaaDoor.RefA Go.Proofs.YthhpnlbeniihhaaDoor.RefB Go.Proofs.YthhpnlbeniihhaaDoor.PRef
set_option linter.unusedVariables false
set_option linter.unusedSimpArgs false
/-- A whole number's sign and bits. -/
def vb (z : Int) : Bool := decide (z < 0)
def vl (z : Int) : List Int := Bit.bits z.natAbs
end Go.Proofs.YthhpnlbeniihhaaDoor.RefC
namespace Go.Proofs.YthhpnlbeniihhaaDoor.Hand
end Go.Proofs.YthhpnlbeniihhaaDoor.Hand
namespace Go.Proofs.YthhpnlbeniihhaaDoor.RefD
end Go.Proofs.YthhpnlbeniihhaaDoor.RefD
namespace Go.Proofs.YthhpnlbeniihhaaDoor.RefE
end Go.Proofs.YthhpnlbeniihhaaDoor.RefE
namespace Go.Proofs.YthhpnlbeniihhaaDoor
end Go.Proofs.YthhpnlbeniihhaaDoor
namespace Go.Proofs.YthhpnlbeniihhaaDoor.Raw
open Go.Proofs.YthhpnlbeniihhaaDoor Go.Proofs.YthhpnlbeniihhaaDoor.Limb Go.Proofs.YthhpnlbeniihhaaDoor.NumA Go.Proofs.YthhpnlbeniihhaaDoor.NumB Go.Proofs.YthhpnlbeniihhaaDoor.NumC Go.Proofs.YthhpnlbeniihhaaDoor.NumJ Go.Proofs.YthhpnlbeniihhaaDoor.NumS Go.Proofs.YthhpnlbeniihhaaDoor.NumU Go.Proofs.YthhpnlbeniihhaaDoor.Vals Go.Proofs.YthhpnlbeniihhaaDoor.Plain
section
variable {n : Bool} {l : List Int} (h : okN l)
include h
theorem sign_raw : num_Sign.f n l = some (val n l).sign := by unfold num_Sign.f; rw [if_pos h]
end
section
variable {n1 n2 : Bool} {l m : List Int} (h1 : okN l) (h2 : okN m)
include h1 h2
theorem quo_raw (h0 : val n2 m ≠ 0) : num_Quo.f n1 l n2 m = some (mkI (Int.tdiv (val n1 l) (val n2 m))) := by unfold num_Quo.f; rw [if_pos ⟨h1, h2⟩, if_neg h0]
theorem rem_raw (h0 : val n2 m ≠ 0) : num_Rem.f n1 l n2 m = some (mkI (Int.tmod (val n1 l) (val n2 m))) := by unfold num_Rem.f; rw [if_pos ⟨h1, h2⟩, if_neg h0]
end
/-- A row's number is as small as its row is short. -/
theorem val_lt {n : Bool} {l : List Int} (h : OkL l) {k : Nat} (hk : l.length ≤ k) : (val n l).natAbs < 4294967296 ^ k := by
  rw [natAbs_val]
  exact Nat.lt_of_lt_of_le (mag_lt h) (Nat.pow_le_pow_right (by decide) hk)
theorem fits_val {n : Bool} {l : List Int} (h : OkL l) (hk : l.length ≤ 48) : Fits (val n l) := val_lt h hk
theorem fits_zero : Fits 0 := by unfold Fits; exact Nat.pow_pos (by decide)
theorem cmp_self (x : Int) : cmpI x x = 0 := by unfold cmpI; simp
end Go.Proofs.YthhpnlbeniihhaaDoor.Raw
namespace Go.Proofs.YthhpnlbeniihhaaDoor.PRef
end Go.Proofs.YthhpnlbeniihhaaDoor.PRef
namespace Go.Proofs.YthhpnlbeniihhaaDoor
open Go.RowKit Go.Proofs.YthhpnlbeniihhaaDoorW.PrintWords Go.Proofs.YthhpnlbeniihhaaDoorW.PrintLast Go.Proofs.YthhpnlbeniihhaaDoorW.PrintMore Go.Proofs.YthhpnlbeniihhaaDoor.Limb Go.Proofs.YthhpnlbeniihhaaDoor.Bit Go.Proofs.YthhpnlbeniihhaaDoor.NumA Go.Proofs.YthhpnlbeniihhaaDoor.NumB Go.Proofs.YthhpnlbeniihhaaDoor.NumE Go.Proofs.YthhpnlbeniihhaaDoor.NumG Go.Proofs.YthhpnlbeniihhaaDoor.NumJ Go.Proofs.YthhpnlbeniihhaaDoor.Plain Go.Proofs.YthhpnlbeniihhaaDoor.RefA Go.Proofs.YthhpnlbeniihhaaDoor.RefB Go.Proofs.YthhpnlbeniihhaaDoor.RefC Go.Proofs.YthhpnlbeniihhaaDoor.RefD Go.Proofs.YthhpnlbeniihhaaDoor.RefE
set_option linter.unusedVariables false
set_option linter.unusedSimpArgs false
/-- A sign and bits as a whole number. -/
def bval (b : Bool) (l : List Int) : Int := if b then -(bv l : Int) else (bv l : Int)
/-- Bits without noughts at the end, no sign of nought, few of them. -/
def canV (b : Bool) (l : List Int) : Prop := l.length < 1073741824 ∧ l = Bit.bits (bv l) ∧ (b = true → bv l ≠ 0)
instance instCanV (b : Bool) (l : List Int) : Decidable (canV b l) := by unfold canV; infer_instance
theorem canV.as_ {b : Bool} {l : List Int} (h : canV b l) : ∃ z, b = vb z ∧ l = vl z ∧ (vl z).length < 1073741824 := by
  refine ⟨bval b l, ?_, ?_, ?_⟩
  · unfold vb bval
    cases b with
    | true => have := h.2.2 rfl; simp; omega
    | false => simp
  · unfold vl bval
    rw [show (if b = true then -(bv l : Int) else (bv l : Int)).natAbs = bv l by cases b <;> simp]
    exact h.2.1
  · unfold vl bval
    rw [show (if b = true then -(bv l : Int) else (bv l : Int)).natAbs = bv l by cases b <;> simp, ← h.2.1]
    exact h.1
end Go.Proofs.YthhpnlbeniihhaaDoor
namespace Go.Proofs.YthhpnlbeniihhaaDoor.Ref
end Go.Proofs.YthhpnlbeniihhaaDoor.Ref
namespace Go.Proofs.YthhpnlbeniihhaaDoor.Digits
open Go.Proofs.YthhpnlbeniihhaaDoor Go.Proofs.YthhpnlbeniihhaaDoor.Limb Go.Proofs.YthhpnlbeniihhaaDoor.NumB Go.Proofs.YthhpnlbeniihhaaDoor.NumJ Go.Proofs.YthhpnlbeniihhaaDoor.NumU Go.Proofs.YthhpnlbeniihhaaDoor.NumW Go.Proofs.YthhpnlbeniihhaaDoor.Text Go.Proofs.YthhpnlbeniihhaaDoor.Vals Go.Lib
theorem decv_snoc (l : List UInt8) (b : UInt8) : decv (l ++ [b]) = 10 * decv l + (b.toNat - 48) := by unfold decv; rw [List.foldl_append]; rfl
end Go.Proofs.YthhpnlbeniihhaaDoor.Digits
namespace Go.Proofs.YthhpnlbeniihhaaDoor.PRef
end Go.Proofs.YthhpnlbeniihhaaDoor.PRef
-- Printed by a program of this session's (wip/tools/printr.py, over the kit's print program).
namespace Go.Proofs.YthhpnlbeniihhaaDoor.PRText
open Go.RowKit Go.Proofs.YthhpnlbeniihhaaDoorW.PrintWords Go.Proofs.YthhpnlbeniihhaaDoorW.PrintLast Go.Proofs.YthhpnlbeniihhaaDoorW.PrintMore
attribute [local go_sem] max2_int min2_int max_two min_two max_three min_three max_four min_four   -- for this text's walks alone
set_option linter.unusedVariables false
set_option linter.unusedSimpArgs false
def errW : Option Int → Value
  | none => .nilIface
  | some c => .iface 0 (.int .i64 c)
theorem errW_none : errW none = .nilIface := rfl
theorem errW_some (c : Int) : errW (some c) = .iface 0 (.int .i64 c) := rfl
end Go.Proofs.YthhpnlbeniihhaaDoor.PRText
namespace Go.Proofs.YthhpnlbeniihhaaDoor.PRText
end Go.Proofs.YthhpnlbeniihhaaDoor.PRText
namespace Go.Proofs.YthhpnlbeniihhaaDoor.RefT
open Go.Proofs.YthhpnlbeniihhaaDoor Go.Proofs.YthhpnlbeniihhaaDoor.Vals Go.RowKit Go.Proofs.YthhpnlbeniihhaaDoorW.PrintWords Go.Proofs.YthhpnlbeniihhaaDoorW.PrintLast Go.Proofs.YthhpnlbeniihhaaDoorW.PrintMore Go.Proofs.YthhpnlbeniihhaaDoor.Limb Go.Proofs.YthhpnlbeniihhaaDoor.Bit Go.Proofs.YthhpnlbeniihhaaDoor.NumA Go.Proofs.YthhpnlbeniihhaaDoor.NumE Go.Proofs.YthhpnlbeniihhaaDoor.NumG Go.Proofs.YthhpnlbeniihhaaDoor.NumJ Go.Proofs.YthhpnlbeniihhaaDoor.NumW Go.Proofs.YthhpnlbeniihhaaDoor.Text Go.Proofs.YthhpnlbeniihhaaDoor.Digits Go.Proofs.YthhpnlbeniihhaaDoor.RefA Go.Proofs.YthhpnlbeniihhaaDoor.RefB Go.Proofs.YthhpnlbeniihhaaDoor.RefC Go.Proofs.YthhpnlbeniihhaaDoor.PRef Go.Lib
set_option linter.unusedVariables false
set_option linter.unusedSimpArgs false
/-- A sign ahead of digits. -/
def sgn (neg : Bool) (l : List UInt8) : List UInt8 := if neg then 45 :: l else l
end Go.Proofs.YthhpnlbeniihhaaDoor.RefT
namespace Go.Proofs.YthhpnlbeniihhaaDoor.RefP
end Go.Proofs.YthhpnlbeniihhaaDoor.RefP
namespace Go.Proofs.YthhpnlbeniihhaaDoor
end Go.Proofs.YthhpnlbeniihhaaDoor
-- Printed by a program of this session's (wip/tools/printr.py, over the kit's print program).
namespace Go.Proofs.YthhpnlbeniihhaaDoor.PNumParses
open Go.RowKit Go.Proofs.YthhpnlbeniihhaaDoorW.PrintWords Go.Proofs.YthhpnlbeniihhaaDoorW.PrintLast Go.Proofs.YthhpnlbeniihhaaDoorW.PrintMore
attribute [local go_sem] max2_int min2_int max_two min_two max_three min_three max_four min_four   -- for this text's walks alone
set_option linter.unusedVariables false
set_option linter.unusedSimpArgs false
def errW : Option Int → Value
  | none => .nilIface
  | some c => .iface 0 (.int .i64 c)
theorem errW_none : errW none = .nilIface := rfl
theorem errW_some (c : Int) : errW (some c) = .iface 0 (.int .i64 c) := rfl

-- the values' own types
end Go.Proofs.YthhpnlbeniihhaaDoor.PNumParses
namespace Go.Proofs.YthhpnlbeniihhaaDoor.PNumParses
end Go.Proofs.YthhpnlbeniihhaaDoor.PNumParses
namespace Go.Proofs.YthhpnlbeniihhaaDoor.LawKit
open Go.RowKit Go.Proofs.YthhpnlbeniihhaaDoorW.PrintWords Go.Proofs.YthhpnlbeniihhaaDoorW.PrintLast Go.Proofs.YthhpnlbeniihhaaDoorW.PrintMore Go.Proofs.YthhpnlbeniihhaaDoor Go.Proofs.YthhpnlbeniihhaaDoor.Limb Go.Proofs.YthhpnlbeniihhaaDoor.Bit Go.Proofs.YthhpnlbeniihhaaDoor.NumA Go.Proofs.YthhpnlbeniihhaaDoor.NumB Go.Proofs.YthhpnlbeniihhaaDoor.NumG Go.Proofs.YthhpnlbeniihhaaDoor.NumJ Go.Proofs.YthhpnlbeniihhaaDoor.Vals Go.Proofs.YthhpnlbeniihhaaDoor.Plain Go.Proofs.YthhpnlbeniihhaaDoor.Raw Go.Proofs.YthhpnlbeniihhaaDoor.Ref Go.Proofs.YthhpnlbeniihhaaDoor.RefC
set_option linter.unusedVariables false
set_option linter.unusedSimpArgs false
theorem awake_calls (w : World) (ht : NumV.Tab w) : Calls Tryd.prog 20 #[] w fun e w' => e = .returned (.bool true) ∧ Below w.heap.size w w' :=
  morainelaw02_awake.calls true w rfl ht
end Go.Proofs.YthhpnlbeniihhaaDoor.LawKit
namespace Go.Proofs.YthhpnlbeniihhaaDoor.LawKit
open Go.RowKit Go.Proofs.YthhpnlbeniihhaaDoorW.PrintWords Go.Proofs.YthhpnlbeniihhaaDoorW.PrintLast Go.Proofs.YthhpnlbeniihhaaDoorW.PrintMore Go.Proofs.YthhpnlbeniihhaaDoor Go.Proofs.YthhpnlbeniihhaaDoor.Limb Go.Proofs.YthhpnlbeniihhaaDoor.NumS
set_option linter.unusedVariables false
theorem pair_row {W : World} {g t : Nat} {n0 n1 : Bool} {A0 A1 : Option Addr} {c0 c1 : Nat} {l0 l1 : List Int} (hg : W.heap[g]? = some (.cells #[.bool n0, .slice A0 l0.length c0, .bool n1, .slice A1 l1.length c1] t (0, 0)))
    (h0 : Kd.C (Kd.int .u32) W A0 l0.length l0) (k0 : l0.length ≤ c0) (h1 : Kd.C (Kd.int .u32) W A1 l1.length l1) (k1 : l1.length ≤ c1) :
    Kd.C kN W (some ⟨g, 0, none⟩) 2 [(n0, l0), (n1, l1)] := by
  refine ⟨rfl, by decide, fun _ => ⟨⟨g, 0, none⟩, rfl, fun j p hj => ?_⟩⟩
  have cell : ∀ i v, (#[Value.bool n0, .slice A0 l0.length c0, .bool n1, .slice A1 l1.length c1] : Array Value)[i]? = some v → W.cell? ⟨g, i, none⟩ = some v := fun i v h => (blk_cell hg i).trans h
  match j with
  | 0 =>
    obtain rfl : (n0, l0) = p := Option.some.inj hj
    refine ⟨[.bool n0, .slice A0 l0.length c0], rfl, ⟨[.bool n0], [.slice A0 l0.length c0], rfl, rfl, A0, c0, rfl, k0, h0⟩, fun i u hu => ?_⟩
    match i with
    | 0 => obtain rfl := Option.some.inj hu; exact cell 0 _ rfl
    | 1 => obtain rfl := Option.some.inj hu; exact cell 1 _ rfl
    | i + 2 => cases hu
  | 1 =>
    obtain rfl : (n1, l1) = p := Option.some.inj hj
    refine ⟨[.bool n1, .slice A1 l1.length c1], rfl, ⟨[.bool n1], [.slice A1 l1.length c1], rfl, rfl, A1, c1, rfl, k1, h1⟩, fun i u hu => ?_⟩
    match i with
    | 0 => obtain rfl := Option.some.inj hu; exact cell 2 _ rfl
    | 1 => obtain rfl := Option.some.inj hu; exact cell 3 _ rfl
    | i + 2 => cases hu
  | j + 2 => cases hj
theorem gcd_two (n0 n1 : Bool) (l0 l1 : List Int) : gcdL [(n0, l0), (n1, l1)] = Nat.gcd (mag l0) (mag l1) := by
  unfold gcdL
  simp only [List.foldl_cons, List.foldl_nil, Nat.gcd_zero_left]
end Go.Proofs.YthhpnlbeniihhaaDoor.LawKit
namespace Go.Proofs.YthhpnlbeniihhaaDoor.WalkParts
open Go.RowKit Go.Proofs.YthhpnlbeniihhaaDoorW.PrintWords Go.Proofs.YthhpnlbeniihhaaDoorW.PrintLast Go.Proofs.YthhpnlbeniihhaaDoorW.PrintMore Go.Proofs.YthhpnlbeniihhaaDoor Go.Proofs.YthhpnlbeniihhaaDoor.Limb Go.Proofs.YthhpnlbeniihhaaDoor.Bit Go.Proofs.YthhpnlbeniihhaaDoor.NumA Go.Proofs.YthhpnlbeniihhaaDoor.NumB Go.Proofs.YthhpnlbeniihhaaDoor.NumG Go.Proofs.YthhpnlbeniihhaaDoor.NumJ Go.Proofs.YthhpnlbeniihhaaDoor.Vals Go.Proofs.YthhpnlbeniihhaaDoor.Plain Go.Proofs.YthhpnlbeniihhaaDoor.Raw Go.Proofs.YthhpnlbeniihhaaDoor.Ref Go.Proofs.YthhpnlbeniihhaaDoor.RefC Go.Proofs.YthhpnlbeniihhaaDoor.NumS Go.Proofs.YthhpnlbeniihhaaDoor.LawKit
set_option linter.unusedVariables false
set_option linter.unusedSimpArgs false
theorem fits_le {a b : Int} (h : Fits b) (hle : a.natAbs ≤ b.natAbs) : Fits a := Nat.lt_of_le_of_lt hle h
theorem gcd_raw {n0 n1 : Bool} {l0 l1 : List Int} (h0 : okN l0) (h1 : okN l1) : num_Gcd.f [(n0, l0), (n1, l1)] = some (mkI ((Nat.gcd (mag l0) (mag l1) : Nat) : Int)) := by
  unfold num_Gcd.f
  rw [if_pos (by intro x hx; simp only [List.mem_cons, List.not_mem_nil, or_false] at hx; rcases hx with rfl | rfl <;> assumption), gcd_two]
theorem gcd_left {x y : Int} (h : x ≠ 0 ∨ y ≠ 0) : 0 < Nat.gcd x.natAbs y.natAbs := by
  rcases h with h | h
  · exact Nat.gcd_pos_of_pos_left _ (by omega)
  · exact Nat.gcd_pos_of_pos_right _ (by omega)
theorem gcd_facts (x y : Int) (h : x ≠ 0 ∨ y ≠ 0) (G : Int) (hG : G = ((Nat.gcd x.natAbs y.natAbs : Nat) : Int)) : G ≠ 0 ∧ G.sign = 1 ∧ Int.tmod x G = 0 ∧ Int.tmod y G = 0 ∧ Nat.gcd (Int.tdiv x G).natAbs (Int.tdiv y G).natAbs = 1 ∧ (Int.tdiv x G).natAbs ≤ x.natAbs ∧ (Int.tdiv y G).natAbs ≤ y.natAbs := by
  have hp := gcd_left h
  have e1 : G.natAbs = Nat.gcd x.natAbs y.natAbs := by rw [hG]; exact Int.natAbs_natCast _
  have t1 : (Int.tdiv x G).natAbs = x.natAbs / G.natAbs := by rw [Int.natAbs_tdiv]; rfl
  have t2 : (Int.tdiv y G).natAbs = y.natAbs / G.natAbs := by rw [Int.natAbs_tdiv]; rfl
  have m1 : (Int.tmod x G).natAbs = 0 := by
    rw [Int.natAbs_tmod, e1]
    exact Nat.mod_eq_zero_of_dvd (Nat.gcd_dvd_left _ _)
  have m2 : (Int.tmod y G).natAbs = 0 := by
    rw [Int.natAbs_tmod, e1]
    exact Nat.mod_eq_zero_of_dvd (Nat.gcd_dvd_right _ _)
  refine ⟨by omega, Int.sign_eq_one_of_pos (by omega), by omega, by omega, ?_, by rw [t1]; exact Nat.div_le_self _ _, by rw [t2]; exact Nat.div_le_self _ _⟩
  rw [t1, t2, e1]
  rcases h with h | h
  · exact Nat.gcd_div_gcd_div_gcd_of_pos_left (by omega)
  · exact Nat.gcd_div_gcd_div_gcd_of_pos_right (by omega)
theorem gcd_fits {x y : Int} (fx : Fits x) (fy : Fits y) : Fits ((Nat.gcd x.natAbs y.natAbs : Nat) : Int) := by
  unfold Fits
  rw [Int.natAbs_natCast]
  by_cases h : x = 0
  · rw [h]; show Nat.gcd 0 y.natAbs < _; rw [Nat.gcd_zero_left]; exact fy
  · exact Nat.lt_of_le_of_lt (Nat.gcd_le_left _ (by omega)) fx
set_option maxRecDepth 100000 in
set_option maxHeartbeats 16000000 in
theorem walk (n0 : Bool) (A0 : Option Addr) (c0 : Nat) (l0 : List Int) (n1 : Bool) (A1 : Option Addr) (c1 : Nat) (l1 : List Int) (w : World) (hr0 : Kd.C (Kd.int .u32) w A0 l0.length l0) (hc0 : l0.length ≤ c0) (hr1 : Kd.C (Kd.int .u32) w A1 l1.length l1) (hc1 : l1.length ≤ c1) (ok0 : OkL l0) (ok1 : OkL l1) (ht : NumV.Tab w) :
    Calls Tryd.prog 12 #[.agg #[.bool n0, .slice A0 l0.length c0], .agg #[.bool n1, .slice A1 l1.length c1]] w fun e w' => e = .returned (.bool true) ∧ Below w.heap.size w w' := by
  have HT := Aside0.mk ht
  have HR0 := Aside0.mk hr0
  have HC0 := Aside0.mk hc0
  have HR1 := Aside0.mk hr1
  have HC1 := Aside0.mk hc1
  have S1 := ((St.start w).boxed #[.bool n0, .slice A0 l0.length c0] 25 (by decide)).boxed #[.bool n1, .slice A1 l1.length c1] 25 (by decide)
  simp only [World.size_alloc] at S1
  have HS := Aside0.mk S1
  clear S1 hr0 hc0 hr1 hc1 ht
  by_cases h1 : (l0.length : Int) > 24
  · skip
    have ha : decide ((24 : Int) < (l0.length : Int)) = true := decide_eq_true (by omega)
    have ha2 : decide (24 < l0.length) = true := decide_eq_true (by omega)
    clear h1
    go_enter Tryd.func12, Tryd.ntmps12
    obtain ⟨ua0, ua1⟩ := HS.out.cells 1 rfl
    obtain ⟨ub0, ub1⟩ := HS.out.cells 0 rfl
    go_wp2_with fail
    refine (awake_calls _ (NumV.Tab.below HT.out HS.out.below)).mono ?_
    rintro e w1_ ⟨rfl, hb⟩
    clear ua0 ua1 ub0 ub1
    have HN := Aside0.mk (HS.out.call hb)
    clear HS
    have HS := HN
    clear HN
    clear hb
    go_wp2
    go_ret
    exact ⟨rfl, HS.out.below⟩
  · skip
    have ha : decide ((24 : Int) < (l0.length : Int)) = false := decide_eq_false (by omega)
    have ha2 : decide (24 < l0.length) = false := decide_eq_false (by omega)
    by_cases h2 : (l1.length : Int) > 24
    · skip
      have hb1 : decide ((24 : Int) < (l1.length : Int)) = true := decide_eq_true (by omega)
      have hb2 : decide (24 < l1.length) = true := decide_eq_true (by omega)
      clear h1 h2
      go_enter Tryd.func12, Tryd.ntmps12
      obtain ⟨ua0, ua1⟩ := HS.out.cells 1 rfl
      obtain ⟨ub0, ub1⟩ := HS.out.cells 0 rfl
      go_wp2_with fail
      refine (awake_calls _ (NumV.Tab.below HT.out HS.out.below)).mono ?_
      rintro e w1_ ⟨rfl, hb⟩
      clear ua0 ua1 ub0 ub1
      have HN := Aside0.mk (HS.out.call hb)
      clear HS
      have HS := HN
      clear HN
      clear hb
      go_wp2
      go_ret
      exact ⟨rfl, HS.out.below⟩
    · skip
      have hb1 : decide ((24 : Int) < (l1.length : Int)) = false := decide_eq_false (by omega)
      have hb2 : decide (24 < l1.length) = false := decide_eq_false (by omega)
      have kl : okN l0 := ⟨ok0, by omega⟩
      have km : okN l1 := ⟨ok1, by omega⟩
      have fx : Fits (val n0 l0) := fits_val ok0 (by omega)
      have fy : Fits (val n1 l1) := fits_val ok1 (by omega)
      have hgc := gcd_raw (n0 := n0) (n1 := n1) kl km
      have hsa := sign_raw (n := n0) kl
      have hsb := sign_raw (n := n1) km
      obtain ⟨G, hG⟩ : ∃ G : Int, ((Nat.gcd (mag l0) (mag l1) : Nat) : Int) = G := ⟨_, rfl⟩
      have hG2 : G = ((Nat.gcd (val n0 l0).natAbs (val n1 l1).natAbs : Nat) : Int) := by rw [natAbs_val, natAbs_val, hG]
      have fG : Fits G := by rw [hG2]; exact gcd_fits fx fy
      rw [hG, mkI_fits fG] at hgc
      have kG := okN_sl fG
      have hsg := sign_at fG
      have HGC := Aside0.mk hgc
      clear h1 h2 ok0 ok1 hG hgc
      by_cases z0 : val n0 l0 = 0 ∧ val n1 l1 = 0
      · skip
        have hz : G = 0 := by rw [hG2, z0.1, z0.2]; rfl
        have HSG := Aside0.mk (show num_Sign.f (sb G) (sl G) = some 0 by rw [hsg, hz]; rfl)
        have HSA := Aside0.mk (show num_Sign.f n0 l0 = some 0 by rw [hsa, z0.1]; rfl)
        have HSB := Aside0.mk (show num_Sign.f n1 l1 = some 0 by rw [hsb, z0.2]; rfl)
        clear z0 hz hG2 fG fx fy hsg hsa hsb kl km kG
        go_enter Tryd.func12, Tryd.ntmps12
        obtain ⟨ua0, ua1⟩ := HS.out.cells 1 rfl
        obtain ⟨ub0, ub1⟩ := HS.out.cells 0 rfl
        go_wp2_with fail
        clear ua0 ua1 ub0 ub1
        have hg := HS.out.newblk (.cells #[.bool n0, .slice A0 l0.length c0, .bool n1, .slice A1 l1.length c1] 25 (0, 0))
        try simp only [World.size_alloc] at hg
        refine (num_Gcd.calls _ 2 [(n0, l0), (n1, l1)] (sb G) (sl G) 0 _ (pair_row hg ((HS.out.alloc _).came HR0.out) HC0.out ((HS.out.alloc _).came HR1.out) HC1.out) (Nat.le_refl 2) HGC.out).mono ?_
        rintro e w1_ ⟨v, rfl, hR, hb⟩
        clear hg
        obtain ⟨Ag, cg, rfl⟩ := Kd.R_slice hR
        have HN := Aside0.mk ((HS.out.alloc (.cells #[.bool n0, .slice A0 l0.length c0, .bool n1, .slice A1 l1.length c1] 25 (0, 0))).call32 hb hR)
        clear HS
        have HS := HN
        clear HN
        clear hb hR
        have HN := Aside0.mk (HS.out.boxed #[.bool (sb G), .slice Ag (sl G).length cg] 25 (by decide))
        clear HS
        have HS := HN
        clear HN
        go_wp2
        have HN := Aside0.mk (HS.out.drew)
        clear HS
        have HS := HN
        clear HN
        refine start_ (n := 21) (S := fun w' => w'.cell? ⟨w1_.heap.size, 0, none⟩ = some (.bool (sb G)) ∧ w'.cell? ⟨w1_.heap.size, 1, none⟩ = some (.slice Ag (sl G).length cg) ∧ w'.cell? ⟨w.heap.size, 0, none⟩ = some (.bool n0) ∧ w'.cell? ⟨w.heap.size, 1, none⟩ = some (.slice A0 l0.length c0) ∧ w'.cell? ⟨w.heap.size + 1, 0, none⟩ = some (.bool n1) ∧ w'.cell? ⟨w.heap.size + 1, 1, none⟩ = some (.slice A1 l1.length c1)) (ds := []) #[false, false, false, false, false, false, false, false, false, false, false, false, false, false, false, false, false, false, false, false, false] (by kernel_rfl) rfl rfl ⟨(HS.out.cells 0 rfl).1, (HS.out.cells 0 rfl).2, (HS.out.cells 2 rfl).1, (HS.out.cells 2 rfl).2, (HS.out.cells 1 rfl).1, (HS.out.cells 1 rfl).2⟩ (fun hHeld => ?_)
        refine pure_ (i := 0) (N := some 34) (v := ?_) (a' := ?_) #[true, false, false, false, false, false, false, false, false, false, false, false, false, false, false, false, false, false, false, false, false] rfl rfl (by kernel_rfl) (fun _ _ _ h => h) (Or.inl ⟨by rfl, ?_⟩) ?_ ?_
        rotate_left
        · intro w'
          go_simp
          with_reducible rfl
        rotate_left
        · simp only [Act.put, List.setIfInBounds_toArray, List.set_cons_zero, List.set_cons_succ, i64_w, i32_w]
          rfl
        refine pure_ (i := 1) (N := some 35) (v := ?_) (a' := ?_) #[true, true, false, false, false, false, false, false, false, false, false, false, false, false, false, false, false, false, false, false, false] rfl rfl (by kernel_rfl) (fun _ _ _ h => h) (Or.inl ⟨by rfl, ?_⟩) ?_ ?_
        rotate_left
        · intro w'
          go_simp
          with_reducible rfl
        rotate_left
        · simp only [Act.put, List.setIfInBounds_toArray, List.set_cons_zero, List.set_cons_succ, i64_w, i32_w]
          rfl
        refine pure_ (i := 2) (N := some 36) (v := ?_) (a' := ?_) #[true, true, true, false, false, false, false, false, false, false, false, false, false, false, false, false, false, false, false, false, false] rfl rfl (by kernel_rfl) (fun _ _ _ h => h) (Or.inl ⟨by rfl, ?_⟩) ?_ ?_
        rotate_left
        · intro w'
          go_simp
          with_reducible rfl
        rotate_left
        · simp only [Act.put, List.setIfInBounds_toArray, List.set_cons_zero, List.set_cons_succ, i64_w, i32_w]
          rfl
        refine take_ (i := 3) (N := some 37) (v := ?_) (a' := ?_) #[true, true, true, true, false, false, false, false, false, false, false, false, false, false, false, false, false, false, false, false, false] rfl rfl (by kernel_rfl) (fun _ _ _ h => h) (Or.inl ⟨by rfl, ?_⟩) hHeld ?_ ?_
        rotate_left
        · rintro w' ⟨s0, s1, s2, s3, s4, s5⟩
          go_simp
          with_reducible rfl
        rotate_left
        · simp only [Act.put, List.setIfInBounds_toArray, List.set_cons_zero, List.set_cons_succ, i64_w, i32_w]
          rfl
        refine one_ (i := 4) (N := some 38) #[true, true, true, true, true, false, false, false, false, false, false, false, false, false, false, false, false, false, false, false, false] rfl rfl (by kernel_rfl) (by decide) (fun K hK => ?_)
        refine goes_ Tryd.func39 (by kernel_rfl) rfl #[.agg #[.bool (sb G), .slice Ag (sl G).length cg]] (by rfl) rfl rfl (by simp only [List.map_toArray, List.map_cons, List.map_nil]; rfl) ?_
        with_reducible refine (num_Sign.calls (sb G) Ag cg (sl G) 0 _ (HS.out.limbs 0 rfl).2.2 (HS.out.limbs 0 rfl).2.1 HSG.out).mono ?_
        rintro e w3 ⟨rfl, hb⟩
        refine ⟨_, rfl, ?_⟩
        have HN := Aside0.mk (HS.out.call hb)
        clear HS
        have HS := HN
        clear HN
        refine hK.out _ _ ⟨(HS.out.cells 0 rfl).1, (HS.out.cells 0 rfl).2, (HS.out.cells 2 rfl).1, (HS.out.cells 2 rfl).2, (HS.out.cells 1 rfl).1, (HS.out.cells 1 rfl).2⟩ (fun hHeld => ?_)
        clear hK K
        refine norm_ (a' := ?_) ?_ ?_
        rotate_left
        · show Act.put _ (some 38) _ = _
          simp only [Act.put, List.setIfInBounds_toArray, List.set_cons_zero, List.set_cons_succ, i64_w, i32_w]
          rfl
        refine pure_ (i := 5) (N := some 39) (v := ?_) (a' := ?_) #[true, true, true, true, true, true, false, false, false, false, false, false, false, false, false, false, false, false, false, false, false] rfl rfl (by kernel_rfl) (fun _ _ _ h => h) (Or.inl ⟨by rfl, ?_⟩) ?_ ?_
        rotate_left
        · intro w'
          go_simp
          with_reducible rfl
        rotate_left
        · simp only [Act.put, List.setIfInBounds_toArray, List.set_cons_zero, List.set_cons_succ, i64_w, i32_w]
          rfl
        refine pure_ (i := 6) (N := some 40) (v := ?_) (a' := ?_) #[true, true, true, true, true, true, true, false, false, false, false, false, false, false, false, false, false, false, false, false, false] rfl rfl (by kernel_rfl) (fun _ _ _ h => h) (Or.inl ⟨by rfl, ?_⟩) ?_ ?_
        rotate_left
        · intro w'
          go_simp
          with_reducible rfl
        rotate_left
        · simp only [Act.put, List.setIfInBounds_toArray, List.set_cons_zero, List.set_cons_succ, i64_w, i32_w]
          rfl
        refine pure_ (i := 7) (N := some 41) (v := ?_) (a' := ?_) #[true, true, true, true, true, true, true, true, false, false, false, false, false, false, false, false, false, false, false, false, false] rfl rfl (by kernel_rfl) (fun _ _ _ h => h) (Or.inl ⟨by rfl, ?_⟩) ?_ ?_
        rotate_left
        · intro w'
          go_simp
          with_reducible rfl
        rotate_left
        · simp only [Act.put, List.setIfInBounds_toArray, List.set_cons_zero, List.set_cons_succ, i64_w, i32_w]
          rfl
        refine take_ (i := 8) (N := some 42) (v := ?_) (a' := ?_) #[true, true, true, true, true, true, true, true, true, false, false, false, false, false, false, false, false, false, false, false, false] rfl rfl (by kernel_rfl) (fun _ _ _ h => h) (Or.inl ⟨by rfl, ?_⟩) hHeld ?_ ?_
        rotate_left
        · rintro w' ⟨s0, s1, s2, s3, s4, s5⟩
          go_simp
          with_reducible rfl
        rotate_left
        · simp only [Act.put, List.setIfInBounds_toArray, List.set_cons_zero, List.set_cons_succ, i64_w, i32_w]
          rfl
        refine take_ (i := 11) (N := some 45) (v := ?_) (a' := ?_) #[true, true, true, true, true, true, true, true, true, false, false, true, false, false, false, false, false, false, false, false, false] rfl rfl (by kernel_rfl) (fun _ _ _ h => h) (Or.inl ⟨by rfl, ?_⟩) hHeld ?_ ?_
        rotate_left
        · rintro w' ⟨s0, s1, s2, s3, s4, s5⟩
          go_simp
          with_reducible rfl
        rotate_left
        · simp only [Act.put, List.setIfInBounds_toArray, List.set_cons_zero, List.set_cons_succ, i64_w, i32_w]
          rfl
        refine one_ (i := 9) (N := some 43) #[true, true, true, true, true, true, true, true, true, true, false, true, false, false, false, false, false, false, false, false, false] rfl rfl (by kernel_rfl) (by decide) (fun K hK => ?_)
        refine goes_ Tryd.func39 (by kernel_rfl) rfl #[.agg #[.bool (sb G), .slice Ag (sl G).length cg]] (by rfl) rfl rfl (by simp only [List.map_toArray, List.map_cons, List.map_nil]; rfl) ?_
        with_reducible refine (num_Sign.calls (sb G) Ag cg (sl G) 0 _ (HS.out.limbs 0 rfl).2.2 (HS.out.limbs 0 rfl).2.1 HSG.out).mono ?_
        rintro e w3 ⟨rfl, hb⟩
        refine ⟨_, rfl, ?_⟩
        have HN := Aside0.mk (HS.out.call hb)
        clear HS
        have HS := HN
        clear HN
        refine hK.out _ _ ⟨(HS.out.cells 0 rfl).1, (HS.out.cells 0 rfl).2, (HS.out.cells 2 rfl).1, (HS.out.cells 2 rfl).2, (HS.out.cells 1 rfl).1, (HS.out.cells 1 rfl).2⟩ (fun hHeld => ?_)
        clear hK K
        refine norm_ (a' := ?_) ?_ ?_
        rotate_left
        · show Act.put _ (some 43) _ = _
          simp only [Act.put, List.setIfInBounds_toArray, List.set_cons_zero, List.set_cons_succ, i64_w, i32_w]
          rfl
        refine pure_ (i := 10) (N := some 44) (v := ?_) (a' := ?_) #[true, true, true, true, true, true, true, true, true, true, true, true, false, false, false, false, false, false, false, false, false] rfl rfl (by kernel_rfl) (fun _ _ _ h => h) (Or.inl ⟨by rfl, ?_⟩) ?_ ?_
        rotate_left
        · intro w'
          go_simp
          with_reducible rfl
        rotate_left
        · simp only [Act.put, List.setIfInBounds_toArray, List.set_cons_zero, List.set_cons_succ, i64_w, i32_w]
          rfl
        refine one_ (i := 12) (N := some 46) #[true, true, true, true, true, true, true, true, true, true, true, true, true, false, false, false, false, false, false, false, false] rfl rfl (by kernel_rfl) (by decide) (fun K hK => ?_)
        refine goes_ Tryd.func39 (by kernel_rfl) rfl #[.agg #[.bool n0, .slice A0 l0.length c0]] (by rfl) rfl rfl (by simp only [List.map_toArray, List.map_cons, List.map_nil]; rfl) ?_
        with_reducible refine (num_Sign.calls n0 A0 c0 l0 0 _ (HS.out.came HR0.out) HC0.out HSA.out).mono ?_
        rintro e w3 ⟨rfl, hb⟩
        refine ⟨_, rfl, ?_⟩
        have HN := Aside0.mk (HS.out.call hb)
        clear HS
        have HS := HN
        clear HN
        refine hK.out _ _ ⟨(HS.out.cells 0 rfl).1, (HS.out.cells 0 rfl).2, (HS.out.cells 2 rfl).1, (HS.out.cells 2 rfl).2, (HS.out.cells 1 rfl).1, (HS.out.cells 1 rfl).2⟩ (fun hHeld => ?_)
        clear hK K
        refine norm_ (a' := ?_) ?_ ?_
        rotate_left
        · show Act.put _ (some 46) _ = _
          simp only [Act.put, List.setIfInBounds_toArray, List.set_cons_zero, List.set_cons_succ, i64_w, i32_w]
          rfl
        refine pure_ (i := 13) (N := some 47) (v := ?_) (a' := ?_) #[true, true, true, true, true, true, true, true, true, true, true, true, true, true, false, false, false, false, false, false, false] rfl rfl (by kernel_rfl) (fun _ _ _ h => h) (Or.inl ⟨by rfl, ?_⟩) ?_ ?_
        rotate_left
        · intro w'
          go_simp
          with_reducible rfl
        rotate_left
        · simp only [Act.put, List.setIfInBounds_toArray, List.set_cons_zero, List.set_cons_succ, i64_w, i32_w]
          rfl
        refine pure_ (i := 14) (N := some 48) (v := ?_) (a' := ?_) #[true, true, true, true, true, true, true, true, true, true, true, true, true, true, true, false, false, false, false, false, false] rfl rfl (by kernel_rfl) (fun _ _ _ h => h) (Or.inl ⟨by rfl, ?_⟩) ?_ ?_
        rotate_left
        · intro w'
          go_simp
          with_reducible rfl
        rotate_left
        · simp only [Act.put, List.setIfInBounds_toArray, List.set_cons_zero, List.set_cons_succ, i64_w, i32_w]
          rfl
        refine take_ (i := 15) (N := some 49) (v := ?_) (a' := ?_) #[true, true, true, true, true, true, true, true, true, true, true, true, true, true, true, true, false, false, false, false, false] rfl rfl (by kernel_rfl) (fun _ _ _ h => h) (Or.inl ⟨by rfl, ?_⟩) hHeld ?_ ?_
        rotate_left
        · rintro w' ⟨s0, s1, s2, s3, s4, s5⟩
          go_simp
          with_reducible rfl
        rotate_left
        · simp only [Act.put, List.setIfInBounds_toArray, List.set_cons_zero, List.set_cons_succ, i64_w, i32_w]
          rfl
        refine one_ (i := 16) (N := some 50) #[true, true, true, true, true, true, true, true, true, true, true, true, true, true, true, true, true, false, false, false, false] rfl rfl (by kernel_rfl) (by decide) (fun K hK => ?_)
        refine goes_ Tryd.func39 (by kernel_rfl) rfl #[.agg #[.bool n1, .slice A1 l1.length c1]] (by rfl) rfl rfl (by simp only [List.map_toArray, List.map_cons, List.map_nil]; rfl) ?_
        with_reducible refine (num_Sign.calls n1 A1 c1 l1 0 _ (HS.out.came HR1.out) HC1.out HSB.out).mono ?_
        rintro e w3 ⟨rfl, hb⟩
        refine ⟨_, rfl, ?_⟩
        have HN := Aside0.mk (HS.out.call hb)
        clear HS
        have HS := HN
        clear HN
        refine hK.out _ _ ⟨(HS.out.cells 0 rfl).1, (HS.out.cells 0 rfl).2, (HS.out.cells 2 rfl).1, (HS.out.cells 2 rfl).2, (HS.out.cells 1 rfl).1, (HS.out.cells 1 rfl).2⟩ (fun hHeld => ?_)
        clear hK K
        refine norm_ (a' := ?_) ?_ ?_
        rotate_left
        · show Act.put _ (some 50) _ = _
          simp only [Act.put, List.setIfInBounds_toArray, List.set_cons_zero, List.set_cons_succ, i64_w, i32_w]
          rfl
        refine pure_ (i := 17) (N := some 51) (v := ?_) (a' := ?_) #[true, true, true, true, true, true, true, true, true, true, true, true, true, true, true, true, true, true, false, false, false] rfl rfl (by kernel_rfl) (fun _ _ _ h => h) (Or.inl ⟨by rfl, ?_⟩) ?_ ?_
        rotate_left
        · intro w'
          go_simp
          with_reducible rfl
        rotate_left
        · simp only [Act.put, List.setIfInBounds_toArray, List.set_cons_zero, List.set_cons_succ, i64_w, i32_w]
          rfl
        refine pure_ (i := 18) (N := some 52) (v := ?_) (a' := ?_) #[true, true, true, true, true, true, true, true, true, true, true, true, true, true, true, true, true, true, true, false, false] rfl rfl (by kernel_rfl) (fun _ _ _ h => h) (Or.inl ⟨by rfl, ?_⟩) ?_ ?_
        rotate_left
        · intro w'
          go_simp
          with_reducible rfl
        rotate_left
        · simp only [Act.put, List.setIfInBounds_toArray, List.set_cons_zero, List.set_cons_succ, i64_w, i32_w]
          rfl
        refine pure_ (i := 19) (N := some 53) (v := ?_) (a' := ?_) #[true, true, true, true, true, true, true, true, true, true, true, true, true, true, true, true, true, true, true, true, false] rfl rfl (by kernel_rfl) (fun _ _ _ h => h) (Or.inl ⟨by rfl, ?_⟩) ?_ ?_
        rotate_left
        · intro w'
          go_simp
          with_reducible rfl
        rotate_left
        · simp only [Act.put, List.setIfInBounds_toArray, List.set_cons_zero, List.set_cons_succ, i64_w, i32_w]
          rfl
        refine pure_ (i := 20) (N := some 54) (v := ?_) (a' := ?_) #[true, true, true, true, true, true, true, true, true, true, true, true, true, true, true, true, true, true, true, true, true] rfl rfl (by kernel_rfl) (fun _ _ _ h => h) (Or.inl ⟨by rfl, ?_⟩) ?_ ?_
        rotate_left
        · intro w'
          go_simp
          with_reducible rfl
        rotate_left
        · simp only [Act.put, List.setIfInBounds_toArray, List.set_cons_zero, List.set_cons_succ, i64_w, i32_w]
          rfl
        refine done_ (by kernel_rfl) ?_
        obtain ⟨ug0, ug1⟩ := HS.out.cells 0 rfl
        go_wp2_with fail
        refine (num_Sign.calls (sb G) Ag cg (sl G) 0 _ (HS.out.limbs 0 rfl).2.2 (HS.out.limbs 0 rfl).2.1 HSG.out).mono ?_
        rintro e w2_ ⟨rfl, hb⟩
        clear ug0 ug1
        have HN := Aside0.mk (HS.out.call hb)
        clear HS
        have HS := HN
        clear HN
        clear hb
        go_wp2_with fail
        refine (awake_calls _ (NumV.Tab.below HT.out HS.out.below)).mono ?_
        rintro e w3_ ⟨rfl, hb⟩
        have HN := Aside0.mk (HS.out.call hb)
        clear HS
        have HS := HN
        clear HN
        clear hb
        go_wp2
        go_ret
        exact ⟨rfl, HS.out.below⟩
      · skip
        have hne : val n0 l0 ≠ 0 ∨ val n1 l1 ≠ 0 := by
          rcases Classical.em (val n0 l0 = 0) with h | h
          · exact .inr (fun h2 => z0 ⟨h, h2⟩)
          · exact .inl h
        obtain ⟨g0, g1, g2, g3, g4, g5, g6⟩ := gcd_facts _ _ hne G hG2
        have fqx := fits_le fx g5
        have fqy := fits_le fy g6
        have h1 := quo_raw (n1 := n0) (n2 := sb G) kl kG (by rw [val_s]; exact g0)
        have h2 := quo_raw (n1 := n1) (n2 := sb G) km kG (by rw [val_s]; exact g0)
        have h3 := rem_raw (n1 := n0) (n2 := sb G) kl kG (by rw [val_s]; exact g0)
        have h4 := rem_raw (n1 := n1) (n2 := sb G) km kG (by rw [val_s]; exact g0)
        rw [val_s, mkI_fits fqx] at h1
        rw [val_s, mkI_fits fqy] at h2
        rw [val_s, g2, mkI_fits fits_zero] at h3
        rw [val_s, g3, mkI_fits fits_zero] at h4
        have h5 := gcd_raw (n0 := sb (Int.tdiv (val n0 l0) G)) (n1 := sb (Int.tdiv (val n1 l1) G)) (okN_sl fqx) (okN_sl fqy)
        rw [mag_sl, mag_sl, g4, mkI_fits (show Fits ((1 : Nat) : Int) from fits_small (by decide))] at h5
        rw [g1] at hsg
        generalize Int.tdiv (val n0 l0) G = qx at *
        generalize Int.tdiv (val n1 l1) G = qy at *
        have H1 := Aside0.mk h1
        have H2 := Aside0.mk h2
        have H3 := Aside0.mk h3
        have H4 := Aside0.mk h4
        have H5 := Aside0.mk (show num_Gcd.f [(sb qx, sl qx), (sb qy, sl qy)] = some (sb 1, sl 1, 0) from h5)
        have HSG := Aside0.mk hsg
        have HZ := Aside0.mk (show num_Sign.f (sb 0) (sl 0) = some 0 by rw [sign_at fits_zero]; rfl)
        have HO := Aside0.mk (of_at (z := 1) (by decide))
        have HCC := Aside0.mk (show num_Cmp.f (sb 1) (sl 1) (sb 1) (sl 1) = some 0 by rw [cmp_at (fits_small (by decide)) (fits_small (by decide)), cmp_self])
        clear h1 h2 h3 h4 h5 g0 g1 g2 g3 g4 g5 g6 fqx fqy kl km kG fG fx fy hsg hG2 z0
        by_cases x0 : val n0 l0 = 0
        · skip
          have y0 : val n1 l1 ≠ 0 := by rcases hne with h | h; exact absurd x0 h; exact h
          have sy0 : ((val n1 l1).sign == 0) = false := by rw [beq_eq_false_iff_ne]; intro h; exact y0 (Int.sign_eq_zero_iff_zero.mp h)
          rw [x0] at hsa
          generalize (val n1 l1).sign = sy at *
          have HSA := Aside0.mk (show num_Sign.f n0 l0 = some 0 by rw [hsa]; rfl)
          have HSB := Aside0.mk hsb
          clear hne x0 y0 hsa hsb
          go_enter Tryd.func12, Tryd.ntmps12
          obtain ⟨ua0, ua1⟩ := HS.out.cells 1 rfl
          obtain ⟨ub0, ub1⟩ := HS.out.cells 0 rfl
          go_wp2_with fail
          clear ua0 ua1 ub0 ub1
          have hg := HS.out.newblk (.cells #[.bool n0, .slice A0 l0.length c0, .bool n1, .slice A1 l1.length c1] 25 (0, 0))
          try simp only [World.size_alloc] at hg
          refine (num_Gcd.calls _ 2 [(n0, l0), (n1, l1)] (sb G) (sl G) 0 _ (pair_row hg ((HS.out.alloc _).came HR0.out) HC0.out ((HS.out.alloc _).came HR1.out) HC1.out) (Nat.le_refl 2) HGC.out).mono ?_
          rintro e w1_ ⟨v, rfl, hR, hb⟩
          clear hg
          obtain ⟨Ag, cg, rfl⟩ := Kd.R_slice hR
          have HN := Aside0.mk ((HS.out.alloc (.cells #[.bool n0, .slice A0 l0.length c0, .bool n1, .slice A1 l1.length c1] 25 (0, 0))).call32 hb hR)
          clear HS
          have HS := HN
          clear HN
          clear hb hR
          have HN := Aside0.mk (HS.out.boxed #[.bool (sb G), .slice Ag (sl G).length cg] 25 (by decide))
          clear HS
          have HS := HN
          clear HN
          go_wp2
          have HN := Aside0.mk (HS.out.drew)
          clear HS
          have HS := HN
          clear HN
          refine start_ (n := 21) (S := fun w' => w'.cell? ⟨w1_.heap.size, 0, none⟩ = some (.bool (sb G)) ∧ w'.cell? ⟨w1_.heap.size, 1, none⟩ = some (.slice Ag (sl G).length cg) ∧ w'.cell? ⟨w.heap.size, 0, none⟩ = some (.bool n0) ∧ w'.cell? ⟨w.heap.size, 1, none⟩ = some (.slice A0 l0.length c0) ∧ w'.cell? ⟨w.heap.size + 1, 0, none⟩ = some (.bool n1) ∧ w'.cell? ⟨w.heap.size + 1, 1, none⟩ = some (.slice A1 l1.length c1)) (ds := []) #[false, false, false, false, false, false, false, false, false, false, false, false, false, false, false, false, false, false, false, false, false] (by kernel_rfl) rfl rfl ⟨(HS.out.cells 0 rfl).1, (HS.out.cells 0 rfl).2, (HS.out.cells 2 rfl).1, (HS.out.cells 2 rfl).2, (HS.out.cells 1 rfl).1, (HS.out.cells 1 rfl).2⟩ (fun hHeld => ?_)
          refine pure_ (i := 0) (N := some 34) (v := ?_) (a' := ?_) #[true, false, false, false, false, false, false, false, false, false, false, false, false, false, false, false, false, false, false, false, false] rfl rfl (by kernel_rfl) (fun _ _ _ h => h) (Or.inl ⟨by rfl, ?_⟩) ?_ ?_
          rotate_left
          · intro w'
            go_simp
            with_reducible rfl
          rotate_left
          · simp only [Act.put, List.setIfInBounds_toArray, List.set_cons_zero, List.set_cons_succ, i64_w, i32_w]
            rfl
          refine pure_ (i := 1) (N := some 35) (v := ?_) (a' := ?_) #[true, true, false, false, false, false, false, false, false, false, false, false, false, false, false, false, false, false, false, false, false] rfl rfl (by kernel_rfl) (fun _ _ _ h => h) (Or.inl ⟨by rfl, ?_⟩) ?_ ?_
          rotate_left
          · intro w'
            go_simp
            with_reducible rfl
          rotate_left
          · simp only [Act.put, List.setIfInBounds_toArray, List.set_cons_zero, List.set_cons_succ, i64_w, i32_w]
            rfl
          refine pure_ (i := 2) (N := some 36) (v := ?_) (a' := ?_) #[true, true, true, false, false, false, false, false, false, false, false, false, false, false, false, false, false, false, false, false, false] rfl rfl (by kernel_rfl) (fun _ _ _ h => h) (Or.inl ⟨by rfl, ?_⟩) ?_ ?_
          rotate_left
          · intro w'
            go_simp
            with_reducible rfl
          rotate_left
          · simp only [Act.put, List.setIfInBounds_toArray, List.set_cons_zero, List.set_cons_succ, i64_w, i32_w]
            rfl
          refine take_ (i := 3) (N := some 37) (v := ?_) (a' := ?_) #[true, true, true, true, false, false, false, false, false, false, false, false, false, false, false, false, false, false, false, false, false] rfl rfl (by kernel_rfl) (fun _ _ _ h => h) (Or.inl ⟨by rfl, ?_⟩) hHeld ?_ ?_
          rotate_left
          · rintro w' ⟨s0, s1, s2, s3, s4, s5⟩
            go_simp
            with_reducible rfl
          rotate_left
          · simp only [Act.put, List.setIfInBounds_toArray, List.set_cons_zero, List.set_cons_succ, i64_w, i32_w]
            rfl
          refine one_ (i := 4) (N := some 38) #[true, true, true, true, true, false, false, false, false, false, false, false, false, false, false, false, false, false, false, false, false] rfl rfl (by kernel_rfl) (by decide) (fun K hK => ?_)
          refine goes_ Tryd.func39 (by kernel_rfl) rfl #[.agg #[.bool (sb G), .slice Ag (sl G).length cg]] (by rfl) rfl rfl (by simp only [List.map_toArray, List.map_cons, List.map_nil]; rfl) ?_
          with_reducible refine (num_Sign.calls (sb G) Ag cg (sl G) 1 _ (HS.out.limbs 0 rfl).2.2 (HS.out.limbs 0 rfl).2.1 HSG.out).mono ?_
          rintro e w3 ⟨rfl, hb⟩
          refine ⟨_, rfl, ?_⟩
          have HN := Aside0.mk (HS.out.call hb)
          clear HS
          have HS := HN
          clear HN
          refine hK.out _ _ ⟨(HS.out.cells 0 rfl).1, (HS.out.cells 0 rfl).2, (HS.out.cells 2 rfl).1, (HS.out.cells 2 rfl).2, (HS.out.cells 1 rfl).1, (HS.out.cells 1 rfl).2⟩ (fun hHeld => ?_)
          clear hK K
          refine norm_ (a' := ?_) ?_ ?_
          rotate_left
          · show Act.put _ (some 38) _ = _
            simp only [Act.put, List.setIfInBounds_toArray, List.set_cons_zero, List.set_cons_succ, i64_w, i32_w]
            rfl
          refine pure_ (i := 5) (N := some 39) (v := ?_) (a' := ?_) #[true, true, true, true, true, true, false, false, false, false, false, false, false, false, false, false, false, false, false, false, false] rfl rfl (by kernel_rfl) (fun _ _ _ h => h) (Or.inl ⟨by rfl, ?_⟩) ?_ ?_
          rotate_left
          · intro w'
            go_simp
            with_reducible rfl
          rotate_left
          · simp only [Act.put, List.setIfInBounds_toArray, List.set_cons_zero, List.set_cons_succ, i64_w, i32_w]
            rfl
          refine pure_ (i := 6) (N := some 40) (v := ?_) (a' := ?_) #[true, true, true, true, true, true, true, false, false, false, false, false, false, false, false, false, false, false, false, false, false] rfl rfl (by kernel_rfl) (fun _ _ _ h => h) (Or.inl ⟨by rfl, ?_⟩) ?_ ?_
          rotate_left
          · intro w'
            go_simp
            with_reducible rfl
          rotate_left
          · simp only [Act.put, List.setIfInBounds_toArray, List.set_cons_zero, List.set_cons_succ, i64_w, i32_w]
            rfl
          refine pure_ (i := 7) (N := some 41) (v := ?_) (a' := ?_) #[true, true, true, true, true, true, true, true, false, false, false, false, false, false, false, false, false, false, false, false, false] rfl rfl (by kernel_rfl) (fun _ _ _ h => h) (Or.inl ⟨by rfl, ?_⟩) ?_ ?_
          rotate_left
          · intro w'
            go_simp
            with_reducible rfl
          rotate_left
          · simp only [Act.put, List.setIfInBounds_toArray, List.set_cons_zero, List.set_cons_succ, i64_w, i32_w]
            rfl
          refine take_ (i := 8) (N := some 42) (v := ?_) (a' := ?_) #[true, true, true, true, true, true, true, true, true, false, false, false, false, false, false, false, false, false, false, false, false] rfl rfl (by kernel_rfl) (fun _ _ _ h => h) (Or.inl ⟨by rfl, ?_⟩) hHeld ?_ ?_
          rotate_left
          · rintro w' ⟨s0, s1, s2, s3, s4, s5⟩
            go_simp
            with_reducible rfl
          rotate_left
          · simp only [Act.put, List.setIfInBounds_toArray, List.set_cons_zero, List.set_cons_succ, i64_w, i32_w]
            rfl
          refine take_ (i := 11) (N := some 45) (v := ?_) (a' := ?_) #[true, true, true, true, true, true, true, true, true, false, false, true, false, false, false, false, false, false, false, false, false] rfl rfl (by kernel_rfl) (fun _ _ _ h => h) (Or.inl ⟨by rfl, ?_⟩) hHeld ?_ ?_
          rotate_left
          · rintro w' ⟨s0, s1, s2, s3, s4, s5⟩
            go_simp
            with_reducible rfl
          rotate_left
          · simp only [Act.put, List.setIfInBounds_toArray, List.set_cons_zero, List.set_cons_succ, i64_w, i32_w]
            rfl
          refine one_ (i := 9) (N := some 43) #[true, true, true, true, true, true, true, true, true, true, false, true, false, false, false, false, false, false, false, false, false] rfl rfl (by kernel_rfl) (by decide) (fun K hK => ?_)
          refine goes_ Tryd.func39 (by kernel_rfl) rfl #[.agg #[.bool (sb G), .slice Ag (sl G).length cg]] (by rfl) rfl rfl (by simp only [List.map_toArray, List.map_cons, List.map_nil]; rfl) ?_
          with_reducible refine (num_Sign.calls (sb G) Ag cg (sl G) 1 _ (HS.out.limbs 0 rfl).2.2 (HS.out.limbs 0 rfl).2.1 HSG.out).mono ?_
          rintro e w3 ⟨rfl, hb⟩
          refine ⟨_, rfl, ?_⟩
          have HN := Aside0.mk (HS.out.call hb)
          clear HS
          have HS := HN
          clear HN
          refine hK.out _ _ ⟨(HS.out.cells 0 rfl).1, (HS.out.cells 0 rfl).2, (HS.out.cells 2 rfl).1, (HS.out.cells 2 rfl).2, (HS.out.cells 1 rfl).1, (HS.out.cells 1 rfl).2⟩ (fun hHeld => ?_)
          clear hK K
          refine norm_ (a' := ?_) ?_ ?_
          rotate_left
          · show Act.put _ (some 43) _ = _
            simp only [Act.put, List.setIfInBounds_toArray, List.set_cons_zero, List.set_cons_succ, i64_w, i32_w]
            rfl
          refine pure_ (i := 10) (N := some 44) (v := ?_) (a' := ?_) #[true, true, true, true, true, true, true, true, true, true, true, true, false, false, false, false, false, false, false, false, false] rfl rfl (by kernel_rfl) (fun _ _ _ h => h) (Or.inl ⟨by rfl, ?_⟩) ?_ ?_
          rotate_left
          · intro w'
            go_simp
            with_reducible rfl
          rotate_left
          · simp only [Act.put, List.setIfInBounds_toArray, List.set_cons_zero, List.set_cons_succ, i64_w, i32_w]
            rfl
          refine one_ (i := 12) (N := some 46) #[true, true, true, true, true, true, true, true, true, true, true, true, true, false, false, false, false, false, false, false, false] rfl rfl (by kernel_rfl) (by decide) (fun K hK => ?_)
          refine goes_ Tryd.func39 (by kernel_rfl) rfl #[.agg #[.bool n0, .slice A0 l0.length c0]] (by rfl) rfl rfl (by simp only [List.map_toArray, List.map_cons, List.map_nil]; rfl) ?_
          with_reducible refine (num_Sign.calls n0 A0 c0 l0 0 _ (HS.out.came HR0.out) HC0.out HSA.out).mono ?_
          rintro e w3 ⟨rfl, hb⟩
          refine ⟨_, rfl, ?_⟩
          have HN := Aside0.mk (HS.out.call hb)
          clear HS
          have HS := HN
          clear HN
          refine hK.out _ _ ⟨(HS.out.cells 0 rfl).1, (HS.out.cells 0 rfl).2, (HS.out.cells 2 rfl).1, (HS.out.cells 2 rfl).2, (HS.out.cells 1 rfl).1, (HS.out.cells 1 rfl).2⟩ (fun hHeld => ?_)
          clear hK K
          refine norm_ (a' := ?_) ?_ ?_
          rotate_left
          · show Act.put _ (some 46) _ = _
            simp only [Act.put, List.setIfInBounds_toArray, List.set_cons_zero, List.set_cons_succ, i64_w, i32_w]
            rfl
          refine pure_ (i := 13) (N := some 47) (v := ?_) (a' := ?_) #[true, true, true, true, true, true, true, true, true, true, true, true, true, true, false, false, false, false, false, false, false] rfl rfl (by kernel_rfl) (fun _ _ _ h => h) (Or.inl ⟨by rfl, ?_⟩) ?_ ?_
          rotate_left
          · intro w'
            go_simp
            with_reducible rfl
          rotate_left
          · simp only [Act.put, List.setIfInBounds_toArray, List.set_cons_zero, List.set_cons_succ, i64_w, i32_w]
            rfl
          refine pure_ (i := 14) (N := some 48) (v := ?_) (a' := ?_) #[true, true, true, true, true, true, true, true, true, true, true, true, true, true, true, false, false, false, false, false, false] rfl rfl (by kernel_rfl) (fun _ _ _ h => h) (Or.inl ⟨by rfl, ?_⟩) ?_ ?_
          rotate_left
          · intro w'
            go_simp
            with_reducible rfl
          rotate_left
          · simp only [Act.put, List.setIfInBounds_toArray, List.set_cons_zero, List.set_cons_succ, i64_w, i32_w]
            rfl
          refine take_ (i := 15) (N := some 49) (v := ?_) (a' := ?_) #[true, true, true, true, true, true, true, true, true, true, true, true, true, true, true, true, false, false, false, false, false] rfl rfl (by kernel_rfl) (fun _ _ _ h => h) (Or.inl ⟨by rfl, ?_⟩) hHeld ?_ ?_
          rotate_left
          · rintro w' ⟨s0, s1, s2, s3, s4, s5⟩
            go_simp
            with_reducible rfl
          rotate_left
          · simp only [Act.put, List.setIfInBounds_toArray, List.set_cons_zero, List.set_cons_succ, i64_w, i32_w]
            rfl
          refine one_ (i := 16) (N := some 50) #[true, true, true, true, true, true, true, true, true, true, true, true, true, true, true, true, true, false, false, false, false] rfl rfl (by kernel_rfl) (by decide) (fun K hK => ?_)
          refine goes_ Tryd.func39 (by kernel_rfl) rfl #[.agg #[.bool n1, .slice A1 l1.length c1]] (by rfl) rfl rfl (by simp only [List.map_toArray, List.map_cons, List.map_nil]; rfl) ?_
          with_reducible refine (num_Sign.calls n1 A1 c1 l1 sy _ (HS.out.came HR1.out) HC1.out HSB.out).mono ?_
          rintro e w3 ⟨rfl, hb⟩
          refine ⟨_, rfl, ?_⟩
          have HN := Aside0.mk (HS.out.call hb)
          clear HS
          have HS := HN
          clear HN
          refine hK.out _ _ ⟨(HS.out.cells 0 rfl).1, (HS.out.cells 0 rfl).2, (HS.out.cells 2 rfl).1, (HS.out.cells 2 rfl).2, (HS.out.cells 1 rfl).1, (HS.out.cells 1 rfl).2⟩ (fun hHeld => ?_)
          clear hK K
          refine norm_ (a' := ?_) ?_ ?_
          rotate_left
          · show Act.put _ (some 50) _ = _
            simp only [Act.put, List.setIfInBounds_toArray, List.set_cons_zero, List.set_cons_succ, i64_w, i32_w]
            rfl
          refine pure_ (i := 17) (N := some 51) (v := ?_) (a' := ?_) #[true, true, true, true, true, true, true, true, true, true, true, true, true, true, true, true, true, true, false, false, false] rfl rfl (by kernel_rfl) (fun _ _ _ h => h) (Or.inl ⟨by rfl, ?_⟩) ?_ ?_
          rotate_left
          · intro w'
            go_simp
            with_reducible rfl
          rotate_left
          · simp only [Act.put, List.setIfInBounds_toArray, List.set_cons_zero, List.set_cons_succ, i64_w, i32_w]
            rfl
          refine pure_ (i := 18) (N := some 52) (v := ?_) (a' := ?_) #[true, true, true, true, true, true, true, true, true, true, true, true, true, true, true, true, true, true, true, false, false] rfl rfl (by kernel_rfl) (fun _ _ _ h => h) (Or.inl ⟨by rfl, ?_⟩) ?_ ?_
          rotate_left
          · intro w'
            go_simp
            with_reducible rfl
          rotate_left
          · simp only [Act.put, List.setIfInBounds_toArray, List.set_cons_zero, List.set_cons_succ, i64_w, i32_w]
            rfl
          refine pure_ (i := 19) (N := some 53) (v := ?_) (a' := ?_) #[true, true, true, true, true, true, true, true, true, true, true, true, true, true, true, true, true, true, true, true, false] rfl rfl (by kernel_rfl) (fun _ _ _ h => h) (Or.inl ⟨by rfl, ?_⟩) ?_ ?_
          rotate_left
          · intro w'
            go_simp
            with_reducible rfl
          rotate_left
          · simp only [Act.put, List.setIfInBounds_toArray, List.set_cons_zero, List.set_cons_succ, i64_w, i32_w]
            rfl
          refine pure_ (i := 20) (N := some 54) (v := ?_) (a' := ?_) #[true, true, true, true, true, true, true, true, true, true, true, true, true, true, true, true, true, true, true, true, true] rfl rfl (by kernel_rfl) (fun _ _ _ h => h) (Or.inl ⟨by rfl, ?_⟩) ?_ ?_
          rotate_left
          · intro w'
            go_simp
            with_reducible rfl
          rotate_left
          · simp only [Act.put, List.setIfInBounds_toArray, List.set_cons_zero, List.set_cons_succ, i64_w, i32_w]
            rfl
          refine done_ (by kernel_rfl) ?_
          obtain ⟨ug0, ug1⟩ := HS.out.cells 0 rfl
          go_wp2_with fail
          refine (num_Sign.calls (sb G) Ag cg (sl G) 1 _ (HS.out.limbs 0 rfl).2.2 (HS.out.limbs 0 rfl).2.1 HSG.out).mono ?_
          rintro e w2_ ⟨rfl, hb⟩
          clear ug0 ug1
          have HN := Aside0.mk (HS.out.call hb)
          clear HS
          have HS := HN
          clear HN
          clear hb
          obtain ⟨ua0, ua1⟩ := HS.out.cells 2 rfl
          obtain ⟨ug0, ug1⟩ := HS.out.cells 0 rfl
          go_wp2_with fail
          refine (num_Quo.calls n0 A0 c0 l0 (sb G) Ag cg (sl G) (sb qx) (sl qx) 0 _ (HS.out.came HR0.out) HC0.out (HS.out.limbs 0 rfl).2.2 (HS.out.limbs 0 rfl).2.1 H1.out).mono ?_
          rintro e w3_ ⟨v, rfl, hR, hb⟩
          clear ua0 ua1 ug0 ug1
          obtain ⟨Ax, cx, rfl⟩ := Kd.R_slice hR
          have HN := Aside0.mk (HS.out.call32 hb hR)
          clear HS
          have HS := HN
          clear HN
          clear hb hR
          have HN := Aside0.mk (HS.out.boxed #[.bool (sb qx), .slice Ax (sl qx).length cx] 25 (by decide))
          clear HS
          have HS := HN
          clear HN
          obtain ⟨ub0, ub1⟩ := HS.out.cells 2 rfl
          obtain ⟨ug0, ug1⟩ := HS.out.cells 1 rfl
          go_wp2_with fail
          refine (num_Quo.calls n1 A1 c1 l1 (sb G) Ag cg (sl G) (sb qy) (sl qy) 0 _ (HS.out.came HR1.out) HC1.out (HS.out.limbs 1 rfl).2.2 (HS.out.limbs 1 rfl).2.1 H2.out).mono ?_
          rintro e w4_ ⟨v, rfl, hR, hb⟩
          clear ub0 ub1 ug0 ug1
          obtain ⟨Ay, cy, rfl⟩ := Kd.R_slice hR
          have HN := Aside0.mk (HS.out.call32 hb hR)
          clear HS
          have HS := HN
          clear HN
          clear hb hR
          have HN := Aside0.mk (HS.out.boxed #[.bool (sb qy), .slice Ay (sl qy).length cy] 25 (by decide))
          clear HS
          have HS := HN
          clear HN
          obtain ⟨ua0, ua1⟩ := HS.out.cells 4 rfl
          obtain ⟨ug0, ug1⟩ := HS.out.cells 2 rfl
          go_wp2_with fail
          refine (num_Rem.calls n0 A0 c0 l0 (sb G) Ag cg (sl G) (sb 0) (sl 0) 0 _ (HS.out.came HR0.out) HC0.out (HS.out.limbs 2 rfl).2.2 (HS.out.limbs 2 rfl).2.1 H3.out).mono ?_
          rintro e w5_ ⟨v, rfl, hR, hb⟩
          clear ua0 ua1 ug0 ug1
          obtain ⟨Ar, cr, rfl⟩ := Kd.R_slice hR
          have HN := Aside0.mk (HS.out.call32 hb hR)
          clear HS
          have HS := HN
          clear HN
          clear hb hR
          have HN := Aside0.mk (HS.out.boxed #[.bool (sb 0), .slice Ar (sl 0).length cr] 25 (by decide))
          clear HS
          have HS := HN
          clear HN
          obtain ⟨ub0, ub1⟩ := HS.out.cells 4 rfl
          obtain ⟨ug0, ug1⟩ := HS.out.cells 3 rfl
          go_wp2_with fail
          refine (num_Rem.calls n1 A1 c1 l1 (sb G) Ag cg (sl G) (sb 0) (sl 0) 0 _ (HS.out.came HR1.out) HC1.out (HS.out.limbs 3 rfl).2.2 (HS.out.limbs 3 rfl).2.1 H4.out).mono ?_
          rintro e w6_ ⟨v, rfl, hR, hb⟩
          clear ub0 ub1 ug0 ug1
          obtain ⟨As, cs, rfl⟩ := Kd.R_slice hR
          have HN := Aside0.mk (HS.out.call32 hb hR)
          clear HS
          have HS := HN
          clear HN
          clear hb hR
          have HN := Aside0.mk (HS.out.boxed #[.bool (sb 0), .slice As (sl 0).length cs] 25 (by decide))
          clear HS
          have HS := HN
          clear HN
          obtain ⟨ux0, ux1⟩ := HS.out.cells 3 rfl
          obtain ⟨uy0, uy1⟩ := HS.out.cells 2 rfl
          go_wp2_with fail
          clear ux0 ux1 uy0 uy1
          have hg := HS.out.newblk (.cells #[.bool (sb qx), .slice Ax (sl qx).length cx, .bool (sb qy), .slice Ay (sl qy).length cy] 25 (0, 0))
          try simp only [World.size_alloc] at hg
          refine (num_Gcd.calls _ 2 [((sb qx), (sl qx)), ((sb qy), (sl qy))] (sb 1) (sl 1) 0 _ (pair_row hg ((HS.out.alloc _).limbs 3 rfl).2.2 (HS.out.limbs 3 rfl).2.1 ((HS.out.alloc _).limbs 2 rfl).2.2 (HS.out.limbs 2 rfl).2.1) (Nat.le_refl 2) H5.out).mono ?_
          rintro e w7_ ⟨v, rfl, hR, hb⟩
          clear hg
          obtain ⟨Ao, co, rfl⟩ := Kd.R_slice hR
          have HN := Aside0.mk ((HS.out.alloc (.cells #[.bool (sb qx), .slice Ax (sl qx).length cx, .bool (sb qy), .slice Ay (sl qy).length cy] 25 (0, 0))).call32 hb hR)
          clear HS
          have HS := HN
          clear HN
          clear hb hR
          have HN := Aside0.mk (HS.out.boxed #[.bool (sb 1), .slice Ao (sl 1).length co] 25 (by decide))
          clear HS
          have HS := HN
          clear HN
          go_wp2
          have HN := Aside0.mk (HS.out.drew)
          clear HS
          have HS := HN
          clear HN
          refine start_ (n := 38) (S := fun w' => w'.cell? ⟨w5_.heap.size, 0, none⟩ = some (.bool (sb 0)) ∧ w'.cell? ⟨w5_.heap.size, 1, none⟩ = some (.slice Ar (sl 0).length cr) ∧ w'.cell? ⟨w6_.heap.size, 0, none⟩ = some (.bool (sb 0)) ∧ w'.cell? ⟨w6_.heap.size, 1, none⟩ = some (.slice As (sl 0).length cs) ∧ w'.cell? ⟨w7_.heap.size, 0, none⟩ = some (.bool (sb 1)) ∧ w'.cell? ⟨w7_.heap.size, 1, none⟩ = some (.slice Ao (sl 1).length co)) (ds := []) #[false, false, false, false, false, false, false, false, false, false, false, false, false, false, false, false, false, false, false, false, false, false, false, false, false, false, false, false, false, false, false, false, false, false, false, false, false, false] (by kernel_rfl) rfl rfl ⟨(HS.out.cells 2 rfl).1, (HS.out.cells 2 rfl).2, (HS.out.cells 1 rfl).1, (HS.out.cells 1 rfl).2, (HS.out.cells 0 rfl).1, (HS.out.cells 0 rfl).2⟩ (fun hHeld => ?_)
          refine pure_ (i := 0) (N := some 90) (v := ?_) (a' := ?_) #[true, false, false, false, false, false, false, false, false, false, false, false, false, false, false, false, false, false, false, false, false, false, false, false, false, false, false, false, false, false, false, false, false, false, false, false, false, false] rfl rfl (by kernel_rfl) (fun _ _ _ h => h) (Or.inl ⟨by rfl, ?_⟩) ?_ ?_
          rotate_left
          · intro w'
            go_simp
            with_reducible rfl
          rotate_left
          · simp only [Act.put, List.setIfInBounds_toArray, List.set_cons_zero, List.set_cons_succ, i64_w, i32_w]
            rfl
          refine pure_ (i := 1) (N := some 91) (v := ?_) (a' := ?_) #[true, true, false, false, false, false, false, false, false, false, false, false, false, false, false, false, false, false, false, false, false, false, false, false, false, false, false, false, false, false, false, false, false, false, false, false, false, false] rfl rfl (by kernel_rfl) (fun _ _ _ h => h) (Or.inl ⟨by rfl, ?_⟩) ?_ ?_
          rotate_left
          · intro w'
            go_simp
            with_reducible rfl
          rotate_left
          · simp only [Act.put, List.setIfInBounds_toArray, List.set_cons_zero, List.set_cons_succ, i64_w, i32_w]
            rfl
          refine pure_ (i := 2) (N := some 92) (v := ?_) (a' := ?_) #[true, true, true, false, false, false, false, false, false, false, false, false, false, false, false, false, false, false, false, false, false, false, false, false, false, false, false, false, false, false, false, false, false, false, false, false, false, false] rfl rfl (by kernel_rfl) (fun _ _ _ h => h) (Or.inl ⟨by rfl, ?_⟩) ?_ ?_
          rotate_left
          · intro w'
            go_simp
            with_reducible rfl
          rotate_left
          · simp only [Act.put, List.setIfInBounds_toArray, List.set_cons_zero, List.set_cons_succ, i64_w, i32_w]
            rfl
          refine pure_ (i := 3) (N := some 93) (v := ?_) (a' := ?_) #[true, true, true, true, false, false, false, false, false, false, false, false, false, false, false, false, false, false, false, false, false, false, false, false, false, false, false, false, false, false, false, false, false, false, false, false, false, false] rfl rfl (by kernel_rfl) (fun _ _ _ h => h) (Or.inl ⟨by rfl, ?_⟩) ?_ ?_
          rotate_left
          · intro w'
            go_simp
            with_reducible rfl
          rotate_left
          · simp only [Act.put, List.setIfInBounds_toArray, List.set_cons_zero, List.set_cons_succ, i64_w, i32_w]
            rfl
          refine pure_ (i := 4) (N := some 94) (v := ?_) (a' := ?_) #[true, true, true, true, true, false, false, false, false, false, false, false, false, false, false, false, false, false, false, false, false, false, false, false, false, false, false, false, false, false, false, false, false, false, false, false, false, false] rfl rfl (by kernel_rfl) (fun _ _ _ h => h) (Or.inl ⟨by rfl, ?_⟩) ?_ ?_
          rotate_left
          · intro w'
            go_simp
            with_reducible rfl
          rotate_left
          · simp only [Act.put, List.setIfInBounds_toArray, List.set_cons_zero, List.set_cons_succ, i64_w, i32_w]
            rfl
          refine pure_ (i := 5) (N := some 95) (v := ?_) (a' := ?_) #[true, true, true, true, true, true, false, false, false, false, false, false, false, false, false, false, false, false, false, false, false, false, false, false, false, false, false, false, false, false, false, false, false, false, false, false, false, false] rfl rfl (by kernel_rfl) (fun _ _ _ h => h) (Or.inl ⟨by rfl, ?_⟩) ?_ ?_
          rotate_left
          · intro w'
            go_simp
            with_reducible rfl
          rotate_left
          · simp only [Act.put, List.setIfInBounds_toArray, List.set_cons_zero, List.set_cons_succ, i64_w, i32_w]
            rfl
          refine pure_ (i := 6) (N := some 96) (v := ?_) (a' := ?_) #[true, true, true, true, true, true, true, false, false, false, false, false, false, false, false, false, false, false, false, false, false, false, false, false, false, false, false, false, false, false, false, false, false, false, false, false, false, false] rfl rfl (by kernel_rfl) (fun _ _ _ h => h) (Or.inl ⟨by rfl, ?_⟩) ?_ ?_
          rotate_left
          · intro w'
            go_simp
            with_reducible rfl
          rotate_left
          · simp only [Act.put, List.setIfInBounds_toArray, List.set_cons_zero, List.set_cons_succ, i64_w, i32_w]
            rfl
          refine pure_ (i := 7) (N := some 97) (v := ?_) (a' := ?_) #[true, true, true, true, true, true, true, true, false, false, false, false, false, false, false, false, false, false, false, false, false, false, false, false, false, false, false, false, false, false, false, false, false, false, false, false, false, false] rfl rfl (by kernel_rfl) (fun _ _ _ h => h) (Or.inl ⟨by rfl, ?_⟩) ?_ ?_
          rotate_left
          · intro w'
            go_simp
            with_reducible rfl
          rotate_left
          · simp only [Act.put, List.setIfInBounds_toArray, List.set_cons_zero, List.set_cons_succ, i64_w, i32_w]
            rfl
          refine pure_ (i := 8) (N := some 98) (v := ?_) (a' := ?_) #[true, true, true, true, true, true, true, true, true, false, false, false, false, false, false, false, false, false, false, false, false, false, false, false, false, false, false, false, false, false, false, false, false, false, false, false, false, false] rfl rfl (by kernel_rfl) (fun _ _ _ h => h) (Or.inl ⟨by rfl, ?_⟩) ?_ ?_
          rotate_left
          · intro w'
            go_simp
            with_reducible rfl
          rotate_left
          · simp only [Act.put, List.setIfInBounds_toArray, List.set_cons_zero, List.set_cons_succ, i64_w, i32_w]
            rfl
          refine pure_ (i := 9) (N := some 99) (v := ?_) (a' := ?_) #[true, true, true, true, true, true, true, true, true, true, false, false, false, false, false, false, false, false, false, false, false, false, false, false, false, false, false, false, false, false, false, false, false, false, false, false, false, false] rfl rfl (by kernel_rfl) (fun _ _ _ h => h) (Or.inl ⟨by rfl, ?_⟩) ?_ ?_
          rotate_left
          · intro w'
            go_simp
            with_reducible rfl
          rotate_left
          · simp only [Act.put, List.setIfInBounds_toArray, List.set_cons_zero, List.set_cons_succ, i64_w, i32_w]
            rfl
          refine pure_ (i := 10) (N := some 100) (v := ?_) (a' := ?_) #[true, true, true, true, true, true, true, true, true, true, true, false, false, false, false, false, false, false, false, false, false, false, false, false, false, false, false, false, false, false, false, false, false, false, false, false, false, false] rfl rfl (by kernel_rfl) (fun _ _ _ h => h) (Or.inl ⟨by rfl, ?_⟩) ?_ ?_
          rotate_left
          · intro w'
            go_simp
            with_reducible rfl
          rotate_left
          · simp only [Act.put, List.setIfInBounds_toArray, List.set_cons_zero, List.set_cons_succ, i64_w, i32_w]
            rfl
          refine pure_ (i := 11) (N := some 101) (v := ?_) (a' := ?_) #[true, true, true, true, true, true, true, true, true, true, true, true, false, false, false, false, false, false, false, false, false, false, false, false, false, false, false, false, false, false, false, false, false, false, false, false, false, false] rfl rfl (by kernel_rfl) (fun _ _ _ h => h) (Or.inl ⟨by rfl, ?_⟩) ?_ ?_
          rotate_left
          · intro w'
            go_simp
            with_reducible rfl
          rotate_left
          · simp only [Act.put, List.setIfInBounds_toArray, List.set_cons_zero, List.set_cons_succ, i64_w, i32_w]
            rfl
          refine pure_ (i := 12) (N := some 102) (v := ?_) (a' := ?_) #[true, true, true, true, true, true, true, true, true, true, true, true, true, false, false, false, false, false, false, false, false, false, false, false, false, false, false, false, false, false, false, false, false, false, false, false, false, false] rfl rfl (by kernel_rfl) (fun _ _ _ h => h) (Or.inl ⟨by rfl, ?_⟩) ?_ ?_
          rotate_left
          · intro w'
            go_simp
            with_reducible rfl
          rotate_left
          · simp only [Act.put, List.setIfInBounds_toArray, List.set_cons_zero, List.set_cons_succ, i64_w, i32_w]
            rfl
          refine pure_ (i := 13) (N := some 103) (v := ?_) (a' := ?_) #[true, true, true, true, true, true, true, true, true, true, true, true, true, true, false, false, false, false, false, false, false, false, false, false, false, false, false, false, false, false, false, false, false, false, false, false, false, false] rfl rfl (by kernel_rfl) (fun _ _ _ h => h) (Or.inl ⟨by rfl, ?_⟩) ?_ ?_
          rotate_left
          · intro w'
            go_simp
            with_reducible rfl
          rotate_left
          · simp only [Act.put, List.setIfInBounds_toArray, List.set_cons_zero, List.set_cons_succ, i64_w, i32_w]
            rfl
          refine pure_ (i := 14) (N := some 104) (v := ?_) (a' := ?_) #[true, true, true, true, true, true, true, true, true, true, true, true, true, true, true, false, false, false, false, false, false, false, false, false, false, false, false, false, false, false, false, false, false, false, false, false, false, false] rfl rfl (by kernel_rfl) (fun _ _ _ h => h) (Or.inl ⟨by rfl, ?_⟩) ?_ ?_
          rotate_left
          · intro w'
            go_simp
            with_reducible rfl
          rotate_left
          · simp only [Act.put, List.setIfInBounds_toArray, List.set_cons_zero, List.set_cons_succ, i64_w, i32_w]
            rfl
          refine pure_ (i := 15) (N := some 105) (v := ?_) (a' := ?_) #[true, true, true, true, true, true, true, true, true, true, true, true, true, true, true, true, false, false, false, false, false, false, false, false, false, false, false, false, false, false, false, false, false, false, false, false, false, false] rfl rfl (by kernel_rfl) (fun _ _ _ h => h) (Or.inl ⟨by rfl, ?_⟩) ?_ ?_
          rotate_left
          · intro w'
            go_simp
            with_reducible rfl
          rotate_left
          · simp only [Act.put, List.setIfInBounds_toArray, List.set_cons_zero, List.set_cons_succ, i64_w, i32_w]
            rfl
          refine pure_ (i := 16) (N := some 106) (v := ?_) (a' := ?_) #[true, true, true, true, true, true, true, true, true, true, true, true, true, true, true, true, true, false, false, false, false, false, false, false, false, false, false, false, false, false, false, false, false, false, false, false, false, false] rfl rfl (by kernel_rfl) (fun _ _ _ h => h) (Or.inl ⟨by rfl, ?_⟩) ?_ ?_
          rotate_left
          · intro w'
            go_simp
            with_reducible rfl
          rotate_left
          · simp only [Act.put, List.setIfInBounds_toArray, List.set_cons_zero, List.set_cons_succ, i64_w, i32_w]
            rfl
          refine pure_ (i := 17) (N := some 107) (v := ?_) (a' := ?_) #[true, true, true, true, true, true, true, true, true, true, true, true, true, true, true, true, true, true, false, false, false, false, false, false, false, false, false, false, false, false, false, false, false, false, false, false, false, false] rfl rfl (by kernel_rfl) (fun _ _ _ h => h) (Or.inl ⟨by rfl, ?_⟩) ?_ ?_
          rotate_left
          · intro w'
            go_simp
            with_reducible rfl
          rotate_left
          · simp only [Act.put, List.setIfInBounds_toArray, List.set_cons_zero, List.set_cons_succ, i64_w, i32_w]
            rfl
          refine pure_ (i := 18) (N := some 108) (v := ?_) (a' := ?_) #[true, true, true, true, true, true, true, true, true, true, true, true, true, true, true, true, true, true, true, false, false, false, false, false, false, false, false, false, false, false, false, false, false, false, false, false, false, false] rfl rfl (by kernel_rfl) (fun _ _ _ h => h) (Or.inl ⟨by rfl, ?_⟩) ?_ ?_
          rotate_left
          · intro w'
            go_simp
            with_reducible rfl
          rotate_left
          · simp only [Act.put, List.setIfInBounds_toArray, List.set_cons_zero, List.set_cons_succ, i64_w, i32_w]
            rfl
          refine take_ (i := 19) (N := some 109) (v := ?_) (a' := ?_) #[true, true, true, true, true, true, true, true, true, true, true, true, true, true, true, true, true, true, true, true, false, false, false, false, false, false, false, false, false, false, false, false, false, false, false, false, false, false] rfl rfl (by kernel_rfl) (fun _ _ _ h => h) (Or.inl ⟨by rfl, ?_⟩) hHeld ?_ ?_
          rotate_left
          · rintro w' ⟨s0, s1, s2, s3, s4, s5⟩
            go_simp
            with_reducible rfl
          rotate_left
          · simp only [Act.put, List.setIfInBounds_toArray, List.set_cons_zero, List.set_cons_succ, i64_w, i32_w]
            rfl
          refine one_ (i := 20) (N := some 110) #[true, true, true, true, true, true, true, true, true, true, true, true, true, true, true, true, true, true, true, true, true, false, false, false, false, false, false, false, false, false, false, false, false, false, false, false, false, false] rfl rfl (by kernel_rfl) (by decide) (fun K hK => ?_)
          refine goes_ Tryd.func39 (by kernel_rfl) rfl #[.agg #[.bool (sb 0), .slice Ar (sl 0).length cr]] (by rfl) rfl rfl (by simp only [List.map_toArray, List.map_cons, List.map_nil]; rfl) ?_
          with_reducible refine (num_Sign.calls (sb 0) Ar cr (sl 0) 0 _ (HS.out.limbs 2 rfl).2.2 (HS.out.limbs 2 rfl).2.1 HZ.out).mono ?_
          rintro e w3 ⟨rfl, hb⟩
          refine ⟨_, rfl, ?_⟩
          have HN := Aside0.mk (HS.out.call hb)
          clear HS
          have HS := HN
          clear HN
          refine hK.out _ _ ⟨(HS.out.cells 2 rfl).1, (HS.out.cells 2 rfl).2, (HS.out.cells 1 rfl).1, (HS.out.cells 1 rfl).2, (HS.out.cells 0 rfl).1, (HS.out.cells 0 rfl).2⟩ (fun hHeld => ?_)
          clear hK K
          refine norm_ (a' := ?_) ?_ ?_
          rotate_left
          · show Act.put _ (some 110) _ = _
            simp only [Act.put, List.setIfInBounds_toArray, List.set_cons_zero, List.set_cons_succ, i64_w, i32_w]
            rfl
          refine pure_ (i := 21) (N := some 111) (v := ?_) (a' := ?_) #[true, true, true, true, true, true, true, true, true, true, true, true, true, true, true, true, true, true, true, true, true, true, false, false, false, false, false, false, false, false, false, false, false, false, false, false, false, false] rfl rfl (by kernel_rfl) (fun _ _ _ h => h) (Or.inl ⟨by rfl, ?_⟩) ?_ ?_
          rotate_left
          · intro w'
            go_simp
            with_reducible rfl
          rotate_left
          · simp only [Act.put, List.setIfInBounds_toArray, List.set_cons_zero, List.set_cons_succ, i64_w, i32_w]
            rfl
          refine pure_ (i := 22) (N := some 112) (v := ?_) (a' := ?_) #[true, true, true, true, true, true, true, true, true, true, true, true, true, true, true, true, true, true, true, true, true, true, true, false, false, false, false, false, false, false, false, false, false, false, false, false, false, false] rfl rfl (by kernel_rfl) (fun _ _ _ h => h) (Or.inl ⟨by rfl, ?_⟩) ?_ ?_
          rotate_left
          · intro w'
            go_simp
            with_reducible rfl
          rotate_left
          · simp only [Act.put, List.setIfInBounds_toArray, List.set_cons_zero, List.set_cons_succ, i64_w, i32_w]
            rfl
          refine pure_ (i := 23) (N := some 113) (v := ?_) (a' := ?_) #[true, true, true, true, true, true, true, true, true, true, true, true, true, true, true, true, true, true, true, true, true, true, true, true, false, false, false, false, false, false, false, false, false, false, false, false, false, false] rfl rfl (by kernel_rfl) (fun _ _ _ h => h) (Or.inl ⟨by rfl, ?_⟩) ?_ ?_
          rotate_left
          · intro w'
            go_simp
            with_reducible rfl
          rotate_left
          · simp only [Act.put, List.setIfInBounds_toArray, List.set_cons_zero, List.set_cons_succ, i64_w, i32_w]
            rfl
          refine take_ (i := 24) (N := some 114) (v := ?_) (a' := ?_) #[true, true, true, true, true, true, true, true, true, true, true, true, true, true, true, true, true, true, true, true, true, true, true, true, true, false, false, false, false, false, false, false, false, false, false, false, false, false] rfl rfl (by kernel_rfl) (fun _ _ _ h => h) (Or.inl ⟨by rfl, ?_⟩) hHeld ?_ ?_
          rotate_left
          · rintro w' ⟨s0, s1, s2, s3, s4, s5⟩
            go_simp
            with_reducible rfl
          rotate_left
          · simp only [Act.put, List.setIfInBounds_toArray, List.set_cons_zero, List.set_cons_succ, i64_w, i32_w]
            rfl
          refine one_ (i := 25) (N := some 115) #[true, true, true, true, true, true, true, true, true, true, true, true, true, true, true, true, true, true, true, true, true, true, true, true, true, true, false, false, false, false, false, false, false, false, false, false, false, false] rfl rfl (by kernel_rfl) (by decide) (fun K hK => ?_)
          refine goes_ Tryd.func39 (by kernel_rfl) rfl #[.agg #[.bool (sb 0), .slice As (sl 0).length cs]] (by rfl) rfl rfl (by simp only [List.map_toArray, List.map_cons, List.map_nil]; rfl) ?_
          with_reducible refine (num_Sign.calls (sb 0) As cs (sl 0) 0 _ (HS.out.limbs 1 rfl).2.2 (HS.out.limbs 1 rfl).2.1 HZ.out).mono ?_
          rintro e w3 ⟨rfl, hb⟩
          refine ⟨_, rfl, ?_⟩
          have HN := Aside0.mk (HS.out.call hb)
          clear HS
          have HS := HN
          clear HN
          refine hK.out _ _ ⟨(HS.out.cells 2 rfl).1, (HS.out.cells 2 rfl).2, (HS.out.cells 1 rfl).1, (HS.out.cells 1 rfl).2, (HS.out.cells 0 rfl).1, (HS.out.cells 0 rfl).2⟩ (fun hHeld => ?_)
          clear hK K
          refine norm_ (a' := ?_) ?_ ?_
          rotate_left
          · show Act.put _ (some 115) _ = _
            simp only [Act.put, List.setIfInBounds_toArray, List.set_cons_zero, List.set_cons_succ, i64_w, i32_w]
            rfl
          refine pure_ (i := 26) (N := some 116) (v := ?_) (a' := ?_) #[true, true, true, true, true, true, true, true, true, true, true, true, true, true, true, true, true, true, true, true, true, true, true, true, true, true, true, false, false, false, false, false, false, false, false, false, false, false] rfl rfl (by kernel_rfl) (fun _ _ _ h => h) (Or.inl ⟨by rfl, ?_⟩) ?_ ?_
          rotate_left
          · intro w'
            go_simp
            with_reducible rfl
          rotate_left
          · simp only [Act.put, List.setIfInBounds_toArray, List.set_cons_zero, List.set_cons_succ, i64_w, i32_w]
            rfl
          refine pure_ (i := 27) (N := some 117) (v := ?_) (a' := ?_) #[true, true, true, true, true, true, true, true, true, true, true, true, true, true, true, true, true, true, true, true, true, true, true, true, true, true, true, true, false, false, false, false, false, false, false, false, false, false] rfl rfl (by kernel_rfl) (fun _ _ _ h => h) (Or.inl ⟨by rfl, ?_⟩) ?_ ?_
          rotate_left
          · intro w'
            go_simp
            with_reducible rfl
          rotate_left
          · simp only [Act.put, List.setIfInBounds_toArray, List.set_cons_zero, List.set_cons_succ, i64_w, i32_w]
            rfl
          refine pure_ (i := 28) (N := some 118) (v := ?_) (a' := ?_) #[true, true, true, true, true, true, true, true, true, true, true, true, true, true, true, true, true, true, true, true, true, true, true, true, true, true, true, true, true, false, false, false, false, false, false, false, false, false] rfl rfl (by kernel_rfl) (fun _ _ _ h => h) (Or.inl ⟨by rfl, ?_⟩) ?_ ?_
          rotate_left
          · intro w'
            go_simp
            with_reducible rfl
          rotate_left
          · simp only [Act.put, List.setIfInBounds_toArray, List.set_cons_zero, List.set_cons_succ, i64_w, i32_w]
            rfl
          refine take_ (i := 29) (N := some 119) (v := ?_) (a' := ?_) #[true, true, true, true, true, true, true, true, true, true, true, true, true, true, true, true, true, true, true, true, true, true, true, true, true, true, true, true, true, true, false, false, false, false, false, false, false, false] rfl rfl (by kernel_rfl) (fun _ _ _ h => h) (Or.inl ⟨by rfl, ?_⟩) hHeld ?_ ?_
          rotate_left
          · rintro w' ⟨s0, s1, s2, s3, s4, s5⟩
            go_simp
            with_reducible rfl
          rotate_left
          · simp only [Act.put, List.setIfInBounds_toArray, List.set_cons_zero, List.set_cons_succ, i64_w, i32_w]
            rfl
          refine one_ (i := 30) (N := some 120) #[true, true, true, true, true, true, true, true, true, true, true, true, true, true, true, true, true, true, true, true, true, true, true, true, true, true, true, true, true, true, true, false, false, false, false, false, false, false] rfl rfl (by kernel_rfl) (by decide) (fun K hK => ?_)
          refine goes_ Tryd.func18 (by kernel_rfl) rfl #[.int .i64 1] (by rfl) rfl rfl (by simp only [List.map_toArray, List.map_cons, List.map_nil]; rfl) ?_
          with_reducible refine (num_Of.calls 1 (sb 1) (sl 1) _ HO.out).mono ?_
          rintro e w3 ⟨v, rfl, hR, hb⟩
          refine ⟨_, rfl, ?_⟩
          obtain ⟨Af, cf, rfl⟩ := Kd.R_slice hR
          have HN := Aside0.mk (HS.out.call32 hb hR)
          clear HS
          have HS := HN
          clear HN
          refine hK.out _ _ ⟨(HS.out.cells 2 rfl).1, (HS.out.cells 2 rfl).2, (HS.out.cells 1 rfl).1, (HS.out.cells 1 rfl).2, (HS.out.cells 0 rfl).1, (HS.out.cells 0 rfl).2⟩ (fun hHeld => ?_)
          clear hK K
          refine norm_ (a' := ?_) ?_ ?_
          rotate_left
          · show Act.put _ (some 120) _ = _
            simp only [Act.put, List.setIfInBounds_toArray, List.set_cons_zero, List.set_cons_succ, i64_w, i32_w]
            rfl
          refine one_ (i := 31) (N := some 121) #[true, true, true, true, true, true, true, true, true, true, true, true, true, true, true, true, true, true, true, true, true, true, true, true, true, true, true, true, true, true, true, true, false, false, false, false, false, false] rfl rfl (by kernel_rfl) (by decide) (fun K hK => ?_)
          refine goes_ Tryd.func43 (by kernel_rfl) rfl #[.agg #[.bool (sb 1), .slice Ao (sl 1).length co], .agg #[.bool (sb 1), .slice Af (sl 1).length cf]] (by rfl) rfl rfl (by simp only [List.map_toArray, List.map_cons, List.map_nil]; rfl) ?_
          with_reducible refine (num_Cmp.calls (sb 1) Ao co (sl 1) (sb 1) Af cf (sl 1) 0 _ (HS.out.limbs 1 rfl).2.2 (HS.out.limbs 1 rfl).2.1 (HS.out.limbs 0 rfl).2.2 (HS.out.limbs 0 rfl).2.1 HCC.out).mono ?_
          rintro e w3 ⟨rfl, hb⟩
          refine ⟨_, rfl, ?_⟩
          have HN := Aside0.mk (HS.out.call hb)
          clear HS
          have HS := HN
          clear HN
          refine hK.out _ _ ⟨(HS.out.cells 2 rfl).1, (HS.out.cells 2 rfl).2, (HS.out.cells 1 rfl).1, (HS.out.cells 1 rfl).2, (HS.out.cells 0 rfl).1, (HS.out.cells 0 rfl).2⟩ (fun hHeld => ?_)
          clear hK K
          refine norm_ (a' := ?_) ?_ ?_
          rotate_left
          · show Act.put _ (some 121) _ = _
            simp only [Act.put, List.setIfInBounds_toArray, List.set_cons_zero, List.set_cons_succ, i64_w, i32_w]
            rfl
          refine pure_ (i := 32) (N := some 122) (v := ?_) (a' := ?_) #[true, true, true, true, true, true, true, true, true, true, true, true, true, true, true, true, true, true, true, true, true, true, true, true, true, true, true, true, true, true, true, true, true, false, false, false, false, false] rfl rfl (by kernel_rfl) (fun _ _ _ h => h) (Or.inl ⟨by rfl, ?_⟩) ?_ ?_
          rotate_left
          · intro w'
            go_simp
            with_reducible rfl
          rotate_left
          · simp only [Act.put, List.setIfInBounds_toArray, List.set_cons_zero, List.set_cons_succ, i64_w, i32_w]
            rfl
          refine pure_ (i := 33) (N := some 123) (v := ?_) (a' := ?_) #[true, true, true, true, true, true, true, true, true, true, true, true, true, true, true, true, true, true, true, true, true, true, true, true, true, true, true, true, true, true, true, true, true, true, false, false, false, false] rfl rfl (by kernel_rfl) (fun _ _ _ h => h) (Or.inl ⟨by rfl, ?_⟩) ?_ ?_
          rotate_left
          · intro w'
            go_simp
            with_reducible rfl
          rotate_left
          · simp only [Act.put, List.setIfInBounds_toArray, List.set_cons_zero, List.set_cons_succ, i64_w, i32_w]
            rfl
          refine pure_ (i := 34) (N := some 124) (v := ?_) (a' := ?_) #[true, true, true, true, true, true, true, true, true, true, true, true, true, true, true, true, true, true, true, true, true, true, true, true, true, true, true, true, true, true, true, true, true, true, true, false, false, false] rfl rfl (by kernel_rfl) (fun _ _ _ h => h) (Or.inl ⟨by rfl, ?_⟩) ?_ ?_
          rotate_left
          · intro w'
            go_simp
            with_reducible rfl
          rotate_left
          · simp only [Act.put, List.setIfInBounds_toArray, List.set_cons_zero, List.set_cons_succ, i64_w, i32_w]
            rfl
          refine one_ (i := 35) (N := some 125) #[true, true, true, true, true, true, true, true, true, true, true, true, true, true, true, true, true, true, true, true, true, true, true, true, true, true, true, true, true, true, true, true, true, true, true, true, false, false] rfl rfl (by kernel_rfl) (by decide) (fun K hK => ?_)
          refine goes_ Tryd.func20 (by kernel_rfl) rfl #[] (by rfl) rfl rfl (by simp only [List.map_toArray, List.map_cons, List.map_nil]) ?_
          with_reducible refine (awake_calls _ (NumV.Tab.below HT.out HS.out.below)).mono ?_
          rintro e w3 ⟨rfl, hb⟩
          refine ⟨_, rfl, ?_⟩
          have HN := Aside0.mk (HS.out.call hb)
          clear HS
          have HS := HN
          clear HN
          refine hK.out _ _ ⟨(HS.out.cells 2 rfl).1, (HS.out.cells 2 rfl).2, (HS.out.cells 1 rfl).1, (HS.out.cells 1 rfl).2, (HS.out.cells 0 rfl).1, (HS.out.cells 0 rfl).2⟩ (fun hHeld => ?_)
          clear hK K
          refine norm_ (a' := ?_) ?_ ?_
          rotate_left
          · show Act.put _ (some 125) _ = _
            simp only [Act.put, List.setIfInBounds_toArray, List.set_cons_zero, List.set_cons_succ, i64_w, i32_w]
            rfl
          refine pure_ (i := 36) (N := some 126) (v := ?_) (a' := ?_) #[true, true, true, true, true, true, true, true, true, true, true, true, true, true, true, true, true, true, true, true, true, true, true, true, true, true, true, true, true, true, true, true, true, true, true, true, true, false] rfl rfl (by kernel_rfl) (fun _ _ _ h => h) (Or.inl ⟨by rfl, ?_⟩) ?_ ?_
          rotate_left
          · intro w'
            go_simp
            with_reducible rfl
          rotate_left
          · simp only [Act.put, List.setIfInBounds_toArray, List.set_cons_zero, List.set_cons_succ, i64_w, i32_w]
            rfl
          refine pure_ (i := 37) (N := some 4) (v := ?_) (a' := ?_) #[true, true, true, true, true, true, true, true, true, true, true, true, true, true, true, true, true, true, true, true, true, true, true, true, true, true, true, true, true, true, true, true, true, true, true, true, true, true] rfl rfl (by kernel_rfl) (fun _ _ _ h => h) (Or.inl ⟨by rfl, ?_⟩) ?_ ?_
          rotate_left
          · intro w'
            go_simp
            with_reducible rfl
          rotate_left
          · simp only [Act.put, List.setIfInBounds_toArray, List.set_cons_zero, List.set_cons_succ, i64_w, i32_w]
            rfl
          refine done_ (by kernel_rfl) ?_
          go_wp2
          go_ret
          exact ⟨rfl, HS.out.below⟩
        · skip
          have sx0 : ((val n0 l0).sign == 0) = false := by rw [beq_eq_false_iff_ne]; intro h; exact x0 (Int.sign_eq_zero_iff_zero.mp h)
          generalize (val n0 l0).sign = sx at *
          have HSA := Aside0.mk hsa
          clear hne x0 hsa hsb
          go_enter Tryd.func12, Tryd.ntmps12
          obtain ⟨ua0, ua1⟩ := HS.out.cells 1 rfl
          obtain ⟨ub0, ub1⟩ := HS.out.cells 0 rfl
          go_wp2_with fail
          clear ua0 ua1 ub0 ub1
          have hg := HS.out.newblk (.cells #[.bool n0, .slice A0 l0.length c0, .bool n1, .slice A1 l1.length c1] 25 (0, 0))
          try simp only [World.size_alloc] at hg
          refine (num_Gcd.calls _ 2 [(n0, l0), (n1, l1)] (sb G) (sl G) 0 _ (pair_row hg ((HS.out.alloc _).came HR0.out) HC0.out ((HS.out.alloc _).came HR1.out) HC1.out) (Nat.le_refl 2) HGC.out).mono ?_
          rintro e w1_ ⟨v, rfl, hR, hb⟩
          clear hg
          obtain ⟨Ag, cg, rfl⟩ := Kd.R_slice hR
          have HN := Aside0.mk ((HS.out.alloc (.cells #[.bool n0, .slice A0 l0.length c0, .bool n1, .slice A1 l1.length c1] 25 (0, 0))).call32 hb hR)
          clear HS
          have HS := HN
          clear HN
          clear hb hR
          have HN := Aside0.mk (HS.out.boxed #[.bool (sb G), .slice Ag (sl G).length cg] 25 (by decide))
          clear HS
          have HS := HN
          clear HN
          go_wp2
          have HN := Aside0.mk (HS.out.drew)
          clear HS
          have HS := HN
          clear HN
          refine start_ (n := 21) (S := fun w' => w'.cell? ⟨w1_.heap.size, 0, none⟩ = some (.bool (sb G)) ∧ w'.cell? ⟨w1_.heap.size, 1, none⟩ = some (.slice Ag (sl G).length cg) ∧ w'.cell? ⟨w.heap.size, 0, none⟩ = some (.bool n0) ∧ w'.cell? ⟨w.heap.size, 1, none⟩ = some (.slice A0 l0.length c0) ∧ w'.cell? ⟨w.heap.size + 1, 0, none⟩ = some (.bool n1) ∧ w'.cell? ⟨w.heap.size + 1, 1, none⟩ = some (.slice A1 l1.length c1)) (ds := []) #[false, false, false, false, false, false, false, false, false, false, false, false, false, false, false, false, false, false, false, false, false] (by kernel_rfl) rfl rfl ⟨(HS.out.cells 0 rfl).1, (HS.out.cells 0 rfl).2, (HS.out.cells 2 rfl).1, (HS.out.cells 2 rfl).2, (HS.out.cells 1 rfl).1, (HS.out.cells 1 rfl).2⟩ (fun hHeld => ?_)
          refine pure_ (i := 0) (N := some 34) (v := ?_) (a' := ?_) #[true, false, false, false, false, false, false, false, false, false, false, false, false, false, false, false, false, false, false, false, false] rfl rfl (by kernel_rfl) (fun _ _ _ h => h) (Or.inl ⟨by rfl, ?_⟩) ?_ ?_
          rotate_left
          · intro w'
            go_simp
            with_reducible rfl
          rotate_left
          · simp only [Act.put, List.setIfInBounds_toArray, List.set_cons_zero, List.set_cons_succ, i64_w, i32_w]
            rfl
          refine pure_ (i := 1) (N := some 35) (v := ?_) (a' := ?_) #[true, true, false, false, false, false, false, false, false, false, false, false, false, false, false, false, false, false, false, false, false] rfl rfl (by kernel_rfl) (fun _ _ _ h => h) (Or.inl ⟨by rfl, ?_⟩) ?_ ?_
          rotate_left
          · intro w'
            go_simp
            with_reducible rfl
          rotate_left
          · simp only [Act.put, List.setIfInBounds_toArray, List.set_cons_zero, List.set_cons_succ, i64_w, i32_w]
            rfl
          refine pure_ (i := 2) (N := some 36) (v := ?_) (a' := ?_) #[true, true, true, false, false, false, false, false, false, false, false, false, false, false, false, false, false, false, false, false, false] rfl rfl (by kernel_rfl) (fun _ _ _ h => h) (Or.inl ⟨by rfl, ?_⟩) ?_ ?_
          rotate_left
          · intro w'
            go_simp
            with_reducible rfl
          rotate_left
          · simp only [Act.put, List.setIfInBounds_toArray, List.set_cons_zero, List.set_cons_succ, i64_w, i32_w]
            rfl
          refine take_ (i := 3) (N := some 37) (v := ?_) (a' := ?_) #[true, true, true, true, false, false, false, false, false, false, false, false, false, false, false, false, false, false, false, false, false] rfl rfl (by kernel_rfl) (fun _ _ _ h => h) (Or.inl ⟨by rfl, ?_⟩) hHeld ?_ ?_
          rotate_left
          · rintro w' ⟨s0, s1, s2, s3, s4, s5⟩
            go_simp
            with_reducible rfl
          rotate_left
          · simp only [Act.put, List.setIfInBounds_toArray, List.set_cons_zero, List.set_cons_succ, i64_w, i32_w]
            rfl
          refine one_ (i := 4) (N := some 38) #[true, true, true, true, true, false, false, false, false, false, false, false, false, false, false, false, false, false, false, false, false] rfl rfl (by kernel_rfl) (by decide) (fun K hK => ?_)
          refine goes_ Tryd.func39 (by kernel_rfl) rfl #[.agg #[.bool (sb G), .slice Ag (sl G).length cg]] (by rfl) rfl rfl (by simp only [List.map_toArray, List.map_cons, List.map_nil]; rfl) ?_
          with_reducible refine (num_Sign.calls (sb G) Ag cg (sl G) 1 _ (HS.out.limbs 0 rfl).2.2 (HS.out.limbs 0 rfl).2.1 HSG.out).mono ?_
          rintro e w3 ⟨rfl, hb⟩
          refine ⟨_, rfl, ?_⟩
          have HN := Aside0.mk (HS.out.call hb)
          clear HS
          have HS := HN
          clear HN
          refine hK.out _ _ ⟨(HS.out.cells 0 rfl).1, (HS.out.cells 0 rfl).2, (HS.out.cells 2 rfl).1, (HS.out.cells 2 rfl).2, (HS.out.cells 1 rfl).1, (HS.out.cells 1 rfl).2⟩ (fun hHeld => ?_)
          clear hK K
          refine norm_ (a' := ?_) ?_ ?_
          rotate_left
          · show Act.put _ (some 38) _ = _
            simp only [Act.put, List.setIfInBounds_toArray, List.set_cons_zero, List.set_cons_succ, i64_w, i32_w]
            rfl
          refine pure_ (i := 5) (N := some 39) (v := ?_) (a' := ?_) #[true, true, true, true, true, true, false, false, false, false, false, false, false, false, false, false, false, false, false, false, false] rfl rfl (by kernel_rfl) (fun _ _ _ h => h) (Or.inl ⟨by rfl, ?_⟩) ?_ ?_
          rotate_left
          · intro w'
            go_simp
            with_reducible rfl
          rotate_left
          · simp only [Act.put, List.setIfInBounds_toArray, List.set_cons_zero, List.set_cons_succ, i64_w, i32_w]
            rfl
          refine pure_ (i := 6) (N := some 40) (v := ?_) (a' := ?_) #[true, true, true, true, true, true, true, false, false, false, false, false, false, false, false, false, false, false, false, false, false] rfl rfl (by kernel_rfl) (fun _ _ _ h => h) (Or.inl ⟨by rfl, ?_⟩) ?_ ?_
          rotate_left
          · intro w'
            go_simp
            with_reducible rfl
          rotate_left
          · simp only [Act.put, List.setIfInBounds_toArray, List.set_cons_zero, List.set_cons_succ, i64_w, i32_w]
            rfl
          refine pure_ (i := 7) (N := some 41) (v := ?_) (a' := ?_) #[true, true, true, true, true, true, true, true, false, false, false, false, false, false, false, false, false, false, false, false, false] rfl rfl (by kernel_rfl) (fun _ _ _ h => h) (Or.inl ⟨by rfl, ?_⟩) ?_ ?_
          rotate_left
          · intro w'
            go_simp
            with_reducible rfl
          rotate_left
          · simp only [Act.put, List.setIfInBounds_toArray, List.set_cons_zero, List.set_cons_succ, i64_w, i32_w]
            rfl
          refine take_ (i := 8) (N := some 42) (v := ?_) (a' := ?_) #[true, true, true, true, true, true, true, true, true, false, false, false, false, false, false, false, false, false, false, false, false] rfl rfl (by kernel_rfl) (fun _ _ _ h => h) (Or.inl ⟨by rfl, ?_⟩) hHeld ?_ ?_
          rotate_left
          · rintro w' ⟨s0, s1, s2, s3, s4, s5⟩
            go_simp
            with_reducible rfl
          rotate_left
          · simp only [Act.put, List.setIfInBounds_toArray, List.set_cons_zero, List.set_cons_succ, i64_w, i32_w]
            rfl
          refine take_ (i := 11) (N := some 45) (v := ?_) (a' := ?_) #[true, true, true, true, true, true, true, true, true, false, false, true, false, false, false, false, false, false, false, false, false] rfl rfl (by kernel_rfl) (fun _ _ _ h => h) (Or.inl ⟨by rfl, ?_⟩) hHeld ?_ ?_
          rotate_left
          · rintro w' ⟨s0, s1, s2, s3, s4, s5⟩
            go_simp
            with_reducible rfl
          rotate_left
          · simp only [Act.put, List.setIfInBounds_toArray, List.set_cons_zero, List.set_cons_succ, i64_w, i32_w]
            rfl
          refine one_ (i := 9) (N := some 43) #[true, true, true, true, true, true, true, true, true, true, false, true, false, false, false, false, false, false, false, false, false] rfl rfl (by kernel_rfl) (by decide) (fun K hK => ?_)
          refine goes_ Tryd.func39 (by kernel_rfl) rfl #[.agg #[.bool (sb G), .slice Ag (sl G).length cg]] (by rfl) rfl rfl (by simp only [List.map_toArray, List.map_cons, List.map_nil]; rfl) ?_
          with_reducible refine (num_Sign.calls (sb G) Ag cg (sl G) 1 _ (HS.out.limbs 0 rfl).2.2 (HS.out.limbs 0 rfl).2.1 HSG.out).mono ?_
          rintro e w3 ⟨rfl, hb⟩
          refine ⟨_, rfl, ?_⟩
          have HN := Aside0.mk (HS.out.call hb)
          clear HS
          have HS := HN
          clear HN
          refine hK.out _ _ ⟨(HS.out.cells 0 rfl).1, (HS.out.cells 0 rfl).2, (HS.out.cells 2 rfl).1, (HS.out.cells 2 rfl).2, (HS.out.cells 1 rfl).1, (HS.out.cells 1 rfl).2⟩ (fun hHeld => ?_)
          clear hK K
          refine norm_ (a' := ?_) ?_ ?_
          rotate_left
          · show Act.put _ (some 43) _ = _
            simp only [Act.put, List.setIfInBounds_toArray, List.set_cons_zero, List.set_cons_succ, i64_w, i32_w]
            rfl
          refine pure_ (i := 10) (N := some 44) (v := ?_) (a' := ?_) #[true, true, true, true, true, true, true, true, true, true, true, true, false, false, false, false, false, false, false, false, false] rfl rfl (by kernel_rfl) (fun _ _ _ h => h) (Or.inl ⟨by rfl, ?_⟩) ?_ ?_
          rotate_left
          · intro w'
            go_simp
            with_reducible rfl
          rotate_left
          · simp only [Act.put, List.setIfInBounds_toArray, List.set_cons_zero, List.set_cons_succ, i64_w, i32_w]
            rfl
          refine one_ (i := 12) (N := some 46) #[true, true, true, true, true, true, true, true, true, true, true, true, true, false, false, false, false, false, false, false, false] rfl rfl (by kernel_rfl) (by decide) (fun K hK => ?_)
          refine goes_ Tryd.func39 (by kernel_rfl) rfl #[.agg #[.bool n0, .slice A0 l0.length c0]] (by rfl) rfl rfl (by simp only [List.map_toArray, List.map_cons, List.map_nil]; rfl) ?_
          with_reducible refine (num_Sign.calls n0 A0 c0 l0 sx _ (HS.out.came HR0.out) HC0.out HSA.out).mono ?_
          rintro e w3 ⟨rfl, hb⟩
          refine ⟨_, rfl, ?_⟩
          have HN := Aside0.mk (HS.out.call hb)
          clear HS
          have HS := HN
          clear HN
          refine hK.out _ _ ⟨(HS.out.cells 0 rfl).1, (HS.out.cells 0 rfl).2, (HS.out.cells 2 rfl).1, (HS.out.cells 2 rfl).2, (HS.out.cells 1 rfl).1, (HS.out.cells 1 rfl).2⟩ (fun hHeld => ?_)
          clear hK K
          refine norm_ (a' := ?_) ?_ ?_
          rotate_left
          · show Act.put _ (some 46) _ = _
            simp only [Act.put, List.setIfInBounds_toArray, List.set_cons_zero, List.set_cons_succ, i64_w, i32_w]
            rfl
          refine pure_ (i := 13) (N := some 47) (v := ?_) (a' := ?_) #[true, true, true, true, true, true, true, true, true, true, true, true, true, true, false, false, false, false, false, false, false] rfl rfl (by kernel_rfl) (fun _ _ _ h => h) (Or.inl ⟨by rfl, ?_⟩) ?_ ?_
          rotate_left
          · intro w'
            go_simp
            with_reducible rfl
          rotate_left
          · simp only [Act.put, List.setIfInBounds_toArray, List.set_cons_zero, List.set_cons_succ, i64_w, i32_w]
            rfl
          refine pure_ (i := 14) (N := some 48) (v := ?_) (a' := ?_) #[true, true, true, true, true, true, true, true, true, true, true, true, true, true, true, false, false, false, false, false, false] rfl rfl (by kernel_rfl) (fun _ _ _ h => h) (Or.inl ⟨by rfl, ?_⟩) ?_ ?_
          rotate_left
          · intro w'
            go_simp
            with_reducible rfl
          rotate_left
          · simp only [Act.put, List.setIfInBounds_toArray, List.set_cons_zero, List.set_cons_succ, i64_w, i32_w]
            rfl
          refine pure_ (i := 15) (N := some 49) (v := undef) (a' := ?_) #[true, true, true, true, true, true, true, true, true, true, true, true, true, true, true, true, false, false, false, false, false] rfl rfl (by kernel_rfl) (fun _ _ _ h => h) (Or.inr ⟨by rfl, rfl⟩) ?_ ?_
          rotate_left
          · simp only [Act.put, List.setIfInBounds_toArray, List.set_cons_zero, List.set_cons_succ, i64_w, i32_w]
            rfl
          refine pure_ (i := 16) (N := some 50) (v := undef) (a' := ?_) #[true, true, true, true, true, true, true, true, true, true, true, true, true, true, true, true, true, false, false, false, false] rfl rfl (by kernel_rfl) (fun _ _ _ h => h) (Or.inr ⟨by rfl, rfl⟩) ?_ ?_
          rotate_left
          · simp only [Act.put, List.setIfInBounds_toArray, List.set_cons_zero, List.set_cons_succ, i64_w, i32_w]
            rfl
          refine pure_ (i := 17) (N := some 51) (v := undef) (a' := ?_) #[true, true, true, true, true, true, true, true, true, true, true, true, true, true, true, true, true, true, false, false, false] rfl rfl (by kernel_rfl) (fun _ _ _ h => h) (Or.inr ⟨by rfl, rfl⟩) ?_ ?_
          rotate_left
          · simp only [Act.put, List.setIfInBounds_toArray, List.set_cons_zero, List.set_cons_succ, i64_w, i32_w]
            rfl
          refine pure_ (i := 18) (N := some 52) (v := ?_) (a' := ?_) #[true, true, true, true, true, true, true, true, true, true, true, true, true, true, true, true, true, true, true, false, false] rfl rfl (by kernel_rfl) (fun _ _ _ h => h) (Or.inl ⟨by rfl, ?_⟩) ?_ ?_
          rotate_left
          · intro w'
            go_simp
            with_reducible rfl
          rotate_left
          · simp only [Act.put, List.setIfInBounds_toArray, List.set_cons_zero, List.set_cons_succ, i64_w, i32_w]
            rfl
          refine pure_ (i := 19) (N := some 53) (v := ?_) (a' := ?_) #[true, true, true, true, true, true, true, true, true, true, true, true, true, true, true, true, true, true, true, true, false] rfl rfl (by kernel_rfl) (fun _ _ _ h => h) (Or.inl ⟨by rfl, ?_⟩) ?_ ?_
          rotate_left
          · intro w'
            go_simp
            with_reducible rfl
          rotate_left
          · simp only [Act.put, List.setIfInBounds_toArray, List.set_cons_zero, List.set_cons_succ, i64_w, i32_w]
            rfl
          refine pure_ (i := 20) (N := some 54) (v := ?_) (a' := ?_) #[true, true, true, true, true, true, true, true, true, true, true, true, true, true, true, true, true, true, true, true, true] rfl rfl (by kernel_rfl) (fun _ _ _ h => h) (Or.inl ⟨by rfl, ?_⟩) ?_ ?_
          rotate_left
          · intro w'
            go_simp
            with_reducible rfl
          rotate_left
          · simp only [Act.put, List.setIfInBounds_toArray, List.set_cons_zero, List.set_cons_succ, i64_w, i32_w]
            rfl
          refine done_ (by kernel_rfl) ?_
          obtain ⟨ug0, ug1⟩ := HS.out.cells 0 rfl
          go_wp2_with fail
          refine (num_Sign.calls (sb G) Ag cg (sl G) 1 _ (HS.out.limbs 0 rfl).2.2 (HS.out.limbs 0 rfl).2.1 HSG.out).mono ?_
          rintro e w2_ ⟨rfl, hb⟩
          clear ug0 ug1
          have HN := Aside0.mk (HS.out.call hb)
          clear HS
          have HS := HN
          clear HN
          clear hb
          obtain ⟨ua0, ua1⟩ := HS.out.cells 2 rfl
          obtain ⟨ug0, ug1⟩ := HS.out.cells 0 rfl
          go_wp2_with fail
          refine (num_Quo.calls n0 A0 c0 l0 (sb G) Ag cg (sl G) (sb qx) (sl qx) 0 _ (HS.out.came HR0.out) HC0.out (HS.out.limbs 0 rfl).2.2 (HS.out.limbs 0 rfl).2.1 H1.out).mono ?_
          rintro e w3_ ⟨v, rfl, hR, hb⟩
          clear ua0 ua1 ug0 ug1
          obtain ⟨Ax, cx, rfl⟩ := Kd.R_slice hR
          have HN := Aside0.mk (HS.out.call32 hb hR)
          clear HS
          have HS := HN
          clear HN
          clear hb hR
          have HN := Aside0.mk (HS.out.boxed #[.bool (sb qx), .slice Ax (sl qx).length cx] 25 (by decide))
          clear HS
          have HS := HN
          clear HN
          obtain ⟨ub0, ub1⟩ := HS.out.cells 2 rfl
          obtain ⟨ug0, ug1⟩ := HS.out.cells 1 rfl
          go_wp2_with fail
          refine (num_Quo.calls n1 A1 c1 l1 (sb G) Ag cg (sl G) (sb qy) (sl qy) 0 _ (HS.out.came HR1.out) HC1.out (HS.out.limbs 1 rfl).2.2 (HS.out.limbs 1 rfl).2.1 H2.out).mono ?_
          rintro e w4_ ⟨v, rfl, hR, hb⟩
          clear ub0 ub1 ug0 ug1
          obtain ⟨Ay, cy, rfl⟩ := Kd.R_slice hR
          have HN := Aside0.mk (HS.out.call32 hb hR)
          clear HS
          have HS := HN
          clear HN
          clear hb hR
          have HN := Aside0.mk (HS.out.boxed #[.bool (sb qy), .slice Ay (sl qy).length cy] 25 (by decide))
          clear HS
          have HS := HN
          clear HN
          obtain ⟨ua0, ua1⟩ := HS.out.cells 4 rfl
          obtain ⟨ug0, ug1⟩ := HS.out.cells 2 rfl
          go_wp2_with fail
          refine (num_Rem.calls n0 A0 c0 l0 (sb G) Ag cg (sl G) (sb 0) (sl 0) 0 _ (HS.out.came HR0.out) HC0.out (HS.out.limbs 2 rfl).2.2 (HS.out.limbs 2 rfl).2.1 H3.out).mono ?_
          rintro e w5_ ⟨v, rfl, hR, hb⟩
          clear ua0 ua1 ug0 ug1
          obtain ⟨Ar, cr, rfl⟩ := Kd.R_slice hR
          have HN := Aside0.mk (HS.out.call32 hb hR)
          clear HS
          have HS := HN
          clear HN
          clear hb hR
          have HN := Aside0.mk (HS.out.boxed #[.bool (sb 0), .slice Ar (sl 0).length cr] 25 (by decide))
          clear HS
          have HS := HN
          clear HN
          obtain ⟨ub0, ub1⟩ := HS.out.cells 4 rfl
          obtain ⟨ug0, ug1⟩ := HS.out.cells 3 rfl
          go_wp2_with fail
          refine (num_Rem.calls n1 A1 c1 l1 (sb G) Ag cg (sl G) (sb 0) (sl 0) 0 _ (HS.out.came HR1.out) HC1.out (HS.out.limbs 3 rfl).2.2 (HS.out.limbs 3 rfl).2.1 H4.out).mono ?_
          rintro e w6_ ⟨v, rfl, hR, hb⟩
          clear ub0 ub1 ug0 ug1
          obtain ⟨As, cs, rfl⟩ := Kd.R_slice hR
          have HN := Aside0.mk (HS.out.call32 hb hR)
          clear HS
          have HS := HN
          clear HN
          clear hb hR
          have HN := Aside0.mk (HS.out.boxed #[.bool (sb 0), .slice As (sl 0).length cs] 25 (by decide))
          clear HS
          have HS := HN
          clear HN
          obtain ⟨ux0, ux1⟩ := HS.out.cells 3 rfl
          obtain ⟨uy0, uy1⟩ := HS.out.cells 2 rfl
          go_wp2_with fail
          clear ux0 ux1 uy0 uy1
          have hg := HS.out.newblk (.cells #[.bool (sb qx), .slice Ax (sl qx).length cx, .bool (sb qy), .slice Ay (sl qy).length cy] 25 (0, 0))
          try simp only [World.size_alloc] at hg
          refine (num_Gcd.calls _ 2 [((sb qx), (sl qx)), ((sb qy), (sl qy))] (sb 1) (sl 1) 0 _ (pair_row hg ((HS.out.alloc _).limbs 3 rfl).2.2 (HS.out.limbs 3 rfl).2.1 ((HS.out.alloc _).limbs 2 rfl).2.2 (HS.out.limbs 2 rfl).2.1) (Nat.le_refl 2) H5.out).mono ?_
          rintro e w7_ ⟨v, rfl, hR, hb⟩
          clear hg
          obtain ⟨Ao, co, rfl⟩ := Kd.R_slice hR
          have HN := Aside0.mk ((HS.out.alloc (.cells #[.bool (sb qx), .slice Ax (sl qx).length cx, .bool (sb qy), .slice Ay (sl qy).length cy] 25 (0, 0))).call32 hb hR)
          clear HS
          have HS := HN
          clear HN
          clear hb hR
          have HN := Aside0.mk (HS.out.boxed #[.bool (sb 1), .slice Ao (sl 1).length co] 25 (by decide))
          clear HS
          have HS := HN
          clear HN
          go_wp2
          have HN := Aside0.mk (HS.out.drew)
          clear HS
          have HS := HN
          clear HN
          refine start_ (n := 38) (S := fun w' => w'.cell? ⟨w5_.heap.size, 0, none⟩ = some (.bool (sb 0)) ∧ w'.cell? ⟨w5_.heap.size, 1, none⟩ = some (.slice Ar (sl 0).length cr) ∧ w'.cell? ⟨w6_.heap.size, 0, none⟩ = some (.bool (sb 0)) ∧ w'.cell? ⟨w6_.heap.size, 1, none⟩ = some (.slice As (sl 0).length cs) ∧ w'.cell? ⟨w7_.heap.size, 0, none⟩ = some (.bool (sb 1)) ∧ w'.cell? ⟨w7_.heap.size, 1, none⟩ = some (.slice Ao (sl 1).length co)) (ds := []) #[false, false, false, false, false, false, false, false, false, false, false, false, false, false, false, false, false, false, false, false, false, false, false, false, false, false, false, false, false, false, false, false, false, false, false, false, false, false] (by kernel_rfl) rfl rfl ⟨(HS.out.cells 2 rfl).1, (HS.out.cells 2 rfl).2, (HS.out.cells 1 rfl).1, (HS.out.cells 1 rfl).2, (HS.out.cells 0 rfl).1, (HS.out.cells 0 rfl).2⟩ (fun hHeld => ?_)
          refine pure_ (i := 0) (N := some 90) (v := ?_) (a' := ?_) #[true, false, false, false, false, false, false, false, false, false, false, false, false, false, false, false, false, false, false, false, false, false, false, false, false, false, false, false, false, false, false, false, false, false, false, false, false, false] rfl rfl (by kernel_rfl) (fun _ _ _ h => h) (Or.inl ⟨by rfl, ?_⟩) ?_ ?_
          rotate_left
          · intro w'
            go_simp
            with_reducible rfl
          rotate_left
          · simp only [Act.put, List.setIfInBounds_toArray, List.set_cons_zero, List.set_cons_succ, i64_w, i32_w]
            rfl
          refine pure_ (i := 1) (N := some 91) (v := ?_) (a' := ?_) #[true, true, false, false, false, false, false, false, false, false, false, false, false, false, false, false, false, false, false, false, false, false, false, false, false, false, false, false, false, false, false, false, false, false, false, false, false, false] rfl rfl (by kernel_rfl) (fun _ _ _ h => h) (Or.inl ⟨by rfl, ?_⟩) ?_ ?_
          rotate_left
          · intro w'
            go_simp
            with_reducible rfl
          rotate_left
          · simp only [Act.put, List.setIfInBounds_toArray, List.set_cons_zero, List.set_cons_succ, i64_w, i32_w]
            rfl
          refine pure_ (i := 2) (N := some 92) (v := ?_) (a' := ?_) #[true, true, true, false, false, false, false, false, false, false, false, false, false, false, false, false, false, false, false, false, false, false, false, false, false, false, false, false, false, false, false, false, false, false, false, false, false, false] rfl rfl (by kernel_rfl) (fun _ _ _ h => h) (Or.inl ⟨by rfl, ?_⟩) ?_ ?_
          rotate_left
          · intro w'
            go_simp
            with_reducible rfl
          rotate_left
          · simp only [Act.put, List.setIfInBounds_toArray, List.set_cons_zero, List.set_cons_succ, i64_w, i32_w]
            rfl
          refine pure_ (i := 3) (N := some 93) (v := ?_) (a' := ?_) #[true, true, true, true, false, false, false, false, false, false, false, false, false, false, false, false, false, false, false, false, false, false, false, false, false, false, false, false, false, false, false, false, false, false, false, false, false, false] rfl rfl (by kernel_rfl) (fun _ _ _ h => h) (Or.inl ⟨by rfl, ?_⟩) ?_ ?_
          rotate_left
          · intro w'
            go_simp
            with_reducible rfl
          rotate_left
          · simp only [Act.put, List.setIfInBounds_toArray, List.set_cons_zero, List.set_cons_succ, i64_w, i32_w]
            rfl
          refine pure_ (i := 4) (N := some 94) (v := ?_) (a' := ?_) #[true, true, true, true, true, false, false, false, false, false, false, false, false, false, false, false, false, false, false, false, false, false, false, false, false, false, false, false, false, false, false, false, false, false, false, false, false, false] rfl rfl (by kernel_rfl) (fun _ _ _ h => h) (Or.inl ⟨by rfl, ?_⟩) ?_ ?_
          rotate_left
          · intro w'
            go_simp
            with_reducible rfl
          rotate_left
          · simp only [Act.put, List.setIfInBounds_toArray, List.set_cons_zero, List.set_cons_succ, i64_w, i32_w]
            rfl
          refine pure_ (i := 5) (N := some 95) (v := ?_) (a' := ?_) #[true, true, true, true, true, true, false, false, false, false, false, false, false, false, false, false, false, false, false, false, false, false, false, false, false, false, false, false, false, false, false, false, false, false, false, false, false, false] rfl rfl (by kernel_rfl) (fun _ _ _ h => h) (Or.inl ⟨by rfl, ?_⟩) ?_ ?_
          rotate_left
          · intro w'
            go_simp
            with_reducible rfl
          rotate_left
          · simp only [Act.put, List.setIfInBounds_toArray, List.set_cons_zero, List.set_cons_succ, i64_w, i32_w]
            rfl
          refine pure_ (i := 6) (N := some 96) (v := ?_) (a' := ?_) #[true, true, true, true, true, true, true, false, false, false, false, false, false, false, false, false, false, false, false, false, false, false, false, false, false, false, false, false, false, false, false, false, false, false, false, false, false, false] rfl rfl (by kernel_rfl) (fun _ _ _ h => h) (Or.inl ⟨by rfl, ?_⟩) ?_ ?_
          rotate_left
          · intro w'
            go_simp
            with_reducible rfl
          rotate_left
          · simp only [Act.put, List.setIfInBounds_toArray, List.set_cons_zero, List.set_cons_succ, i64_w, i32_w]
            rfl
          refine pure_ (i := 7) (N := some 97) (v := ?_) (a' := ?_) #[true, true, true, true, true, true, true, true, false, false, false, false, false, false, false, false, false, false, false, false, false, false, false, false, false, false, false, false, false, false, false, false, false, false, false, false, false, false] rfl rfl (by kernel_rfl) (fun _ _ _ h => h) (Or.inl ⟨by rfl, ?_⟩) ?_ ?_
          rotate_left
          · intro w'
            go_simp
            with_reducible rfl
          rotate_left
          · simp only [Act.put, List.setIfInBounds_toArray, List.set_cons_zero, List.set_cons_succ, i64_w, i32_w]
            rfl
          refine pure_ (i := 8) (N := some 98) (v := ?_) (a' := ?_) #[true, true, true, true, true, true, true, true, true, false, false, false, false, false, false, false, false, false, false, false, false, false, false, false, false, false, false, false, false, false, false, false, false, false, false, false, false, false] rfl rfl (by kernel_rfl) (fun _ _ _ h => h) (Or.inl ⟨by rfl, ?_⟩) ?_ ?_
          rotate_left
          · intro w'
            go_simp
            with_reducible rfl
          rotate_left
          · simp only [Act.put, List.setIfInBounds_toArray, List.set_cons_zero, List.set_cons_succ, i64_w, i32_w]
            rfl
          refine pure_ (i := 9) (N := some 99) (v := ?_) (a' := ?_) #[true, true, true, true, true, true, true, true, true, true, false, false, false, false, false, false, false, false, false, false, false, false, false, false, false, false, false, false, false, false, false, false, false, false, false, false, false, false] rfl rfl (by kernel_rfl) (fun _ _ _ h => h) (Or.inl ⟨by rfl, ?_⟩) ?_ ?_
          rotate_left
          · intro w'
            go_simp
            with_reducible rfl
          rotate_left
          · simp only [Act.put, List.setIfInBounds_toArray, List.set_cons_zero, List.set_cons_succ, i64_w, i32_w]
            rfl
          refine pure_ (i := 10) (N := some 100) (v := ?_) (a' := ?_) #[true, true, true, true, true, true, true, true, true, true, true, false, false, false, false, false, false, false, false, false, false, false, false, false, false, false, false, false, false, false, false, false, false, false, false, false, false, false] rfl rfl (by kernel_rfl) (fun _ _ _ h => h) (Or.inl ⟨by rfl, ?_⟩) ?_ ?_
          rotate_left
          · intro w'
            go_simp
            with_reducible rfl
          rotate_left
          · simp only [Act.put, List.setIfInBounds_toArray, List.set_cons_zero, List.set_cons_succ, i64_w, i32_w]
            rfl
          refine pure_ (i := 11) (N := some 101) (v := ?_) (a' := ?_) #[true, true, true, true, true, true, true, true, true, true, true, true, false, false, false, false, false, false, false, false, false, false, false, false, false, false, false, false, false, false, false, false, false, false, false, false, false, false] rfl rfl (by kernel_rfl) (fun _ _ _ h => h) (Or.inl ⟨by rfl, ?_⟩) ?_ ?_
          rotate_left
          · intro w'
            go_simp
            with_reducible rfl
          rotate_left
          · simp only [Act.put, List.setIfInBounds_toArray, List.set_cons_zero, List.set_cons_succ, i64_w, i32_w]
            rfl
          refine pure_ (i := 12) (N := some 102) (v := ?_) (a' := ?_) #[true, true, true, true, true, true, true, true, true, true, true, true, true, false, false, false, false, false, false, false, false, false, false, false, false, false, false, false, false, false, false, false, false, false, false, false, false, false] rfl rfl (by kernel_rfl) (fun _ _ _ h => h) (Or.inl ⟨by rfl, ?_⟩) ?_ ?_
          rotate_left
          · intro w'
            go_simp
            with_reducible rfl
          rotate_left
          · simp only [Act.put, List.setIfInBounds_toArray, List.set_cons_zero, List.set_cons_succ, i64_w, i32_w]
            rfl
          refine pure_ (i := 13) (N := some 103) (v := ?_) (a' := ?_) #[true, true, true, true, true, true, true, true, true, true, true, true, true, true, false, false, false, false, false, false, false, false, false, false, false, false, false, false, false, false, false, false, false, false, false, false, false, false] rfl rfl (by kernel_rfl) (fun _ _ _ h => h) (Or.inl ⟨by rfl, ?_⟩) ?_ ?_
          rotate_left
          · intro w'
            go_simp
            with_reducible rfl
          rotate_left
          · simp only [Act.put, List.setIfInBounds_toArray, List.set_cons_zero, List.set_cons_succ, i64_w, i32_w]
            rfl
          refine pure_ (i := 14) (N := some 104) (v := ?_) (a' := ?_) #[true, true, true, true, true, true, true, true, true, true, true, true, true, true, true, false, false, false, false, false, false, false, false, false, false, false, false, false, false, false, false, false, false, false, false, false, false, false] rfl rfl (by kernel_rfl) (fun _ _ _ h => h) (Or.inl ⟨by rfl, ?_⟩) ?_ ?_
          rotate_left
          · intro w'
            go_simp
            with_reducible rfl
          rotate_left
          · simp only [Act.put, List.setIfInBounds_toArray, List.set_cons_zero, List.set_cons_succ, i64_w, i32_w]
            rfl
          refine pure_ (i := 15) (N := some 105) (v := ?_) (a' := ?_) #[true, true, true, true, true, true, true, true, true, true, true, true, true, true, true, true, false, false, false, false, false, false, false, false, false, false, false, false, false, false, false, false, false, false, false, false, false, false] rfl rfl (by kernel_rfl) (fun _ _ _ h => h) (Or.inl ⟨by rfl, ?_⟩) ?_ ?_
          rotate_left
          · intro w'
            go_simp
            with_reducible rfl
          rotate_left
          · simp only [Act.put, List.setIfInBounds_toArray, List.set_cons_zero, List.set_cons_succ, i64_w, i32_w]
            rfl
          refine pure_ (i := 16) (N := some 106) (v := ?_) (a' := ?_) #[true, true, true, true, true, true, true, true, true, true, true, true, true, true, true, true, true, false, false, false, false, false, false, false, false, false, false, false, false, false, false, false, false, false, false, false, false, false] rfl rfl (by kernel_rfl) (fun _ _ _ h => h) (Or.inl ⟨by rfl, ?_⟩) ?_ ?_
          rotate_left
          · intro w'
            go_simp
            with_reducible rfl
          rotate_left
          · simp only [Act.put, List.setIfInBounds_toArray, List.set_cons_zero, List.set_cons_succ, i64_w, i32_w]
            rfl
          refine pure_ (i := 17) (N := some 107) (v := ?_) (a' := ?_) #[true, true, true, true, true, true, true, true, true, true, true, true, true, true, true, true, true, true, false, false, false, false, false, false, false, false, false, false, false, false, false, false, false, false, false, false, false, false] rfl rfl (by kernel_rfl) (fun _ _ _ h => h) (Or.inl ⟨by rfl, ?_⟩) ?_ ?_
          rotate_left
          · intro w'
            go_simp
            with_reducible rfl
          rotate_left
          · simp only [Act.put, List.setIfInBounds_toArray, List.set_cons_zero, List.set_cons_succ, i64_w, i32_w]
            rfl
          refine pure_ (i := 18) (N := some 108) (v := ?_) (a' := ?_) #[true, true, true, true, true, true, true, true, true, true, true, true, true, true, true, true, true, true, true, false, false, false, false, false, false, false, false, false, false, false, false, false, false, false, false, false, false, false] rfl rfl (by kernel_rfl) (fun _ _ _ h => h) (Or.inl ⟨by rfl, ?_⟩) ?_ ?_
          rotate_left
          · intro w'
            go_simp
            with_reducible rfl
          rotate_left
          · simp only [Act.put, List.setIfInBounds_toArray, List.set_cons_zero, List.set_cons_succ, i64_w, i32_w]
            rfl
          refine take_ (i := 19) (N := some 109) (v := ?_) (a' := ?_) #[true, true, true, true, true, true, true, true, true, true, true, true, true, true, true, true, true, true, true, true, false, false, false, false, false, false, false, false, false, false, false, false, false, false, false, false, false, false] rfl rfl (by kernel_rfl) (fun _ _ _ h => h) (Or.inl ⟨by rfl, ?_⟩) hHeld ?_ ?_
          rotate_left
          · rintro w' ⟨s0, s1, s2, s3, s4, s5⟩
            go_simp
            with_reducible rfl
          rotate_left
          · simp only [Act.put, List.setIfInBounds_toArray, List.set_cons_zero, List.set_cons_succ, i64_w, i32_w]
            rfl
          refine one_ (i := 20) (N := some 110) #[true, true, true, true, true, true, true, true, true, true, true, true, true, true, true, true, true, true, true, true, true, false, false, false, false, false, false, false, false, false, false, false, false, false, false, false, false, false] rfl rfl (by kernel_rfl) (by decide) (fun K hK => ?_)
          refine goes_ Tryd.func39 (by kernel_rfl) rfl #[.agg #[.bool (sb 0), .slice Ar (sl 0).length cr]] (by rfl) rfl rfl (by simp only [List.map_toArray, List.map_cons, List.map_nil]; rfl) ?_
          with_reducible refine (num_Sign.calls (sb 0) Ar cr (sl 0) 0 _ (HS.out.limbs 2 rfl).2.2 (HS.out.limbs 2 rfl).2.1 HZ.out).mono ?_
          rintro e w3 ⟨rfl, hb⟩
          refine ⟨_, rfl, ?_⟩
          have HN := Aside0.mk (HS.out.call hb)
          clear HS
          have HS := HN
          clear HN
          refine hK.out _ _ ⟨(HS.out.cells 2 rfl).1, (HS.out.cells 2 rfl).2, (HS.out.cells 1 rfl).1, (HS.out.cells 1 rfl).2, (HS.out.cells 0 rfl).1, (HS.out.cells 0 rfl).2⟩ (fun hHeld => ?_)
          clear hK K
          refine norm_ (a' := ?_) ?_ ?_
          rotate_left
          · show Act.put _ (some 110) _ = _
            simp only [Act.put, List.setIfInBounds_toArray, List.set_cons_zero, List.set_cons_succ, i64_w, i32_w]
            rfl
          refine pure_ (i := 21) (N := some 111) (v := ?_) (a' := ?_) #[true, true, true, true, true, true, true, true, true, true, true, true, true, true, true, true, true, true, true, true, true, true, false, false, false, false, false, false, false, false, false, false, false, false, false, false, false, false] rfl rfl (by kernel_rfl) (fun _ _ _ h => h) (Or.inl ⟨by rfl, ?_⟩) ?_ ?_
          rotate_left
          · intro w'
            go_simp
            with_reducible rfl
          rotate_left
          · simp only [Act.put, List.setIfInBounds_toArray, List.set_cons_zero, List.set_cons_succ, i64_w, i32_w]
            rfl
          refine pure_ (i := 22) (N := some 112) (v := ?_) (a' := ?_) #[true, true, true, true, true, true, true, true, true, true, true, true, true, true, true, true, true, true, true, true, true, true, true, false, false, false, false, false, false, false, false, false, false, false, false, false, false, false] rfl rfl (by kernel_rfl) (fun _ _ _ h => h) (Or.inl ⟨by rfl, ?_⟩) ?_ ?_
          rotate_left
          · intro w'
            go_simp
            with_reducible rfl
          rotate_left
          · simp only [Act.put, List.setIfInBounds_toArray, List.set_cons_zero, List.set_cons_succ, i64_w, i32_w]
            rfl
          refine pure_ (i := 23) (N := some 113) (v := ?_) (a' := ?_) #[true, true, true, true, true, true, true, true, true, true, true, true, true, true, true, true, true, true, true, true, true, true, true, true, false, false, false, false, false, false, false, false, false, false, false, false, false, false] rfl rfl (by kernel_rfl) (fun _ _ _ h => h) (Or.inl ⟨by rfl, ?_⟩) ?_ ?_
          rotate_left
          · intro w'
            go_simp
            with_reducible rfl
          rotate_left
          · simp only [Act.put, List.setIfInBounds_toArray, List.set_cons_zero, List.set_cons_succ, i64_w, i32_w]
            rfl
          refine take_ (i := 24) (N := some 114) (v := ?_) (a' := ?_) #[true, true, true, true, true, true, true, true, true, true, true, true, true, true, true, true, true, true, true, true, true, true, true, true, true, false, false, false, false, false, false, false, false, false, false, false, false, false] rfl rfl (by kernel_rfl) (fun _ _ _ h => h) (Or.inl ⟨by rfl, ?_⟩) hHeld ?_ ?_
          rotate_left
          · rintro w' ⟨s0, s1, s2, s3, s4, s5⟩
            go_simp
            with_reducible rfl
          rotate_left
          · simp only [Act.put, List.setIfInBounds_toArray, List.set_cons_zero, List.set_cons_succ, i64_w, i32_w]
            rfl
          refine one_ (i := 25) (N := some 115) #[true, true, true, true, true, true, true, true, true, true, true, true, true, true, true, true, true, true, true, true, true, true, true, true, true, true, false, false, false, false, false, false, false, false, false, false, false, false] rfl rfl (by kernel_rfl) (by decide) (fun K hK => ?_)
          refine goes_ Tryd.func39 (by kernel_rfl) rfl #[.agg #[.bool (sb 0), .slice As (sl 0).length cs]] (by rfl) rfl rfl (by simp only [List.map_toArray, List.map_cons, List.map_nil]; rfl) ?_
          with_reducible refine (num_Sign.calls (sb 0) As cs (sl 0) 0 _ (HS.out.limbs 1 rfl).2.2 (HS.out.limbs 1 rfl).2.1 HZ.out).mono ?_
          rintro e w3 ⟨rfl, hb⟩
          refine ⟨_, rfl, ?_⟩
          have HN := Aside0.mk (HS.out.call hb)
          clear HS
          have HS := HN
          clear HN
          refine hK.out _ _ ⟨(HS.out.cells 2 rfl).1, (HS.out.cells 2 rfl).2, (HS.out.cells 1 rfl).1, (HS.out.cells 1 rfl).2, (HS.out.cells 0 rfl).1, (HS.out.cells 0 rfl).2⟩ (fun hHeld => ?_)
          clear hK K
          refine norm_ (a' := ?_) ?_ ?_
          rotate_left
          · show Act.put _ (some 115) _ = _
            simp only [Act.put, List.setIfInBounds_toArray, List.set_cons_zero, List.set_cons_succ, i64_w, i32_w]
            rfl
          refine pure_ (i := 26) (N := some 116) (v := ?_) (a' := ?_) #[true, true, true, true, true, true, true, true, true, true, true, true, true, true, true, true, true, true, true, true, true, true, true, true, true, true, true, false, false, false, false, false, false, false, false, false, false, false] rfl rfl (by kernel_rfl) (fun _ _ _ h => h) (Or.inl ⟨by rfl, ?_⟩) ?_ ?_
          rotate_left
          · intro w'
            go_simp
            with_reducible rfl
          rotate_left
          · simp only [Act.put, List.setIfInBounds_toArray, List.set_cons_zero, List.set_cons_succ, i64_w, i32_w]
            rfl
          refine pure_ (i := 27) (N := some 117) (v := ?_) (a' := ?_) #[true, true, true, true, true, true, true, true, true, true, true, true, true, true, true, true, true, true, true, true, true, true, true, true, true, true, true, true, false, false, false, false, false, false, false, false, false, false] rfl rfl (by kernel_rfl) (fun _ _ _ h => h) (Or.inl ⟨by rfl, ?_⟩) ?_ ?_
          rotate_left
          · intro w'
            go_simp
            with_reducible rfl
          rotate_left
          · simp only [Act.put, List.setIfInBounds_toArray, List.set_cons_zero, List.set_cons_succ, i64_w, i32_w]
            rfl
          refine pure_ (i := 28) (N := some 118) (v := ?_) (a' := ?_) #[true, true, true, true, true, true, true, true, true, true, true, true, true, true, true, true, true, true, true, true, true, true, true, true, true, true, true, true, true, false, false, false, false, false, false, false, false, false] rfl rfl (by kernel_rfl) (fun _ _ _ h => h) (Or.inl ⟨by rfl, ?_⟩) ?_ ?_
          rotate_left
          · intro w'
            go_simp
            with_reducible rfl
          rotate_left
          · simp only [Act.put, List.setIfInBounds_toArray, List.set_cons_zero, List.set_cons_succ, i64_w, i32_w]
            rfl
          refine take_ (i := 29) (N := some 119) (v := ?_) (a' := ?_) #[true, true, true, true, true, true, true, true, true, true, true, true, true, true, true, true, true, true, true, true, true, true, true, true, true, true, true, true, true, true, false, false, false, false, false, false, false, false] rfl rfl (by kernel_rfl) (fun _ _ _ h => h) (Or.inl ⟨by rfl, ?_⟩) hHeld ?_ ?_
          rotate_left
          · rintro w' ⟨s0, s1, s2, s3, s4, s5⟩
            go_simp
            with_reducible rfl
          rotate_left
          · simp only [Act.put, List.setIfInBounds_toArray, List.set_cons_zero, List.set_cons_succ, i64_w, i32_w]
            rfl
          refine one_ (i := 30) (N := some 120) #[true, true, true, true, true, true, true, true, true, true, true, true, true, true, true, true, true, true, true, true, true, true, true, true, true, true, true, true, true, true, true, false, false, false, false, false, false, false] rfl rfl (by kernel_rfl) (by decide) (fun K hK => ?_)
          refine goes_ Tryd.func18 (by kernel_rfl) rfl #[.int .i64 1] (by rfl) rfl rfl (by simp only [List.map_toArray, List.map_cons, List.map_nil]; rfl) ?_
          with_reducible refine (num_Of.calls 1 (sb 1) (sl 1) _ HO.out).mono ?_
          rintro e w3 ⟨v, rfl, hR, hb⟩
          refine ⟨_, rfl, ?_⟩
          obtain ⟨Af, cf, rfl⟩ := Kd.R_slice hR
          have HN := Aside0.mk (HS.out.call32 hb hR)
          clear HS
          have HS := HN
          clear HN
          refine hK.out _ _ ⟨(HS.out.cells 2 rfl).1, (HS.out.cells 2 rfl).2, (HS.out.cells 1 rfl).1, (HS.out.cells 1 rfl).2, (HS.out.cells 0 rfl).1, (HS.out.cells 0 rfl).2⟩ (fun hHeld => ?_)
          clear hK K
          refine norm_ (a' := ?_) ?_ ?_
          rotate_left
          · show Act.put _ (some 120) _ = _
            simp only [Act.put, List.setIfInBounds_toArray, List.set_cons_zero, List.set_cons_succ, i64_w, i32_w]
            rfl
          refine one_ (i := 31) (N := some 121) #[true, true, true, true, true, true, true, true, true, true, true, true, true, true, true, true, true, true, true, true, true, true, true, true, true, true, true, true, true, true, true, true, false, false, false, false, false, false] rfl rfl (by kernel_rfl) (by decide) (fun K hK => ?_)
          refine goes_ Tryd.func43 (by kernel_rfl) rfl #[.agg #[.bool (sb 1), .slice Ao (sl 1).length co], .agg #[.bool (sb 1), .slice Af (sl 1).length cf]] (by rfl) rfl rfl (by simp only [List.map_toArray, List.map_cons, List.map_nil]; rfl) ?_
          with_reducible refine (num_Cmp.calls (sb 1) Ao co (sl 1) (sb 1) Af cf (sl 1) 0 _ (HS.out.limbs 1 rfl).2.2 (HS.out.limbs 1 rfl).2.1 (HS.out.limbs 0 rfl).2.2 (HS.out.limbs 0 rfl).2.1 HCC.out).mono ?_
          rintro e w3 ⟨rfl, hb⟩
          refine ⟨_, rfl, ?_⟩
          have HN := Aside0.mk (HS.out.call hb)
          clear HS
          have HS := HN
          clear HN
          refine hK.out _ _ ⟨(HS.out.cells 2 rfl).1, (HS.out.cells 2 rfl).2, (HS.out.cells 1 rfl).1, (HS.out.cells 1 rfl).2, (HS.out.cells 0 rfl).1, (HS.out.cells 0 rfl).2⟩ (fun hHeld => ?_)
          clear hK K
          refine norm_ (a' := ?_) ?_ ?_
          rotate_left
          · show Act.put _ (some 121) _ = _
            simp only [Act.put, List.setIfInBounds_toArray, List.set_cons_zero, List.set_cons_succ, i64_w, i32_w]
            rfl
          refine pure_ (i := 32) (N := some 122) (v := ?_) (a' := ?_) #[true, true, true, true, true, true, true, true, true, true, true, true, true, true, true, true, true, true, true, true, true, true, true, true, true, true, true, true, true, true, true, true, true, false, false, false, false, false] rfl rfl (by kernel_rfl) (fun _ _ _ h => h) (Or.inl ⟨by rfl, ?_⟩) ?_ ?_
          rotate_left
          · intro w'
            go_simp
            with_reducible rfl
          rotate_left
          · simp only [Act.put, List.setIfInBounds_toArray, List.set_cons_zero, List.set_cons_succ, i64_w, i32_w]
            rfl
          refine pure_ (i := 33) (N := some 123) (v := ?_) (a' := ?_) #[true, true, true, true, true, true, true, true, true, true, true, true, true, true, true, true, true, true, true, true, true, true, true, true, true, true, true, true, true, true, true, true, true, true, false, false, false, false] rfl rfl (by kernel_rfl) (fun _ _ _ h => h) (Or.inl ⟨by rfl, ?_⟩) ?_ ?_
          rotate_left
          · intro w'
            go_simp
            with_reducible rfl
          rotate_left
          · simp only [Act.put, List.setIfInBounds_toArray, List.set_cons_zero, List.set_cons_succ, i64_w, i32_w]
            rfl
          refine pure_ (i := 34) (N := some 124) (v := ?_) (a' := ?_) #[true, true, true, true, true, true, true, true, true, true, true, true, true, true, true, true, true, true, true, true, true, true, true, true, true, true, true, true, true, true, true, true, true, true, true, false, false, false] rfl rfl (by kernel_rfl) (fun _ _ _ h => h) (Or.inl ⟨by rfl, ?_⟩) ?_ ?_
          rotate_left
          · intro w'
            go_simp
            with_reducible rfl
          rotate_left
          · simp only [Act.put, List.setIfInBounds_toArray, List.set_cons_zero, List.set_cons_succ, i64_w, i32_w]
            rfl
          refine one_ (i := 35) (N := some 125) #[true, true, true, true, true, true, true, true, true, true, true, true, true, true, true, true, true, true, true, true, true, true, true, true, true, true, true, true, true, true, true, true, true, true, true, true, false, false] rfl rfl (by kernel_rfl) (by decide) (fun K hK => ?_)
          refine goes_ Tryd.func20 (by kernel_rfl) rfl #[] (by rfl) rfl rfl (by simp only [List.map_toArray, List.map_cons, List.map_nil]) ?_
          with_reducible refine (awake_calls _ (NumV.Tab.below HT.out HS.out.below)).mono ?_
          rintro e w3 ⟨rfl, hb⟩
          refine ⟨_, rfl, ?_⟩
          have HN := Aside0.mk (HS.out.call hb)
          clear HS
          have HS := HN
          clear HN
          refine hK.out _ _ ⟨(HS.out.cells 2 rfl).1, (HS.out.cells 2 rfl).2, (HS.out.cells 1 rfl).1, (HS.out.cells 1 rfl).2, (HS.out.cells 0 rfl).1, (HS.out.cells 0 rfl).2⟩ (fun hHeld => ?_)
          clear hK K
          refine norm_ (a' := ?_) ?_ ?_
          rotate_left
          · show Act.put _ (some 125) _ = _
            simp only [Act.put, List.setIfInBounds_toArray, List.set_cons_zero, List.set_cons_succ, i64_w, i32_w]
            rfl
          refine pure_ (i := 36) (N := some 126) (v := ?_) (a' := ?_) #[true, true, true, true, true, true, true, true, true, true, true, true, true, true, true, true, true, true, true, true, true, true, true, true, true, true, true, true, true, true, true, true, true, true, true, true, true, false] rfl rfl (by kernel_rfl) (fun _ _ _ h => h) (Or.inl ⟨by rfl, ?_⟩) ?_ ?_
          rotate_left
          · intro w'
            go_simp
            with_reducible rfl
          rotate_left
          · simp only [Act.put, List.setIfInBounds_toArray, List.set_cons_zero, List.set_cons_succ, i64_w, i32_w]
            rfl
          refine pure_ (i := 37) (N := some 4) (v := ?_) (a' := ?_) #[true, true, true, true, true, true, true, true, true, true, true, true, true, true, true, true, true, true, true, true, true, true, true, true, true, true, true, true, true, true, true, true, true, true, true, true, true, true] rfl rfl (by kernel_rfl) (fun _ _ _ h => h) (Or.inl ⟨by rfl, ?_⟩) ?_ ?_
          rotate_left
          · intro w'
            go_simp
            with_reducible rfl
          rotate_left
          · simp only [Act.put, List.setIfInBounds_toArray, List.set_cons_zero, List.set_cons_succ, i64_w, i32_w]
            rfl
          refine done_ (by kernel_rfl) ?_
          go_wp2
          go_ret
          exact ⟨rfl, HS.out.below⟩
end Go.Proofs.YthhpnlbeniihhaaDoor.WalkParts
namespace Go.Proofs.YthhpnlbeniihhaaDoor.numParts
open Go.ChangeShapes Go.WideShapes Go.ChangeAt Go.RowKit Go.Proofs.YthhpnlbeniihhaaDoor.Limb Go.Proofs.YthhpnlbeniihhaaDoor.Row
open Go.ChangeMaps (open_string shut_string)
set_option linter.unusedVariables false
theorem own : ownKnob Tryd.prog.godebug = none := by kernel_rfl
set_option maxRecDepth 100000 in
theorem contract (H : Type) (enc : TypeId × Value → H) (W : World) (base : Nat) (args : Array Value) (ds gs : List (DataW H)) (before : List MemPlace)
    (hval : ∀ (j : Nat) t v, Tryd.f12.params[j]? = some t → args[j]? = some v → Value.okWide Tryd.prog W .any base t v)
    (hW : DataW.Whole enc Tryd.prog Tryd.f12.params.toList Rows.numPartsSpec.vars false W args.toList ds gs before)
    (hsz0 : (DataW.weightsEach Tryd.prog (Tryd.f12.params.toList ++ Rows.numPartsSpec.plain.varTypes Tryd.prog) (ds ++ gs)).all (· ≤ reachBytes) = true) (hL : laidMetH Tryd.prog Rows.numPartsRow.laid W) :
    Calls Tryd.prog 12 args W fun e W' => ∃ v, e = .returned v ∧ Rows.numPartsSpec.post enc Tryd.prog Tryd.f12 false true false false W args v W' := by
  have ht : NumV.Tab W := tab hL
  have hsz : (DataW.weightsEach Tryd.prog (Tryd.f12.params.toList ++ Rows.numPartsSpec.plain.varTypes Tryd.prog) (ds ++ gs)).all (· ≤ reachBytes) = true := hsz0
  have hW' := hW
  obtain ⟨p, q, hA0, hV, rfl, hfz, hnd⟩ := hW
  have hA : DataW.TrodAll enc Tryd.prog W 0 (fun _ => true) true Tryd.f12.params.toList args.toList ds p := hA0
  rw [Tryd.params12] at hA hval hsz
  obtain ⟨v0, vs0, d0, ds0, p0, q0, hargs, rfl, rfl, h0, r0⟩ := trodAll_cons hA
  obtain ⟨v1, vs1, d1, ds1, p1, q1, rfl, rfl, rfl, h1, r1⟩ := trodAll_cons r0
  obtain ⟨rfl, rfl, rfl⟩ := trodAll_nil r1
  obtain rfl : args = #[v0, v1] := by cases args; simp_all
  obtain ⟨rfl, rfl⟩ := trodVars_none hV
  have k0 := h0
  have lt0 : ∀ x ∈ p0, x.block < W.heap.size := by obtain ⟨m, hm⟩ := k0; exact DataW.trod_lt m _ _ _ hm
  obtain ⟨n0, A0, c0, l0, rfl, ok0, hc0, hr0, bg0⟩ := open_num (hval 0 25 v0 rfl rfl) h0
  have k1 := h1
  have lt1 : ∀ x ∈ p1, x.block < W.heap.size := by obtain ⟨m, hm⟩ := k1; exact DataW.trod_lt m _ _ _ hm
  obtain ⟨n1, A1, c1, l1, rfl, ok1, hc1, hr1, bg1⟩ := open_num (hval 1 25 v1 rfl rfl) h1
  refine (WalkParts.walk n0 A0 c0 l0 n1 A1 c1 l1 W hr0 hc0 hr1 hc1 ok0 ok1 ht).mono fun e W' ⟨he, bel⟩ => ?_
  subst he
  exact ⟨_, rfl, _, _, _, [], _, [], hW', trodAll_mk1 (shut_bool Tryd.underlying4 _), (trodAll_cons_mk (Below.trod laidOut (by kernel_rfl) (of_decide_eq_true (by kernel_rfl)) k0 bel lt0) (trodAll_cons_mk (Below.trod laidOut (by kernel_rfl) (of_decide_eq_true (by kernel_rfl)) k1 bel lt1) trodAll_mk0)), rfl, bel.frame _, fun h => by cases h⟩
theorem reads (os : Os) {H : Type} (enc : TypeId × Value → H) : ∃ places, DataW.whole enc Tryd.prog ((laidWorld os).forCall (fun _ _ => 0) ⟨#[], #[.agg #[.bool false, .slice none 0 0], .agg #[.bool false, .slice none 0 0]], []⟩).memory Tryd.f12.params.toList Rows.numPartsSpec.vars false (#[.agg #[.bool false, .slice none 0 0], .agg #[.bool false, .slice none 0 0]] : Array Value).toList 8 = some ([.agg [.lit (.bool false), .nil], .agg [.lit (.bool false), .nil]], [], places) :=
  ⟨[], by kernel_rfl⟩
set_option maxRecDepth 100000 in
theorem lifted (os : Os) (started : os.Started) (H : Type) (enc : TypeId × Value → H) (F : Stop.Interp) :
    ReturnsInHanded {} Tryd.checked os 12 .any ((OpenSpec.ofChange Rows.numPartsSpec).preRow enc Tryd.prog Tryd.f12 Rows.numPartsRow.domain false Rows.numPartsRow.laid) (((OpenSpec.ofChange Rows.numPartsSpec).at F).post enc Tryd.prog Tryd.f12 false true false false) := by
  obtain ⟨places, hx⟩ := reads os enc
  refine returnsInHanded_of_row (C := Tryd.checked) (s := OpenSpec.ofChange Rows.numPartsSpec) own started (by kernel_rfl) Tryd.func12
    (witness_row_at (enc := enc) (C := Tryd.checked) false (laidWorld os) #[.agg #[.bool false, .slice none 0 0], .agg #[.bool false, .slice none 0 0]] rfl (by kernel_rfl) (by kernel_rfl) (by kernel_rfl)
      (OpenSpec.preRow_of_cond 8 hx (by kernel_rfl) (fun k hk => by cases hk) (by kernel_rfl) (laid_met os _))) ?_
  intro W base args ds gs before hval hW _ _ hsz hL _ _
  exact contract H enc W base args ds gs before hval hW hsz hL
theorem said : Rows.NumPartsSaid :=
  OpenClaim.holds_of_cond 12 Tryd.f12 rfl rfl rfl rfl rfl rfl rfl ⟨rfl, rfl, rfl, rfl, rfl⟩ rfl rfl rfl rfl rfl (by kernel_rfl) Tryd.func12 (by kernel_rfl)
    (of_decide_eq_true (by kernel_rfl)) (by unfold Func.isWrapper; first | (rw [if_pos (by decide +kernel)]; kernel_rfl) | (rw [if_neg (by decide +kernel)]; exact ⟨rfl, rfl⟩))
    (fun os started H enc _ F => by rw [OpenClaim.pre_eq_preRow]; exact lifted os started H enc F)
theorem plain (f : FuncId) (fn : Func) (hf : Tryd.pinned.checked.prog.funcNamed "moraine/morainelaw02.NumParts" = some f) (hfn : Tryd.pinned.checked.prog.funcs[f]? = some fn) :
    false = Tryd.pinned.checked.prog.looks [] ∧ ∀ (j : Nat) t, fn.params[j]? = some t → Tryd.pinned.checked.prog.wantsStandIn t = false := by
  obtain rfl : f = 12 := Option.some.inj ((show Tryd.prog.funcNamed "moraine/morainelaw02.NumParts" = some 12 by kernel_rfl).symm.trans hf) |>.symm
  obtain rfl : fn = Tryd.f12 := (Option.some.inj (Tryd.func12.symm.trans hfn)).symm
  refine ⟨by kernel_rfl, fun j t ht => ?_⟩
  rw [Tryd.params12] at ht
  have hm : t ∈ (#[25, 25] : Array TypeId) := Array.mem_of_getElem? ht
  obtain rfl : t = 25 := by simpa using hm
  exact (show Tryd.prog.wantsStandIn 25 = false by kernel_rfl)
/-- The tied card. -/
theorem card : Rows.NumPartsCardSaid :=
  Claim7.holds_tied_plain_at .later [] _ _ _ _ said (fun _ h => by cases h) (by kernel_rfl) (fun _ h => by cases h) numParts_row_tie rfl ⟨rfl, rfl⟩ (by kernel_rfl) rfl plain (by kernel_rfl)
end Go.Proofs.YthhpnlbeniihhaaDoor.numParts
namespace Go.Proofs.YthhpnlbeniihhaaDoor
/-- Of any two numbers: the greatest number that divides both, and what is left of them (law NumParts). -/
theorem numParts_holds : Rows.NumPartsCardSaid := numParts.card
end Go.Proofs.YthhpnlbeniihhaaDoor
