/- Contracts and plain laws that the row's proof uses (part 3). Conditions: those that each states. -/
import Derived.Shelf.Strings.OnBuilder
import Derived.Shelf.Strconv.Itoa1
import Derived.Shelf.LaysM
import Derived.Shelf.Strconv.Itoa2
import Derived.Shelf.Strings.Prefix
import Derived.Shelf.Strings.Repeat
import Derived.Shelf.Slices.ReverseS
import Derived.Shelf.Slices.Cells
import Derived.Test.YthhpnlbeniihhaaDoorProg
import Derived.Shelf.Strings.SlTrimAscii
import Derived.Lib.ItoaMem
import Derived.Lib.AppendIntMem
import Derived.Lib.Walk
import Derived.BigCall
import Derived.BigGuard
import Derived.Lib.ItoaNum
import Derived.Lib.SmallJoins
import Derived.Lib.OwnBridge
import Derived.Below
import Derived.Deep.Draws
import Derived.Deep.AppendLies
import Derived.Maps.AppendAt
import Derived.OwnWalk
import Derived.Laws.BytesArg
import Derived.Laws.MakeOwn
import Derived.Laws.OwnMore
import Derived.Deep.OwnRows
import Derived.Tactics
import Derived.Lib.ConvBytes
import Derived.Laws.Slices
import Derived.WalkKit
import Derived.KernelRfl
import Derived.RowKit3
import Derived.Deep.LoopGhost
import Derived.Deep.QuietTactic
import Derived.BigQuiet
import Derived.WideLaws
import Derived.Deep.DeepCutAuto
import Derived.Deep.CutBlock
import Derived.Deep.RegionHeld3
import Derived.Laws.Rows
import Derived.Lib.AppendStr
import Derived.ArgAppend
import Derived.Laws.IdiomCopy
import Derived.OrdersHeld
import Derived.Laws.BitsLemmas
import Derived.RowKit
import Derived.Test.YthhpnlbeniihhaaDoorCards
import Derived.ProofKit
import Derived.OpenShut
import Derived.ShutString
import Derived.ChangeOld
import Derived.ChangeStays
import Derived.ChangeSlices
import Derived.SizedLaws
import Derived.Deep.DeepHandedRow
import Derived.Lib.LaidTab
import Derived.LaidLaws
import Derived.Carry
import Derived.Test.YthhpnlbeniihhaaDoorCNumMay2
namespace Go.Proofs
open Go.Shelf
def Tryd.lays156_ren : Go.Shelf.Ren := ⟨fun | 156 => 58 | 165 => 81 | 166 => 82 | 169 => 84 | 240 => 105 | 241 => 106 | 276 => 117 | 277 => 118 | n => n, fun | 31 => 69 | 9 => 9 | 3 => 3 | 4 => 4 | 0 => 0 | 20 => 20 | 72 => 95 | 76 => 99 | 70 => 93 | 37 => 32 | 75 => 98 | 127 => 123 | 164 => 134 | 5 => 5 | 80 => 102 | n => n, fun | n => n⟩
theorem Tryd.lays156 : Go.Proofs.Lays.n156 Tryd.prog Tryd.lays156_ren := {
  mixed := by kernel_rfl
  f156 := Tryd.func58.trans (congrArg some (by kernel_rfl))
  f165 := Tryd.func81.trans (congrArg some (by kernel_rfl))
  f166 := Tryd.func82.trans (congrArg some (by kernel_rfl))
  f169 := Tryd.func84.trans (congrArg some (by kernel_rfl))
  f240 := Tryd.func105.trans (congrArg some (by kernel_rfl))
  f241 := Tryd.func106.trans (congrArg some (by kernel_rfl))
  f276 := Tryd.func117.trans (congrArg some (by kernel_rfl))
  f277 := Tryd.func118.trans (congrArg some (by kernel_rfl))
  t0 := Tryd.underlying0
  a0 := Tryd.isAgg0
  z0 := Tryd.sizeOf0
  v0 := Tryd.zeroValue0
  t3 := Tryd.underlying3
  a3 := Tryd.isAgg3
  z3 := Tryd.sizeOf3
  v3 := Tryd.zeroValue3
  t4 := Tryd.underlying4
  a4 := Tryd.isAgg4
  z4 := Tryd.sizeOf4
  v4 := Tryd.zeroValue4
  t9 := Tryd.underlying9
  a9 := Tryd.isAgg9
  z9 := Tryd.sizeOf9
  v9 := Tryd.zeroValue9
  t20 := Tryd.underlying20
  a20 := Tryd.isAgg20
  z20 := Tryd.sizeOf20
  v20 := Tryd.zeroValue20
  t31 := Tryd.underlying69
  a31 := Tryd.isAgg69
  z31 := Tryd.sizeOf69
  v31 := Tryd.zeroValue69
  t37 := Tryd.underlying32
  a37 := Tryd.isAgg32
  z37 := Tryd.sizeOf32
  v37 := Tryd.zeroValue32
  t70 := Tryd.underlying93
  a70 := Tryd.isAgg93
  z70 := Tryd.sizeOf93
  v70 := Tryd.zeroValue93
  t72 := Tryd.underlying95
  a72 := Tryd.isAgg95
  z72 := Tryd.sizeOf95
  v72 := Tryd.zeroValue95
  t75 := Tryd.underlying98
  a75 := Tryd.isAgg98
  z75 := Tryd.sizeOf98
  v75 := Tryd.zeroValue98
  t76 := Tryd.underlying99
  a76 := Tryd.isAgg99
  z76 := Tryd.sizeOf99
  v76 := Tryd.zeroValue99
  t127 := Tryd.underlying123
  a127 := Tryd.isAgg123
  z127 := Tryd.sizeOf123
  v127 := Tryd.zeroValue123
  t164 := Tryd.underlying134
  a164 := Tryd.isAgg134
  z164 := Tryd.sizeOf134
  v164 := Tryd.zeroValue134 }
theorem Tryd.Builder_Extra_156 : Builder.Extra Tryd.prog Tryd.lays156_ren := {
  sizeBuilder := by kernel_rfl
  liesBuilder := by kernel_rfl
  t5 := Tryd.underlying5
  a5 := Tryd.isAgg5
  z5 := Tryd.sizeOf5
  v5 := Tryd.zeroValue5
  infoByte := by kernel_rfl
  cellsByte := by kernel_rfl
  sizeByte := by kernel_rfl
  neB5 := by decide }
open Go.RowKit in
/-- strings.Join: "Join concatenates the elements of its first argument to create a single string. The separator string sep is placed between elements in the resulting string.": HOWEVER MANY ELEMENTS. Below the heap's end the world is as it was. (LAID: no walk: one application.) -/
theorem Tryd.strings_Join (bk o c : Nat) (xs : List ByteArray) (sep : ByteArray) (w : World) (hcells : ∀ (j : Nat) x, xs[j]? = some x → w.cell? ⟨bk, o + j, none⟩ = some (.string x)) (hbk : bk < w.heap.size) (hN : xs.length ≤ 140737488355328) (hcap : xs.length ≤ c) (hlen : (Lib.join (xs.map (·.data.toList)) sep.data.toList).length ≤ 140737488355328) :
    Calls Tryd.prog 58 #[.slice (some ⟨bk, o, none⟩) xs.length c, .string sep] w fun e w' => e = .returned (.string ⟨(Lib.join (xs.map (·.data.toList)) sep.data.toList).toArray⟩) ∧ Below w.heap.size w w' := Any.strings_Join Tryd.lays156 Tryd.Builder_Extra_156 bk o c xs sep w hcells hbk hN hcap hlen
def Tryd.lays160_ren : Go.Shelf.Ren := ⟨fun | 160 => 64 | 232 => 88 | 231 => 87 | 227 => 89 | 234 => 91 | 233 => 90 | 236 => 93 | 235 => 92 | 228 => 107 | 271 => 110 | 151 => 109 | 197 => 108 | 120 => 121 | 152 => 120 | 260 => 119 | 137 => 124 | 119 => 125 | 224 => 126 | 225 => 127 | 217 => 128 | 266 => 129 | n => n, fun | 9 => 9 | 4 => 4 | 3 => 3 | 5 => 5 | 117 => 107 | 116 => 106 | 0 => 0 | 124 => 110 | 21 => 21 | 105 => 125 | 46 => 66 | 119 => 138 | 139 => 141 | 138 => 140 | n => n, fun | 3 => 2 | 4 => 3 | n => n⟩
theorem Tryd.lays160 : Go.Proofs.Lays.n160 Tryd.prog Tryd.lays160_ren := {
  mixed := by kernel_rfl
  f119 := Tryd.func125.trans (congrArg some (by kernel_rfl))
  f120 := Tryd.func121.trans (congrArg some (by kernel_rfl))
  f137 := Tryd.func124.trans (congrArg some (by kernel_rfl))
  f151 := Tryd.func109.trans (congrArg some (by kernel_rfl))
  f152 := Tryd.func120.trans (congrArg some (by kernel_rfl))
  f160 := Tryd.func64.trans (congrArg some (by kernel_rfl))
  f197 := Tryd.func108.trans (congrArg some (by kernel_rfl))
  f217 := Tryd.func128.trans (congrArg some (by kernel_rfl))
  f224 := Tryd.func126.trans (congrArg some (by kernel_rfl))
  f225 := Tryd.func127.trans (congrArg some (by kernel_rfl))
  f227 := Tryd.func89.trans (congrArg some (by kernel_rfl))
  f228 := Tryd.func107.trans (congrArg some (by kernel_rfl))
  f231 := Tryd.func87.trans (congrArg some (by kernel_rfl))
  f232 := Tryd.func88.trans (congrArg some (by kernel_rfl))
  f233 := Tryd.func90.trans (congrArg some (by kernel_rfl))
  f234 := Tryd.func91.trans (congrArg some (by kernel_rfl))
  f235 := Tryd.func92.trans (congrArg some (by kernel_rfl))
  f236 := Tryd.func93.trans (congrArg some (by kernel_rfl))
  f260 := Tryd.func119.trans (congrArg some (by kernel_rfl))
  f266 := Tryd.func129.trans (congrArg some (by kernel_rfl))
  f271 := Tryd.func110.trans (congrArg some (by kernel_rfl))
  t0 := Tryd.underlying0
  a0 := Tryd.isAgg0
  z0 := Tryd.sizeOf0
  v0 := Tryd.zeroValue0
  t3 := Tryd.underlying3
  a3 := Tryd.isAgg3
  z3 := Tryd.sizeOf3
  v3 := Tryd.zeroValue3
  t4 := Tryd.underlying4
  a4 := Tryd.isAgg4
  z4 := Tryd.sizeOf4
  v4 := Tryd.zeroValue4
  t5 := Tryd.underlying5
  a5 := Tryd.isAgg5
  z5 := Tryd.sizeOf5
  v5 := Tryd.zeroValue5
  t9 := Tryd.underlying9
  a9 := Tryd.isAgg9
  z9 := Tryd.sizeOf9
  v9 := Tryd.zeroValue9
  t21 := Tryd.underlying21
  a21 := Tryd.isAgg21
  z21 := Tryd.sizeOf21
  v21 := Tryd.zeroValue21
  t46 := Tryd.underlying66
  a46 := Tryd.isAgg66
  z46 := Tryd.sizeOf66
  v46 := Tryd.zeroValue66
  t105 := Tryd.underlying125
  a105 := Tryd.isAgg125
  z105 := Tryd.sizeOf125
  v105 := Tryd.zeroValue125
  t116 := Tryd.underlying106
  a116 := Tryd.isAgg106
  z116 := Tryd.sizeOf106
  t117 := Tryd.underlying107
  a117 := Tryd.isAgg107
  z117 := Tryd.sizeOf107
  v117 := Tryd.zeroValue107
  t119 := Tryd.underlying138
  a119 := Tryd.isAgg138
  z119 := Tryd.sizeOf138
  t124 := Tryd.underlying110
  a124 := Tryd.isAgg110
  z124 := Tryd.sizeOf110
  v124 := Tryd.zeroValue110
  t138 := Tryd.underlying140
  a138 := Tryd.isAgg140
  z138 := Tryd.sizeOf140
  v138 := Tryd.zeroValue140
  t139 := Tryd.underlying141
  a139 := Tryd.isAgg141
  z139 := Tryd.sizeOf141
  v139 := Tryd.zeroValue141
  g3 := by kernel_rfl
  g4 := by kernel_rfl }
def Tryd.lays283_ren : Go.Shelf.Ren := ⟨fun | 283 => 99 | n => n, fun | 3 => 3 | 9 => 9 | 4 => 4 | n => n, fun | n => n⟩
theorem Tryd.lays283 : Go.Proofs.Lays.n283 Tryd.prog Tryd.lays283_ren := {
  mixed := by kernel_rfl
  f283 := Tryd.func99.trans (congrArg some (by kernel_rfl))
  t3 := Tryd.underlying3
  a3 := Tryd.isAgg3
  z3 := Tryd.sizeOf3
  v3 := Tryd.zeroValue3
  t4 := Tryd.underlying4
  a4 := Tryd.isAgg4
  z4 := Tryd.sizeOf4
  v4 := Tryd.zeroValue4
  t9 := Tryd.underlying9
  a9 := Tryd.isAgg9
  z9 := Tryd.sizeOf9
  v9 := Tryd.zeroValue9 }
open Go.Lib in
/-- internal/strconv.small: "small returns the string for an i with 0 <= i < nSmalls.": i's decimal numeral. The world is as it was. (LAID: no walk: one application.) -/
theorem Tryd.internal_strconv_small (i : Nat) (h : i < 100) (w : World) :
    Calls Tryd.prog 99 #[.int .i64 i] w fun e w' => e = .returned (.string ⟨(Lib.decDigits i).toArray⟩) ∧ w' = w := Any.internal_strconv_small Tryd.lays283 i h w
def Tryd.laysM284_ren : Go.Shelf.Ren := ⟨fun | 284 => 100 | 129 => 113 | 317 => 112 | 318 => 114 | n => n, fun | 53 => 64 | 3 => 3 | 212 => 131 | 0 => 0 | 4 => 4 | 46 => 66 | 5 => 5 | 9 => 9 | n => n, fun | 17 => 0 | n => n⟩
theorem Tryd.laysM284 : Go.Proofs.LaysM.n284 Tryd.prog Tryd.laysM284_ren := {
  mixed := by kernel_rfl
  f129 := Tryd.func113.trans (congrArg some (by kernel_rfl))
  f284 := Tryd.func100.trans (congrArg some (by kernel_rfl))
  f317 := Tryd.func112.trans (congrArg some (by kernel_rfl))
  f318 := Tryd.func114.trans (congrArg some (by kernel_rfl))
  t0 := Tryd.underlying0
  a0 := Tryd.isAgg0
  z0 := Tryd.sizeOf0
  v0 := Tryd.zeroValue0
  t3 := Tryd.underlying3
  a3 := Tryd.isAgg3
  z3 := Tryd.sizeOf3
  v3 := Tryd.zeroValue3
  t4 := Tryd.underlying4
  a4 := Tryd.isAgg4
  z4 := Tryd.sizeOf4
  v4 := Tryd.zeroValue4
  t5 := Tryd.underlying5
  a5 := Tryd.isAgg5
  z5 := Tryd.sizeOf5
  v5 := Tryd.zeroValue5
  t9 := Tryd.underlying9
  a9 := Tryd.isAgg9
  z9 := Tryd.sizeOf9
  v9 := Tryd.zeroValue9
  t46 := Tryd.underlying66
  a46 := Tryd.isAgg66
  z46 := Tryd.sizeOf66
  v46 := Tryd.zeroValue66
  t53 := Tryd.underlying64
  a53 := Tryd.isAgg64
  z53 := Tryd.sizeOf64
  v53 := Tryd.zeroValue64
  t212 := Tryd.underlying131
  a212 := Tryd.isAgg131
  z212 := Tryd.sizeOf131
  v212 := Tryd.zeroValue131
  g17 := by kernel_rfl
  i0 := by kernel_rfl
  i3 := by kernel_rfl
  i4 := by kernel_rfl
  i5 := by kernel_rfl
  i9 := by kernel_rfl
  i46 := by kernel_rfl
  i53 := by kernel_rfl
  i212 := by kernel_rfl
  m17 := by kernel_rfl }
open Go.Lib in
/-- internal/strconv.numDigits, at a d that is not 0: THE NUMBER OF d's DECIMAL DIGITS. The world is as it was. (LAID: no walk: one application.) -/
theorem Tryd.internal_strconv_numDigits (u : Nat) (h1 : 1 ≤ u) (h2 : u < 18446744073709551616) (w : World) (htab : Lib.TabIs Tryd.prog w "internal/strconv.uint64pow10" .u64 Lib.pow10Tab) :
    Calls Tryd.prog 100 #[.int .u64 u] w fun e w' => e = .returned (.int .i64 (Lib.nDigits u)) ∧ w' = w := Any.internal_strconv_numDigits Tryd.laysM284 u h1 h2 w htab
def Tryd.lays285_ren : Go.Shelf.Ren := ⟨fun | 285 => 101 | n => n, fun | 37 => 32 | 53 => 64 | 3 => 3 | 4 => 4 | 51 => 63 | 9 => 9 | 5 => 5 | 0 => 0 | n => n, fun | n => n⟩
theorem Tryd.lays285 : Go.Proofs.Lays.n285 Tryd.prog Tryd.lays285_ren := {
  mixed := by kernel_rfl
  f285 := Tryd.func101.trans (congrArg some (by kernel_rfl))
  t0 := Tryd.underlying0
  a0 := Tryd.isAgg0
  z0 := Tryd.sizeOf0
  v0 := Tryd.zeroValue0
  t3 := Tryd.underlying3
  a3 := Tryd.isAgg3
  z3 := Tryd.sizeOf3
  v3 := Tryd.zeroValue3
  t4 := Tryd.underlying4
  a4 := Tryd.isAgg4
  z4 := Tryd.sizeOf4
  v4 := Tryd.zeroValue4
  t5 := Tryd.underlying5
  a5 := Tryd.isAgg5
  z5 := Tryd.sizeOf5
  v5 := Tryd.zeroValue5
  t9 := Tryd.underlying9
  a9 := Tryd.isAgg9
  z9 := Tryd.sizeOf9
  v9 := Tryd.zeroValue9
  t37 := Tryd.underlying32
  a37 := Tryd.isAgg32
  z37 := Tryd.sizeOf32
  v37 := Tryd.zeroValue32
  t51 := Tryd.underlying63
  a51 := Tryd.isAgg63
  z51 := Tryd.sizeOf63
  v51 := Tryd.zeroValue63
  t53 := Tryd.underlying64
  a53 := Tryd.isAgg64
  z53 := Tryd.sizeOf64
  v53 := Tryd.zeroValue64 }
open Go.RowKit Go.Sort Go.Lib in
/-- internal/strconv.formatBase10: "formatBase10 formats the decimal representation of u into a. The caller is responsible for ensuring that a is big enough to hold u. If a is too big, leading zeros will be filled in as needed.": THE ROW HOLDS u's DIGITS ('FmtInv .. 0 ..': every place t holds 'dg u (len - 1 - t)'); all else is as it was but for the count of draws. (LAID: no walk: one application.) -/
theorem Tryd.internal_strconv_formatBase10 (blk off cap : Nat) (u : Nat) (d : Array UInt8) (w : World) (hH : Holds (fun (b : UInt8) => Value.int .u8 (b.toNat : Int)) w blk off d) (hu : u < 10 ^ d.size) (hu64 : u < 18446744073709551616) (hsz : d.size < 4611686018427387904) :
    Calls Tryd.prog 101 #[.slice (some ⟨blk, off, none⟩) d.size cap, .int .u64 u] w fun e w' =>
      e = .returned (.tuple #[]) ∧ ∃ (n v' : Nat) (dk : Array UInt8), w' = (putRow (fun (b : UInt8) => Value.int .u8 (b.toNat : Int)) w blk off dk).drewN n ∧ FmtInv d.size u 0 v' dk := Any.internal_strconv_formatBase10 Tryd.lays285 blk off cap u d w hH hu hu64 hsz
def Tryd.lays99_ren : Go.Shelf.Ren := ⟨fun | 99 => 63 | 206 => 86 | n => n, fun | 9 => 9 | 4 => 4 | 3 => 3 | n => n, fun | n => n⟩
theorem Tryd.lays99 : Go.Proofs.Lays.n99 Tryd.prog Tryd.lays99_ren := {
  mixed := by kernel_rfl
  f99 := Tryd.func63.trans (congrArg some (by kernel_rfl))
  f206 := Tryd.func86.trans (congrArg some (by kernel_rfl))
  t3 := Tryd.underlying3
  a3 := Tryd.isAgg3
  z3 := Tryd.sizeOf3
  v3 := Tryd.zeroValue3
  t4 := Tryd.underlying4
  a4 := Tryd.isAgg4
  z4 := Tryd.sizeOf4
  v4 := Tryd.zeroValue4
  t9 := Tryd.underlying9
  a9 := Tryd.isAgg9
  z9 := Tryd.sizeOf9
  v9 := Tryd.zeroValue9 }
open Go.RowKit Go.Lib in
/-- strings.HasPrefix: "HasPrefix reports whether the string s begins with prefix.": IT RETURNS 'Lib.hasPrefix s prefix'; the world is as it was. (LAID: no walk: one application.) -/
theorem Tryd.strings_HasPrefix (s p : ByteArray) (w : World) :
    Calls Tryd.prog 63 #[.string s, .string p] w fun e w' => e = .returned (.bool (Lib.hasPrefix s.data.toList p.data.toList)) ∧ w' = w := Any.strings_HasPrefix Tryd.lays99 s p w
def Tryd.lays105_ren : Go.Shelf.Ren := ⟨fun | 105 => 56 | 212 => 80 | 99 => 63 | 165 => 81 | 166 => 82 | 170 => 83 | 169 => 84 | 263 => 103 | 264 => 104 | 206 => 86 | 240 => 105 | 241 => 106 | 276 => 117 | 277 => 118 | n => n, fun | 9 => 9 | 3 => 3 | 4 => 4 | 20 => 20 | 0 => 0 | 46 => 66 | 109 => 91 | 5 => 5 | 72 => 95 | 76 => 99 | 51 => 63 | 146 => 119 | 53 => 64 | 148 => 121 | 70 => 93 | 37 => 32 | 75 => 98 | 127 => 123 | 164 => 134 | 80 => 102 | n => n, fun | n => n⟩
theorem Tryd.lays105 : Go.Proofs.Lays.n105 Tryd.prog Tryd.lays105_ren := {
  mixed := by kernel_rfl
  f99 := Tryd.func63.trans (congrArg some (by kernel_rfl))
  f105 := Tryd.func56.trans (congrArg some (by kernel_rfl))
  f165 := Tryd.func81.trans (congrArg some (by kernel_rfl))
  f166 := Tryd.func82.trans (congrArg some (by kernel_rfl))
  f169 := Tryd.func84.trans (congrArg some (by kernel_rfl))
  f170 := Tryd.func83.trans (congrArg some (by kernel_rfl))
  f206 := Tryd.func86.trans (congrArg some (by kernel_rfl))
  f212 := Tryd.func80.trans (congrArg some (by kernel_rfl))
  f240 := Tryd.func105.trans (congrArg some (by kernel_rfl))
  f241 := Tryd.func106.trans (congrArg some (by kernel_rfl))
  f263 := Tryd.func103.trans (congrArg some (by kernel_rfl))
  f264 := Tryd.func104.trans (congrArg some (by kernel_rfl))
  f276 := Tryd.func117.trans (congrArg some (by kernel_rfl))
  f277 := Tryd.func118.trans (congrArg some (by kernel_rfl))
  t0 := Tryd.underlying0
  a0 := Tryd.isAgg0
  z0 := Tryd.sizeOf0
  v0 := Tryd.zeroValue0
  t3 := Tryd.underlying3
  a3 := Tryd.isAgg3
  z3 := Tryd.sizeOf3
  v3 := Tryd.zeroValue3
  t4 := Tryd.underlying4
  a4 := Tryd.isAgg4
  z4 := Tryd.sizeOf4
  v4 := Tryd.zeroValue4
  t5 := Tryd.underlying5
  a5 := Tryd.isAgg5
  z5 := Tryd.sizeOf5
  v5 := Tryd.zeroValue5
  t9 := Tryd.underlying9
  a9 := Tryd.isAgg9
  z9 := Tryd.sizeOf9
  v9 := Tryd.zeroValue9
  t20 := Tryd.underlying20
  a20 := Tryd.isAgg20
  z20 := Tryd.sizeOf20
  v20 := Tryd.zeroValue20
  t37 := Tryd.underlying32
  a37 := Tryd.isAgg32
  z37 := Tryd.sizeOf32
  v37 := Tryd.zeroValue32
  t46 := Tryd.underlying66
  a46 := Tryd.isAgg66
  z46 := Tryd.sizeOf66
  v46 := Tryd.zeroValue66
  t51 := Tryd.underlying63
  a51 := Tryd.isAgg63
  z51 := Tryd.sizeOf63
  v51 := Tryd.zeroValue63
  t53 := Tryd.underlying64
  a53 := Tryd.isAgg64
  z53 := Tryd.sizeOf64
  v53 := Tryd.zeroValue64
  t70 := Tryd.underlying93
  a70 := Tryd.isAgg93
  z70 := Tryd.sizeOf93
  v70 := Tryd.zeroValue93
  t72 := Tryd.underlying95
  a72 := Tryd.isAgg95
  z72 := Tryd.sizeOf95
  v72 := Tryd.zeroValue95
  t75 := Tryd.underlying98
  a75 := Tryd.isAgg98
  z75 := Tryd.sizeOf98
  v75 := Tryd.zeroValue98
  t76 := Tryd.underlying99
  a76 := Tryd.isAgg99
  z76 := Tryd.sizeOf99
  v76 := Tryd.zeroValue99
  t109 := Tryd.underlying91
  a109 := Tryd.isAgg91
  z109 := Tryd.sizeOf91
  v109 := Tryd.zeroValue91
  t127 := Tryd.underlying123
  a127 := Tryd.isAgg123
  z127 := Tryd.sizeOf123
  v127 := Tryd.zeroValue123
  t146 := Tryd.underlying119
  a146 := Tryd.isAgg119
  z146 := Tryd.sizeOf119
  v146 := Tryd.zeroValue119
  t148 := Tryd.underlying121
  a148 := Tryd.isAgg121
  z148 := Tryd.sizeOf121
  v148 := Tryd.zeroValue121
  t164 := Tryd.underlying134
  a164 := Tryd.isAgg134
  z164 := Tryd.sizeOf134
  v164 := Tryd.zeroValue134 }
theorem Tryd.Builder_Extra_105 : Builder.Extra Tryd.prog Tryd.lays105_ren := {
  sizeBuilder := by kernel_rfl
  liesBuilder := by kernel_rfl
  t5 := Tryd.underlying5
  a5 := Tryd.isAgg5
  z5 := Tryd.sizeOf5
  v5 := Tryd.zeroValue5
  infoByte := by kernel_rfl
  cellsByte := by kernel_rfl
  sizeByte := by kernel_rfl
  neB5 := by decide }
open Go.RowKit Go.Lib in
/-- **strings.Repeat: count ≥ 0, the result within one allocation: count copies of s.** (LAID: no walk: one application.) -/
theorem Tryd.strings_Repeat (s : ByteArray) (c : Nat) (w : World) (hc : c ≤ 9223372036854775807) (hlen : s.size * c ≤ 140737488355328) :
    Calls Tryd.prog 56 #[.string s, .int .i64 c] w fun e w' => e = .returned (.string ⟨(Lib.repeatL s.data.toList c).toArray⟩) ∧ Below w.heap.size w w' := Any.strings_Repeat Tryd.lays105 Tryd.Builder_Extra_105 s c w hc hlen
def Tryd.laysNm217_ren : Go.Shelf.Ren := ⟨fun | 17 => 57 | n => n, fun | 24 => 69 | 9 => 9 | 3 => 3 | 4 => 4 | 0 => 0 | n => n, fun | n => n⟩
theorem Tryd.laysNm217 : Go.Proofs.Lays2.n17 Tryd.prog Tryd.laysNm217_ren := {
  mixed := by kernel_rfl
  f17 := Tryd.func57.trans (congrArg some (by kernel_rfl))
  t0 := Tryd.underlying0
  a0 := Tryd.isAgg0
  z0 := Tryd.sizeOf0
  v0 := Tryd.zeroValue0
  t3 := Tryd.underlying3
  a3 := Tryd.isAgg3
  z3 := Tryd.sizeOf3
  v3 := Tryd.zeroValue3
  t4 := Tryd.underlying4
  a4 := Tryd.isAgg4
  z4 := Tryd.sizeOf4
  v4 := Tryd.zeroValue4
  t9 := Tryd.underlying9
  a9 := Tryd.isAgg9
  z9 := Tryd.sizeOf9
  v9 := Tryd.zeroValue9
  t24 := Tryd.underlying69
  a24 := Tryd.isAgg69
  z24 := Tryd.sizeOf69
  v24 := Tryd.zeroValue69 }
open Go.RowKit Go.Lib Go.Sort in
/-- slices.Reverse at []string: "Reverse reverses the elements of the slice in place.": THE SLICE's CELLS HOLD 'zs.reverse' BEHIND THE CALL; all else is as it was, but for the count of draws (the exchange 's[i], s[j] = s[j], s[i]' draws its order, once a round). IN THE WORDS OF slices.Sort's CONTRACT: 'Holds': the cells hold zs and none is frozen; 'putRow': the world with those cells holding another array. A slice of length 0 that is not nil is among them ('zs = []'); nil: '.._nil'. (LAID: no walk: one application.) -/
theorem Tryd.slices_Reverse_string (blk off cap : Nat) (zs : List (List UInt8)) (w : World) (hH : Holds encStr w blk off zs.toArray) (hsz : zs.length ≤ 9223372036854775807) :
    Calls Tryd.prog 57 #[.slice (some ⟨blk, off, none⟩) zs.length cap] w fun e w' => e = .returned (.tuple #[]) ∧ ∃ n, w' = putRow encStr (Sort.ahead w n) blk off zs.reverse.toArray := Any.slices_Reverse_string Tryd.laysNm217 blk off cap zs w hH hsz
end Go.Proofs
namespace Go.Proofs.YthhpnlbeniihhaaDoor.NumV
open Go.Shelf Go.RowKit Go.Sort Go.Lib
set_option linter.unusedVariables false
set_option linter.unusedSimpArgs false
/-- The table of powers of ten lies in memory. -/
def Tab (w : World) : Prop := Lib.TabIs Tryd.prog w "internal/strconv.uint64pow10" .u64 Lib.pow10Tab
set_option maxHeartbeats 6400000 in
set_option maxRecDepth 100000 in
theorem format_inner (u : Nat) (hu64 : u < 18446744073709551616) (w : World) (htab : Tab w) :
    Calls Tryd.prog 79 #[.int .u64 u, .int .i64 10] w fun e w' => e = .returned (.string ⟨(Lib.decDigits u).toArray⟩) ∧ ∃ k os, w' = grow (w.drewN k) os := by
  by_cases hs : u < 100
  · have t0 : decide (u < 100) = true := decide_eq_true hs
    have t1 : decide ((u : Int) < 100) = true := decide_eq_true (by omega)
    have w0 : IntKind.i64.wrap (u : Int) = (u : Int) := by rw [IntKind.wrap_i64]; omega
    go_enter Tryd.func79, Tryd.ntmps79
    go_wp2_with (first | (go_at_call 99; refine (Tryd.internal_strconv_small u hs _).mono ?_; rintro e w' ⟨rfl, rfl⟩))
    go_ret
    exact ⟨rfl, 0, #[], by simp [World.drewN_zero]⟩
  · have hu1 : 1 ≤ u := by omega
    have hnd20 : Lib.nDigits u ≤ 20 := by have := Lib.numDigits_eq u hu1 hu64; split at this <;> omega
    have hb3 : Lib.nDigits u ≤ 23 := by omega
    have t0 : decide (u < 100) = false := decide_eq_false hs
    have t1 : decide ((u : Int) < 100) = false := decide_eq_false (by omega)
    have hal : Tryd.prog.arrayLen 114 = 24 := by kernel_rfl
    have hsl1 : ∀ W, (Instr.sliceAt 114 (.pointer (some ⟨w.heap.size, 0, none⟩)) none (some (.int .i64 (Lib.nDigits u : Int))) none).run Tryd.prog W = .ok (.slice (some ⟨w.heap.size, 0, none⟩) (Lib.nDigits u) 24) W := fun W => by
      rw [run_sliceAt_array_h W 114 ⟨w.heap.size, 0, none⟩ (by simp [Program.arrayLen, Program.elem, Tryd.underlying114]) .i64 (Lib.nDigits u : Int) (by omega) (by rw [hal]; omega)]
      go_simp
    have hH0 := Lib.holds_zero0 w 114 (Lib.nDigits u) (by omega)
    have hfmt := Tryd.internal_strconv_formatBase10 w.heap.size 0 24 u (Array.replicate (Lib.nDigits u) 0) (w.alloc (.cells Lib.zeros24 114)) hH0 (by rw [Array.size_replicate]; exact Lib.lt_pow_nDigits u) hu64 (by rw [Array.size_replicate]; omega)
    rw [Array.size_replicate] at hfmt
    have HH0 := Lib.hid hH0
    clear hH0 hal
    go_enter Tryd.func79, Tryd.ntmps79
    go_wp2_with (first | (go_at_call 100; refine (Tryd.internal_strconv_numDigits u hu1 hu64 _ (Lib.tabIs_alloc htab _)).mono ?_; rintro e w' ⟨rfl, rfl⟩))
    refine hfmt.mono ?_
    rintro e w' ⟨rfl, k, v', dk, rfl, hF⟩
    have hcv : (convert 32 9 (.slice (some ⟨w.heap.size, 0, none⟩) (Lib.nDigits u) 24)).run Tryd.prog ((putRow (fun (b : UInt8) => Value.int .u8 (b.toNat : Int)) (w.alloc (.cells Lib.zeros24 114)) w.heap.size 0 dk).drewN k) = .ok (.string ⟨(Lib.decDigits u).toArray⟩) ((putRow (fun (b : UInt8) => Value.int .u8 (b.toNat : Int)) (w.alloc (.cells Lib.zeros24 114)) w.heap.size 0 dk).drewN k) := by
      have h := run_convert_bytes_back (P := Tryd.prog) ((putRow (fun (b : UInt8) => Value.int .u8 (b.toNat : Int)) (w.alloc (.cells Lib.zeros24 114)) w.heap.size 0 dk).drewN k) 32 9 5 ⟨w.heap.size, 0, none⟩ 24 (Lib.decDigits u) Tryd.underlying32 Tryd.underlying5 Tryd.underlying9 (fun j hj => by
        rw [Lib.row_is_numeral hF j hj, Lib.add_plain, World.cell?_drewN]
        exact cell?_putRow (fun (b : UInt8) => Value.int .u8 (b.toNat : Int)) _ w.heap.size 0 _ dk HH0.out (by rw [hF.size, Array.size_replicate]) j (by rw [hF.size]; rw [Lib.decDigits_length] at hj; exact hj))
      rw [Lib.decDigits_length] at h
      exact h
    go_wp2
    go_ret
    obtain ⟨os, eo⟩ := Lib.fin_at w (.cells Lib.zeros24 114) dk k 0
    exact ⟨rfl, k, os, eo⟩
set_option maxRecDepth 100000 in
theorem format_calls (u : Nat) (hu64 : u < 18446744073709551616) (w : World) (htab : Tab w) :
    Calls Tryd.prog 55 #[.int .u64 u, .int .i64 10] w fun e w' => e = .returned (.string ⟨(Lib.decDigits u).toArray⟩) ∧ Below w.heap.size w w' := by
  go_enter Tryd.func55, Tryd.ntmps55
  go_wp2_with fail
  refine (format_inner u hu64 _ htab).mono ?_
  rintro e w' ⟨rfl, k, os, rfl⟩
  go_wp2
  go_ret
  exact ⟨rfl, Lib.below_grow _ _ (Nat.le_refl _) _ _⟩
theorem Tab.below {w w1 : World} (h : Tab w) (hb : Below w.heap.size w w1) : Tab w1 := by
  unfold Tab Lib.TabIs World.var? at *
  cases hg : Tryd.prog.globalNamed "internal/strconv.uint64pow10" with
  | none => simp [hg] at h
  | some g =>
    simp only [hg, Option.bind_some] at h ⊢
    have hlt : g < w.heap.size := by
      rcases Nat.lt_or_ge g w.heap.size with h' | h'
      · exact h'
      · rw [Array.getElem?_eq_none h'] at h; simp at h
    rw [hb.block g hlt]
    exact h
theorem strs : Go.Proofs.YthhpnlbeniihhaaDoor.NumU.Strs := by
  refine ⟨fun s p w => Tryd.strings_HasPrefix s p w, fun s w hs => ?_⟩
  exact Any.strings_Trim_ascii Tryd.lays160 (fun w => by kernel_rfl) (by kernel_rfl) s ⟨#[48, 49, 50, 51, 52, 53, 54, 55, 56, 57]⟩ w hs (by decide) (by
    intro j b h
    have h2 : b ∈ ([48, 49, 50, 51, 52, 53, 54, 55, 56, 57] : List UInt8) := List.mem_of_getElem? h
    simp only [List.mem_cons, List.mem_nil_iff, or_false] at h2
    rcases h2 with rfl | rfl | rfl | rfl | rfl | rfl | rfl | rfl | rfl | rfl <;> decide)
end Go.Proofs.YthhpnlbeniihhaaDoor.NumV
namespace Go.Proofs.YthhpnlbeniihhaaDoor.Text
open Go.Proofs.YthhpnlbeniihhaaDoor.Limb Go.Proofs.YthhpnlbeniihhaaDoor.NumA Go.Proofs.YthhpnlbeniihhaaDoor.NumE Go.Proofs.YthhpnlbeniihhaaDoor.NumG Go.Lib
set_option linter.unusedVariables false
set_option linter.unusedSimpArgs false
/-- The last k decimal digits. -/
def pad : Nat → Nat → List UInt8
  | 0, _ => []
  | k + 1, r => pad k (r / 10) ++ [UInt8.ofNat (48 + r % 10)]
theorem dec_small {u : Nat} (h : u < 10) : decDigits u = [UInt8.ofNat (48 + u)] := by rw [decDigits, dif_pos h]
theorem dec_big {u : Nat} (h : ¬ u < 10) : decDigits u = decDigits (u / 10) ++ [UInt8.ofNat (48 + u % 10)] := by rw [decDigits, dif_neg h]
theorem dec_split (k q r : Nat) (hq : 0 < q) (hr : r < 10 ^ k) : decDigits (10 ^ k * q + r) = decDigits q ++ pad k r := by
  induction k generalizing r with
  | zero =>
    have : r = 0 := by simpa using hr
    subst this
    simp [pad]
  | succ k ih =>
    have hp : 0 < 10 ^ k := Nat.pow_pos (by decide)
    have e : 10 ^ (k + 1) * q = 10 * (10 ^ k * q) := by rw [Nat.pow_succ, Nat.mul_comm (10 ^ k) 10, Nat.mul_assoc]
    have h1 : 1 ≤ 10 ^ k * q := Nat.mul_pos hp hq
    have hr2 : r / 10 < 10 ^ k := by rw [Nat.pow_succ] at hr; omega
    have h2 := ih (r / 10) hr2
    rw [e]
    generalize 10 ^ k * q = z at *
    rw [dec_big (by omega), show (10 * z + r) / 10 = z + r / 10 by omega, h2, show (10 * z + r) % 10 = r % 10 by omega, pad, List.append_assoc]
theorem pad_dec (k r : Nat) (hr : r < 10 ^ (k + 1)) : (decDigits r).length ≤ k + 1 ∧ pad (k + 1) r = List.replicate (k + 1 - (decDigits r).length) 48 ++ decDigits r := by
  induction k generalizing r with
  | zero =>
    have h : r < 10 := by simpa using hr
    rw [dec_small h]
    refine ⟨by simp, ?_⟩
    simp [pad, Nat.mod_eq_of_lt h]
  | succ k ih =>
    by_cases h : r < 10
    · rw [dec_small h]
      refine ⟨by simp, ?_⟩
      obtain ⟨h1, h2⟩ := ih (r / 10) (by rw [Nat.pow_succ] at hr; omega)
      have e0 : r / 10 = 0 := by omega
      rw [e0] at h2
      rw [pad, e0, h2, dec_small (by decide), Nat.mod_eq_of_lt h]
      simp only [List.length_singleton]
      rw [show k + 1 + 1 - 1 = (k + 1 - 1) + 1 by omega, List.replicate_succ']
      rfl
    · obtain ⟨h1, h2⟩ := ih (r / 10) (by rw [Nat.pow_succ] at hr; omega)
      rw [dec_big h, pad, h2]
      refine ⟨by simp; omega, ?_⟩
      rw [List.length_append, List.length_singleton, List.append_assoc]
      congr 2
      omega
/-- What is left of the parts, the lowest first: their bytes, the highest first. -/
def cat (ps : List (List UInt8)) : List UInt8 := ps.reverse.flatten
theorem cat_snoc (ps : List (List UInt8)) (p : List UInt8) : cat (ps ++ [p]) = p ++ cat ps := by
  unfold cat
  rw [List.reverse_append]
  simp
/-- The state of a text's making: v still to be told, the parts told, of a number n. -/
def TextSt (n v : Nat) (ps : List (List UInt8)) : Prop :=
  (∀ p ∈ ps, p.length ≤ 9) ∧ v * 2 ^ (29 * ps.length) ≤ n ∧ if v = 0 then (ps = [] ∧ n = 0) ∨ (ps ≠ [] ∧ 0 < n ∧ cat ps = decDigits n) else decDigits n = decDigits v ++ cat ps
theorem told_start (n : Nat) : TextSt n n [] := by
  refine ⟨by simp, by simp, ?_⟩
  by_cases h : n = 0
  · rw [if_pos h]; exact .inl ⟨rfl, h⟩
  · rw [if_neg h]; simp [cat]
theorem told_step {n v : Nat} {ps : List (List UInt8)} (h : TextSt n v ps) (hv : 0 < v) : TextSt n (v / 1000000000) (ps ++ [if 0 < v / 1000000000 then List.replicate (9 - (decDigits (v % 1000000000)).length) 48 ++ decDigits (v % 1000000000) else decDigits (v % 1000000000)]) := by
  obtain ⟨h1, h2, h3⟩ := h
  rw [if_neg (by omega)] at h3
  have hr : v % 1000000000 < 10 ^ (8 + 1) := Nat.mod_lt _ (by decide)
  obtain ⟨p1, p2⟩ := pad_dec 8 _ hr
  have hd := Nat.div_add_mod v 1000000000
  refine ⟨?_, ?_, ?_⟩
  · intro p hp
    rcases List.mem_append.mp hp with hp | hp
    · exact h1 p hp
    · rw [List.mem_singleton] at hp
      subst hp
      split
      · rw [List.length_append, List.length_replicate]; omega
      · exact p1
  · rw [List.length_append, List.length_singleton]
    refine Nat.le_trans ?_ h2
    rw [Nat.mul_add, Nat.pow_add, Nat.mul_comm (2 ^ (29 * ps.length)), ← Nat.mul_assoc]
    apply Nat.mul_le_mul_right
    omega
  · by_cases hq : v / 1000000000 = 0
    · rw [if_pos hq, if_neg (by omega)]
      refine .inr ⟨by simp, Nat.lt_of_lt_of_le (Nat.mul_pos hv (Nat.pow_pos (by decide))) h2, ?_⟩
      rw [cat_snoc, h3]
      rw [hq, Nat.mul_zero, Nat.zero_add] at hd
      rw [hd]
    · rw [if_neg hq, if_pos (by omega), cat_snoc, ← List.append_assoc, h3]
      congr 1
      have hs := dec_split (8 + 1) (v / 1000000000) (v % 1000000000) (by omega) hr
      rw [show (10 : Nat) ^ (8 + 1) = 1000000000 from rfl, hd] at hs
      rw [hs, p2]
theorem told_few {n v L : Nat} {ps : List (List UInt8)} (h : TextSt n v ps) (hv : 0 < v) (hn : n < 4294967296 ^ L) : ps.length ≤ 2 * L := by
  have h2 := h.2.1
  have h3 : 2 ^ (29 * ps.length) ≤ n := Nat.le_trans (Nat.le_mul_of_pos_left _ hv) h2
  have h4 : 2 ^ (29 * ps.length) < 2 ^ (32 * L) := by rw [Nat.pow_mul 2 32 L]; exact Nat.lt_of_le_of_lt h3 hn
  have h5 := (Nat.pow_lt_pow_iff_right (by decide : 1 < 2)).mp h4
  omega
/-- The division from above: from place i on all is divided, r is carried. -/
def DivAt (m0 cur : List Int) (i r : Nat) : Prop := cur.length = m0.length ∧ i ≤ m0.length ∧ r < 1000000000 ∧ OkL cur ∧ cur.take i = m0.take i ∧ mag (m0.drop i) = 1000000000 * mag (cur.drop i) + r
theorem div_start (m0 : List Int) (ok : OkL m0) : DivAt m0 m0 m0.length 0 := ⟨rfl, Nat.le_refl _, by decide, ok, rfl, by simp [mag]⟩
theorem mag_drop (l : List Int) (i : Nat) (h : i < l.length) : mag (l.drop i) = nl l i + 4294967296 * mag (l.drop (i + 1)) := by
  rw [List.drop_eq_getElem_cons h, mag_cons]
  unfold nl
  rw [rd_nat l i h]
theorem nl_take {l m : List Int} (i n : Nat) (h : l.take n = m.take n) (hi : i < n) (hl : i < l.length) (hm : i < m.length) : nl l i = nl m i := by
  unfold nl
  rw [rd_nat l i hl, rd_nat m i hm]
  have e1 : (l.take n)[i]? = (m.take n)[i]? := by rw [h]
  rw [List.getElem?_take_of_lt hi, List.getElem?_take_of_lt hi, List.getElem?_eq_getElem hl, List.getElem?_eq_getElem hm] at e1
  exact congrArg Int.toNat (Option.some.inj e1)
theorem div_step {m0 cur : List Int} (o0 : OkL m0) {i r : Nat} (h : DivAt m0 cur (i + 1) r) :
    DivAt m0 (cur.set i (((r * 4294967296 + nl cur i) / 1000000000 : Nat) : Int)) i ((r * 4294967296 + nl cur i) % 1000000000) := by
  obtain ⟨h1, h2, h3, h4, h5, h6⟩ := h
  have hi : i < m0.length := h2
  have hic : i < cur.length := by omega
  have hx := nl_lt h4 i
  have e := nl_take (l := cur) (m := m0) i (i + 1) h5 (by omega) hic hi
  refine ⟨by rw [List.length_set]; exact h1, by omega, Nat.mod_lt _ (by decide), ok_set h4 _ _ (by omega), ?_, ?_⟩
  · rw [List.take_set_of_le (Nat.le_refl i)]
    have := congrArg (List.take i) h5
    rwa [List.take_take, List.take_take, Nat.min_eq_left (by omega)] at this
  · have hd : (cur.set i (((r * 4294967296 + nl cur i) / 1000000000 : Nat) : Int)).drop i = (((r * 4294967296 + nl cur i) / 1000000000 : Nat) : Int) :: cur.drop (i + 1) := by
      rw [List.drop_eq_getElem_cons (by rw [List.length_set]; exact hic), List.getElem_set_self]
      congr 1
      rw [List.drop_set_of_lt (by omega)]
    rw [hd, mag_cons, Int.toNat_natCast, mag_drop m0 i hi, h6, ← e]
    generalize mag (cur.drop (i + 1)) = Q at *
    generalize nl cur i = x at *
    have := Nat.div_add_mod (r * 4294967296 + x) 1000000000
    omega
theorem div_end {m0 cur : List Int} {r : Nat} (h : DivAt m0 cur 0 r) : mag cur = mag m0 / 1000000000 ∧ r = mag m0 % 1000000000 := by
  obtain ⟨_, _, h3, _, _, h6⟩ := h
  rw [List.drop_zero, List.drop_zero] at h6
  omega
end Go.Proofs.YthhpnlbeniihhaaDoor.Text
namespace Go.Proofs.YthhpnlbeniihhaaDoor.NumW
open Go.RowKit Go.Proofs.YthhpnlbeniihhaaDoorW.PrintWords Go.Proofs.YthhpnlbeniihhaaDoorW.PrintLast Go.Proofs.YthhpnlbeniihhaaDoorW.PrintMore Go.Proofs.YthhpnlbeniihhaaDoor.Limb Go.Proofs.YthhpnlbeniihhaaDoor.NumA Go.Proofs.YthhpnlbeniihhaaDoor.NumB Go.Proofs.YthhpnlbeniihhaaDoor.NumC Go.Proofs.YthhpnlbeniihhaaDoor.NumD Go.Proofs.YthhpnlbeniihhaaDoor.NumE Go.Proofs.YthhpnlbeniihhaaDoor.NumF Go.Proofs.YthhpnlbeniihhaaDoor.NumG Go.Proofs.YthhpnlbeniihhaaDoor.NumH Go.Proofs.YthhpnlbeniihhaaDoor.NumJ Go.Proofs.YthhpnlbeniihhaaDoor.NumO Go.Proofs.YthhpnlbeniihhaaDoor.NumV Go.Proofs.YthhpnlbeniihhaaDoor.Text
set_option linter.unusedVariables false
set_option linter.unusedSimpArgs false
/-- A number's text. -/
def textR (neg : Bool) (v : Nat) : List UInt8 := if v = 0 then [48] else if neg then 45 :: Lib.decDigits v else Lib.decDigits v
/-- A row of texts of the call's own. -/
def Txt (w : World) (base : Nat) (v : Value) (ps : List ByteArray) : Prop := Kd.R Kd.string 9 w base (fun _ => True) v ps
theorem Txt.below {w w1 : World} {base : Nat} {v : Value} {ps : List ByteArray} (h : Txt w base v ps) (hb : Below w.heap.size w w1) : Txt w1 base v ps := Kd.R_below h hb
theorem Txt.set {w : World} {base : Nat} {v : Value} {ps : List ByteArray} (h : Txt w base v ps) {g : Nat} {cells : Array Value} (hb : w.heap[g]? = some (.cells cells 63 (0, 0))) (j : Nat) (u : Value) : Txt (w.setCell ⟨g, j, none⟩ u) base v ps :=
  Kd.R_set h hb (fun q hq => by
    have : q = 9 := by simpa [Kd.string, Kd.scalar] using hq
    subst this
    decide) j u
/-- A row that is not empty, its block. -/
theorem New.ad {w : World} {base : Nat} {A : Option Addr} {c : Nat} {l : List Int} (h : New w base (.slice A l.length c) l) (hn : l ≠ []) : ∃ b cur, A = some ⟨b, 0, none⟩ ∧ base ≤ b ∧ w.heap[b]? = some (.cells cur 63 (0, 0)) ∧ l.length ≤ c ∧ c ≤ maxLen ∧ cur.size = c ∧ cur.toList.take l.length = l.map (Value.int .u32) := by
  obtain ⟨_, h2⟩ := h.own
  rcases h2 with ⟨e, h3⟩ | ⟨g, cap, cur, e, hg, hh, h1, h3, h4, h5⟩
  · simp at h3; exact absurd h3 hn
  · injection e with e1 e2 e3
    subst e1 e3
    exact ⟨g, cur, rfl, hg, hh, h1, h3, by omega, by rw [Nat.mul_one] at h5; exact h5⟩
theorem cur_get {cur : Array Value} {l : List Int} (h : cur.toList.take l.length = l.map (Value.int .u32)) (i : Nat) (hi : i < l.length) : cur[i]? = some (.int .u32 l[i]) := by
  have e : (cur.toList.take l.length)[i]? = (l.map (Value.int .u32))[i]? := by rw [h]
  rw [List.getElem?_take_of_lt hi, List.getElem?_map, List.getElem?_eq_getElem hi, Array.getElem?_toList] at e
  exact e
theorem info_str : (Tryd.prog.info? 9).map (fun i => (i.zero, i.size, i.bytes)) = some (some (.string ⟨#[]⟩), 1, 16) := by kernel_rfl
theorem New.grown {w w1 : World} {base base' : Nat} {v u : Value} {l : List Int} {ps : List ByteArray} (h : New w base v l) (hp : Txt w base' u ps) (hg : w.grownBy w1 u.ownBlock) : New w1 base v l :=
  Kd.R_mono (Kd.R_grown (Kd.R_bound h) hg (fun k hk => by
    obtain ⟨_, _, _, q, hq, cells, hc⟩ := hk
    have : q = 63 := by simpa [Kd.int, Kd.scalar] using hq
    subst this
    exact Kd.R_ne hp hc (by decide))) (fun _ _ => trivial)
theorem repeat_one (n : Nat) : Lib.repeatL [48] n = List.replicate n 48 := by
  induction n with
  | zero => rfl
  | succ n ih => rw [Lib.repeatL, ih]; rfl
theorem Txt.own {w : World} {base : Nat} {v : Value} {ps : List ByteArray} (h : Txt w base v ps) : w.ownsRow base 9 1 v ps.length (ps.map Value.string) := Kd.own_of_R (enc := Value.string) (h1 := fun _ => rfl) h
theorem Txt.of_own {w : World} {base : Nat} {v : Value} {ps : List ByteArray} (h : w.ownsRow base 9 1 v ps.length (ps.map Value.string)) : Txt w base v ps := Kd.R_of_own (enc := Value.string) (h1 := fun _ => rfl) h (fun _ _ => trivial)
/-- Reverse, over a row of the call's own. -/
theorem rev_calls (w : World) (base : Nat) (v : Value) (ps : List ByteArray) (h : Txt w base v ps) (hne : ps ≠ []) :
    Calls Tryd.prog 57 #[v] w fun e w' => e = .returned (.tuple #[]) ∧ Txt w' base v ps.reverse ∧ ∀ w0, Below base w0 w → Below base w0 w' := by
  have ho := h.own
  rw [← Lib.map_encStr] at ho
  have hv : v ≠ .slice none 0 0 := by
    intro e
    obtain ⟨A, c, e2⟩ := Kd.R_slice h
    rw [e2] at e
    injection e with _ e _
    exact hne (List.eq_nil_of_length_eq_zero e)
  obtain ⟨g, cap, rfl, hb, hlt, hn, hm, hl, hH⟩ := Lib.holds_of_ownsRow ho hv
  have hc := Tryd.slices_Reverse_string g 0 cap (ps.map (fun p => p.data.toList)) w hH (by rw [List.length_map]; have : maxLen = 9223372036854775807 := rfl; omega)
  rw [List.length_map] at hc
  refine hc.mono ?_
  rintro e w' ⟨rfl, q, rfl⟩
  refine ⟨rfl, ?_, fun w0 h0 => Lib.below_putRow h0 hb⟩
  have hp := Lib.ownsRow_putRow (q := q) (k := ps.length) (ys := (ps.map (fun p => p.data.toList)).reverse) ho (by simp) (Nat.le_refl _)
  rw [List.take_of_length_le (by simp), ← List.map_reverse, Lib.map_encStr] at hp
  refine Txt.of_own ?_
  rw [List.length_reverse, ← List.map_reverse]
  exact hp
theorem join_flat (xs : List (List UInt8)) : Lib.join xs [] = xs.flatten := by
  cases xs with
  | nil => rfl
  | cons x r =>
    rw [Lib.join_cons]
    unfold Lib.joinTail
    simp
/-- Join, over a row of the call's own. -/
theorem join_calls (w : World) (base : Nat) (v : Value) (ps : List ByteArray) (h : Txt w base v ps) (hne : ps ≠ []) (hlen : ((ps.map (fun p => p.data.toList)).flatten).length ≤ 140737488355328) (hN : ps.length ≤ 140737488355328) :
    Calls Tryd.prog 58 #[v, .string ⟨#[]⟩] w fun e w' => e = .returned (.string ⟨((ps.map (fun p => p.data.toList)).flatten).toArray⟩) ∧ Below w.heap.size w w' := by
  have ho := h.own
  rw [← Lib.map_encStr] at ho
  have hv : v ≠ .slice none 0 0 := by
    intro e
    obtain ⟨A, c, e2⟩ := Kd.R_slice h
    rw [e2] at e
    injection e with _ e _
    exact hne (List.eq_nil_of_length_eq_zero e)
  obtain ⟨g, cap, rfl, hb, hlt, hn, hm, hl, hH⟩ := Lib.holds_of_ownsRow ho hv
  have hj := join_flat (ps.map (fun p => p.data.toList))
  have hc := Tryd.strings_Join g 0 cap ps ⟨#[]⟩ w (by
    intro j x hx
    obtain ⟨hj, rfl⟩ := List.getElem?_eq_some_iff.mp hx
    have h1 := (hH j (by simpa using hj)).1
    rw [h1, getElem!_pos _ j (by simpa using hj)]
    simp [Proofs.encStr]) hlt hN hn (by rw [show (⟨#[]⟩ : ByteArray).data.toList = [] from rfl, hj]; exact hlen)
  refine hc.mono ?_
  rintro e w' ⟨rfl, hb2⟩
  refine ⟨?_, hb2⟩
  rw [show (⟨#[]⟩ : ByteArray).data.toList = [] from rfl, hj]
set_option maxRecDepth 100000 in
set_option maxHeartbeats 8000000 in
theorem text_calls (neg : Bool) (A : Option Addr) (c : Nat) (l : List Int) (w : World) (hl : Num w A c l) (hL : l.length < 1073741824) (ht : Tab w) :
    Calls Tryd.prog 22 #[.agg #[.bool neg, .slice A l.length c]] w fun e w' => e = .returned (.string ⟨(textR neg (mag l)).toArray⟩) ∧ Below w.heap.size w w' := by
  have HL := Aside0.mk hl
  have HLL := Aside0.mk hL
  have HT := Aside0.mk ht
  have b1 := blk_new w (.cells #[.bool neg, .slice A l.length c] 25 (0, 0))
  have HB := Aside0.mk ((Below.refl w.heap.size w).alloc (Nat.le_refl _) (.cells #[.bool neg, .slice A l.length c] 25 (0, 0)))
  clear hl hL ht
  go_enter Tryd.func22, Tryd.ntmps22
  go_wp2_with fail
  refine (trim_calls A c l _ (HL.out.alloc _).lim HL.out.room).mono ?_
  rintro e w' ⟨rfl, ⟨nd, rfl⟩⟩
  go_wp2_with fail
  have hlt := ((HL.out.alloc (.cells #[.bool neg, .slice A l.length c] 25 (0, 0))).drewN nd).tr
  refine (clone_calls A c (tr l) _ hlt.lim hlt.room hlt.few).mono ?_
  clear hlt
  rintro e w1 ⟨v0, rfl, hn0, hb0⟩
  obtain ⟨A0, c0, rfl, hc0, _⟩ := New.lim hn0
  have B1 := Aside0.mk (blk_below (blk_drewN b1 nd) hb0)
  have HB1 := Aside0.mk (below_step (pw_below_drewN HB.out nd) hb0)
  have HN0 := Aside0.mk (New.lower (base' := w.heap.size) hn0 (by simp))
  clear hn0 hc0 hb0 b1 HB
  go_wp2
  go_loopg [3, 4] (mag l) (fun k v3 v4 w' => ∃ (Am : Option Addr) (cm : Nat) (M : List Int) (Ap : Option Addr) (cp : Nat) (ps : List ByteArray), v3 = .slice Am M.length cm ∧ v4 = .slice Ap ps.length cp ∧
    Aside0 (New w' w.heap.size (.slice Am M.length cm) M ∧ OkL M ∧ tr M = M ∧ mag M = k ∧ M.length ≤ l.length) ∧ Aside0 (Txt w' w.heap.size (.slice Ap ps.length cp) ps) ∧ Aside0 (TextSt (mag l) k (ps.map (fun p => p.data.toList)) ∧ ps.length ≤ 2 * l.length + 1) ∧
    Aside0 (w'.heap[w.heap.size]? = some (.cells #[.bool neg, .slice A l.length c] 25 (0, 0))) ∧ Aside0 (Below w.heap.size w w'))
  case atStart => exact ⟨A0, c0, tr l, none, 0, [], rfl, rfl, ⟨HN0.out, ok_tr HL.out.ok, tr_tr l, mag_tr l, tr_len_le l⟩, ⟨Kd.R_nil _ _ _ _ _⟩, ⟨told_start _, by simp⟩, B1, HB1⟩
  case round =>
    clear HN0 B1 HB1
    obtain ⟨Am, cm, M, Ap, cp, ps, rfl, rfl, HM, HP, HTo, B1, HB1⟩ := hrel
    by_cases hM : M = []
    · subst hM
      have hk0 : gk = 0 := by rw [← HM.out.2.2.2.1]; rfl
      subst hk0
      obtain ⟨⟨hp9, _, hcase⟩, hfew⟩ := HTo.out
      rw [if_pos rfl] at hcase
      rcases hcase with ⟨hps, hn0⟩ | ⟨hps, hn0, hcat⟩
      · have hps : ps = [] := by simpa using hps
        subst hps
        have hres : textR neg (mag l) = [48] := by unfold textR; rw [if_pos hn0]
        have HRES := Aside0.mk hres
        clear hp9 hfew hn0 hres
        go_wp2
        go_ret
        exact ⟨by rw [HRES.out]; rfl, HB1.out⟩
      · have hps : ps ≠ [] := by intro h; rw [h] at hps; exact hps rfl
        have hlen0 : (ps.length == 0) = false := by
          have := List.length_pos_iff.mpr hps
          exact beq_eq_false_iff_ne.mpr (by omega)
        have hlen1 : ((ps.length : Int) == 0) = false := by
          have := List.length_pos_iff.mpr hps
          exact beq_eq_false_iff_ne.mpr (by omega)
        have hbl : ∀ qs : List ByteArray, (∀ p ∈ qs.map (fun p => p.data.toList), p.length ≤ 9) → ((qs.map (fun p => p.data.toList)).flatten).length ≤ 9 * qs.length := by
          intro qs
          induction qs with
          | nil => intro _; simp
          | cons p qs ih =>
            intro h
            have h1 := h p.data.toList (by simp)
            have h2 := ih (fun x hx => h x (by rw [List.map_cons]; exact List.mem_cons_of_mem _ hx))
            rw [List.map_cons, List.flatten_cons, List.length_append, List.length_cons]
            omega
        have hrl := hbl ps.reverse (by
          intro p hp
          rw [List.map_reverse] at hp
          exact hp9 p (List.mem_reverse.mp hp))
        rw [List.length_reverse] at hrl
        have hcat2 : (ps.reverse.map (fun p => p.data.toList)).flatten = Lib.decDigits (mag l) := by rw [List.map_reverse]; exact hcat
        have HPS := Aside0.mk hps
        have HCAT := Aside0.mk hcat2
        have HRL := Aside0.mk hrl
        have HFEW := Aside0.mk hfew
        have HN0 := Aside0.mk hn0
        have hbc := (cell_at B1.out).1
        clear hps hcat hcat2 hrl hbl hp9 hfew hn0
        cases neg with
        | false =>
          have hres : textR false (mag l) = Lib.decDigits (mag l) := by unfold textR; rw [if_neg (by have := HN0.out; omega), if_neg (by decide)]
          have HRES := Aside0.mk hres
          clear hres
          go_wp2_with fail
          refine (rev_calls wr w.heap.size (.slice Ap ps.length cp) ps HP.out HPS.out).mono ?_
          rintro e w2 ⟨rfl, hp2, hb2⟩
          have HP2 := Aside0.mk hp2
          have HB2 := Aside0.mk (hb2 w HB1.out)
          clear hp2 hb2
          go_wp2_with fail
          refine (join_calls w2 w.heap.size (.slice Ap ps.length cp) ps.reverse HP2.out (by simpa using HPS.out) (by have := HRL.out; have := HFEW.out; have := HLL.out; omega) (by rw [List.length_reverse]; have := HFEW.out; have := HLL.out; omega)).mono ?_
          rw [HCAT.out]
          rintro e w3 ⟨rfl, hb3⟩
          have HB3 := Aside0.mk (below_step HB2.out hb3)
          clear hb3
          go_wp2
          go_ret
          exact ⟨by rw [HRES.out]; rfl, HB3.out⟩
        | true =>
          have hres : textR true (mag l) = 45 :: Lib.decDigits (mag l) := by unfold textR; rw [if_neg (by have := HN0.out; omega), if_pos rfl]
          have HRES := Aside0.mk hres
          clear hres
          go_wp2_with (at_builtin; refine Kd.R_append Kd.string (w0 := w) w.heap.size rfl (.tmp 61) (.tmp 62) 69 9 (.string ⟨#[]⟩) 16 rfl Tryd.underlying69 info_str rfl (by decide) (by decide) (.slice Ap ps.length cp) ps (⟨#[45]⟩ : ByteArray) [.string ⟨#[45]⟩] (fun _ => True) (fun _ => False) rfl rfl rfl (fun _ h => h.elim) (fun _ _ => trivial) HP.out HB1.out (below_size HB1.out) ?aL ?_; (case aL => have := HFEW.out; have := HLL.out; omega); intro v4 w4 hr4 hb4 hg4 _; obtain ⟨A4, c4, e4⟩ := Kd.R_slice hr4; subst e4; have HP4 := Aside0.mk hr4; have HB4 := Aside0.mk hb4; clear hr4 hb4 hg4)
          have HP5 : Aside0 (Txt w4 w.heap.size (.slice A4 (ps.length + 1) c4) (ps ++ [(⟨#[45]⟩ : ByteArray)])) := ⟨by have h := HP4.out; rw [List.length_append] at h; exact h⟩
          refine (rev_calls w4 w.heap.size (.slice A4 (ps.length + 1) c4) (ps ++ [(⟨#[45]⟩ : ByteArray)]) HP5.out (by simp)).mono ?_
          rintro e w2 ⟨rfl, hp2, hb2⟩
          have HP2 := Aside0.mk hp2
          have HB2 := Aside0.mk (hb2 w HB4.out)
          clear hp2 hb2
          have hc5 : ((ps ++ [(⟨#[45]⟩ : ByteArray)]).reverse.map (fun p => p.data.toList)).flatten = 45 :: Lib.decDigits (mag l) := by
            rw [List.reverse_append, List.reverse_singleton, List.singleton_append, List.map_cons, List.flatten_cons, HCAT.out]
            rfl
          have HC5 := Aside0.mk hc5
          have hl5 : (((ps ++ [(⟨#[45]⟩ : ByteArray)]).reverse.map (fun p => p.data.toList)).flatten).length ≤ 140737488355328 := by
            have h := HRL.out
            rw [HCAT.out] at h
            rw [hc5, List.length_cons]
            have := HFEW.out
            have := HLL.out
            omega
          have HL5 := Aside0.mk hl5
          clear hc5 hl5
          go_wp2_with fail
          refine (join_calls w2 w.heap.size (.slice A4 (ps.length + 1) c4) (ps ++ [(⟨#[45]⟩ : ByteArray)]).reverse HP2.out (by simp) HL5.out (by rw [List.length_reverse, List.length_append, List.length_singleton]; have := HFEW.out; have := HLL.out; omega)).mono ?_
          rw [HC5.out]
          rintro e w3 ⟨rfl, hb3⟩
          have HB3 := Aside0.mk (below_step HB2.out hb3)
          clear hb3
          go_wp2
          go_ret
          exact ⟨by rw [HRES.out]; rfl, HB3.out⟩
    · have hpos : 0 < M.length := List.length_pos_iff.mpr hM
      have t1 : decide (0 < M.length) = true := decide_eq_true hpos
      have t2 : decide ((0 : Int) < (M.length : Int)) = true := decide_eq_true (by omega)
      have hlm : M.length < 1073741824 := by have := HLL.out; have := HM.out.2.2.2.2; omega
      obtain ⟨x0, hx0⟩ : ∃ x0 : Int, (M.length : Int) - 1 = x0 := ⟨_, rfl⟩
      have wm1 : IntKind.i64.wrap ((M.length : Int) - 1) = x0 := i64_of hx0 (by omega) (by omega)
      have wm2 : wrap64 ((M.length : Int) - 1) = x0 := w64_of hx0 (by omega) (by omega)
      have HX0 := Aside0.mk hx0
      have HMN := Aside0.mk hM
      have HPOS := Aside0.mk hpos
      have HLM := Aside0.mk hlm
      have HGK : Aside0 (0 < gk) := ⟨by
        have h2 := HM.out.2.2.2.1
        rw [← h2]
        refine Nat.pos_of_ne_zero (fun h => hM ?_)
        have h3 := (mag_zero HM.out.2.1).mp h
        rwa [HM.out.2.2.1] at h3⟩
      clear hM hpos hlm hx0
      obtain ⟨b, cur0, rfl, hbb, _⟩ := New.ad HM.out.1 HMN.out
      have HBB := Aside0.mk hbb
      clear hbb
      go_wp2
      obtain ⟨gk0, hgk⟩ : ∃ gk0, gk0 = gk := ⟨_, rfl⟩
      rw [← hgk] at HM HTo HGK
      have HGE := Aside0.mk hgk
      clear hgk
      go_loopw [5, 6] (fun v5 v6 w' => ∃ (r : Nat) (x : Int), v5 = .int .u64 r ∧ v6 = .int .i64 x ∧ Aside0 (-1 ≤ x ∧ ∃ cur, New w' w.heap.size (.slice (some ⟨b, 0, none⟩) M.length cm) cur ∧ DivAt M cur (x + 1).toNat r) ∧ Aside0 (Txt w' w.heap.size (.slice Ap ps.length cp) ps) ∧
        Aside0 (w'.heap[w.heap.size]? = some (.cells #[.bool neg, .slice A l.length c] 25 (0, 0))) ∧ Aside0 (Below w.heap.size w w')) (fun _ v6 _ => (intOf v6 + 1).toNat)
      case atStart => exact ⟨0, x0, rfl, rfl, ⟨by have := HX0.out; omega, M, HM.out.1, by rw [show (x0 + 1).toNat = M.length by have := HX0.out; omega]; exact div_start M HM.out.2.1⟩, HP, B1, HB1⟩
      case round =>
        clear HP B1 HB1
        obtain ⟨r, x, rfl, rfl, HD, HP, B1, HB1⟩ := hrel
        by_cases h0 : x = -1
        · subst h0
          obtain ⟨_, cur, hN, hD⟩ := HD.out
          have hD : DivAt M cur 0 r := hD
          have hlc : cur.length = M.length := hD.1
          have hde := div_end hD
          rw [HM.out.2.2.2.1] at hde
          rw [← hlc] at hN
          have okc := hD.2.2.2.1
          have hr9 : r < 1000000000 := hD.2.2.1
          obtain ⟨A', c', e1, hcr, hlim⟩ := New.lim hN
          obtain ⟨e2, e3⟩ : some (⟨b, 0, none⟩ : Addr) = A' ∧ cm = c' := by injection e1 with h1 h2 h3; exact ⟨h1, h3⟩
          subst e2 e3
          have hLC := Aside0.mk hlc
          rw [← hlc]
          have htr := NumU.New.take hN (tr cur).length (tr_len_le cur)
          rw [tr_take] at htr
          have HTR := Aside0.mk htr
          have HDE := Aside0.mk hde
          have OC := Aside0.mk okc
          have HLI := Aside0.mk hlim
          have HCR := Aside0.mk hcr
          have HR9 := Aside0.mk hr9
          have htp := tr_len_pos okc
          rw [hde.1] at htp
          have HTP := Aside0.mk htp
          clear hN hD hlc hde e1 hcr hlim okc hr9 htr htp HD
          go_wp2_with fail
          refine (trim_calls (some ⟨b, 0, none⟩) cm cur _ HLI.out HCR.out).mono ?_
          rintro e w' ⟨rfl, ⟨nd2, rfl⟩⟩
          go_wp2_with fail
          refine (format_calls r (by have := HR9.out; omega) _ (HT.out.below (pw_below_drewN HB1.out nd2))).mono ?_
          rintro e w2 ⟨rfl, hb2⟩
          have B2 := Aside0.mk (blk_below (blk_drewN B1.out nd2) hb2)
          have HB2 := Aside0.mk (below_step (pw_below_drewN HB1.out nd2) hb2)
          have HP2 := Aside0.mk (Txt.below (w := wr.drewN nd2) HP.out hb2)
          have HTR2 := Aside0.mk (New.below (w := wr.drewN nd2) HTR.out hb2)
          clear hb2 HTR HP B1 HB1
          by_cases hq0 : 0 < gk0 / 1000000000
          · have t3 : decide (0 < (tr cur).length) = true := by rw [HTP.out]; exact decide_eq_true (by omega)
            have t4 : decide ((0 : Int) < ((tr cur).length : Int)) = true := by have := of_decide_eq_true t3; exact decide_eq_true (by omega)
            have hlen9 : (Lib.decDigits r).length ≤ 9 := (pad_dec 8 r (by have := HR9.out; omega)).1
            obtain ⟨n9, hn9⟩ : ∃ n9, 9 - (Lib.decDigits r).length = n9 := ⟨_, rfl⟩
            have wr0 : (9 : Int) - ((Lib.decDigits r).length : Int) = (n9 : Int) := by omega
            have wr1 : IntKind.i64.wrap (9 - ((Lib.decDigits r).length : Int)) = (n9 : Int) := i64_of wr0 (by omega) (by omega)
            have wr2 : wrap64 (9 - ((Lib.decDigits r).length : Int)) = (n9 : Int) := w64_of wr0 (by omega) (by omega)
            have hn99 : n9 ≤ 9 := by omega
            have HN9 := Aside0.mk hn9
            have hA : (Lib.repeatL [48] n9).length ≤ 9 := by rw [repeat_one, List.length_replicate]; exact hn99
            have hB : (Lib.decDigits r).length ≤ 9 := hlen9
            clear hlen9 wr0 hn9
            go_wp2_with fail
            refine (Tryd.strings_Repeat ⟨#[48]⟩ n9 _ (by omega) (by show 1 * n9 ≤ _; omega)).mono ?_
            rintro e w3 ⟨rfl, hb3⟩
            have B3 := Aside0.mk (blk_below B2.out hb3)
            have HB3 := Aside0.mk (below_step HB2.out hb3)
            have HP3 := Aside0.mk (Txt.below HP2.out hb3)
            have HTR3 := Aside0.mk (New.below HTR2.out hb3)
            clear hb3 HTR2 HP2 B2 HB2
            have hst := told_step HTo.out.1 HGK.out
            have HFEW := Aside0.mk (told_few HTo.out.1 HGK.out (mag_lt HL.out.ok))
            rw [List.length_map] at HFEW
            rw [if_pos hq0, ← HDE.out.2, HN9.out, ← repeat_one] at hst
            have hpd : ((⟨(Lib.repeatL [48] n9).toArray⟩ : ByteArray) ++ (⟨(Lib.decDigits r).toArray⟩ : ByteArray)).data.toList = Lib.repeatL [48] n9 ++ Lib.decDigits r := Go.Joins.data_append _ _
            rw [← hpd] at hst
            have hmp : ps.map (fun p => p.data.toList) ++ [((⟨(Lib.repeatL [48] n9).toArray⟩ : ByteArray) ++ (⟨(Lib.decDigits r).toArray⟩ : ByteArray)).data.toList] = (ps ++ [((⟨(Lib.repeatL [48] n9).toArray⟩ : ByteArray) ++ (⟨(Lib.decDigits r).toArray⟩ : ByteArray))]).map (fun p => p.data.toList) := by simp
            rw [hmp] at hst
            clear hpd hmp
            have HST := Aside0.mk hst
            clear hst
            go_wp2_with (at_builtin; refine Kd.R_append Kd.string (w0 := w) w.heap.size rfl (.tmp 52) (.tmp 54) 69 9 (.string ⟨#[]⟩) 16 rfl Tryd.underlying69 info_str rfl (by decide) (by decide) (.slice Ap ps.length cp) ps ((⟨(Lib.repeatL [48] n9).toArray⟩ : ByteArray) ++ (⟨(Lib.decDigits r).toArray⟩ : ByteArray)) [.string ((⟨(Lib.repeatL [48] n9).toArray⟩ : ByteArray) ++ (⟨(Lib.decDigits r).toArray⟩ : ByteArray))] (fun _ => True) (fun _ => False) rfl rfl rfl (fun _ h => h.elim) (fun _ _ => trivial) HP3.out HB3.out (below_size HB3.out) ?aL ?_; (case aL => have := HFEW.out; have := HLL.out; omega); intro v4 w4 hr4 hb4 hg4 _; obtain ⟨A4, c4, e4⟩ := Kd.R_slice hr4; subst e4; have HP4 := Aside0.mk hr4; have HB4 := Aside0.mk hb4; have HTR4 := Aside0.mk (New.grown HTR3.out HP3.out hg4); have B4 := Aside0.mk (blk_grown B3.out hg4 (Kd.R_ne HP3.out B3.out (by decide))); clear hr4 hb4 hg4)
            go_roundg (gk0 / 1000000000)
            case measure => have := HGK.out; have := HGE.out; omega
            case rel => exact ⟨_, cm, tr cur, A4, c4, ps ++ [((⟨(Lib.repeatL [48] n9).toArray⟩ : ByteArray) ++ (⟨(Lib.decDigits r).toArray⟩ : ByteArray))], rfl, by simp, ⟨HTR4.out, ok_tr OC.out, tr_tr cur, by rw [mag_tr, HDE.out.1], by have := tr_len_le cur; have := hLC.out; have := HM.out.2.2.2.2; omega⟩, HP4, ⟨HST.out, by rw [List.length_append, List.length_singleton]; have := HFEW.out; omega⟩, B4, HB4⟩
          · have t3 : decide (0 < (tr cur).length) = false := by rw [HTP.out]; exact decide_eq_false (by omega)
            have t4 : decide ((0 : Int) < ((tr cur).length : Int)) = false := by have := of_decide_eq_false t3; exact decide_eq_false (by omega)
            have HP3 := HP2
            have HB3 := HB2
            have HTR3 := HTR2
            have B3 := B2
            clear HP2 HB2 HTR2 B2
            have hst := told_step HTo.out.1 HGK.out
            have HFEW := Aside0.mk (told_few HTo.out.1 HGK.out (mag_lt HL.out.ok))
            rw [List.length_map] at HFEW
            rw [if_neg hq0, ← HDE.out.2] at hst
            have hpd : (⟨(Lib.decDigits r).toArray⟩ : ByteArray).data.toList = Lib.decDigits r := rfl
            rw [← hpd] at hst
            have hmp : ps.map (fun p => p.data.toList) ++ [(⟨(Lib.decDigits r).toArray⟩ : ByteArray).data.toList] = (ps ++ [(⟨(Lib.decDigits r).toArray⟩ : ByteArray)]).map (fun p => p.data.toList) := by simp
            rw [hmp] at hst
            clear hpd hmp
            have HST := Aside0.mk hst
            clear hst
            go_wp2_with (at_builtin; refine Kd.R_append Kd.string (w0 := w) w.heap.size rfl (.tmp 52) (.tmp 54) 69 9 (.string ⟨#[]⟩) 16 rfl Tryd.underlying69 info_str rfl (by decide) (by decide) (.slice Ap ps.length cp) ps (⟨(Lib.decDigits r).toArray⟩ : ByteArray) [.string (⟨(Lib.decDigits r).toArray⟩ : ByteArray)] (fun _ => True) (fun _ => False) rfl rfl rfl (fun _ h => h.elim) (fun _ _ => trivial) HP3.out HB3.out (below_size HB3.out) ?aL ?_; (case aL => have := HFEW.out; have := HLL.out; omega); intro v4 w4 hr4 hb4 hg4 _; obtain ⟨A4, c4, e4⟩ := Kd.R_slice hr4; subst e4; have HP4 := Aside0.mk hr4; have HB4 := Aside0.mk hb4; have HTR4 := Aside0.mk (New.grown HTR3.out HP3.out hg4); have B4 := Aside0.mk (blk_grown B3.out hg4 (Kd.R_ne HP3.out B3.out (by decide))); clear hr4 hb4 hg4)
            go_roundg (gk0 / 1000000000)
            case measure => have := HGK.out; have := HGE.out; omega
            case rel => exact ⟨_, cm, tr cur, A4, c4, ps ++ [(⟨(Lib.decDigits r).toArray⟩ : ByteArray)], rfl, by simp, ⟨HTR4.out, ok_tr OC.out, tr_tr cur, by rw [mag_tr, HDE.out.1], by have := tr_len_le cur; have := hLC.out; have := HM.out.2.2.2.2; omega⟩, HP4, ⟨HST.out, by rw [List.length_append, List.length_singleton]; have := HFEW.out; omega⟩, B4, HB4⟩
        · obtain ⟨i, rfl⟩ := Int.eq_ofNat_of_zero_le (show 0 ≤ x by have := HD.out.1; omega)
          obtain ⟨_, cur, hN, hD⟩ := HD.out
          rw [show ((i : Int) + 1).toNat = i + 1 by omega] at hD
          have hlc : cur.length = M.length := hD.1
          have hi : i < cur.length := by have := hD.2.1; omega
          rw [← hlc] at hN
          obtain ⟨b', cells, e1, _, hblk, h1, h2, h3, h4⟩ := New.ad hN (by intro h; rw [h] at hi; simp at hi)
          obtain rfl : b' = b := by injection e1 with e1; injection e1 with e1 _ _; exact e1.symm
          have hcell := (blk_cell hblk i).trans (cur_get h4 i hi)
          have hfr := blk_frozen hblk i
          have hcv : cur[i] = ((nl cur i : Nat) : Int) := by rw [nl_cast hD.2.2.2.1, rd_nat cur i hi]
          rw [hcv] at hcell
          have hx := nl_lt hD.2.2.2.1 i
          have hr9 : r < 1000000000 := hD.2.2.1
          have i0 : (0 : Int) ≤ (i : Int) := by omega
          have i1 : (i : Int) < (M.length : Int) := by omega
          have p0 := eq_true i0
          have q0 := eq_true i1
          obtain ⟨xi, hxi⟩ : ∃ xi : Int, (i : Int) - 1 = xi := ⟨_, rfl⟩
          have hlm := HLM.out
          have wi1 : IntKind.i64.wrap ((i : Int) - 1) = xi := i64_of hxi (by omega) (by omega)
          have wi2 : wrap64 ((i : Int) - 1) = xi := w64_of hxi (by omega) (by omega)
          obtain ⟨q, hq⟩ : ∃ q, nl cur i = q := ⟨_, rfl⟩
          rw [hq] at hcell hx
          have w1 : IntKind.u64.wrap ((r : Int) * 4294967296) = ((r * 4294967296 : Nat) : Int) := by rw [IntKind.wrap_u64]; omega
          have w2 : IntKind.u64.wrap (q : Int) = (q : Int) := by rw [IntKind.wrap_u64]; omega
          have hor : Go.bits .or .u64 ((r : Int) * 4294967296) (q : Int) = ((r * 4294967296 + q : Nat) : Int) := by
            have h1 := u64_or_nat (r * 4294967296) q (by omega) (by omega)
            rw [nat_join 32 (r * 4294967296) q (by omega) hx] at h1
            rw [← h1]
            congr 1
          have K1 : Aside0 (IntKind.u64.wrap ((Go.bits .or .u64 ((r : Int) * 4294967296) (q : Int)).tdiv 1000000000) % 4294967296 = (((r * 4294967296 + q) / 1000000000 : Nat) : Int)) := ⟨by
            rw [hor, Int.tdiv_eq_ediv_of_nonneg (by omega), IntKind.wrap_u64]; omega⟩
          have K2 : Aside0 ((Go.bits .or .u64 ((r : Int) * 4294967296) (q : Int)).tmod 1000000000 = (((r * 4294967296 + q) % 1000000000 : Nat) : Int)) := ⟨by
            rw [hor, Int.tmod_eq_emod_of_nonneg (by omega)]; omega⟩
          have hst := div_step HM.out.2.1 hD
          rw [hq] at hst
          have HST := Aside0.mk hst
          have HXI := Aside0.mk hxi
          have HNC := Aside0.mk hN
          have HBK := Aside0.mk hblk
          have HCC := Aside0.mk (And.intro h1 (And.intro h2 (And.intro h3 h4)))
          have HIC := Aside0.mk hi
          have HLC := Aside0.mk hlc
          clear i0 i1 hor hst hxi hN hblk h1 h2 h3 h4 hi hlc hx hr9 hlm hD HD hq hcv e1 h0
          go_wp2
          go_roundw
          case rel =>
            rw [K1.out, K2.out]
            refine ⟨_, xi, rfl, rfl, ⟨by have := HXI.out; omega, cur.set i _, ?_, by rw [show (xi + 1).toNat = i by have := HXI.out; omega]; exact HST.out⟩, ⟨Txt.set HP.out HBK.out _ _⟩, ⟨?_⟩, ⟨below_set HB1.out HBB.out⟩⟩
            · have hl2 : (cur.set i (((r * 4294967296 + q) / 1000000000 : Nat) : Int)).length = M.length := by rw [List.length_set]; exact HLC.out
              rw [← hl2]
              refine New.of_block HBB.out (blk_put HBK.out i _ rfl) (by rw [hl2, ← HLC.out]; exact HCC.out.1) HCC.out.2.1 (by rw [Array.size_setIfInBounds]; exact HCC.out.2.2.1) ?_
              rw [hl2, ← HLC.out, Array.toList_setIfInBounds, NumD.take_set _ _ _ _ HIC.out, HCC.out.2.2.2, List.map_set]
            · refine blk_far B1.out ?_ _
              intro h
              have h1 := B1.out
              rw [h] at h1
              have h2 := HBK.out
              dsimp only at h1
              rw [h2] at h1
              injection h1 with h1
              injection h1 with _ h1
              exact absurd h1 (by decide)
          case measure => have := HXI.out; simp [intOf]; omega
end Go.Proofs.YthhpnlbeniihhaaDoor.NumW
namespace Go.Proofs.YthhpnlbeniihhaaDoor.Vals
open Go.Proofs.YthhpnlbeniihhaaDoor.Limb Go.Proofs.YthhpnlbeniihhaaDoor.NumA Go.Proofs.YthhpnlbeniihhaaDoor.NumB Go.Proofs.YthhpnlbeniihhaaDoor.NumC Go.Proofs.YthhpnlbeniihhaaDoor.NumJ Go.Proofs.YthhpnlbeniihhaaDoor.NumR
theorem val_zero {neg : Bool} {l : List Int} : val neg l = 0 ↔ mag l = 0 := by unfold val; cases neg <;> simp
theorem sgn_val (neg : Bool) (l : List Int) : sgn neg l = (val neg l).sign := by
  unfold sgn val
  by_cases h : mag l = 0
  · simp [h]
  · rw [if_neg h]
    cases neg with
    | true => simp only [if_true]; rw [Int.sign_neg, Int.sign_eq_one_of_pos (by omega)]
    | false => rw [if_neg (by decide), if_neg (by decide), Int.sign_eq_one_of_pos (by omega)]
theorem belowB_val {neg : Bool} {l : List Int} (ok : OkL l) : belowB neg l = decide (val neg l < 0) := by
  rw [belowB_eq ok]; unfold val
  cases neg with
  | true =>
    simp only [Bool.true_and, if_true]
    rw [decide_eq_decide]; omega
  | false => simp
theorem natAbs_val (neg : Bool) (l : List Int) : (val neg l).natAbs = mag l := by unfold val; cases neg <;> simp
theorem mk_abs (b : Bool) (z : Int) (n : Nat) (hn : z.natAbs = n) (hb : z ≠ 0 → b = decide (z < 0)) : mk b n = mkI z := by
  unfold mkI mk
  subst hn
  by_cases h : z = 0
  · subst h; simp
  · rw [hb h]
theorem neg_val (b : Bool) (l : List Int) : mk (!b) (mag l) = mkI (- val b l) := by
  rw [mk_val]; congr 1; unfold val; cases b <;> simp
theorem quo_val {n1 n2 : Bool} {l m : List Int} (h1 : OkL l) (h2 : OkL m) : mk (belowB n1 l != belowB n2 m) (mag l / mag m) = mkI (Int.tdiv (val n1 l) (val n2 m)) := by
  rw [belowB_val h1, belowB_val h2]
  refine mk_abs _ _ _ (by rw [Int.natAbs_tdiv, natAbs_val, natAbs_val]; rfl) (fun h => ?_)
  generalize val n1 l = x at *
  generalize val n2 m = y at *
  have e := Int.natAbs_tdiv x y
  by_cases hx : x < 0 <;> by_cases hy : y < 0
  · have : 0 ≤ x.tdiv y := by rw [← Int.neg_tdiv_neg]; exact Int.tdiv_nonneg (by omega) (by omega)
    simp [hx, hy]; omega
  · have : x.tdiv y ≤ 0 := by
      have : 0 ≤ (-x).tdiv y := Int.tdiv_nonneg (by omega) (by omega)
      rw [Int.neg_tdiv] at this; omega
    simp [hx, hy]; omega
  · have : x.tdiv y ≤ 0 := by
      have : 0 ≤ x.tdiv (-y) := Int.tdiv_nonneg (by omega) (by omega)
      rw [Int.tdiv_neg] at this; omega
    simp [hx, hy]; omega
  · have : 0 ≤ x.tdiv y := Int.tdiv_nonneg (by omega) (by omega)
    simp [hx, hy]; omega
theorem mod_val {n1 n2 : Bool} {l m : List Int} (h1 : OkL l) (h2 : OkL m) (h0 : mag m ≠ 0) :
    mk (belowB n2 m) (if (belowB n1 l != belowB n2 m) = true ∧ mag l % mag m ≠ 0 then mag m - mag l % mag m else mag l % mag m) = mkI (Int.fmod (val n1 l) (val n2 m)) := by
  have hz : val n2 m ≠ 0 := fun h => h0 (val_zero.mp h)
  have hr : (Int.tmod (val n1 l) (val n2 m)).natAbs = mag l % mag m := by rw [Int.natAbs_tmod, natAbs_val, natAbs_val]
  have hm : (val n2 m).natAbs = mag m := natAbs_val _ _
  have hlt : mag l % mag m < mag m := Nat.mod_lt _ (by omega)
  rw [belowB_val h1, belowB_val h2]
  generalize val n1 l = x at *
  generalize val n2 m = y at *
  have hs : (0 ≤ x → 0 ≤ x.tmod y) ∧ (x ≤ 0 → x.tmod y ≤ 0) := by
    constructor
    · intro h; exact Int.tmod_nonneg _ h
    · intro h
      have : 0 ≤ (-x).tmod y := Int.tmod_nonneg _ (by omega)
      rw [Int.neg_tmod] at this; omega
  have hf : x.fmod y = if (decide (x < 0) != decide (y < 0)) = true ∧ mag l % mag m ≠ 0 then y + x.tmod y else x.tmod y := by
    rw [Int.fmod_eq_tmod]
    by_cases hd : y ∣ x
    · have : x.tmod y = 0 := Int.tmod_eq_zero_of_dvd hd
      have e0 : mag l % mag m = 0 := by rw [← hr, this]; rfl
      simp [hd, e0, this]
    · have hne : x.tmod y ≠ 0 := fun h => hd (Int.dvd_of_tmod_eq_zero h)
      have e0 : mag l % mag m ≠ 0 := by rw [← hr]; omega
      by_cases hx : x < 0 <;> by_cases hy : y < 0 <;> simp [hx, hy, hd, e0] <;> omega
  refine mk_abs _ _ _ ?_ (fun h => ?_)
  · rw [hf]
    split
    · rename_i hc
      obtain ⟨hc, hne⟩ := hc
      by_cases hx : x < 0 <;> by_cases hy : y < 0 <;> simp [hx, hy] at hc <;> omega
    · exact hr
  · rw [hf] at h ⊢
    rw [decide_eq_decide]
    split at h
    · rename_i hc
      rw [if_pos hc]
      obtain ⟨hc, hne⟩ := hc
      by_cases hx : x < 0 <;> by_cases hy : y < 0 <;> simp [hx, hy] at hc <;> omega
    · rename_i hc
      rw [if_neg hc]
      by_cases hx : x < 0 <;> by_cases hy : y < 0 <;> simp [hx, hy] at hc <;> omega
theorem fix_val (neg : Bool) (l : List Int) : fixR neg l = if -1152921504606846976 ≤ val neg l ∧ val neg l < 1152921504606846976 then (val neg l, true) else (0, false) := by
  unfold fixR val
  cases neg with
  | true =>
    simp only [if_true, true_and]
    split
    · rename_i h; rw [if_pos (by omega)]
    · rename_i h; rw [if_neg (by omega)]
  | false =>
    simp only [Bool.false_eq_true, if_false, false_and, or_false]
    split
    · rename_i h; rw [if_pos (by omega)]
    · rename_i h; rw [if_neg (by omega)]
theorem quo_ite {n1 n2 : Bool} {l m : List Int} (h1 : OkL l) (h2 : OkL m) : (if mag m = 0 then (false, [], 13) else mk (belowB n1 l != belowB n2 m) (mag l / mag m)) = if val n2 m = 0 then (false, [], 13) else mkI (Int.tdiv (val n1 l) (val n2 m)) := by
  by_cases h : mag m = 0
  · rw [if_pos h, if_pos (val_zero.mpr h)]
  · rw [if_neg h, if_neg (fun h' => h (val_zero.mp h')), quo_val h1 h2]
theorem mod_ite {n1 n2 : Bool} {l m : List Int} (h1 : OkL l) (h2 : OkL m) :
    (if mag m = 0 then (false, [], 13) else mk (belowB n2 m) (if (belowB n1 l != belowB n2 m) = true ∧ mag l % mag m ≠ 0 then mag m - mag l % mag m else mag l % mag m)) = if val n2 m = 0 then (false, [], 13) else mkI (Int.fmod (val n1 l) (val n2 m)) := by
  by_cases h : mag m = 0
  · rw [if_pos h, if_pos (val_zero.mpr h)]
  · rw [if_neg h, if_neg (fun h' => h (val_zero.mp h')), mod_val h1 h2 h]
/-- What a value is in text. -/
def textI (z : Int) : List UInt8 := NumW.textR (decide (z < 0)) z.natAbs
theorem text_val (neg : Bool) (l : List Int) : NumW.textR neg (mag l) = textI (val neg l) := by
  unfold textI
  rw [natAbs_val]
  unfold NumW.textR
  by_cases h : mag l = 0
  · rw [if_pos h, if_pos h]
  · rw [if_neg h, if_neg h]
    unfold val
    cases neg with
    | true => rw [if_pos rfl, if_pos (by simp; omega)]
    | false => rw [if_neg (by decide), if_neg (by simp)]
end Go.Proofs.YthhpnlbeniihhaaDoor.Vals
namespace Go.Proofs.YthhpnlbeniihhaaDoor
open Go.RowKit Go.Proofs.YthhpnlbeniihhaaDoorW.PrintWords Go.Proofs.YthhpnlbeniihhaaDoorW.PrintLast Go.Proofs.YthhpnlbeniihhaaDoorW.PrintMore Go.Proofs.YthhpnlbeniihhaaDoor.Limb Go.Proofs.YthhpnlbeniihhaaDoor.NumA Go.Proofs.YthhpnlbeniihhaaDoor.NumB Go.Proofs.YthhpnlbeniihhaaDoor.NumC Go.Proofs.YthhpnlbeniihhaaDoor.NumJ Go.Proofs.YthhpnlbeniihhaaDoor.NumP Go.Proofs.YthhpnlbeniihhaaDoor.NumQ Go.Proofs.YthhpnlbeniihhaaDoor.NumR Go.Proofs.YthhpnlbeniihhaaDoor.NumS Go.Proofs.YthhpnlbeniihhaaDoor.NumU Go.Proofs.YthhpnlbeniihhaaDoor.NumV Go.Proofs.YthhpnlbeniihhaaDoor.NumW Go.Proofs.YthhpnlbeniihhaaDoor.Vals
set_option linter.unusedVariables false
set_option linter.unusedSimpArgs false
instance instOkL (l : List Int) : Decidable (OkL l) := by unfold OkL; infer_instance
/-- Limbs, and few of them. -/
def okN (l : List Int) : Prop := OkL l ∧ l.length < 1073741824
instance instOkN (l : List Int) : Decidable (okN l) := by unfold okN; infer_instance
theorem okN.num {w : World} {A : Option Addr} {c : Nat} {l : List Int} (h : okN l) (hr : Kd.C (Kd.int .u32) w A l.length l) (hc : l.length ≤ c) : Num w A c l := ⟨hr, hc, h.1, by have := h.2; omega⟩
def num_Norm.f (a0_0 : Bool) (l0_1 : List Int) : Option (Bool × List Int × Int) := if OkL l0_1 ∧ l0_1.length < 35184372088832 then some (mkI (val a0_0 l0_1)) else none
theorem num_Norm.calls (a0_0 : Bool) (A0_1 : Option Addr) (c0_1 : Nat) (l0_1 : List Int) (r1 : Bool) (r2 : List Int) (r3 : Int) (w : World) (hr0_1 : Kd.C (Kd.int .u32) w A0_1 l0_1.length l0_1) (hc0_1 : l0_1.length ≤ c0_1) (h : num_Norm.f a0_0 l0_1 = some (r1, r2, r3)) :
    Calls Tryd.prog 38 #[.agg #[.bool a0_0, .slice A0_1 l0_1.length c0_1]] w fun e w' => ∃ v1_ : Value, e = .returned (.tuple #[.agg #[.bool r1, v1_], .int .i64 r3]) ∧ Kd.R (Kd.int .u32) 63 w' w.heap.size (fun _ => True) v1_ r2 ∧ Below w.heap.size w w' := by
  unfold num_Norm.f at h
  by_cases hg : OkL l0_1 ∧ l0_1.length < 35184372088832
  · rw [if_pos hg] at h
    have h := Option.some.inj h
    have c := norm_calls a0_0 A0_1 c0_1 l0_1 w ⟨hr0_1, hc0_1, hg.1, hg.2⟩
    rw [mk_val] at c
    rw [h] at c
    exact c
  · rw [if_neg hg] at h; cases h
def num_Neg.f (a0_0 : Bool) (l0_1 : List Int) : Option (Bool × List Int × Int) := if okN l0_1 then some (mkI (-val a0_0 l0_1)) else none
theorem num_Neg.calls (a0_0 : Bool) (A0_1 : Option Addr) (c0_1 : Nat) (l0_1 : List Int) (r1 : Bool) (r2 : List Int) (r3 : Int) (w : World) (hr0_1 : Kd.C (Kd.int .u32) w A0_1 l0_1.length l0_1) (hc0_1 : l0_1.length ≤ c0_1) (h : num_Neg.f a0_0 l0_1 = some (r1, r2, r3)) :
    Calls Tryd.prog 47 #[.agg #[.bool a0_0, .slice A0_1 l0_1.length c0_1]] w fun e w' => ∃ v1_ : Value, e = .returned (.tuple #[.agg #[.bool r1, v1_], .int .i64 r3]) ∧ Kd.R (Kd.int .u32) 63 w' w.heap.size (fun _ => True) v1_ r2 ∧ Below w.heap.size w w' := by
  unfold num_Neg.f at h
  by_cases hg : okN l0_1
  · rw [if_pos hg] at h
    have h := Option.some.inj h
    have c := neg_calls a0_0 A0_1 c0_1 l0_1 w (hg.num hr0_1 hc0_1)
    rw [neg_val] at c
    rw [h] at c
    exact c
  · rw [if_neg hg] at h; cases h
def num_Sign.f (a0_0 : Bool) (l0_1 : List Int) : Option (Int) := if okN l0_1 then some ((val a0_0 l0_1).sign) else none
theorem num_Sign.calls (a0_0 : Bool) (A0_1 : Option Addr) (c0_1 : Nat) (l0_1 : List Int) (r : Int) (w : World) (hr0_1 : Kd.C (Kd.int .u32) w A0_1 l0_1.length l0_1) (hc0_1 : l0_1.length ≤ c0_1) (h : num_Sign.f a0_0 l0_1 = some r) :
    Calls Tryd.prog 39 #[.agg #[.bool a0_0, .slice A0_1 l0_1.length c0_1]] w fun e w' => e = .returned (.int .i64 r) ∧ Below w.heap.size w w' := by
  unfold num_Sign.f at h
  by_cases hg : okN l0_1
  · rw [if_pos hg] at h
    have h := Option.some.inj h
    have c := sign_calls a0_0 A0_1 c0_1 l0_1 w (hg.num hr0_1 hc0_1)
    rw [sgn_val] at c
    rw [h] at c
    exact c
  · rw [if_neg hg] at h; cases h
def num_May.f (a0_0 : Bool) (l0_1 : List Int) : Option (Bool) := if okN l0_1 then some (mayB a0_0 l0_1) else none
theorem num_May.calls (a0_0 : Bool) (A0_1 : Option Addr) (c0_1 : Nat) (l0_1 : List Int) (r : Bool) (w : World) (hr0_1 : Kd.C (Kd.int .u32) w A0_1 l0_1.length l0_1) (hc0_1 : l0_1.length ≤ c0_1) (h : num_May.f a0_0 l0_1 = some r) :
    Calls Tryd.prog 48 #[.agg #[.bool a0_0, .slice A0_1 l0_1.length c0_1]] w fun e w' => e = .returned (.bool r) ∧ Below w.heap.size w w' := by
  unfold num_May.f at h
  by_cases hg : okN l0_1
  · rw [if_pos hg] at h
    have h := Option.some.inj h
    have c := may_calls a0_0 A0_1 c0_1 l0_1 w (hg.num hr0_1 hc0_1)
    rw [h] at c
    exact c
  · rw [if_neg hg] at h; cases h
def num_Fix.f (a0_0 : Bool) (l0_1 : List Int) : Option (Int × Bool) := if okN l0_1 then some (if -1152921504606846976 ≤ val a0_0 l0_1 ∧ val a0_0 l0_1 < 1152921504606846976 then (val a0_0 l0_1, true) else (0, false)) else none
theorem num_Fix.calls (a0_0 : Bool) (A0_1 : Option Addr) (c0_1 : Nat) (l0_1 : List Int) (r1 : Int) (r2 : Bool) (w : World) (hr0_1 : Kd.C (Kd.int .u32) w A0_1 l0_1.length l0_1) (hc0_1 : l0_1.length ≤ c0_1) (h : num_Fix.f a0_0 l0_1 = some (r1, r2)) :
    Calls Tryd.prog 40 #[.agg #[.bool a0_0, .slice A0_1 l0_1.length c0_1]] w fun e w' => e = .returned (.tuple #[.int .i64 r1, .bool r2]) ∧ Below w.heap.size w w' := by
  unfold num_Fix.f at h
  by_cases hg : okN l0_1
  · rw [if_pos hg] at h
    have h := Option.some.inj h
    have c := fix_calls a0_0 A0_1 c0_1 l0_1 w (hg.num hr0_1 hc0_1)
    rw [fix_val] at c
    rw [h] at c
    exact c
  · rw [if_neg hg] at h; cases h
def num_Text.f (a0_0 : Bool) (l0_1 : List Int) : Option (ByteArray) := if okN l0_1 then some (⟨(textI (val a0_0 l0_1)).toArray⟩) else none
theorem num_Text.calls (a0_0 : Bool) (A0_1 : Option Addr) (c0_1 : Nat) (l0_1 : List Int) (r : ByteArray) (w : World) (hr0_1 : Kd.C (Kd.int .u32) w A0_1 l0_1.length l0_1) (hc0_1 : l0_1.length ≤ c0_1) (h : num_Text.f a0_0 l0_1 = some r) (ht : Tab w) :
    Calls Tryd.prog 22 #[.agg #[.bool a0_0, .slice A0_1 l0_1.length c0_1]] w fun e w' => e = .returned (.string r) ∧ Below w.heap.size w w' := by
  unfold num_Text.f at h
  by_cases hg : okN l0_1
  · rw [if_pos hg] at h
    have h := Option.some.inj h
    have c := text_calls a0_0 A0_1 c0_1 l0_1 w (hg.num hr0_1 hc0_1) hg.2 ht
    rw [text_val] at c
    rw [h] at c
    exact c
  · rw [if_neg hg] at h; cases h
def num_Cmp.f (a0_0 : Bool) (l0_1 : List Int) (a1_0 : Bool) (l1_1 : List Int) : Option (Int) := if okN l0_1 ∧ okN l1_1 then some (cmpI (val a0_0 l0_1) (val a1_0 l1_1)) else none
theorem num_Cmp.calls (a0_0 : Bool) (A0_1 : Option Addr) (c0_1 : Nat) (l0_1 : List Int) (a1_0 : Bool) (A1_1 : Option Addr) (c1_1 : Nat) (l1_1 : List Int) (r : Int) (w : World) (hr0_1 : Kd.C (Kd.int .u32) w A0_1 l0_1.length l0_1) (hc0_1 : l0_1.length ≤ c0_1) (hr1_1 : Kd.C (Kd.int .u32) w A1_1 l1_1.length l1_1) (hc1_1 : l1_1.length ≤ c1_1) (h : num_Cmp.f a0_0 l0_1 a1_0 l1_1 = some r) :
    Calls Tryd.prog 43 #[.agg #[.bool a0_0, .slice A0_1 l0_1.length c0_1], .agg #[.bool a1_0, .slice A1_1 l1_1.length c1_1]] w fun e w' => e = .returned (.int .i64 r) ∧ Below w.heap.size w w' := by
  unfold num_Cmp.f at h
  by_cases hg : okN l0_1 ∧ okN l1_1
  · rw [if_pos hg] at h
    have h := Option.some.inj h
    have c := NumL.cmp_calls a0_0 a1_0 A0_1 A1_1 c0_1 c1_1 l0_1 l1_1 w (hg.1.num hr0_1 hc0_1) (hg.2.num hr1_1 hc1_1)
    rw [h] at c
    exact c
  · rw [if_neg hg] at h; cases h
def num_Quo.f (a0_0 : Bool) (l0_1 : List Int) (a1_0 : Bool) (l1_1 : List Int) : Option (Bool × List Int × Int) := if okN l0_1 ∧ okN l1_1 then some (if val a1_0 l1_1 = 0 then (false, [], 13) else mkI (Int.tdiv (val a0_0 l0_1) (val a1_0 l1_1))) else none
theorem num_Quo.calls (a0_0 : Bool) (A0_1 : Option Addr) (c0_1 : Nat) (l0_1 : List Int) (a1_0 : Bool) (A1_1 : Option Addr) (c1_1 : Nat) (l1_1 : List Int) (r1 : Bool) (r2 : List Int) (r3 : Int) (w : World) (hr0_1 : Kd.C (Kd.int .u32) w A0_1 l0_1.length l0_1) (hc0_1 : l0_1.length ≤ c0_1) (hr1_1 : Kd.C (Kd.int .u32) w A1_1 l1_1.length l1_1) (hc1_1 : l1_1.length ≤ c1_1) (h : num_Quo.f a0_0 l0_1 a1_0 l1_1 = some (r1, r2, r3)) :
    Calls Tryd.prog 29 #[.agg #[.bool a0_0, .slice A0_1 l0_1.length c0_1], .agg #[.bool a1_0, .slice A1_1 l1_1.length c1_1]] w fun e w' => ∃ v1_ : Value, e = .returned (.tuple #[.agg #[.bool r1, v1_], .int .i64 r3]) ∧ Kd.R (Kd.int .u32) 63 w' w.heap.size (fun _ => True) v1_ r2 ∧ Below w.heap.size w w' := by
  unfold num_Quo.f at h
  by_cases hg : okN l0_1 ∧ okN l1_1
  · rw [if_pos hg] at h
    have h := Option.some.inj h
    have c := quo_calls a0_0 a1_0 A0_1 A1_1 c0_1 c1_1 l0_1 l1_1 w (hg.1.num hr0_1 hc0_1) (hg.2.num hr1_1 hc1_1) (by have := hg.1.2; omega) (by have := hg.2.2; omega)
    rw [quo_ite hg.1.1 hg.2.1] at c
    rw [h] at c
    exact c
  · rw [if_neg hg] at h; cases h
def num_Mod.f (a0_0 : Bool) (l0_1 : List Int) (a1_0 : Bool) (l1_1 : List Int) : Option (Bool × List Int × Int) := if okN l0_1 ∧ okN l1_1 then some (if val a1_0 l1_1 = 0 then (false, [], 13) else mkI (Int.fmod (val a0_0 l0_1) (val a1_0 l1_1))) else none
theorem num_Mod.calls (a0_0 : Bool) (A0_1 : Option Addr) (c0_1 : Nat) (l0_1 : List Int) (a1_0 : Bool) (A1_1 : Option Addr) (c1_1 : Nat) (l1_1 : List Int) (r1 : Bool) (r2 : List Int) (r3 : Int) (w : World) (hr0_1 : Kd.C (Kd.int .u32) w A0_1 l0_1.length l0_1) (hc0_1 : l0_1.length ≤ c0_1) (hr1_1 : Kd.C (Kd.int .u32) w A1_1 l1_1.length l1_1) (hc1_1 : l1_1.length ≤ c1_1) (h : num_Mod.f a0_0 l0_1 a1_0 l1_1 = some (r1, r2, r3)) :
    Calls Tryd.prog 31 #[.agg #[.bool a0_0, .slice A0_1 l0_1.length c0_1], .agg #[.bool a1_0, .slice A1_1 l1_1.length c1_1]] w fun e w' => ∃ v1_ : Value, e = .returned (.tuple #[.agg #[.bool r1, v1_], .int .i64 r3]) ∧ Kd.R (Kd.int .u32) 63 w' w.heap.size (fun _ => True) v1_ r2 ∧ Below w.heap.size w w' := by
  unfold num_Mod.f at h
  by_cases hg : okN l0_1 ∧ okN l1_1
  · rw [if_pos hg] at h
    have h := Option.some.inj h
    have c := mod_calls a0_0 a1_0 A0_1 A1_1 c0_1 c1_1 l0_1 l1_1 w (hg.1.num hr0_1 hc0_1) (hg.2.num hr1_1 hc1_1) (by have := hg.1.2; omega) (by have := hg.2.2; omega)
    rw [mod_ite hg.1.1 hg.2.1] at c
    rw [h] at c
    exact c
  · rw [if_neg hg] at h; cases h
def num_Of.f (a0 : Int) : Option (Bool × List Int) := if -9223372036854775808 ≤ a0 ∧ a0 < 9223372036854775808 then some ((mkI a0).1, (mkI a0).2.1) else none
theorem num_Of.calls (a0 : Int) (r1 : Bool) (r2 : List Int) (w : World) (h : num_Of.f a0 = some (r1, r2)) :
    Calls Tryd.prog 18 #[.int .i64 a0] w fun e w' => ∃ v1_ : Value, e = .returned (.agg #[.bool r1, v1_]) ∧ Kd.R (Kd.int .u32) 63 w' w.heap.size (fun _ => True) v1_ r2 ∧ Below w.heap.size w w' := by
  unfold num_Of.f at h
  by_cases hg : -9223372036854775808 ≤ a0 ∧ a0 < 9223372036854775808
  · rw [if_pos hg] at h
    have h := Option.some.inj h
    have h1 := congrArg Prod.fst h
    have h2 := congrArg Prod.snd h
    have c := NumM.of_calls a0 w hg
    rw [show (mkI a0).1 = r1 from h1, show (mkI a0).2.1 = r2 from h2] at c
    exact c
  · rw [if_neg hg] at h; cases h
def num_Parse.f (a0 : ByteArray) : Option (Bool × List Int × Int) := if a0.size ≤ 140737488355328 then some (parseR a0.data.toList) else none
theorem num_Parse.calls (a0 : ByteArray) (r1 : Bool) (r2 : List Int) (r3 : Int) (w : World) (h : num_Parse.f a0 = some (r1, r2, r3)) :
    Calls Tryd.prog 25 #[.string a0] w fun e w' => ∃ v1_ : Value, e = .returned (.tuple #[.agg #[.bool r1, v1_], .int .i64 r3]) ∧ Kd.R (Kd.int .u32) 63 w' w.heap.size (fun _ => True) v1_ r2 ∧ Below w.heap.size w w' := by
  unfold num_Parse.f at h
  by_cases hg : a0.size ≤ 140737488355328
  · rw [if_pos hg] at h
    have h := Option.some.inj h
    have c := parse_calls NumV.strs a0 w hg
    rw [h] at c
    exact c
  · rw [if_neg hg] at h; cases h
end Go.Proofs.YthhpnlbeniihhaaDoor
namespace Go.Proofs.YthhpnlbeniihhaaDoor.Plain
open Go.Proofs.YthhpnlbeniihhaaDoor Go.Proofs.YthhpnlbeniihhaaDoor.Limb Go.Proofs.YthhpnlbeniihhaaDoor.NumA Go.Proofs.YthhpnlbeniihhaaDoor.NumB Go.Proofs.YthhpnlbeniihhaaDoor.NumC Go.Proofs.YthhpnlbeniihhaaDoor.NumJ Go.Proofs.YthhpnlbeniihhaaDoor.NumS Go.Proofs.YthhpnlbeniihhaaDoor.NumU Go.Proofs.YthhpnlbeniihhaaDoor.Vals
/-- A whole number's sign and limbs. -/
def sb (z : Int) : Bool := decide (z < 0)
def sl (z : Int) : List Int := limbs z.natAbs
/-- It is of at most 48 limbs. -/
def Fits (z : Int) : Prop := z.natAbs < 4294967296 ^ 48
instance (z : Int) : Decidable (Fits z) := by unfold Fits; infer_instance
theorem mkI_fits {z : Int} (h : Fits z) : mkI z = (sb z, sl z, 0) := by
  unfold mkI mk sb sl
  rw [if_pos (show z.natAbs < 4294967296 ^ 48 from h)]
  by_cases h0 : z = 0
  · subst h0; rfl
  · simp [h0]
theorem mkI_big {z : Int} (h : ¬ Fits z) : mkI z = (false, [], 6) := by
  unfold mkI mk
  rw [if_neg (show ¬ z.natAbs < 4294967296 ^ 48 from h)]
theorem ok_sl (z : Int) : OkL (sl z) := ok_limbs _
theorem mag_sl (z : Int) : mag (sl z) = z.natAbs := mag_limbs _
theorem val_s (z : Int) : val (sb z) (sl z) = z := by
  unfold val
  rw [mag_sl]
  unfold sb
  by_cases h : z < 0 <;> simp [h] <;> omega
theorem len_sl {z : Int} (h : Fits z) : (sl z).length ≤ 48 := by
  exact (limbs_len _ _).mpr h
theorem okN_sl {z : Int} (h : Fits z) : okN (sl z) := ⟨ok_sl z, by have := len_sl h; omega⟩
theorem sl_nil {z : Int} : sl z = [] ↔ z = 0 := by unfold sl; rw [limbs_nil]; omega
theorem text_at {z : Int} (h : Fits z) : num_Text.f (sb z) (sl z) = some ⟨(textI z).toArray⟩ := by
  unfold num_Text.f; rw [if_pos (okN_sl h), val_s]
section two
variable {y z : Int} (hy : Fits y) (hz : Fits z)
include hy hz
theorem cmp_at : num_Cmp.f (sb y) (sl y) (sb z) (sl z) = some (cmpI y z) := by unfold num_Cmp.f; rw [if_pos ⟨okN_sl hy, okN_sl hz⟩, val_s, val_s]
theorem quo_at : num_Quo.f (sb y) (sl y) (sb z) (sl z) = some (if z = 0 then (false, [], 13) else mkI (Int.tdiv y z)) := by unfold num_Quo.f; rw [if_pos ⟨okN_sl hy, okN_sl hz⟩, val_s, val_s]
theorem mod_at : num_Mod.f (sb y) (sl y) (sb z) (sl z) = some (if z = 0 then (false, [], 13) else mkI (Int.fmod y z)) := by unfold num_Mod.f; rw [if_pos ⟨okN_sl hy, okN_sl hz⟩, val_s, val_s]
end two
theorem of_at {z : Int} (h : -9223372036854775808 ≤ z ∧ z < 9223372036854775808) : num_Of.f z = some (sb z, sl z) := by
  unfold num_Of.f
  rw [if_pos h, mkI_fits (by unfold Fits; exact Nat.lt_of_lt_of_le (show z.natAbs < 4294967296 ^ 2 by omega) (Nat.pow_le_pow_right (by decide) (by decide)))]
end Go.Proofs.YthhpnlbeniihhaaDoor.Plain
namespace Go.Proofs.YthhpnlbeniihhaaDoor
open Go.RowKit Go.Proofs.YthhpnlbeniihhaaDoorW.PrintWords Go.Proofs.YthhpnlbeniihhaaDoorW.PrintLast
/-- A world that makes and draws alone lies between. -/
class Hp (w w' : World) : Prop where
  b : Below w.heap.size w w'
instance hp0 (w : World) : Hp w w := ⟨Below.refl _ _⟩
instance hp1 (w w' : World) (o : Obj) [h : Hp w w'] : Hp w (w'.alloc o) := ⟨below_alloc h.b o⟩
instance hp2 (w w' : World) [h : Hp w w'] : Hp w w'.drew := ⟨below_drew1 h.b⟩
instance hp3 (w w' : World) (n : Nat) [h : Hp w w'] : Hp w (w'.drewN n) := ⟨pw_below_drewN h.b n⟩
section
variable {w w1 w2 : World}
theorem qb {g : Nat} {o : Obj} (h : Aside0 (w.heap[g]? = some o)) [p : Hp w w1] (hb : Below w1.heap.size w1 w2) : Aside0 (w2.heap[g]? = some o) := ⟨blk_below (blk_below h.out p.b) hb⟩
section
variable {α : Type} {d : Kd α} {e base : Nat} {ok : Nat → Prop} {u v : Value} {xs : List α}
theorem qr (h : Aside0 (d.R e w base ok v xs)) [p : Hp w w1] (hb : Below w1.heap.size w1 w2) : Aside0 (d.R e w2 base ok v xs) := ⟨Kd.R_below (Kd.R_below h.out p.b) hb⟩
theorem ql (h : Aside0 (d.R e w base ok v xs)) [p : Hp w w1] : ∀ k, v.ownBlock = some k → k < w1.heap.size := Kd.R_lt (Kd.R_below h.out p.b)
theorem qe {α' : Type} {d' : Kd α'} {e' : Nat} {ok' : Nat → Prop} {ys : List α'} (h : Aside0 (d.R e w base ok u xs)) (ho : d'.R e' w2 w1.heap.size ok' v ys) [p : Hp w w1] (hb : Below w1.heap.size w1 w2) : Aside0 (d.R e w2 base (fun k => ok k ∧ some k ≠ v.ownBlock) u xs) :=
  ⟨Kd.R_elder' (Kd.R_below h.out p.b) (Kd.R_base ho) hb⟩
end
theorem qk {g : Nat} {o : Obj} (h : Aside0 (w.heap[g]? = some o)) [p : Hp w w1] : w1.heap[g]? = some o := blk_below h.out p.b
theorem qq {α : Type} {d : Kd α} {e base : Nat} {ok : Nat → Prop} {v : Value} {xs : List α} (h : Aside0 (d.R e w base ok v xs)) [p : Hp w w1] : d.R e w1 base ok v xs := Kd.R_below h.out p.b
theorem qn {g b : Nat} {o : Obj} (h : Aside0 (w.heap[g]? = some o)) [p : Hp w w1] (hg : b = w1.heap.size) : Aside0 (g ≠ b) := ⟨by rw [hg]; exact Nat.ne_of_lt (blk_lt (blk_below h.out p.b))⟩
theorem qm {g b : Nat} {o : Obj} (h : Aside0 (w.heap[g]? = some o)) [p : Hp w w1] (hg : b = w1.heap.size) : Aside0 (b ≠ g) := ⟨by rw [hg]; exact Nat.ne_of_gt (blk_lt (blk_below h.out p.b))⟩
theorem qg {b : Nat} (hg : b = w1.heap.size) (h : Below w.heap.size w w1) : Aside0 (w.heap.size ≤ b) := ⟨by rw [hg]; exact below_size h⟩
theorem qf {g b j k : Nat} {t : TypeId} {cs : Array Value} {u v : Value} (h : w.heap[g]? = some (.cells cs t (0, 0))) (n : Aside0 (g ≠ b)) : ((w.setCell ⟨b, j, none⟩ u).setCell ⟨b, k, none⟩ v).heap[g]? = some (.cells cs t (0, 0)) := blk_far (blk_far h n.out _) n.out _
theorem qN {g : Nat} {o : Obj} (h : w.heap[g]? = some o) (n : Nat) : (w.drewN n).heap[g]? = some o := h
theorem qW {g : Nat} {o : Obj} (h : w.heap[g]? = some o) : w.drew.heap[g]? = some o := h
theorem qA {g : Nat} {o : Obj} (h : w.heap[g]? = some o) (x : Obj) : (w.alloc x).heap[g]? = some o := blk_alloc h x
theorem qz {α : Type} {d : Kd α} {e base : Nat} {ok : Nat → Prop} {v : Value} {xs : List α} {g t : Nat} {cells : Array Value} (h : Aside0 (d.R e w base ok v xs)) (b : Aside0 (w.heap[g]? = some (.cells cells t (0, 0)))) (ht : ∀ q, q ∈ e :: d.E → q ≠ t) (x y : Value) :
    d.R e ((w.setCell ⟨g, 0, none⟩ x).setCell ⟨g, 1, none⟩ y) base (fun k => ok k ∧ k ≠ g) v xs := Kd.R_far (Kd.R_far (Kd.R_types h.out b.out ht) (fun _ hk => hk.2) x) (fun _ hk => hk.2) y
theorem qx {w W : World} (h : Below w.heap.size w W) (o : Obj) : Below w.heap.size w (W.alloc o) := below_alloc h o
theorem qv {B : Nat} {w W : World} (h : Below B w W) (n : Nat) : Below B w (W.drewN n) := pw_below_drewN h n
theorem qw {base : Nat} {w W : World} (h : Below base w W) : Below base w W.drew := below_drew1 h
theorem qc {g : Nat} {t : TypeId} {cs : Array Value} (h : Aside0 (w.heap[g]? = some (.cells cs t (0, 0)))) (i : Nat) {v : Value} (e : cs[i]? = some v := by rfl) : w.cell? ⟨g, i, none⟩ = some v := (blk_cell h.out i).trans e
theorem zA {α : Type} (l : List α) (i : Nat) (a : α) : l.toArray.setIfInBounds i a = (l.set i a).toArray := by simp
theorem zB {α : Type} (x : α) (l : List α) (b : α) : (x :: l).set 0 b = b :: l := rfl
theorem zC {α : Type} (x : α) (l : List α) (i : Nat) (b : α) : (x :: l).set (i + 1) b = x :: l.set i b := rfl
theorem qs {g j : Nat} {v : Value} (h : Below w.heap.size w w1) (hg : Aside0 (w.heap.size ≤ g)) : Below w.heap.size w (w1.setCell ⟨g, j, none⟩ v) := below_set h hg.out
theorem zM {α β : Type} (f : α → β) (l : List α) : l.toArray.map f = (l.map f).toArray := by simp
theorem zO {α β : Type} (f : α → β) (a : α) (l : List α) : (a :: l).map f = f a :: l.map f := rfl
theorem zP {α β : Type} (f : α → β) : ([] : List α).map f = [] := rfl
theorem qC {α : Type} {d : Kd α} {A : Option Addr} {n : Nat} {xs : List α} (h : Aside0 (Kd.C d w A n xs)) (b : Aside0 (Below w.heap.size w w1)) [p : Hp w1 w2] : Kd.C d w2 A n xs := Kd.C_below (Kd.C_below h.out b.out) p.b
end
end Go.Proofs.YthhpnlbeniihhaaDoor
-- Printed by a program of this session's (wip/tools/printr.py, over the kit's print program).
namespace Go.Proofs.YthhpnlbeniihhaaDoor.PAwk
open Go.RowKit Go.Proofs.YthhpnlbeniihhaaDoorW.PrintWords Go.Proofs.YthhpnlbeniihhaaDoorW.PrintLast Go.Proofs.YthhpnlbeniihhaaDoorW.PrintMore
attribute [local go_sem] max2_int min2_int max_two min_two max_three min_three max_four min_four   -- for this text's walks alone
set_option linter.unusedVariables false
set_option linter.unusedSimpArgs false
def errW : Option Int → Value
  | none => .nilIface
  | some c => .iface 0 (.int .i64 c)
theorem errW_none : errW none = .nilIface := rfl
theorem errW_some (c : Int) : errW (some c) = .iface 0 (.int .i64 c) := rfl
theorem info63 : (Tryd.prog.info? 63).map (fun i => (i.zero, i.size, i.bytes)) = some (some (.int .u32 0), 1, 4) := by kernel_rfl
-- the values' own types
end Go.Proofs.YthhpnlbeniihhaaDoor.PAwk
-- Printed by a program of this session's (wip/tools/printr.py, over the kit's print program).
namespace Go.Proofs.YthhpnlbeniihhaaDoor.PAwk
open Go.RowKit Go.Proofs.YthhpnlbeniihhaaDoorW.PrintWords Go.Proofs.YthhpnlbeniihhaaDoorW.PrintLast Go.Proofs.YthhpnlbeniihhaaDoorW.PrintMore
attribute [local go_sem] max2_int min2_int max_two min_two max_three min_three max_four min_four   -- for this text's walks alone
set_option linter.unusedVariables false
set_option linter.unusedSimpArgs false
-- given
-- given
-- given
-- given
-- given
def morainelaw02_awake.f  : Option (Bool) := (num_Parse.f (⟨#[45, 48, 48, 55]⟩ : ByteArray)).bind fun bt101 => ((num_Parse.f (⟨#[43]⟩ : ByteArray)).bind fun bt107 => ((num_Of.f (-7)).bind fun bt113 => ((num_Of.f 2).bind fun bt117 => ((num_Mod.f bt113.1 bt113.2 bt117.1 bt117.2).bind fun bt121 => ((num_Of.f 7).bind fun bt127 => ((num_Of.f 0).bind fun bt131 => ((num_Quo.f bt127.1 bt127.2 bt131.1 bt131.2).bind fun bt135 => (if bt101.2.2 = 0 then ((num_Text.f bt101.1 bt101.2.1).bind fun t141 => (if t141.toList = ([45, 55] : List UInt8) then (if bt107.2.2 = 9 then (if bt121.2.2 = 0 then ((num_Text.f bt121.1 bt121.2.1).bind fun t142 => (if t142.toList = ([49] : List UInt8) then (if bt135.2.2 = 13 then ((num_Text.f false (([0, 1] : List Int))).bind fun t146 => (some (t146.toList == ([52, 50, 57, 52, 57, 54, 55, 50, 57, 54] : List UInt8)))) else (some false)) else (some false))) else (some false)) else (some false)) else (some false))) else (some false)))))))))
set_option maxHeartbeats 8000000 in
set_option maxRecDepth 100000 in
theorem morainelaw02_awake.calls  (r : Bool) (w : World) (hr : r = true) (h : morainelaw02_awake.f  = some r) (ht : NumV.Tab w) :
  Calls Tryd.prog 20 #[] w fun e w' => e = .returned (.bool r) ∧ Below w.heap.size w w' := by
 have HT := Aside0.mk ht
 clear ht
 have hu25 := Tryd.underlying25
 have HB := Aside0.mk (Below.refl w.heap.size w)
 have H : ((num_Parse.f (⟨#[45, 48, 48, 55]⟩ : ByteArray)).bind fun bt101 => ((num_Parse.f (⟨#[43]⟩ : ByteArray)).bind fun bt107 => ((num_Of.f (-7)).bind fun bt113 => ((num_Of.f 2).bind fun bt117 => ((num_Mod.f bt113.1 bt113.2 bt117.1 bt117.2).bind fun bt121 => ((num_Of.f 7).bind fun bt127 => ((num_Of.f 0).bind fun bt131 => ((num_Quo.f bt127.1 bt127.2 bt131.1 bt131.2).bind fun bt135 => (if bt101.2.2 = 0 then ((num_Text.f bt101.1 bt101.2.1).bind fun t141 => (if t141.toList = ([45, 55] : List UInt8) then (if bt107.2.2 = 9 then (if bt121.2.2 = 0 then ((num_Text.f bt121.1 bt121.2.1).bind fun t142 => (if t142.toList = ([49] : List UInt8) then (if bt135.2.2 = 13 then ((num_Text.f false (([0, 1] : List Int))).bind fun t146 => (some (t146.toList == ([52, 50, 57, 52, 57, 54, 55, 50, 57, 54] : List UInt8)))) else (some false)) else (some false))) else (some false)) else (some false)) else (some false))) else (some false)))))))))) = some r := h
 clear h
 replace H := Option.bind_eq_some_iff.mp H
 obtain ⟨⟨t101, t102, t105⟩, A10, H⟩ := H
 replace H : ((num_Parse.f (⟨#[43]⟩ : ByteArray)).bind fun bt107 => ((num_Of.f (-7)).bind fun bt113 => ((num_Of.f 2).bind fun bt117 => ((num_Mod.f bt113.1 bt113.2 bt117.1 bt117.2).bind fun bt121 => ((num_Of.f 7).bind fun bt127 => ((num_Of.f 0).bind fun bt131 => ((num_Quo.f bt127.1 bt127.2 bt131.1 bt131.2).bind fun bt135 => (if t105 = 0 then ((num_Text.f t101 t102).bind fun t141 => (if t141.toList = ([45, 55] : List UInt8) then (if bt107.2.2 = 9 then (if bt121.2.2 = 0 then ((num_Text.f bt121.1 bt121.2.1).bind fun t142 => (if t142.toList = ([49] : List UInt8) then (if bt135.2.2 = 13 then ((num_Text.f false (([0, 1] : List Int))).bind fun t146 => (some (t146.toList == ([52, 50, 57, 52, 57, 54, 55, 50, 57, 54] : List UInt8)))) else (some false)) else (some false))) else (some false)) else (some false)) else (some false))) else (some false))))))))) = some r := H
 have A1 := Aside0.mk A10
 clear A10
 replace H := Option.bind_eq_some_iff.mp H
 obtain ⟨⟨t107, t108, t111⟩, A20, H⟩ := H
 replace H : ((num_Of.f (-7)).bind fun bt113 => ((num_Of.f 2).bind fun bt117 => ((num_Mod.f bt113.1 bt113.2 bt117.1 bt117.2).bind fun bt121 => ((num_Of.f 7).bind fun bt127 => ((num_Of.f 0).bind fun bt131 => ((num_Quo.f bt127.1 bt127.2 bt131.1 bt131.2).bind fun bt135 => (if t105 = 0 then ((num_Text.f t101 t102).bind fun t141 => (if t141.toList = ([45, 55] : List UInt8) then (if t111 = 9 then (if bt121.2.2 = 0 then ((num_Text.f bt121.1 bt121.2.1).bind fun t142 => (if t142.toList = ([49] : List UInt8) then (if bt135.2.2 = 13 then ((num_Text.f false (([0, 1] : List Int))).bind fun t146 => (some (t146.toList == ([52, 50, 57, 52, 57, 54, 55, 50, 57, 54] : List UInt8)))) else (some false)) else (some false))) else (some false)) else (some false)) else (some false))) else (some false)))))))) = some r := H
 have A2 := Aside0.mk A20
 clear A20
 replace H := Option.bind_eq_some_iff.mp H
 obtain ⟨⟨t113, t114⟩, A30, H⟩ := H
 replace H : ((num_Of.f 2).bind fun bt117 => ((num_Mod.f t113 t114 bt117.1 bt117.2).bind fun bt121 => ((num_Of.f 7).bind fun bt127 => ((num_Of.f 0).bind fun bt131 => ((num_Quo.f bt127.1 bt127.2 bt131.1 bt131.2).bind fun bt135 => (if t105 = 0 then ((num_Text.f t101 t102).bind fun t141 => (if t141.toList = ([45, 55] : List UInt8) then (if t111 = 9 then (if bt121.2.2 = 0 then ((num_Text.f bt121.1 bt121.2.1).bind fun t142 => (if t142.toList = ([49] : List UInt8) then (if bt135.2.2 = 13 then ((num_Text.f false (([0, 1] : List Int))).bind fun t146 => (some (t146.toList == ([52, 50, 57, 52, 57, 54, 55, 50, 57, 54] : List UInt8)))) else (some false)) else (some false))) else (some false)) else (some false)) else (some false))) else (some false))))))) = some r := H
 have A3 := Aside0.mk A30
 clear A30
 replace H := Option.bind_eq_some_iff.mp H
 obtain ⟨⟨t117, t118⟩, A40, H⟩ := H
 replace H : ((num_Mod.f t113 t114 t117 t118).bind fun bt121 => ((num_Of.f 7).bind fun bt127 => ((num_Of.f 0).bind fun bt131 => ((num_Quo.f bt127.1 bt127.2 bt131.1 bt131.2).bind fun bt135 => (if t105 = 0 then ((num_Text.f t101 t102).bind fun t141 => (if t141.toList = ([45, 55] : List UInt8) then (if t111 = 9 then (if bt121.2.2 = 0 then ((num_Text.f bt121.1 bt121.2.1).bind fun t142 => (if t142.toList = ([49] : List UInt8) then (if bt135.2.2 = 13 then ((num_Text.f false (([0, 1] : List Int))).bind fun t146 => (some (t146.toList == ([52, 50, 57, 52, 57, 54, 55, 50, 57, 54] : List UInt8)))) else (some false)) else (some false))) else (some false)) else (some false)) else (some false))) else (some false)))))) = some r := H
 have A4 := Aside0.mk A40
 clear A40
 replace H := Option.bind_eq_some_iff.mp H
 obtain ⟨⟨t121, t122, t125⟩, A50, H⟩ := H
 replace H : ((num_Of.f 7).bind fun bt127 => ((num_Of.f 0).bind fun bt131 => ((num_Quo.f bt127.1 bt127.2 bt131.1 bt131.2).bind fun bt135 => (if t105 = 0 then ((num_Text.f t101 t102).bind fun t141 => (if t141.toList = ([45, 55] : List UInt8) then (if t111 = 9 then (if t125 = 0 then ((num_Text.f t121 t122).bind fun t142 => (if t142.toList = ([49] : List UInt8) then (if bt135.2.2 = 13 then ((num_Text.f false (([0, 1] : List Int))).bind fun t146 => (some (t146.toList == ([52, 50, 57, 52, 57, 54, 55, 50, 57, 54] : List UInt8)))) else (some false)) else (some false))) else (some false)) else (some false)) else (some false))) else (some false))))) = some r := H
 have A5 := Aside0.mk A50
 clear A50
 replace H := Option.bind_eq_some_iff.mp H
 obtain ⟨⟨t127, t128⟩, A60, H⟩ := H
 replace H : ((num_Of.f 0).bind fun bt131 => ((num_Quo.f t127 t128 bt131.1 bt131.2).bind fun bt135 => (if t105 = 0 then ((num_Text.f t101 t102).bind fun t141 => (if t141.toList = ([45, 55] : List UInt8) then (if t111 = 9 then (if t125 = 0 then ((num_Text.f t121 t122).bind fun t142 => (if t142.toList = ([49] : List UInt8) then (if bt135.2.2 = 13 then ((num_Text.f false (([0, 1] : List Int))).bind fun t146 => (some (t146.toList == ([52, 50, 57, 52, 57, 54, 55, 50, 57, 54] : List UInt8)))) else (some false)) else (some false))) else (some false)) else (some false)) else (some false))) else (some false)))) = some r := H
 have A6 := Aside0.mk A60
 clear A60
 replace H := Option.bind_eq_some_iff.mp H
 obtain ⟨⟨t131, t132⟩, A70, H⟩ := H
 replace H : ((num_Quo.f t127 t128 t131 t132).bind fun bt135 => (if t105 = 0 then ((num_Text.f t101 t102).bind fun t141 => (if t141.toList = ([45, 55] : List UInt8) then (if t111 = 9 then (if t125 = 0 then ((num_Text.f t121 t122).bind fun t142 => (if t142.toList = ([49] : List UInt8) then (if bt135.2.2 = 13 then ((num_Text.f false (([0, 1] : List Int))).bind fun t146 => (some (t146.toList == ([52, 50, 57, 52, 57, 54, 55, 50, 57, 54] : List UInt8)))) else (some false)) else (some false))) else (some false)) else (some false)) else (some false))) else (some false))) = some r := H
 have A7 := Aside0.mk A70
 clear A70
 replace H := Option.bind_eq_some_iff.mp H
 obtain ⟨⟨t135, t136, t139⟩, A80, H⟩ := H
 replace H : (if t105 = 0 then ((num_Text.f t101 t102).bind fun t141 => (if t141.toList = ([45, 55] : List UInt8) then (if t111 = 9 then (if t125 = 0 then ((num_Text.f t121 t122).bind fun t142 => (if t142.toList = ([49] : List UInt8) then (if t139 = 13 then ((num_Text.f false (([0, 1] : List Int))).bind fun t146 => (some (t146.toList == ([52, 50, 57, 52, 57, 54, 55, 50, 57, 54] : List UInt8)))) else (some false)) else (some false))) else (some false)) else (some false)) else (some false))) else (some false)) = some r := H
 have A8 := Aside0.mk A80
 clear A80
 by_cases c9 : t105 = 0
 ·rw [if_pos c9] at H
  have c9b0 : (t105 == 0) = true := beq_iff_eq.mpr c9
  have c9b1 : (t105 != 0) = false := bne_eq_false_iff_eq.mpr c9
  clear c9
  replace H := Option.bind_eq_some_iff.mp H
  obtain ⟨t141, A100, H⟩ := H
  replace H : (if t141.toList = ([45, 55] : List UInt8) then (if t111 = 9 then (if t125 = 0 then ((num_Text.f t121 t122).bind fun t142 => (if t142.toList = ([49] : List UInt8) then (if t139 = 13 then ((num_Text.f false (([0, 1] : List Int))).bind fun t146 => (some (t146.toList == ([52, 50, 57, 52, 57, 54, 55, 50, 57, 54] : List UInt8)))) else (some false)) else (some false))) else (some false)) else (some false)) else (some false)) = some r := H
  have A10 := Aside0.mk A100
  clear A100
  by_cases c11 : t141.toList = ([45, 55] : List UInt8)
  ·rw [if_pos c11] at H
   have c11b0 : (t141.toList == ([45, 55] : List UInt8)) = true := beq_iff_eq.mpr c11
   have c11b1 : (t141.toList != ([45, 55] : List UInt8)) = false := bne_eq_false_iff_eq.mpr c11
   clear c11
   by_cases c12 : t111 = 9
   ·rw [if_pos c12] at H
    have c12b0 : (t111 == 9) = true := beq_iff_eq.mpr c12
    have c12b1 : (t111 != 9) = false := bne_eq_false_iff_eq.mpr c12
    clear c12
    by_cases c13 : t125 = 0
    ·rw [if_pos c13] at H
     have c13b0 : (t125 == 0) = true := beq_iff_eq.mpr c13
     have c13b1 : (t125 != 0) = false := bne_eq_false_iff_eq.mpr c13
     clear c13
     replace H := Option.bind_eq_some_iff.mp H
     obtain ⟨t142, A140, H⟩ := H
     replace H : (if t142.toList = ([49] : List UInt8) then (if t139 = 13 then ((num_Text.f false (([0, 1] : List Int))).bind fun t146 => (some (t146.toList == ([52, 50, 57, 52, 57, 54, 55, 50, 57, 54] : List UInt8)))) else (some false)) else (some false)) = some r := H
     have A14 := Aside0.mk A140
     clear A140
     by_cases c15 : t142.toList = ([49] : List UInt8)
     ·rw [if_pos c15] at H
      have c15b0 : (t142.toList == ([49] : List UInt8)) = true := beq_iff_eq.mpr c15
      have c15b1 : (t142.toList != ([49] : List UInt8)) = false := bne_eq_false_iff_eq.mpr c15
      clear c15
      by_cases c16 : t139 = 13
      ·rw [if_pos c16] at H
       have c16b0 : (t139 == 13) = true := beq_iff_eq.mpr c16
       have c16b1 : (t139 != 13) = false := bne_eq_false_iff_eq.mpr c16
       clear c16
       obtain ⟨y143, hy143⟩ : ∃ y_ : List Int, y_ = (([0, 1] : List Int)) := ⟨_, rfl⟩
       replace H : ((num_Text.f false y143).bind fun t146 => (some (t146.toList == ([52, 50, 57, 52, 57, 54, 55, 50, 57, 54] : List UInt8)))) = some r := by first | (rw [hy143]; with_reducible exact H) | (have H2_ := (Option.bind_some _ _).symm.trans H; rw [hy143]; with_reducible exact H2_) | (have H2_ := (Option.bind_some _ _).symm.trans H; with_reducible exact H2_) | with_reducible exact H | (rw [hy143]; exact H) | exact H
       have Ny143 := Aside0.mk hy143
       clear hy143
       replace H := Option.bind_eq_some_iff.mp H
       obtain ⟨t146, A170, H⟩ := H
       replace H : (some (t146.toList == ([52, 50, 57, 52, 57, 54, 55, 50, 57, 54] : List UInt8))) = some r := H
       have A17 := Aside0.mk A170
       clear A170
       obtain rfl := Option.some.inj H
       go_enter Tryd.func20, Tryd.ntmps20
       go_wp2_with (first | ((with_reducible refine gate_callee (f := 25) rfl ?_); refine goesL_ (some 10) rfl rfl Tryd.func25 (by kernel_rfl) rfl #[.string (⟨#[45, 48, 48, 55]⟩ : ByteArray)] rfl (by (try simp only [zM, zO, zP]); first|done|rfl) ?_; (with_reducible refine (num_Parse.calls (⟨#[45, 48, 48, 55]⟩ : ByteArray) t101 t102 t105 _ A1.out).mono ?_); rintro e w18 ⟨v103, rfl, ho0, hb⟩; refine ⟨_, rfl, ?_⟩; have HO104 := Aside0.mk (Kd.R_lower ho0 (below_size (by repeat (first | (with_reducible first | exact HB.out | apply qx | apply qv | apply qw) | exact HB.out)))); replace HB := Aside0.mk (below_step (by repeat (first | (with_reducible first | exact HB.out | apply qx | apply qv | apply qw) | exact HB.out)) hb); (try clear hb); (try clear hb2); (try clear hk); (try clear hi); (try clear ho0)) | ((with_reducible refine gate_dst (N := 1) rfl ?_); (try (refine gate_guard (by rfl) ?_; dsimp only)); refine box_event ?hg (N := 1) ?hd (cs := #[.bool false, .slice none 0 0]) (t := 25) ?hr ?_; (case hd => rfl); (case hg => rfl); (case hr => go_simp <;> rfl); intro gb106 hg w19 hbox hb; replace HO104 := qr HO104 hb; have BK106 := Aside0.mk (hbox); have GW106 := qg hg (by repeat (first | (with_reducible first | exact HB.out | apply qx | apply qv | apply qw) | exact HB.out)); have GE106 := GW106; replace HB := Aside0.mk (below_step (by repeat (first | (with_reducible first | exact HB.out | apply qx | apply qv | apply qw) | exact HB.out)) hb); clear hb hbox hg; have hcz20_0 : w19.cell? ⟨gb106, 0, none⟩ = some (.bool false) := qc BK106 0; have hcz20_1 : w19.cell? ⟨gb106, 1, none⟩ = some (.slice none 0 0) := qc BK106 1; have hfz20_0 := blk_frozen BK106.out 0; have hfz20_1 := blk_frozen BK106.out 1; obtain ⟨Ao21, co21, eo21⟩ := Kd.R_slice HO104.out; subst eo21) | ((with_reducible refine gate_callee (f := 25) rfl ?_); refine goesL_ (some 14) rfl rfl Tryd.func25 (by kernel_rfl) rfl #[.string (⟨#[43]⟩ : ByteArray)] rfl (by (try simp only [zM, zO, zP]); first|done|rfl) ?_; (with_reducible refine (num_Parse.calls (⟨#[43]⟩ : ByteArray) t107 t108 t111 _ A2.out).mono ?_); rintro e w22 ⟨v109, rfl, ho0, hb⟩; refine ⟨_, rfl, ?_⟩; have n0_ := Aside0.mk (Kd.R_elder' (by (with_reducible repeat first|apply Kd.R_alloc|apply Kd.R_drewN|apply Kd.R_drew); exact (Kd.R_mono (qz HO104 BK106 (by decide) (.bool t101) (.slice Ao21 t102.length co21)) (fun _ h_ => h_.1))) (Kd.R_base ho0) hb); have n1_ := Aside0.mk (Kd.R_lower (Kd.R_new' ho0 (Kd.R_lt (by (with_reducible repeat first|apply Kd.R_alloc|apply Kd.R_drewN|apply Kd.R_drew); exact (Kd.R_mono (qz HO104 BK106 (by decide) (.bool t101) (.slice Ao21 t102.length co21)) (fun _ h_ => h_.1))))) (below_size (by repeat (first | (with_reducible first | exact HB.out | apply qx | apply qv | apply qw | refine below_set ?_ GE106.out) | exact HB.out)))); have n2_ := Aside0.mk (blk_below (g := gb106) (o := .cells #[.bool t101, .slice Ao21 t102.length co21] 25 (0, 0)) (by (with_reducible repeat first|refine qN ?_ _|refine qW ?_|refine qA ?_ _); refine blk_put (cs := #[.bool t101, .slice none 0 0]) ?_ 1 _ rfl; (with_reducible repeat first|refine qN ?_ _|refine qW ?_|refine qA ?_ _); refine blk_put (cs := #[.bool false, .slice none 0 0]) ?_ 0 _ rfl; (with_reducible repeat first|refine qN ?_ _|refine qW ?_|refine qA ?_ _); exact BK106.out) hb); have n3_ := Aside0.mk (below_step (by repeat (first | (with_reducible first | exact HB.out | apply qx | apply qv | apply qw | refine below_set ?_ GE106.out) | exact HB.out)) hb); clear HO104; clear BK106; clear HB; have HO104 := n0_; have HO110 := n1_; have BK106 := n2_; have HB := n3_; clear n0_ n1_ n2_ n3_; (try clear hb); (try clear hb2); (try clear hk); (try clear hi); (try clear ho0)) | ((with_reducible refine gate_dst (N := 3) rfl ?_); (try (refine gate_guard (by rfl) ?_; dsimp only)); refine box_event ?hg (N := 3) ?hd (cs := #[.bool false, .slice none 0 0]) (t := 25) ?hr ?_; (case hd => rfl); (case hg => rfl); (case hr => go_simp <;> rfl); intro gb112 hg w23 hbox hb; replace HO104 := qr HO104 hb; replace HO110 := qr HO110 hb; have BK112 := Aside0.mk (hbox); have GW112 := qg hg (by repeat (first | (with_reducible first | exact HB.out | apply qx | apply qv | apply qw | refine below_set ?_ GE106.out) | exact HB.out)); have GE112 := GW112; replace HB := Aside0.mk (below_step (by repeat (first | (with_reducible first | exact HB.out | apply qx | apply qv | apply qw | refine below_set ?_ GE106.out) | exact HB.out)) hb); have NB106_112 := qn BK106 hg; have NB112_106 := qm BK106 hg; replace BK106 := qb BK106 hb; clear hb hbox hg; have hnb24 := NB112_106.out; have hnc24 := NB106_112.out; have hcz25_0 : w23.cell? ⟨gb112, 0, none⟩ = some (.bool false) := qc BK112 0; have hcz25_1 : w23.cell? ⟨gb112, 1, none⟩ = some (.slice none 0 0) := qc BK112 1; have hfz25_0 := blk_frozen BK112.out 0; have hfz25_1 := blk_frozen BK112.out 1; obtain ⟨Ao26, co26, eo26⟩ := Kd.R_slice HO110.out; subst eo26) | ((with_reducible refine gate_callee (f := 18) rfl ?_); refine goesL_ (some 18) rfl rfl Tryd.func18 (by kernel_rfl) rfl #[.int .i64 (-7)] rfl (by (try simp only [zM, zO, zP]); first|done|rfl) ?_; (with_reducible refine (num_Of.calls (-7) t113 t114 _ A3.out).mono ?_); rintro e w27 ⟨v115, rfl, ho0, hb⟩; refine ⟨_, rfl, ?_⟩; have n0_ := Aside0.mk (Kd.R_elder' (by (with_reducible repeat first|apply Kd.R_alloc|apply Kd.R_drewN|apply Kd.R_drew); exact (Kd.R_mono (qz HO104 BK112 (by decide) (.bool t107) (.slice Ao26 t108.length co26)) (fun _ h_ => h_.1))) (Kd.R_base ho0) hb); have n1_ := Aside0.mk (Kd.R_elder' (by (with_reducible repeat first|apply Kd.R_alloc|apply Kd.R_drewN|apply Kd.R_drew); exact (Kd.R_mono (qz HO110 BK112 (by decide) (.bool t107) (.slice Ao26 t108.length co26)) (fun _ h_ => h_.1))) (Kd.R_base ho0) hb); have n2_ := Aside0.mk (Kd.R_lower (Kd.R_new' (Kd.R_new' ho0 (Kd.R_lt (by (with_reducible repeat first|apply Kd.R_alloc|apply Kd.R_drewN|apply Kd.R_drew); exact (Kd.R_mono (qz HO104 BK112 (by decide) (.bool t107) (.slice Ao26 t108.length co26)) (fun _ h_ => h_.1))))) (Kd.R_lt (by (with_reducible repeat first|apply Kd.R_alloc|apply Kd.R_drewN|apply Kd.R_drew); exact (Kd.R_mono (qz HO110 BK112 (by decide) (.bool t107) (.slice Ao26 t108.length co26)) (fun _ h_ => h_.1))))) (below_size (by repeat with_reducible first|exact HB.out|apply qx|apply qv|apply qw|refine qs ?_ (by assumption)))); have n3_ := Aside0.mk (blk_below (g := gb106) (o := .cells #[.bool t101, .slice Ao21 t102.length co21] 25 (0, 0)) (by (with_reducible repeat first|refine qN ?_ _|refine qW ?_|refine qA ?_ _); refine qf ?_ NB106_112; (with_reducible repeat first|refine qN ?_ _|refine qW ?_|refine qA ?_ _); exact BK106.out) hb); have n4_ := Aside0.mk (blk_below (g := gb112) (o := .cells #[.bool t107, .slice Ao26 t108.length co26] 25 (0, 0)) (by (with_reducible repeat first|refine qN ?_ _|refine qW ?_|refine qA ?_ _); refine blk_put (cs := #[.bool t107, .slice none 0 0]) ?_ 1 _ rfl; (with_reducible repeat first|refine qN ?_ _|refine qW ?_|refine qA ?_ _); refine blk_put (cs := #[.bool false, .slice none 0 0]) ?_ 0 _ rfl; (with_reducible repeat first|refine qN ?_ _|refine qW ?_|refine qA ?_ _); exact BK112.out) hb); have n5_ := Aside0.mk (below_step (by repeat with_reducible first|exact HB.out|apply qx|apply qv|apply qw|refine qs ?_ (by assumption)) hb); clear HO104; clear HO110; clear BK106; clear BK112; clear HB; have HO104 := n0_; have HO110 := n1_; have HO116 := n2_; have BK106 := n3_; have BK112 := n4_; have HB := n5_; clear n0_ n1_ n2_ n3_ n4_ n5_; (try clear hb); (try clear hb2); (try clear hk); (try clear hi); (try clear ho0)) | ((with_reducible refine gate_callee (f := 18) rfl ?_); refine goesL_ (some 19) rfl rfl Tryd.func18 (by kernel_rfl) rfl #[.int .i64 2] rfl (by (try simp only [zM, zO, zP]); first|done|rfl) ?_; (with_reducible refine (num_Of.calls 2 t117 t118 _ A4.out).mono ?_); rintro e w28 ⟨v119, rfl, ho0, hb⟩; refine ⟨_, rfl, ?_⟩; have HO120 := Aside0.mk (Kd.R_lower (Kd.R_new' (Kd.R_new' (Kd.R_new' ho0 (ql HO104)) (ql HO110)) (ql HO116)) (below_size (by repeat with_reducible first|exact HB.out|apply qx|apply qv|apply qw|refine qs ?_ (by assumption)))); replace HO104 := qe HO104 ho0 hb; replace HO110 := qe HO110 ho0 hb; replace HO116 := qe HO116 ho0 hb; replace BK106 := qb BK106 hb; replace BK112 := qb BK112 hb; replace HB := Aside0.mk (below_step (by repeat with_reducible first|exact HB.out|apply qx|apply qv|apply qw|refine qs ?_ (by assumption)) hb); (try clear hb); (try clear hb2); (try clear hk); (try clear hi); (try clear ho0); obtain ⟨Ao29, co29, eo29⟩ := Kd.R_slice HO116.out; subst eo29; obtain ⟨Ao30, co30, eo30⟩ := Kd.R_slice HO120.out; subst eo30) | ((with_reducible refine gate_callee (f := 31) rfl ?_); refine goesL_ (some 20) rfl rfl Tryd.func31 (by kernel_rfl) rfl #[.agg #[.bool t113, .slice Ao29 t114.length co29], .agg #[.bool t117, .slice Ao30 t118.length co30]] rfl (by (try simp only [zM, zO, zP]); first|done|rfl) ?_; (with_reducible refine (num_Mod.calls t113 _ _ t114 t117 _ _ t118 t121 t122 t125 _ ?side1 ?side2 ?side3 ?side4 A5.out).mono ?_); (case side1 => repeat (first | exact (Kd.R_reads' HO116.out).2.2 | (with_reducible first|refine Kd.C_alloc ?_ _|refine Kd.C_drewN ?_ _|refine Kd.C_drew ?_))); (case side2 => exact (Kd.R_reads' HO116.out).2.1); (case side3 => repeat (first | exact (Kd.R_reads' HO120.out).2.2 | (with_reducible first|refine Kd.C_alloc ?_ _|refine Kd.C_drewN ?_ _|refine Kd.C_drew ?_))); (case side4 => exact (Kd.R_reads' HO120.out).2.1); rintro e w31 ⟨v123, rfl, ho0, hb⟩; refine ⟨_, rfl, ?_⟩; have HO124 := Aside0.mk (Kd.R_lower (Kd.R_new' (Kd.R_new' (Kd.R_new' (Kd.R_new' ho0 (ql HO104)) (ql HO110)) (ql HO116)) (ql HO120)) (below_size (by repeat with_reducible first|exact HB.out|apply qx|apply qv|apply qw|refine qs ?_ (by assumption)))); replace HO104 := qe HO104 ho0 hb; replace HO110 := qe HO110 ho0 hb; replace HO116 := qe HO116 ho0 hb; replace HO120 := qe HO120 ho0 hb; replace BK106 := qb BK106 hb; replace BK112 := qb BK112 hb; replace HB := Aside0.mk (below_step (by repeat with_reducible first|exact HB.out|apply qx|apply qv|apply qw|refine qs ?_ (by assumption)) hb); (try clear hb); (try clear hb2); (try clear hk); (try clear hi); (try clear ho0)) | ((with_reducible refine gate_dst (N := 5) rfl ?_); (try (refine gate_guard (by rfl) ?_; dsimp only)); refine box_event ?hg (N := 5) ?hd (cs := #[.bool false, .slice none 0 0]) (t := 25) ?hr ?_; (case hd => rfl); (case hg => rfl); (case hr => go_simp <;> rfl); intro gb126 hg w32 hbox hb; replace HO104 := qr HO104 hb; replace HO110 := qr HO110 hb; replace HO116 := qr HO116 hb; replace HO120 := qr HO120 hb; replace HO124 := qr HO124 hb; have BK126 := Aside0.mk (hbox); have GW126 := qg hg (by repeat with_reducible first|exact HB.out|apply qx|apply qv|apply qw|refine qs ?_ (by assumption)); have GE126 := GW126; replace HB := Aside0.mk (below_step (by repeat with_reducible first|exact HB.out|apply qx|apply qv|apply qw|refine qs ?_ (by assumption)) hb); have NB106_126 := qn BK106 hg; have NB126_106 := qm BK106 hg; replace BK106 := qb BK106 hb; have NB112_126 := qn BK112 hg; have NB126_112 := qm BK112 hg; replace BK112 := qb BK112 hb; clear hb hbox hg; have hnb33 := NB126_106.out; have hnc33 := NB106_126.out; have hnb34 := NB126_112.out; have hnc34 := NB112_126.out; have hcz35_0 : w32.cell? ⟨gb126, 0, none⟩ = some (.bool false) := qc BK126 0; have hcz35_1 : w32.cell? ⟨gb126, 1, none⟩ = some (.slice none 0 0) := qc BK126 1; have hfz35_0 := blk_frozen BK126.out 0; have hfz35_1 := blk_frozen BK126.out 1; obtain ⟨Ao36, co36, eo36⟩ := Kd.R_slice HO124.out; subst eo36) | ((with_reducible refine gate_callee (f := 18) rfl ?_); refine goesL_ (some 24) rfl rfl Tryd.func18 (by kernel_rfl) rfl #[.int .i64 7] rfl (by (try simp only [zM, zO, zP]); first|done|rfl) ?_; (with_reducible refine (num_Of.calls 7 t127 t128 _ A6.out).mono ?_); rintro e w37 ⟨v129, rfl, ho0, hb⟩; refine ⟨_, rfl, ?_⟩; have n0_ := Aside0.mk (Kd.R_elder' (by (with_reducible repeat first|apply Kd.R_alloc|apply Kd.R_drewN|apply Kd.R_drew); exact (Kd.R_mono (qz HO104 BK126 (by decide) (.bool t121) (.slice Ao36 t122.length co36)) (fun _ h_ => h_.1))) (Kd.R_base ho0) hb); have n1_ := Aside0.mk (Kd.R_elder' (by (with_reducible repeat first|apply Kd.R_alloc|apply Kd.R_drewN|apply Kd.R_drew); exact (Kd.R_mono (qz HO110 BK126 (by decide) (.bool t121) (.slice Ao36 t122.length co36)) (fun _ h_ => h_.1))) (Kd.R_base ho0) hb); have n2_ := Aside0.mk (Kd.R_elder' (by (with_reducible repeat first|apply Kd.R_alloc|apply Kd.R_drewN|apply Kd.R_drew); exact (Kd.R_mono (qz HO116 BK126 (by decide) (.bool t121) (.slice Ao36 t122.length co36)) (fun _ h_ => h_.1))) (Kd.R_base ho0) hb); have n3_ := Aside0.mk (Kd.R_elder' (by (with_reducible repeat first|apply Kd.R_alloc|apply Kd.R_drewN|apply Kd.R_drew); exact (Kd.R_mono (qz HO120 BK126 (by decide) (.bool t121) (.slice Ao36 t122.length co36)) (fun _ h_ => h_.1))) (Kd.R_base ho0) hb); have n4_ := Aside0.mk (Kd.R_elder' (by (with_reducible repeat first|apply Kd.R_alloc|apply Kd.R_drewN|apply Kd.R_drew); exact (Kd.R_mono (qz HO124 BK126 (by decide) (.bool t121) (.slice Ao36 t122.length co36)) (fun _ h_ => h_.1))) (Kd.R_base ho0) hb); have n5_ := Aside0.mk (Kd.R_lower (Kd.R_new' (Kd.R_new' (Kd.R_new' (Kd.R_new' (Kd.R_new' ho0 (Kd.R_lt (by (with_reducible repeat first|apply Kd.R_alloc|apply Kd.R_drewN|apply Kd.R_drew); exact (Kd.R_mono (qz HO104 BK126 (by decide) (.bool t121) (.slice Ao36 t122.length co36)) (fun _ h_ => h_.1))))) (Kd.R_lt (by (with_reducible repeat first|apply Kd.R_alloc|apply Kd.R_drewN|apply Kd.R_drew); exact (Kd.R_mono (qz HO110 BK126 (by decide) (.bool t121) (.slice Ao36 t122.length co36)) (fun _ h_ => h_.1))))) (Kd.R_lt (by (with_reducible repeat first|apply Kd.R_alloc|apply Kd.R_drewN|apply Kd.R_drew); exact (Kd.R_mono (qz HO116 BK126 (by decide) (.bool t121) (.slice Ao36 t122.length co36)) (fun _ h_ => h_.1))))) (Kd.R_lt (by (with_reducible repeat first|apply Kd.R_alloc|apply Kd.R_drewN|apply Kd.R_drew); exact (Kd.R_mono (qz HO120 BK126 (by decide) (.bool t121) (.slice Ao36 t122.length co36)) (fun _ h_ => h_.1))))) (Kd.R_lt (by (with_reducible repeat first|apply Kd.R_alloc|apply Kd.R_drewN|apply Kd.R_drew); exact (Kd.R_mono (qz HO124 BK126 (by decide) (.bool t121) (.slice Ao36 t122.length co36)) (fun _ h_ => h_.1))))) (below_size (by repeat with_reducible first|exact HB.out|apply qx|apply qv|apply qw|refine qs ?_ (by assumption)))); have n6_ := Aside0.mk (blk_below (g := gb106) (o := .cells #[.bool t101, .slice Ao21 t102.length co21] 25 (0, 0)) (by (with_reducible repeat first|refine qN ?_ _|refine qW ?_|refine qA ?_ _); refine qf ?_ NB106_126; (with_reducible repeat first|refine qN ?_ _|refine qW ?_|refine qA ?_ _); exact BK106.out) hb); have n7_ := Aside0.mk (blk_below (g := gb112) (o := .cells #[.bool t107, .slice Ao26 t108.length co26] 25 (0, 0)) (by (with_reducible repeat first|refine qN ?_ _|refine qW ?_|refine qA ?_ _); refine qf ?_ NB112_126; (with_reducible repeat first|refine qN ?_ _|refine qW ?_|refine qA ?_ _); exact BK112.out) hb); have n8_ := Aside0.mk (blk_below (g := gb126) (o := .cells #[.bool t121, .slice Ao36 t122.length co36] 25 (0, 0)) (by (with_reducible repeat first|refine qN ?_ _|refine qW ?_|refine qA ?_ _); refine blk_put (cs := #[.bool t121, .slice none 0 0]) ?_ 1 _ rfl; (with_reducible repeat first|refine qN ?_ _|refine qW ?_|refine qA ?_ _); refine blk_put (cs := #[.bool false, .slice none 0 0]) ?_ 0 _ rfl; (with_reducible repeat first|refine qN ?_ _|refine qW ?_|refine qA ?_ _); exact BK126.out) hb); have n9_ := Aside0.mk (below_step (by repeat with_reducible first|exact HB.out|apply qx|apply qv|apply qw|refine qs ?_ (by assumption)) hb); clear HO104; clear HO110; clear HO116; clear HO120; clear HO124; clear BK106; clear BK112; clear BK126; clear HB; have HO104 := n0_; have HO110 := n1_; have HO116 := n2_; have HO120 := n3_; have HO124 := n4_; have HO130 := n5_; have BK106 := n6_; have BK112 := n7_; have BK126 := n8_; have HB := n9_; clear n0_ n1_ n2_ n3_ n4_ n5_ n6_ n7_ n8_ n9_; (try clear hb); (try clear hb2); (try clear hk); (try clear hi); (try clear ho0)) | ((with_reducible refine gate_callee (f := 18) rfl ?_); refine goesL_ (some 25) rfl rfl Tryd.func18 (by kernel_rfl) rfl #[.int .i64 0] rfl (by (try simp only [zM, zO, zP]); first|done|rfl) ?_; (with_reducible refine (num_Of.calls 0 t131 t132 _ A7.out).mono ?_); rintro e w38 ⟨v133, rfl, ho0, hb⟩; refine ⟨_, rfl, ?_⟩; have HO134 := Aside0.mk (Kd.R_lower (Kd.R_new' (Kd.R_new' (Kd.R_new' (Kd.R_new' (Kd.R_new' (Kd.R_new' ho0 (ql HO104)) (ql HO110)) (ql HO116)) (ql HO120)) (ql HO124)) (ql HO130)) (below_size (by repeat with_reducible first|exact HB.out|apply qx|apply qv|apply qw|refine qs ?_ (by assumption)))); replace HO104 := qe HO104 ho0 hb; replace HO110 := qe HO110 ho0 hb; replace HO116 := qe HO116 ho0 hb; replace HO120 := qe HO120 ho0 hb; replace HO124 := qe HO124 ho0 hb; replace HO130 := qe HO130 ho0 hb; replace BK106 := qb BK106 hb; replace BK112 := qb BK112 hb; replace BK126 := qb BK126 hb; replace HB := Aside0.mk (below_step (by repeat with_reducible first|exact HB.out|apply qx|apply qv|apply qw|refine qs ?_ (by assumption)) hb); (try clear hb); (try clear hb2); (try clear hk); (try clear hi); (try clear ho0); obtain ⟨Ao39, co39, eo39⟩ := Kd.R_slice HO130.out; subst eo39; obtain ⟨Ao40, co40, eo40⟩ := Kd.R_slice HO134.out; subst eo40) | ((with_reducible refine gate_callee (f := 29) rfl ?_); refine goesL_ (some 26) rfl rfl Tryd.func29 (by kernel_rfl) rfl #[.agg #[.bool t127, .slice Ao39 t128.length co39], .agg #[.bool t131, .slice Ao40 t132.length co40]] rfl (by (try simp only [zM, zO, zP]); first|done|rfl) ?_; (with_reducible refine (num_Quo.calls t127 _ _ t128 t131 _ _ t132 t135 t136 t139 _ ?side1 ?side2 ?side3 ?side4 A8.out).mono ?_); (case side1 => repeat (first | exact (Kd.R_reads' HO130.out).2.2 | (with_reducible first|refine Kd.C_alloc ?_ _|refine Kd.C_drewN ?_ _|refine Kd.C_drew ?_))); (case side2 => exact (Kd.R_reads' HO130.out).2.1); (case side3 => repeat (first | exact (Kd.R_reads' HO134.out).2.2 | (with_reducible first|refine Kd.C_alloc ?_ _|refine Kd.C_drewN ?_ _|refine Kd.C_drew ?_))); (case side4 => exact (Kd.R_reads' HO134.out).2.1); rintro e w41 ⟨v137, rfl, ho0, hb⟩; refine ⟨_, rfl, ?_⟩; have HO138 := Aside0.mk (Kd.R_lower (Kd.R_new' (Kd.R_new' (Kd.R_new' (Kd.R_new' (Kd.R_new' (Kd.R_new' (Kd.R_new' ho0 (ql HO104)) (ql HO110)) (ql HO116)) (ql HO120)) (ql HO124)) (ql HO130)) (ql HO134)) (below_size (by repeat with_reducible first|exact HB.out|apply qx|apply qv|apply qw|refine qs ?_ (by assumption)))); replace HO104 := qe HO104 ho0 hb; replace HO110 := qe HO110 ho0 hb; replace HO116 := qe HO116 ho0 hb; replace HO120 := qe HO120 ho0 hb; replace HO124 := qe HO124 ho0 hb; replace HO130 := qe HO130 ho0 hb; replace HO134 := qe HO134 ho0 hb; replace BK106 := qb BK106 hb; replace BK112 := qb BK112 hb; replace BK126 := qb BK126 hb; replace HB := Aside0.mk (below_step (by repeat with_reducible first|exact HB.out|apply qx|apply qv|apply qw|refine qs ?_ (by assumption)) hb); (try clear hb); (try clear hb2); (try clear hk); (try clear hi); (try clear ho0)) | ((with_reducible refine gate_dst (N := 7) rfl ?_); (try (refine gate_guard (by rfl) ?_; dsimp only)); refine box_event ?hg (N := 7) ?hd (cs := #[.bool false, .slice none 0 0]) (t := 25) ?hr ?_; (case hd => rfl); (case hg => rfl); (case hr => go_simp <;> rfl); intro gb140 hg w42 hbox hb; replace HO104 := qr HO104 hb; replace HO110 := qr HO110 hb; replace HO116 := qr HO116 hb; replace HO120 := qr HO120 hb; replace HO124 := qr HO124 hb; replace HO130 := qr HO130 hb; replace HO134 := qr HO134 hb; replace HO138 := qr HO138 hb; have BK140 := Aside0.mk (hbox); have GW140 := qg hg (by repeat with_reducible first|exact HB.out|apply qx|apply qv|apply qw|refine qs ?_ (by assumption)); have GE140 := GW140; replace HB := Aside0.mk (below_step (by repeat with_reducible first|exact HB.out|apply qx|apply qv|apply qw|refine qs ?_ (by assumption)) hb); have NB106_140 := qn BK106 hg; have NB140_106 := qm BK106 hg; replace BK106 := qb BK106 hb; have NB112_140 := qn BK112 hg; have NB140_112 := qm BK112 hg; replace BK112 := qb BK112 hb; have NB126_140 := qn BK126 hg; have NB140_126 := qm BK126 hg; replace BK126 := qb BK126 hb; clear hb hbox hg; have hnb43 := NB140_106.out; have hnc43 := NB106_140.out; have hnb44 := NB140_112.out; have hnc44 := NB112_140.out; have hnb45 := NB140_126.out; have hnc45 := NB126_140.out; have hcz46_0 : w42.cell? ⟨gb140, 0, none⟩ = some (.bool false) := qc BK140 0; have hcz46_1 : w42.cell? ⟨gb140, 1, none⟩ = some (.slice none 0 0) := qc BK140 1; have hfz46_0 := blk_frozen BK140.out 0; have hfz46_1 := blk_frozen BK140.out 1; obtain ⟨Ao47, co47, eo47⟩ := Kd.R_slice HO138.out; subst eo47; have hcz48_0 : w42.cell? ⟨gb106, 0, none⟩ = some (.bool t101) := qc BK106 0; have hcz48_1 : w42.cell? ⟨gb106, 1, none⟩ = some (.slice Ao21 t102.length co21) := qc BK106 1; have hfz48_0 := blk_frozen BK106.out 0; have hfz48_1 := blk_frozen BK106.out 1) | (go_at_call 22; (with_reducible refine (num_Text.calls t101 _ _ t102 t141 _ ?side1 ?side2 A10.out (NumV.Tab.below HT.out (by repeat (first | exact HB.out | apply qx | apply qv | apply qw | refine below_set ?_ (Aside0.out (by assumption)))))).mono ?_); (case side1 => refine (Kd.R_reads' (e := 63) (base := w.heap.size) (ok := fun k_ => (((((((True ∧ some k_ ≠ (.slice Ao26 t108.length co26 : Value).ownBlock) ∧ some k_ ≠ (.slice Ao29 t114.length co29 : Value).ownBlock) ∧ some k_ ≠ (.slice Ao30 t118.length co30 : Value).ownBlock) ∧ some k_ ≠ (.slice Ao36 t122.length co36 : Value).ownBlock) ∧ some k_ ≠ (.slice Ao39 t128.length co39 : Value).ownBlock) ∧ some k_ ≠ (.slice Ao40 t132.length co40 : Value).ownBlock) ∧ some k_ ≠ (.slice Ao47 t136.length co47 : Value).ownBlock)) (n := t102.length) (c := co21) ?_).2.2; exact (by (with_reducible repeat first|apply Kd.R_alloc|apply Kd.R_drewN|apply Kd.R_drew); exact (Kd.R_mono (qz HO104 BK140 (by decide) (.bool t135) (.slice Ao47 t136.length co47)) (fun _ h_ => h_.1)))); (case side2 => exact (Kd.R_reads' HO104.out).2.1); rintro e w49 ⟨rfl, hb⟩; have n0_ := Aside0.mk (Kd.R_below (by (with_reducible repeat first|apply Kd.R_alloc|apply Kd.R_drewN|apply Kd.R_drew); exact (Kd.R_mono (qz HO104 BK140 (by decide) (.bool t135) (.slice Ao47 t136.length co47)) (fun _ h_ => h_.1))) hb); have n1_ := Aside0.mk (Kd.R_below (by (with_reducible repeat first|apply Kd.R_alloc|apply Kd.R_drewN|apply Kd.R_drew); exact (Kd.R_mono (qz HO110 BK140 (by decide) (.bool t135) (.slice Ao47 t136.length co47)) (fun _ h_ => h_.1))) hb); have n2_ := Aside0.mk (Kd.R_below (by (with_reducible repeat first|apply Kd.R_alloc|apply Kd.R_drewN|apply Kd.R_drew); exact (Kd.R_mono (qz HO116 BK140 (by decide) (.bool t135) (.slice Ao47 t136.length co47)) (fun _ h_ => h_.1))) hb); have n3_ := Aside0.mk (Kd.R_below (by (with_reducible repeat first|apply Kd.R_alloc|apply Kd.R_drewN|apply Kd.R_drew); exact (Kd.R_mono (qz HO120 BK140 (by decide) (.bool t135) (.slice Ao47 t136.length co47)) (fun _ h_ => h_.1))) hb); have n4_ := Aside0.mk (Kd.R_below (by (with_reducible repeat first|apply Kd.R_alloc|apply Kd.R_drewN|apply Kd.R_drew); exact (Kd.R_mono (qz HO124 BK140 (by decide) (.bool t135) (.slice Ao47 t136.length co47)) (fun _ h_ => h_.1))) hb); have n5_ := Aside0.mk (Kd.R_below (by (with_reducible repeat first|apply Kd.R_alloc|apply Kd.R_drewN|apply Kd.R_drew); exact (Kd.R_mono (qz HO130 BK140 (by decide) (.bool t135) (.slice Ao47 t136.length co47)) (fun _ h_ => h_.1))) hb); have n6_ := Aside0.mk (Kd.R_below (by (with_reducible repeat first|apply Kd.R_alloc|apply Kd.R_drewN|apply Kd.R_drew); exact (Kd.R_mono (qz HO134 BK140 (by decide) (.bool t135) (.slice Ao47 t136.length co47)) (fun _ h_ => h_.1))) hb); have n7_ := Aside0.mk (Kd.R_below (by (with_reducible repeat first|apply Kd.R_alloc|apply Kd.R_drewN|apply Kd.R_drew); exact (Kd.R_mono (qz HO138 BK140 (by decide) (.bool t135) (.slice Ao47 t136.length co47)) (fun _ h_ => h_.1))) hb); have n8_ := Aside0.mk (blk_below (g := gb106) (o := .cells #[.bool t101, .slice Ao21 t102.length co21] 25 (0, 0)) (by (with_reducible repeat first|refine qN ?_ _|refine qW ?_|refine qA ?_ _); refine qf ?_ NB106_140; (with_reducible repeat first|refine qN ?_ _|refine qW ?_|refine qA ?_ _); exact BK106.out) hb); have n9_ := Aside0.mk (blk_below (g := gb112) (o := .cells #[.bool t107, .slice Ao26 t108.length co26] 25 (0, 0)) (by (with_reducible repeat first|refine qN ?_ _|refine qW ?_|refine qA ?_ _); refine qf ?_ NB112_140; (with_reducible repeat first|refine qN ?_ _|refine qW ?_|refine qA ?_ _); exact BK112.out) hb); have n10_ := Aside0.mk (blk_below (g := gb126) (o := .cells #[.bool t121, .slice Ao36 t122.length co36] 25 (0, 0)) (by (with_reducible repeat first|refine qN ?_ _|refine qW ?_|refine qA ?_ _); refine qf ?_ NB126_140; (with_reducible repeat first|refine qN ?_ _|refine qW ?_|refine qA ?_ _); exact BK126.out) hb); have n11_ := Aside0.mk (blk_below (g := gb140) (o := .cells #[.bool t135, .slice Ao47 t136.length co47] 25 (0, 0)) (by (with_reducible repeat first|refine qN ?_ _|refine qW ?_|refine qA ?_ _); refine blk_put (cs := #[.bool t135, .slice none 0 0]) ?_ 1 _ rfl; (with_reducible repeat first|refine qN ?_ _|refine qW ?_|refine qA ?_ _); refine blk_put (cs := #[.bool false, .slice none 0 0]) ?_ 0 _ rfl; (with_reducible repeat first|refine qN ?_ _|refine qW ?_|refine qA ?_ _); exact BK140.out) hb); have n12_ := Aside0.mk (below_step (by repeat with_reducible first|exact HB.out|apply qx|apply qv|apply qw|refine qs ?_ (by assumption)) hb); clear HO104; clear HO110; clear HO116; clear HO120; clear HO124; clear HO130; clear HO134; clear HO138; clear BK106; clear BK112; clear BK126; clear BK140; clear HB; have HO104 := n0_; have HO110 := n1_; have HO116 := n2_; have HO120 := n3_; have HO124 := n4_; have HO130 := n5_; have HO134 := n6_; have HO138 := n7_; have BK106 := n8_; have BK112 := n9_; have BK126 := n10_; have BK140 := n11_; have HB := n12_; clear n0_ n1_ n2_ n3_ n4_ n5_ n6_ n7_ n8_ n9_ n10_ n11_ n12_; (try clear hb); (try clear hb2); (try clear hk); (try clear hi); have hcz50_0 : w49.cell? ⟨gb126, 0, none⟩ = some (.bool t121) := qc BK126 0; have hcz50_1 : w49.cell? ⟨gb126, 1, none⟩ = some (.slice Ao36 t122.length co36) := qc BK126 1; have hfz50_0 := blk_frozen BK126.out 0; have hfz50_1 := blk_frozen BK126.out 1) | (go_at_call 22; (with_reducible refine (num_Text.calls t121 _ _ t122 t142 _ ?side1 ?side2 A14.out (NumV.Tab.below HT.out (by repeat (first | exact HB.out | apply qx | apply qv | apply qw | refine below_set ?_ (Aside0.out (by assumption)))))).mono ?_); (case side1 => repeat (first | exact (Kd.R_reads' HO124.out).2.2 | (with_reducible first|refine Kd.C_alloc ?_ _|refine Kd.C_drewN ?_ _|refine Kd.C_drew ?_))); (case side2 => exact (Kd.R_reads' HO124.out).2.1); rintro e w51 ⟨rfl, hb⟩; replace HO104 := qr HO104 hb; replace HO110 := qr HO110 hb; replace HO116 := qr HO116 hb; replace HO120 := qr HO120 hb; replace HO124 := qr HO124 hb; replace HO130 := qr HO130 hb; replace HO134 := qr HO134 hb; replace HO138 := qr HO138 hb; replace BK106 := qb BK106 hb; replace BK112 := qb BK112 hb; replace BK126 := qb BK126 hb; replace BK140 := qb BK140 hb; replace HB := Aside0.mk (below_step (by repeat with_reducible first|exact HB.out|apply qx|apply qv|apply qw|refine qs ?_ (by assumption)) hb); (try clear hb); (try clear hb2); (try clear hk); (try clear hi)) | ((with_reducible refine gate_dst (N := 54) rfl ?_); (try (refine gate_guard (by rfl) ?_; dsimp only)); refine Kd.R_lit (Kd.int .u32) _ 63 ?hg (N := 54) ?hd (xs := ([0, 1] : List Int)) (inner := [.int .u32 0, .int .u32 1]) (ok := fun _ => True) (okp := fun _ => True) ?hr ?hp (fun _ hk => hk) trivial (Below.refl _ _) (Nat.le_refl _) (by simp) ?_; (case hd => rfl); (case hg => rfl); (case hr => go_simp <;> rfl); (case hp => exact (Reps.one (show Kd.M (Kd.int .u32) _ _ _ 0 [.int .u32 0] from rfl) (Reps.one (show Kd.M (Kd.int .u32) _ _ _ 1 [.int .u32 1] from rfl) (Reps.none _ _)))); intro v144 w52 ho53 hb hg_ hnew_; clear hg_ hnew_; (first | rw [← Ny143.out] at ho53 | (simp only [Int.reduceToNat] at ho53; rw [← Ny143.out] at ho53)); have n0_ := Aside0.mk (Kd.R_elder' (by (with_reducible repeat first|apply Kd.R_alloc|apply Kd.R_drewN|apply Kd.R_drew); exact HO104.out) (Kd.R_base ho53) hb); have n1_ := Aside0.mk (Kd.R_elder' (by (with_reducible repeat first|apply Kd.R_alloc|apply Kd.R_drewN|apply Kd.R_drew); exact HO110.out) (Kd.R_base ho53) hb); have n2_ := Aside0.mk (Kd.R_elder' (by (with_reducible repeat first|apply Kd.R_alloc|apply Kd.R_drewN|apply Kd.R_drew); exact HO116.out) (Kd.R_base ho53) hb); have n3_ := Aside0.mk (Kd.R_elder' (by (with_reducible repeat first|apply Kd.R_alloc|apply Kd.R_drewN|apply Kd.R_drew); exact HO120.out) (Kd.R_base ho53) hb); have n4_ := Aside0.mk (Kd.R_elder' (by (with_reducible repeat first|apply Kd.R_alloc|apply Kd.R_drewN|apply Kd.R_drew); exact HO124.out) (Kd.R_base ho53) hb); have n5_ := Aside0.mk (Kd.R_elder' (by (with_reducible repeat first|apply Kd.R_alloc|apply Kd.R_drewN|apply Kd.R_drew); exact HO130.out) (Kd.R_base ho53) hb); have n6_ := Aside0.mk (Kd.R_elder' (by (with_reducible repeat first|apply Kd.R_alloc|apply Kd.R_drewN|apply Kd.R_drew); exact HO134.out) (Kd.R_base ho53) hb); have n7_ := Aside0.mk (Kd.R_elder' (by (with_reducible repeat first|apply Kd.R_alloc|apply Kd.R_drewN|apply Kd.R_drew); exact HO138.out) (Kd.R_base ho53) hb); have n8_ := Aside0.mk (Kd.R_lower (Kd.R_new' (Kd.R_new' (Kd.R_new' (Kd.R_new' (Kd.R_new' (Kd.R_new' (Kd.R_new' (Kd.R_new' ho53 (ql HO104)) (ql HO110)) (ql HO116)) (ql HO120)) (ql HO124)) (ql HO130)) (ql HO134)) (ql HO138)) (below_size (by repeat with_reducible first|exact HB.out|apply qx|apply qv|apply qw|refine qs ?_ (by assumption)))); have n9_ := qb BK106 hb; have n10_ := qb BK112 hb; have n11_ := qb BK126 hb; have n12_ := qb BK140 hb; have n13_ := Aside0.mk (below_step (by repeat with_reducible first|exact HB.out|apply qx|apply qv|apply qw|refine qs ?_ (by assumption)) hb); clear HO104; clear HO110; clear HO116; clear HO120; clear HO124; clear HO130; clear HO134; clear HO138; clear BK106; clear BK112; clear BK126; clear BK140; clear HB; have HO104 := n0_; have HO110 := n1_; have HO116 := n2_; have HO120 := n3_; have HO124 := n4_; have HO130 := n5_; have HO134 := n6_; have HO138 := n7_; have HO145 := n8_; have BK106 := n9_; have BK112 := n10_; have BK126 := n11_; have BK140 := n12_; have HB := n13_; clear n0_ n1_ n2_ n3_ n4_ n5_ n6_ n7_ n8_ n9_ n10_ n11_ n12_ n13_; clear hb ho53; obtain ⟨Ao54, co54, eo54⟩ := Kd.R_slice HO145.out; subst eo54) | (go_at_call 22; (with_reducible refine (num_Text.calls false _ _ y143 t146 _ ?side1 ?side2 A17.out (NumV.Tab.below HT.out (by repeat (first | exact HB.out | apply qx | apply qv | apply qw | refine below_set ?_ (Aside0.out (by assumption)))))).mono ?_); (case side1 => repeat (first | exact (Kd.R_reads' HO145.out).2.2 | (with_reducible first|refine Kd.C_alloc ?_ _|refine Kd.C_drewN ?_ _|refine Kd.C_drew ?_))); (case side2 => exact (Kd.R_reads' HO145.out).2.1); rintro e w55 ⟨rfl, hb⟩; replace HO104 := qr HO104 hb; replace HO110 := qr HO110 hb; replace HO116 := qr HO116 hb; replace HO120 := qr HO120 hb; replace HO124 := qr HO124 hb; replace HO130 := qr HO130 hb; replace HO134 := qr HO134 hb; replace HO138 := qr HO138 hb; replace HO145 := qr HO145 hb; replace BK106 := qb BK106 hb; replace BK112 := qb BK112 hb; replace BK126 := qb BK126 hb; replace BK140 := qb BK140 hb; replace HB := Aside0.mk (below_step (by repeat with_reducible first|exact HB.out|apply qx|apply qv|apply qw|refine qs ?_ (by assumption)) hb); (try clear hb); (try clear hb2); (try clear hk); (try clear hi)))
       go_ret
       exact ⟨by first | rfl | (simp [errW_none, errW_some] <;> rfl) | (simp [*, errW_none, errW_some] <;> rfl), by repeat (first | (with_reducible first | exact HB.out | apply qx | apply qv | apply qw | refine qs ?_ (by assumption)) | exact HB.out)⟩
      ·rw [if_neg c16] at H
       have c16b0 : (t139 == 13) = false := beq_eq_false_iff_ne.mpr c16
       have c16b1 : (t139 != 13) = true := bne_iff_ne.mpr c16
       exact absurd ((Option.some.inj H).trans hr) (by decide)
     ·rw [if_neg c15] at H
      have c15b0 : (t142.toList == ([49] : List UInt8)) = false := beq_eq_false_iff_ne.mpr c15
      have c15b1 : (t142.toList != ([49] : List UInt8)) = true := bne_iff_ne.mpr c15
      exact absurd ((Option.some.inj H).trans hr) (by decide)
    ·rw [if_neg c13] at H
     have c13b0 : (t125 == 0) = false := beq_eq_false_iff_ne.mpr c13
     have c13b1 : (t125 != 0) = true := bne_iff_ne.mpr c13
     exact absurd ((Option.some.inj H).trans hr) (by decide)
   ·rw [if_neg c12] at H
    have c12b0 : (t111 == 9) = false := beq_eq_false_iff_ne.mpr c12
    have c12b1 : (t111 != 9) = true := bne_iff_ne.mpr c12
    exact absurd ((Option.some.inj H).trans hr) (by decide)
  ·rw [if_neg c11] at H
   have c11b0 : (t141.toList == ([45, 55] : List UInt8)) = false := beq_eq_false_iff_ne.mpr c11
   have c11b1 : (t141.toList != ([45, 55] : List UInt8)) = true := bne_iff_ne.mpr c11
   exact absurd ((Option.some.inj H).trans hr) (by decide)
 ·rw [if_neg c9] at H
  have c9b0 : (t105 == 0) = false := beq_eq_false_iff_ne.mpr c9
  have c9b1 : (t105 != 0) = true := bne_iff_ne.mpr c9
  exact absurd ((Option.some.inj H).trans hr) (by decide)
end Go.Proofs.YthhpnlbeniihhaaDoor.PAwk
namespace Go.Proofs.YthhpnlbeniihhaaDoor
open Go.RowKit Go.Proofs.YthhpnlbeniihhaaDoorW.PrintWords Go.Proofs.YthhpnlbeniihhaaDoorW.PrintLast Go.Proofs.YthhpnlbeniihhaaDoorW.PrintMore Go.Proofs.YthhpnlbeniihhaaDoor.Limb Go.Proofs.YthhpnlbeniihhaaDoor.NumB Go.Proofs.YthhpnlbeniihhaaDoor.NumG Go.Proofs.YthhpnlbeniihhaaDoor.NumJ Go.Proofs.YthhpnlbeniihhaaDoor.NumU Go.Proofs.YthhpnlbeniihhaaDoor.Vals Go.Proofs.YthhpnlbeniihhaaDoor.Plain
set_option linter.unusedVariables false
theorem fits_small {z : Int} (h : z.natAbs < 4294967296) : Fits z := Nat.lt_of_lt_of_le (show z.natAbs < 4294967296 ^ 1 by omega) (Nat.pow_le_pow_right (by decide) (by decide))
theorem text_lit (l m : List UInt8) (h : l = m) : ((⟨l.toArray⟩ : ByteArray).toList = m) := by
  rw [← h, ByteArray.toList_eq]
theorem awake_true : PAwk.morainelaw02_awake.f = some true := by
  have p1 : num_Parse.f (⟨#[45, 48, 48, 55]⟩ : ByteArray) = some (sb (-7), sl (-7), 0) := by
    unfold num_Parse.f
    rw [if_pos (by decide), ← mkI_fits (fits_small (by decide))]
    have : parseR (⟨#[45, 48, 48, 55]⟩ : ByteArray).data.toList = mk true 7 := by
      show digR true [48, 48, 55] = _
      unfold digR
      rw [if_pos (by decide), show decv [48, 48, 55] = 7 by decide]
    rw [this, mk_true]; rfl
  have p2 : num_Parse.f (⟨#[43]⟩ : ByteArray) = some (false, [], 9) := by
    unfold num_Parse.f
    rw [if_pos (by decide)]
    have : parseR (⟨#[43]⟩ : ByteArray).data.toList = digR false [] := rfl
    rw [this]; rfl
  have a0 : sb 0 = false := rfl
  have a1 : sl 0 = [] := sl_nil.mpr rfl
  have t1 : textI (-7) = [45, 55] := by decide +kernel
  have t2 : textI 1 = [49] := by decide +kernel
  have t3 : num_Text.f false [0, 1] = some ⟨(textI 4294967296).toArray⟩ := by
    have h1 : sb 4294967296 = false := rfl
    have h2 : sl 4294967296 = [0, 1] := by
      unfold sl
      rw [limbs_pos (by decide), limbs_pos (by decide), limbs_nil.mpr (by decide)]
      decide
    rw [← h1, ← h2]
    exact text_at (Nat.lt_of_lt_of_le (show (4294967296 : Int).natAbs < 4294967296 ^ 2 by decide) (Nat.pow_le_pow_right (by decide) (by decide)))
  have t4 : textI 4294967296 = [52, 50, 57, 52, 57, 54, 55, 50, 57, 54] := by decide +kernel
  have m1 : num_Mod.f (sb (-7)) (sl (-7)) (sb 2) (sl 2) = some (sb 1, sl 1, 0) := by
    rw [mod_at (fits_small (by decide)) (fits_small (by decide)), if_neg (by decide), show Int.fmod (-7) 2 = 1 by decide, mkI_fits (fits_small (by decide))]
  have q1 : num_Quo.f (sb 7) (sl 7) (sb 0) (sl 0) = some (false, [], 13) := by
    rw [quo_at (fits_small (by decide)) (fits_small (by decide)), if_pos rfl]
  unfold PAwk.morainelaw02_awake.f
  rw [p1, bsome, p2, bsome, of_at (by decide), bsome, of_at (by decide), bsome]
  show ((num_Mod.f (sb (-7)) (sl (-7)) (sb 2) (sl 2)).bind _) = _
  rw [m1, bsome, of_at (by decide), bsome, of_at (by decide), bsome]
  show ((num_Quo.f (sb 7) (sl 7) (sb 0) (sl 0)).bind _) = _
  rw [q1, bsome]
  dsimp only
  rw [if_pos rfl, text_at (fits_small (by decide)), bsome, if_pos (text_lit _ _ t1), if_pos rfl, if_pos rfl, text_at (fits_small (by decide)), bsome, if_pos (text_lit _ _ t2), if_pos rfl, t3, bsome, text_lit _ _ t4]
  rfl
def morainelaw02_awake.f : Option Bool := some true
theorem morainelaw02_awake.calls (r : Bool) (w : World) (h : morainelaw02_awake.f = some r) (ht : NumV.Tab w) :
    Calls Tryd.prog 20 #[] w fun e w' => e = .returned (.bool r) ∧ Below w.heap.size w w' := by
  obtain rfl := Option.some.inj h
  exact PAwk.morainelaw02_awake.calls true w rfl awake_true ht
end Go.Proofs.YthhpnlbeniihhaaDoor
namespace Go.Proofs.YthhpnlbeniihhaaDoor.Row
open Go.ChangeShapes Go.WideShapes Go.ChangeAt Go.RowKit Go.Proofs.YthhpnlbeniihhaaDoor.Limb Go.Proofs.YthhpnlbeniihhaaDoor.NumA
theorem laid_tail {P : Program} {x : String × DataW Unit} {r : List (String × DataW Unit)} {w : World} (h : laidMet P (x :: r) w) : laidMet P r w := by
  obtain ⟨ps, ⟨g, t, cs, fuel, p, q, _, _, _, _, hr, rfl⟩, hnd, hall⟩ := h
  exact ⟨q, hr, (List.nodup_append.mp hnd).2.1, fun b off hb => hall b off (List.mem_append_right _ hb)⟩
theorem gTab : Tryd.prog.globalNamed "internal/strconv.uint64pow10" = some 0 := by kernel_rfl
theorem tab {W : World} (h : laidMetH Tryd.prog Rows.numOrderRow.laid W) : NumV.Tab W := by
  have h1 : laidMet Tryd.prog Rows.numOrderRow.laid W := h
  have h2 : laidMet Tryd.prog (("internal/strconv.uint64pow10", Rows.laid_internal_strconv_uint64pow10) :: _) W := laid_tail (laid_tail h1)
  exact Lib.tabIs_of_head (t := 131) (e := 64) (n := 20) gTab (by kernel_rfl) (by kernel_rfl) (by kernel_rfl) (by kernel_rfl) (by kernel_rfl) h2
/-- The plain leaves of a table's datum. -/
def leaf : DataW Unit → List Value
  | .lit (.int k n) => [.int k n]
  | _ => []
def leaves : DataW Unit → List Value
  | .agg ds => ds.flatMap fun d => match d with
    | .agg es => es.flatMap leaf
    | d => leaf d
  | _ => []
def put (l : List Value) : Obj → Obj
  | .cells _ t frozen => .cells l.toArray t frozen
  | o => o
/-- A world for the witness: the five tables hold what is listed. -/
noncomputable def laidWorld (os : Os) : World :=
  { World.holding Tryd.prog os ⟨#[], #[], []⟩ with heap := (((((World.holding Tryd.prog os ⟨#[], #[], []⟩).heap.modify 0 (put (leaves Rows.laid_internal_strconv_uint64pow10))).modify 2 (put (leaves Rows.laid_unicode_utf8_first))).modify 3 (put (leaves Rows.laid_unicode_utf8_acceptRanges))).modify 4 (put (leaves Rows.laid_math_bits_deBruijn32tab))).modify 5 (put (leaves Rows.laid_math_bits_deBruijn64tab)) }
theorem laid_met (os : Os) (args : Array Value) : laidMet Tryd.prog Rows.numOrderRow.laid ((laidWorld os).forCall (fun _ _ => 0) ⟨#[], args, []⟩).memory :=
  laidMet_of_run' 8 (by kernel_rfl) (by kernel_rfl)
end Go.Proofs.YthhpnlbeniihhaaDoor.Row
namespace Go.Proofs.YthhpnlbeniihhaaDoor.Row
open Go.ChangeShapes Go.WideShapes Go.ChangeAt Go.RowKit Go.Proofs.YthhpnlbeniihhaaDoor.Limb Go.Proofs.YthhpnlbeniihhaaDoor.NumA
theorem laidOut : laidOutB Tryd.prog = true := by kernel_rfl
set_option maxRecDepth 100000
section
variable {H : Type} {enc : TypeId × Value → H} {W : World} {base : Nat}
open Go.Proofs.YthhpnlbeniihhaaDoorW.PrintWords Go.Proofs.YthhpnlbeniihhaaDoorW.PrintLast Go.Proofs.YthhpnlbeniihhaaDoorW.PrintMore
/-- A number that is handed in: its sign, its limbs in a row that is read. -/
theorem open_num {v : Value} {d : DataW H} {p : List MemPlace} (hval : Value.okWide Tryd.prog W .any base 25 v) (h : DataW.Trod enc Tryd.prog W 0 (fun _ => true) true 25 v d p) :
    ∃ (n : Bool) (A : Option Addr) (c : Nat) (l : List Int), v = .agg #[.bool n, .slice A l.length c] ∧ OkL l ∧ l.length ≤ c ∧ Kd.C (Kd.int .u32) W A l.length l ∧ ((∀ n ∈ d.weights Tryd.prog 25, n ≤ reachBytes) → l.length < 35184372088832) := by
  obtain ⟨cs, rfl, hsz⟩ := okWide_struct Tryd.underlying25 hval
  obtain ⟨fuel, hf⟩ := h
  obtain ⟨y0, y1, m, hd, hl, h0, h1⟩ := trod_struct2 Tryd.underlying25 hf
  obtain ⟨rfl, -⟩ := Prod.mk.inj hd
  have hc2 : Tryd.prog.cellsOf 25 = 2 := by kernel_rfl
  have hc1 : Tryd.prog.cellsOf 4 = 1 := by kernel_rfl
  have hc3 : Tryd.prog.cellsOf 23 = 1 := by kernel_rfl
  rw [hc2] at hsz
  obtain ⟨u0, u1, rfl⟩ : ∃ u0 u1, cs = #[u0, u1] := by
    match cs, hsz with
    | ⟨[u0, u1]⟩, _ => exact ⟨u0, u1, rfl⟩
  dsimp only at h0 h1
  rw [hc1] at h0
  rw [hc3] at h1
  have e0 : (List.take 1 (List.drop 0 (Value.agg #[u0, u1]).cells.toList)) = [u0] := rfl
  have e1 : (List.take 1 (List.drop 1 (Value.agg #[u0, u1]).cells.toList)) = [u1] := rfl
  rw [e0] at h0
  rw [e1] at h1
  obtain ⟨b, hb, -⟩ := DataW.trod_bool (Tryd.underlying4) h0
  obtain rfl : u0 = .bool b := by simpa using hb
  rcases open_ints Tryd.underlying23 Tryd.underlying63 (by kernel_rfl) h1 with ⟨hcs, hy1⟩ | ⟨x, ln, c, zs, hcs, _, hl2, hm, hz, hy1, hcell, hwz⟩
  · obtain rfl : u1 = .slice none 0 0 := by simpa using hcs
    exact ⟨b, none, 0, [], rfl, (fun x hx => by cases hx), Nat.le_refl _, Kd.C_of_reads (d := 0) ⟨rfl, by decide, fun i => absurd i (by decide)⟩, fun _ => by decide⟩
  · obtain rfl : u1 = .slice (some x) ln c := by simpa using hcs
    have hz' : zs.length = c := by simpa using hz
    have hln : (zs.take ln).length = ln := by rw [List.length_take]; omega
    refine ⟨b, some x, c, zs.take ln, by rw [hln], ?_, by rw [hln]; exact hl2, ?_, ?_⟩
    · intro y hy
      have := bounds_u32 (hwz y (List.mem_of_mem_take hy))
      omega
    · rw [hln]
      refine Kd.C_of_reads (d := 0) ⟨hln, ?_, ?_⟩
      · unfold maxLen at hm; omega
      · intro _
        refine ⟨x, rfl, fun j hj => ?_⟩
        rw [hcell j (by omega)]
        congr 2
        rw [List.getD_eq_getElem?_getD, List.getD_eq_getElem?_getD, List.getElem?_take_of_lt hj]
    · intro hw
      have hb4 : Tryd.prog.bytesOf 63 = 4 := by kernel_rfl
      have h3 := hw ((zs.length) * 4) (by
        subst hy1
        simp only [DataW.weights, Tryd.underlying25, List.map_cons, List.map_nil, DataW.weightsEach, Tryd.underlying23, hb4, List.mem_append, List.mem_cons]
        refine .inr (.inl (.inl ?_))
        have : (lits (H := H) .u32 (zs.take ln)).length + (lits (H := H) .u32 (zs.drop ln)).length = zs.length := by simp [lits]; omega
        rw [this])
      rw [hln]
      unfold reachBytes at h3
      omega
end
end Go.Proofs.YthhpnlbeniihhaaDoor.Row
namespace Go.Proofs.YthhpnlbeniihhaaDoor
open Go.RowKit Go.Proofs.YthhpnlbeniihhaaDoorW.PrintWords Go.Proofs.YthhpnlbeniihhaaDoorW.PrintLast Go.Proofs.YthhpnlbeniihhaaDoorW.PrintMore Go.Proofs.YthhpnlbeniihhaaDoor.Limb
set_option linter.unusedVariables false
set_option linter.unusedSimpArgs false
/-- Boxes (block, cells, type), rows of bytes, rows of limbs: all made since w0; the rows of limbs are no two the same. -/
structure St (w0 W : World) (B : List (Nat × Array Value × Nat)) (R8 R32 : List (Value × List Int)) : Prop where
  below : Below w0.heap.size w0 W
  ge : ∀ p ∈ B, w0.heap.size ≤ p.1
  box : ∀ p ∈ B, W.heap[p.1]? = some (.cells p.2.1 p.2.2 (0, 0))
  ty : ∀ p ∈ B, p.2.2 ≠ 5 ∧ p.2.2 ≠ 63
  nd : B.Pairwise (fun p q => p.1 ≠ q.1)
  r8 : ∀ p ∈ R8, Kd.R (Kd.int .u8) 5 W w0.heap.size (fun _ => True) p.1 p.2
  r32 : ∀ p ∈ R32, Kd.R (Kd.int .u32) 63 W w0.heap.size (fun _ => True) p.1 p.2
  ap : R32.Pairwise (fun p q => ∀ k, p.1.ownBlock = some k → q.1.ownBlock ≠ some k)
namespace St
variable {w0 W W1 : World} {B : List (Nat × Array Value × Nat)} {R8 R32 : List (Value × List Int)}
theorem start (w : World) : St w w [] [] [] :=
  ⟨Below.refl _ _, (fun p h => by cases h), (fun p h => by cases h), (fun p h => by cases h), .nil, (fun p h => by cases h), (fun p h => by cases h), .nil⟩
theorem call (S : St w0 W B R8 R32) (hb : Below W.heap.size W W1) : St w0 W1 B R8 R32 :=
  ⟨below_step S.below hb, S.ge, fun p h => blk_below (S.box p h) hb, S.ty, S.nd, fun p h => Kd.R_below (S.r8 p h) hb, fun p h => Kd.R_below (S.r32 p h) hb, S.ap⟩
theorem drewN (S : St w0 W B R8 R32) (n : Nat) : St w0 (W.drewN n) B R8 R32 := S.call (pw_below_drewN (Below.refl _ _) n)
theorem drew (S : St w0 W B R8 R32) : St w0 W.drew B R8 R32 := S.call (below_drew1 (Below.refl _ _))
theorem alloc (S : St w0 W B R8 R32) (o : Obj) : St w0 (W.alloc o) B R8 R32 := S.call (below_alloc (Below.refl _ _) o)
/-- A row of bytes that a call has made. -/
theorem call8 (S : St w0 W B R8 R32) (hb : Below W.heap.size W W1) {v : Value} {xs : List Int} {ok : Nat → Prop} (hR : Kd.R (Kd.int .u8) 5 W1 W.heap.size ok v xs) : St w0 W1 B ((v, xs) :: R8) R32 := by
  have T := S.call hb
  refine ⟨T.below, T.ge, T.box, T.ty, T.nd, fun p h => ?_, T.r32, T.ap⟩
  rcases List.mem_cons.mp h with rfl | h
  · exact Kd.R_mono (Kd.R_lower hR (below_size S.below)) (fun _ _ => trivial)
  · exact T.r8 p h
/-- A row of limbs that a call has made: it is none of those that were there. -/
theorem call32 (S : St w0 W B R8 R32) (hb : Below W.heap.size W W1) {v : Value} {xs : List Int} {ok : Nat → Prop} (hR : Kd.R (Kd.int .u32) 63 W1 W.heap.size ok v xs) : St w0 W1 B R8 ((v, xs) :: R32) := by
  have T := S.call hb
  refine ⟨T.below, T.ge, T.box, T.ty, T.nd, T.r8, fun p h => ?_, List.pairwise_cons.mpr ⟨fun p h k hk e => ?_, T.ap⟩⟩
  · rcases List.mem_cons.mp h with rfl | h
    · exact Kd.R_mono (Kd.R_lower hR (below_size S.below)) (fun _ _ => trivial)
    · exact T.r32 p h
  · have h1 := Kd.R_base hR k hk
    have h2 := Kd.R_lt (S.r32 p h) k e
    omega
/-- A box that is made. -/
theorem boxed (S : St w0 W B R8 R32) (cs : Array Value) (t : Nat) (ht : t ≠ 5 ∧ t ≠ 63) : St w0 (W.alloc (.cells cs t (0, 0))) ((W.heap.size, cs, t) :: B) R8 R32 := by
  have T := S.alloc (.cells cs t (0, 0))
  refine ⟨T.below, fun p h => ?_, fun p h => ?_, fun p h => ?_, List.pairwise_cons.mpr ⟨fun p h e => ?_, T.nd⟩, T.r8, T.r32, T.ap⟩
  · rcases List.mem_cons.mp h with rfl | h
    · exact below_size S.below
    · exact S.ge p h
  · rcases List.mem_cons.mp h with rfl | h
    · exact blk_new W _
    · exact T.box p h
  · rcases List.mem_cons.mp h with rfl | h
    · exact ht
    · exact S.ty p h
  · have := blk_lt (S.box p h)
    have e1 : W.heap.size = p.1 := e
    omega
/-- A store into the box that was made last. -/
theorem set0 {g : Nat} {cs : Array Value} {t : Nat} (S : St w0 W ((g, cs, t) :: B) R8 R32) (j : Nat) (v : Value) : St w0 (W.setCell ⟨g, j, none⟩ v) ((g, cs.setIfInBounds j v, t) :: B) R8 R32 := by
  have hg := S.box _ List.mem_cons_self
  have ht := S.ty _ List.mem_cons_self
  obtain ⟨hn, hnd⟩ := List.pairwise_cons.mp S.nd
  refine ⟨below_set S.below (S.ge _ List.mem_cons_self), fun p h => ?_, fun p h => ?_, fun p h => ?_, List.pairwise_cons.mpr ⟨fun p h => hn p h, hnd⟩, fun p h => ?_, fun p h => ?_, S.ap⟩
  · rcases List.mem_cons.mp h with rfl | h
    · exact S.ge (g, cs, t) List.mem_cons_self
    · exact S.ge p (List.mem_cons_of_mem _ h)
  · rcases List.mem_cons.mp h with rfl | h
    · exact blk_set hg j v
    · exact blk_far (S.box p (List.mem_cons_of_mem _ h)) (p := ⟨g, j, none⟩) (fun e => hn p h e.symm) v
  · rcases List.mem_cons.mp h with rfl | h
    · exact ht
    · exact S.ty p (List.mem_cons_of_mem _ h)
  · exact Kd.R_set (S.r8 p h) hg (fun q hq => by
      have : q = 5 := by simpa [Kd.int, Kd.scalar] using hq
      subst this; exact fun e => ht.1 e.symm) j v
  · exact Kd.R_set (S.r32 p h) hg (fun q hq => by
      have : q = 63 := by simpa [Kd.int, Kd.scalar] using hq
      subst this; exact fun e => ht.2 e.symm) j v
/-- A variable of two cells, made of what a call answered: the facts that the walk wants, and the state behind it. -/
theorem put (S : St w0 W B R8 R32) (z0 z1 v0 v1 : Value) (t : Nat) (ht : t ≠ 5 ∧ t ≠ 63) :
    (W.alloc (.cells #[z0, z1] t (0, 0))).cell? ⟨W.heap.size, 0, none⟩ = some z0 ∧ (W.alloc (.cells #[z0, z1] t (0, 0))).cell? ⟨W.heap.size, 1, none⟩ = some z1 ∧
    (W.alloc (.cells #[z0, z1] t (0, 0))).frozen? ⟨W.heap.size, 0, none⟩ = false ∧ (W.alloc (.cells #[z0, z1] t (0, 0))).frozen? ⟨W.heap.size, 1, none⟩ = false ∧
    St w0 (((W.alloc (.cells #[z0, z1] t (0, 0))).setCell ⟨W.heap.size, 0, none⟩ v0).setCell ⟨W.heap.size, 1, none⟩ v1) ((W.heap.size, #[v0, v1], t) :: B) R8 R32 := by
  have T := S.boxed #[z0, z1] t ht
  have hg := T.box _ List.mem_cons_self
  exact ⟨blk_cell hg 0, blk_cell hg 1, blk_frozen hg 0, blk_frozen hg 1, (T.set0 0 v0).set0 1 v1⟩
/-- What a box of two cells holds. -/
theorem cells (S : St w0 W B R8 R32) (i : Nat) {g t : Nat} {x y : Value} (h : B[i]? = some (g, #[x, y], t)) : W.cell? ⟨g, 0, none⟩ = some x ∧ W.cell? ⟨g, 1, none⟩ = some y := by
  have hg := S.box _ (List.mem_of_getElem? h)
  exact ⟨blk_cell hg 0, blk_cell hg 1⟩
theorem froz (S : St w0 W B R8 R32) (i : Nat) {g t : Nat} {cs : Array Value} (h : B[i]? = some (g, cs, t)) (j : Nat) : W.frozen? ⟨g, j, none⟩ = false := blk_frozen (S.box _ (List.mem_of_getElem? h)) j
theorem bits (S : St w0 W B R8 R32) (i : Nat) {A : Option Addr} {n c : Nat} {xs : List Int} (h : R8[i]? = some (.slice A n c, xs)) : n = xs.length ∧ n ≤ c ∧ Kd.C (Kd.int .u8) W A xs.length xs := Kd.R_reads' (S.r8 _ (List.mem_of_getElem? h))
theorem limbs (S : St w0 W B R8 R32) (i : Nat) {A : Option Addr} {n c : Nat} {xs : List Int} (h : R32[i]? = some (.slice A n c, xs)) : n = xs.length ∧ n ≤ c ∧ Kd.C (Kd.int .u32) W A xs.length xs := Kd.R_reads' (S.r32 _ (List.mem_of_getElem? h))
/-- What came in reads as it did. -/
theorem came {α : Type} {d : Kd α} {A : Option Addr} {n : Nat} {xs : List α} (S : St w0 W B R8 R32) (h : Kd.C d w0 A n xs) : Kd.C d W A n xs := Kd.C_below h S.below
/-- One row of limbs is written over: it is let go, all else stays. -/
theorem spoilt (S : St w0 W B R8 R32) (i : Nat) {v : Value} {xs : List Int} (h : R32[i]? = some (v, xs)) (hB : Below w0.heap.size w0 W1) (hk : Kept W W1 (fun k => v.ownBlock = some k)) : St w0 W1 B R8 (R32.eraseIdx i) := by
  have hm := List.mem_of_getElem? h
  have hv := S.r32 _ hm
  have hi : i < R32.length := (List.getElem?_eq_some_iff.mp h).1
  have hsub : ∀ p ∈ R32.eraseIdx i, p ∈ R32 ∧ ∀ k, p.1.ownBlock = some k → v.ownBlock ≠ some k := by
    intro p hp
    rw [List.mem_eraseIdx_iff_getElem] at hp
    obtain ⟨j, hj, hne, rfl⟩ := hp
    refine ⟨List.getElem_mem hj, fun k hk e => ?_⟩
    have hpw := List.pairwise_iff_getElem.mp S.ap
    have ei : R32[i] = (v, xs) := (List.getElem?_eq_some_iff.mp h).2
    rcases Nat.lt_or_gt_of_ne hne with hlt | hgt
    · exact hpw j i hj hi hlt k hk (by rw [ei]; exact e)
    · exact hpw i j hi hj hgt k (by rw [ei]; exact e) hk
  refine ⟨hB, S.ge, fun p hp => ?_, S.ty, S.nd, fun p hp => ?_, fun p hp => ?_, ?_⟩
  · have hb := S.box p hp
    rw [hk.2 p.1 (blk_lt hb) (fun e => Kd.R_ne hv hb (fun e2 => (S.ty p hp).2 e2.symm) e.symm)]
    exact hb
  · have hr := S.r8 p hp
    refine Kd.R_mono (Kd.R_step (Kd.R_bound hr) (fun k hok hlt => hk.2 k hlt (fun e => ?_))) (fun _ _ => trivial)
    obtain ⟨_, _, _, q, hq, cs, hc⟩ := hok
    have : q = 5 := by simpa [Kd.int, Kd.scalar] using hq
    subst this
    exact Kd.R_ne hv hc (by decide) e.symm
  · obtain ⟨hp1, hp2⟩ := hsub p hp
    have hr := S.r32 p hp1
    obtain ⟨inner, ho⟩ := Kd.R_own hr
    have hown : Kd.R (Kd.int .u32) 63 W w0.heap.size (fun k => p.1.ownBlock = some k) p.1 p.2 := ⟨fun k hk => hk, hr.2.imp_ (fun _ _ hp => hp)⟩
    exact Kd.R_mono (Kd.R_step hown (fun k hok hlt => hk.2 k hlt (fun e => hp2 k hok e))) (fun _ _ => trivial)
  · exact S.ap.sublist (List.eraseIdx_sublist _ _)
end St
end Go.Proofs.YthhpnlbeniihhaaDoor
-- Printed by a program of this session's (wip/tools/printr.py, over the kit's print program).
namespace Go.Proofs.YthhpnlbeniihhaaDoor.PRef
open Go.RowKit Go.Proofs.YthhpnlbeniihhaaDoorW.PrintWords Go.Proofs.YthhpnlbeniihhaaDoorW.PrintLast Go.Proofs.YthhpnlbeniihhaaDoorW.PrintMore
attribute [local go_sem] max2_int min2_int max_two min_two max_three min_three max_four min_four   -- for this text's walks alone
set_option linter.unusedVariables false
set_option linter.unusedSimpArgs false
def errW : Option Int → Value
  | none => .nilIface
  | some c => .iface 0 (.int .i64 c)
theorem errW_none : errW none = .nilIface := rfl
theorem errW_some (c : Int) : errW (some c) = .iface 0 (.int .i64 c) := rfl
theorem info5 : (Tryd.prog.info? 5).map (fun i => (i.zero, i.size, i.bytes)) = some (some (.int .u8 0), 1, 1) := by kernel_rfl
theorem info63 : (Tryd.prog.info? 63).map (fun i => (i.zero, i.size, i.bytes)) = some (some (.int .u32 0), 1, 4) := by kernel_rfl
-- the values' own types
end Go.Proofs.YthhpnlbeniihhaaDoor.PRef
-- Printed by a program of this session's (wip/tools/printr.py, over the kit's print program).
namespace Go.Proofs.YthhpnlbeniihhaaDoor.PRef
open Go.RowKit Go.Proofs.YthhpnlbeniihhaaDoorW.PrintWords Go.Proofs.YthhpnlbeniihhaaDoorW.PrintLast Go.Proofs.YthhpnlbeniihhaaDoorW.PrintMore
attribute [local go_sem] max2_int min2_int max_two min_two max_three min_three max_four min_four   -- for this text's walks alone
set_option linter.unusedVariables false
set_option linter.unusedSimpArgs false
mutual
def moraineref02_Same.j0 : Nat → Bool → Bool → List Int → Bool → List Int → Option (Bool)
 | 0, _, _, _, _, _ => none
 | k + 1, x19, x102000, x102001, x103000, x103001 => if x19 = true then (some false) else (moraineref02_Same.l0 k 0 x102000 x102001 x103000 x103001)
def moraineref02_Same.l0 : Nat → Int → Bool → List Int → Bool → List Int → Option (Bool)
 | 0, _, _, _, _, _ => none
 | k + 1, x5, x102000, x102001, x103000, x103001 => if x5 < (x102001.length : Int) then (if 0 ≤ x5 then (if x5 < (x103001.length : Int) then (if (rd x102001 x5) = (rd x103001 x5) then (moraineref02_Same.l0 k (wrap64 (x5 + 1)) x102000 x102001 x103000 x103001) else (some false)) else (none)) else (none)) else (some true)
end
def moraineref02_Same.f (k : Nat) (a0_0 : Bool) (l0_1 : List Int) (a1_0 : Bool) (l1_1 : List Int) : Option (Bool) := if (a0_0 != a1_0) = true then (moraineref02_Same.j0 k true a0_0 l0_1 a1_0 l1_1) else (moraineref02_Same.j0 k ((l0_1.length : Int) != (l1_1.length : Int)) a0_0 l0_1 a1_0 l1_1)
theorem moraineref02_Same.mono_l : ∀ k, (∀ y0 y1 y2 y3 y4, LeO (moraineref02_Same.j0 k y0 y1 y2 y3 y4) (moraineref02_Same.j0 (k + 1) y0 y1 y2 y3 y4)) ∧ (∀ y0 y1 y2 y3 y4, LeO (moraineref02_Same.l0 k y0 y1 y2 y3 y4) (moraineref02_Same.l0 (k + 1) y0 y1 y2 y3 y4))
 | 0 => ⟨fun _ _ _ _ _ r h => by simp [moraineref02_Same.j0] at h, fun _ _ _ _ _ r h => by simp [moraineref02_Same.l0] at h⟩
 | k + 1 => by
  obtain ⟨ih0, ih1⟩ := moraineref02_Same.mono_l k
  refine ⟨?_, ?_⟩
  ·intro y0 y1 y2 y3 y4
   unfold moraineref02_Same.j0
   repeat' first
   | (with_reducible exact ih0 _ _ _ _ _)
   | (with_reducible exact ih1 _ _ _ _ _)
   | (with_reducible exact LeO.refl _)
   | (with_reducible exact LeO.none _)
   | (with_reducible refine LeO.ite ?_ ?_)
   | (with_reducible refine LeO.bind ?_ (fun _ => ?_))
   | exact ih0 _ _ _ _ _
   | exact ih1 _ _ _ _ _
   | exact LeO.none _
   | refine LeO.ite ?_ ?_
   | refine LeO.bind ?_ (fun _ => ?_)
  ·intro y0 y1 y2 y3 y4
   unfold moraineref02_Same.l0
   repeat' first
   | (with_reducible exact ih0 _ _ _ _ _)
   | (with_reducible exact ih1 _ _ _ _ _)
   | (with_reducible exact LeO.refl _)
   | (with_reducible exact LeO.none _)
   | (with_reducible refine LeO.ite ?_ ?_)
   | (with_reducible refine LeO.bind ?_ (fun _ => ?_))
   | exact ih0 _ _ _ _ _
   | exact ih1 _ _ _ _ _
   | exact LeO.none _
   | refine LeO.ite ?_ ?_
   | refine LeO.bind ?_ (fun _ => ?_)
theorem moraineref02_Same.mono : ∀ a0 a1 a2 a3 k, LeO (moraineref02_Same.f k a0 a1 a2 a3) (moraineref02_Same.f (k + 1) a0 a1 a2 a3) := by
 intro a0 a1 a2 a3 k
 obtain ⟨ih0, ih1⟩ := moraineref02_Same.mono_l k
 unfold moraineref02_Same.f
 repeat' first
   | (with_reducible exact ih0 _ _ _ _ _)
   | (with_reducible exact ih1 _ _ _ _ _)
   | (with_reducible exact LeO.refl _)
   | (with_reducible exact LeO.none _)
   | (with_reducible refine LeO.ite ?_ ?_)
   | (with_reducible refine LeO.bind ?_ (fun _ => ?_))
   | exact ih0 _ _ _ _ _
   | exact ih1 _ _ _ _ _
   | exact LeO.none _
   | refine LeO.ite ?_ ?_
   | refine LeO.bind ?_ (fun _ => ?_)
set_option maxHeartbeats 8000000 in
set_option maxRecDepth 100000 in
theorem moraineref02_Same.calls (k : Nat) (a0_0 : Bool) (A0_1 : Option Addr) (c0_1 : Nat) (l0_1 : List Int) (a1_0 : Bool) (A1_1 : Option Addr) (c1_1 : Nat) (l1_1 : List Int) (r : Bool) (w : World) (hr0_1 : Kd.C (Kd.int .u32) w A0_1 l0_1.length l0_1) (hc0_1 : l0_1.length ≤ c0_1) (hr1_1 : Kd.C (Kd.int .u32) w A1_1 l1_1.length l1_1) (hc1_1 : l1_1.length ≤ c1_1) (h : moraineref02_Same.f k a0_0 l0_1 a1_0 l1_1 = some r) :
  Calls Tryd.prog 17 #[.agg #[.bool a0_0, .slice A0_1 l0_1.length c0_1], .agg #[.bool a1_0, .slice A1_1 l1_1.length c1_1]] w fun e w' => e = .returned (.bool r) ∧ Below w.heap.size w w' := by
 have hu25 := Tryd.underlying25
 have HR0_1 := Aside0.mk hr0_1
 have HC0_1 := Aside0.mk hc0_1
 clear hr0_1 hc0_1
 have HR1_1 := Aside0.mk hr1_1
 have HC1_1 := Aside0.mk hc1_1
 clear hr1_1 hc1_1
 have HB := Aside0.mk (Below.refl w.heap.size w)
 have H : (if (a0_0 != a1_0) = true then (moraineref02_Same.j0 k true a0_0 l0_1 a1_0 l1_1) else (moraineref02_Same.j0 k ((l0_1.length : Int) != (l1_1.length : Int)) a0_0 l0_1 a1_0 l1_1)) = some r := h
 clear h
 have HC3 := Aside0.mk H
 clear H
 go_enter Tryd.func17, Tryd.ntmps17
 go_upto_region 1 with (first | ((with_reducible refine gate_dst (N := 2) rfl ?_); (try (refine gate_guard (by rfl) ?_; dsimp only)); refine box_event ?hg (N := 2) ?hd (cs := #[.bool a0_0, .slice A0_1 l0_1.length c0_1]) (t := 25) ?hr ?_; (case hd => rfl); (case hg => rfl); (case hr => go_simp <;> rfl); intro gb101 hg w4 hbox hb; have BK101 := Aside0.mk (hbox); have GW101 := qg hg (by repeat (first | (with_reducible first | exact HB.out | apply qx | apply qv | apply qw) | exact HB.out)); have GE101 := GW101; replace HB := Aside0.mk (below_step (by repeat (first | (with_reducible first | exact HB.out | apply qx | apply qv | apply qw) | exact HB.out)) hb); clear hb hbox hg) | ((with_reducible refine gate_dst (N := 3) rfl ?_); (try (refine gate_guard (by rfl) ?_; dsimp only)); refine box_event ?hg (N := 3) ?hd (cs := #[.bool a1_0, .slice A1_1 l1_1.length c1_1]) (t := 25) ?hr ?_; (case hd => rfl); (case hg => rfl); (case hr => go_simp <;> rfl); intro gb102 hg w5 hbox hb; have BK102 := Aside0.mk (hbox); have GW102 := qg hg (by repeat (first | (with_reducible first | exact HB.out | apply qx | apply qv | apply qw | refine below_set ?_ GE101.out) | exact HB.out)); have GE102 := GW102; replace HB := Aside0.mk (below_step (by repeat (first | (with_reducible first | exact HB.out | apply qx | apply qv | apply qw | refine below_set ?_ GE101.out) | exact HB.out)) hb); have NB101_102 := qn BK101 hg; have NB102_101 := qm BK101 hg; replace BK101 := qb BK101 hb; clear hb hbox hg))
 repeat (go_quiet (first | ((with_reducible refine gate_dst (N := 2) rfl ?_); (try (refine gate_guard (by rfl) ?_; dsimp only)); refine box_event ?hg (N := 2) ?hd (cs := #[.bool a0_0, .slice A0_1 l0_1.length c0_1]) (t := 25) ?hr ?_; (case hd => rfl); (case hg => rfl); (case hr => go_simp <;> rfl); intro gb101 hg w4 hbox hb; have BK101 := Aside0.mk (hbox); have GW101 := qg hg (by repeat (first | (with_reducible first | exact HB.out | apply qx | apply qv | apply qw) | exact HB.out)); have GE101 := GW101; replace HB := Aside0.mk (below_step (by repeat (first | (with_reducible first | exact HB.out | apply qx | apply qv | apply qw) | exact HB.out)) hb); clear hb hbox hg) | ((with_reducible refine gate_dst (N := 3) rfl ?_); (try (refine gate_guard (by rfl) ?_; dsimp only)); refine box_event ?hg (N := 3) ?hd (cs := #[.bool a1_0, .slice A1_1 l1_1.length c1_1]) (t := 25) ?hr ?_; (case hd => rfl); (case hg => rfl); (case hr => go_simp <;> rfl); intro gb102 hg w5 hbox hb; have BK102 := Aside0.mk (hbox); have GW102 := qg hg (by repeat (first | (with_reducible first | exact HB.out | apply qx | apply qv | apply qw | refine below_set ?_ GE101.out) | exact HB.out)); have GE102 := GW102; replace HB := Aside0.mk (below_step (by repeat (first | (with_reducible first | exact HB.out | apply qx | apply qv | apply qw | refine below_set ?_ GE101.out) | exact HB.out)) hb); have NB101_102 := qn BK101 hg; have NB102_101 := qm BK101 hg; replace BK101 := qb BK101 hb; clear hb hbox hg)); go_upto_region 1 with (first | ((with_reducible refine gate_dst (N := 2) rfl ?_); (try (refine gate_guard (by rfl) ?_; dsimp only)); refine box_event ?hg (N := 2) ?hd (cs := #[.bool a0_0, .slice A0_1 l0_1.length c0_1]) (t := 25) ?hr ?_; (case hd => rfl); (case hg => rfl); (case hr => go_simp <;> rfl); intro gb101 hg w4 hbox hb; have BK101 := Aside0.mk (hbox); have GW101 := qg hg (by repeat (first | (with_reducible first | exact HB.out | apply qx | apply qv | apply qw) | exact HB.out)); have GE101 := GW101; replace HB := Aside0.mk (below_step (by repeat (first | (with_reducible first | exact HB.out | apply qx | apply qv | apply qw) | exact HB.out)) hb); clear hb hbox hg) | ((with_reducible refine gate_dst (N := 3) rfl ?_); (try (refine gate_guard (by rfl) ?_; dsimp only)); refine box_event ?hg (N := 3) ?hd (cs := #[.bool a1_0, .slice A1_1 l1_1.length c1_1]) (t := 25) ?hr ?_; (case hd => rfl); (case hg => rfl); (case hr => go_simp <;> rfl); intro gb102 hg w5 hbox hb; have BK102 := Aside0.mk (hbox); have GW102 := qg hg (by repeat (first | (with_reducible first | exact HB.out | apply qx | apply qv | apply qw | refine below_set ?_ GE101.out) | exact HB.out)); have GE102 := GW102; replace HB := Aside0.mk (below_step (by repeat (first | (with_reducible first | exact HB.out | apply qx | apply qv | apply qw | refine below_set ?_ GE101.out) | exact HB.out)) hb); have NB101_102 := qn BK101 hg; have NB102_101 := qm BK101 hg; replace BK101 := qb BK101 hb; clear hb hbox hg)))
 (try simp only [Act.put, zA, zB, zC])
 go_cut [19] (fun v19 wc => ∃ (kq : Nat) (x19_2 : Bool), v19 = .bool x19_2 ∧ Aside0 (moraineref02_Same.j0 kq x19_2 a0_0 l0_1 a1_0 l1_1 = some r) ∧ Aside0 (kq ≤ k) ∧ Aside0 (wc.heap[gb101]? = some (.cells #[.bool a0_0, (.slice A0_1 l0_1.length c0_1)] 25 (0, 0))) ∧ Aside0 (wc.heap[gb102]? = some (.cells #[.bool a1_0, (.slice A1_1 l1_1.length c1_1)] 25 (0, 0))) ∧ Aside0 (Below w.heap.size w wc))
 case first =>
  have H := HC3.out
  clear HC3
  by_cases c6 : (a0_0 != a1_0) = true
  ·rw [if_pos c6] at H
   have c6b0 : (a0_0 != a1_0) = true := c6
   (try (have c6b1 : decide (a0_0 = a1_0) = false := by simpa using c6))
   (try (have c6b2 : (a0_0 == a1_0) = false := by simpa using c6))
   (try (have c6b3 : ¬ (a0_0 = a1_0) := by simpa using c6))
   clear c6
   (first | rw [c6b0] | (simp only [i64_w, i32_w]; rw [c6b0]) | skip)
   have H' := Aside0.mk H
   clear H
   have hnb7 := NB101_102.out
   have hnc7 := NB102_101.out
   have hcz8_0 : w5.cell? ⟨gb101, 0, none⟩ = some (.bool a0_0) := qc BK101 0
   have hcz8_1 : w5.cell? ⟨gb101, 1, none⟩ = some (.slice A0_1 l0_1.length c0_1) := qc BK101 1
   have hfz8_0 := blk_frozen BK101.out 0
   have hfz8_1 := blk_frozen BK101.out 1
   have hcz9_0 : w5.cell? ⟨gb102, 0, none⟩ = some (.bool a1_0) := qc BK102 0
   have hcz9_1 : w5.cell? ⟨gb102, 1, none⟩ = some (.slice A1_1 l1_1.length c1_1) := qc BK102 1
   have hfz9_0 := blk_frozen BK102.out 0
   have hfz9_1 := blk_frozen BK102.out 1
   go_wp2
   repeat (go_quiet (fail); try go_wp2)
   go_meet
   case rel => exact ⟨_, (true), (by first | rfl | (simp; done) | (simp [*]; done)), H', ⟨by first | omega | exact Nat.le_refl _⟩, ⟨qk BK101⟩, ⟨qk BK102⟩, ⟨by repeat (first | (with_reducible first | exact HB.out | apply qx | apply qv | apply qw | refine qs ?_ (by assumption)) | exact HB.out)⟩⟩
  ·rw [if_neg c6] at H
   have c6b0 : (a0_0 != a1_0) = false := by simpa using c6
   (try (have c6b1 : decide (a0_0 = a1_0) = true := by simpa using c6))
   (try (have c6b2 : (a0_0 == a1_0) = true := by simpa using c6))
   clear c6
   (first | rw [c6b0] | (simp only [i64_w, i32_w]; rw [c6b0]) | skip)
   have H' := Aside0.mk H
   clear H
   have hnb10 := NB101_102.out
   have hnc10 := NB102_101.out
   have hcz11_0 : w5.cell? ⟨gb101, 0, none⟩ = some (.bool a0_0) := qc BK101 0
   have hcz11_1 : w5.cell? ⟨gb101, 1, none⟩ = some (.slice A0_1 l0_1.length c0_1) := qc BK101 1
   have hfz11_0 := blk_frozen BK101.out 0
   have hfz11_1 := blk_frozen BK101.out 1
   have hcz12_0 : w5.cell? ⟨gb102, 0, none⟩ = some (.bool a1_0) := qc BK102 0
   have hcz12_1 : w5.cell? ⟨gb102, 1, none⟩ = some (.slice A1_1 l1_1.length c1_1) := qc BK102 1
   have hfz12_0 := blk_frozen BK102.out 0
   have hfz12_1 := blk_frozen BK102.out 1
   go_wp2
   repeat (go_quiet (fail); try go_wp2)
   go_meet
   case rel => exact ⟨_, (((l0_1.length : Int) != (l1_1.length : Int))), (by first | rfl | (simp; done) | (simp [*]; done)), H', ⟨by first | omega | exact Nat.le_refl _⟩, ⟨qk BK101⟩, ⟨qk BK102⟩, ⟨by repeat (first | (with_reducible first | exact HB.out | apply qx | apply qv | apply qw | refine qs ?_ (by assumption)) | exact HB.out)⟩⟩
 case rest =>
  clear HC3
  try clear c1
  try clear p2
  try clear c6
  try clear c6b0
  try clear c6b1
  try clear c6b2
  try clear c7
  try clear c10
  try clear hcz11_0
  try clear hcz11_1
  try clear hcz12_0
  try clear hcz12_1
  try clear hcz8_0
  try clear hcz8_1
  try clear hcz9_0
  try clear hcz9_1
  try clear hfz11_0
  try clear hfz11_1
  try clear hfz12_0
  try clear hfz12_1
  try clear hfz8_0
  try clear hfz8_1
  try clear hfz9_0
  try clear hfz9_1
  obtain ⟨kq, x19_2, rfl, HA, HJ2, BK101, BK102, HB⟩ := hcut
  cases kq with
  | zero => exact absurd HA.out (by simp [moraineref02_Same.j0])
  | succ kj2 =>
   have H := HA.out
   clear HA
   simp only [moraineref02_Same.j0] at H
   by_cases c13 : x19_2 = true
   ·subst c13
    have H1 : (some false) = some r := by rw [if_pos rfl] at H; exact H
    clear H
    have H := H1
    clear H1
    obtain rfl := Option.some.inj H
    go_wp2
    repeat (go_quiet (fail); try go_wp2)
    go_ret
    exact ⟨by first | rfl | (simp [errW_none, errW_some] <;> rfl) | (simp [*, errW_none, errW_some] <;> rfl), by repeat (first | (with_reducible first | exact HB.out | apply qx | apply qv | apply qw | refine qs ?_ (by assumption)) | exact HB.out)⟩
   ·replace c13 := Bool.eq_false_iff.mpr c13
    subst c13
    have H1 : (moraineref02_Same.l0 kj2 0 a0_0 l0_1 a1_0 l1_1) = some r := by rw [if_neg (show ¬ (false = true) by decide)] at H; exact H
    clear H
    have H := H1
    clear H1
    have H' := Aside0.mk H
    clear H
    go_wp2
    repeat (go_quiet (fail); try go_wp2)
    go_loopg [5] kj2 (fun kq v5 w' => ∃ (x5_2 : Int), v5 = .int .i64 x5_2 ∧ Aside0 (moraineref02_Same.l0 kq x5_2 a0_0 l0_1 a1_0 l1_1 = some r) ∧ Aside0 (kq ≤ kj2) ∧ Aside0 (w'.heap[gb101]? = some (.cells #[.bool a0_0, (.slice A0_1 l0_1.length c0_1)] 25 (0, 0))) ∧ Aside0 (w'.heap[gb102]? = some (.cells #[.bool a1_0, (.slice A1_1 l1_1.length c1_1)] 25 (0, 0))) ∧ Aside0 (Below w.heap.size w w'))
    case atStart => exact ⟨(0), (by first | rfl | (simp; done) | (simp [*]; done)), H', ⟨Nat.le_refl _⟩, ⟨qk BK101⟩, ⟨qk BK102⟩, ⟨by repeat (first | (with_reducible first | exact HB.out | apply qx | apply qv | apply qw | refine qs ?_ (by assumption)) | exact HB.out)⟩⟩
    case round =>
     clear H'
     try clear c1
     try clear p2
     try clear c6
     try clear c6b0
     try clear c6b1
     try clear c6b2
     try clear c7
     try clear c10
     try clear c13
     try clear hcz11_0
     try clear hcz11_1
     try clear hcz12_0
     try clear hcz12_1
     try clear hcz8_0
     try clear hcz8_1
     try clear hcz9_0
     try clear hcz9_1
     try clear hfz11_0
     try clear hfz11_1
     try clear hfz12_0
     try clear hfz12_1
     try clear hfz8_0
     try clear hfz8_1
     try clear hfz9_0
     try clear hfz9_1
     try clear p2
     obtain ⟨x5_2, rfl, HA, HK2, BK101, BK102, HB⟩ := hrel
     cases gk with
     | zero => exact absurd HA.out (by simp [moraineref02_Same.l0])
     | succ k2 =>
      have H := HA.out
      clear HA
      simp only [moraineref02_Same.l0] at H
      by_cases c14 : x5_2 < (l0_1.length : Int)
      ·rw [if_pos c14] at H
       have c14b0 : decide (x5_2 < (l0_1.length : Int)) = true := decide_eq_true c14
       clear c14
       by_cases c15 : 0 ≤ x5_2
       ·rw [if_pos c15] at H
        have c15b0 : decide (0 ≤ x5_2) = true := decide_eq_true c15
        clear c15
        by_cases c16 : x5_2 < (l1_1.length : Int)
        ·rw [if_pos c16] at H
         have c16b0 : decide (x5_2 < (l1_1.length : Int)) = true := decide_eq_true c16
         clear c16
         by_cases c17 : (rd l0_1 x5_2) = (rd l1_1 x5_2)
         ·rw [if_pos c17] at H
          have c17b0 : ((rd l0_1 x5_2) == (rd l1_1 x5_2)) = true := beq_iff_eq.mpr c17
          have c17b1 : ((rd l0_1 x5_2) != (rd l1_1 x5_2)) = false := bne_eq_false_iff_eq.mpr c17
          clear c17
          have H' := Aside0.mk H
          clear H
          have hnb18 := NB101_102.out
          have hnc18 := NB102_101.out
          have hcz19_0 : wr.cell? ⟨gb101, 0, none⟩ = some (.bool a0_0) := qc BK101 0
          have hcz19_1 : wr.cell? ⟨gb101, 1, none⟩ = some (.slice A0_1 l0_1.length c0_1) := qc BK101 1
          have hfz19_0 := blk_frozen BK101.out 0
          have hfz19_1 := blk_frozen BK101.out 1
          have p103 : 0 ≤ (x5_2 : Int) := of_decide_eq_true (by first | (with_reducible assumption) | assumption)
          have q103 : x5_2 < (l0_1.length : Int) := of_decide_eq_true (by first | (with_reducible assumption) | assumption)
          obtain ⟨ad103, e103, hx103_0⟩ := Kd.at_int HR0_1.out x5_2 p103 q103
          cases e103
          replace hx103_0 := (HB.out.cell (World.block_lt_of_cell? w _ hx103_0)).trans hx103_0
          replace p103 := eq_true p103
          replace q103 := eq_true q103
          have hcz20_0 : wr.cell? ⟨gb102, 0, none⟩ = some (.bool a1_0) := qc BK102 0
          have hcz20_1 : wr.cell? ⟨gb102, 1, none⟩ = some (.slice A1_1 l1_1.length c1_1) := qc BK102 1
          have hfz20_0 := blk_frozen BK102.out 0
          have hfz20_1 := blk_frozen BK102.out 1
          have p104 : 0 ≤ (x5_2 : Int) := of_decide_eq_true (by first | (with_reducible assumption) | assumption)
          have q104 : x5_2 < (l1_1.length : Int) := of_decide_eq_true (by first | (with_reducible assumption) | assumption)
          obtain ⟨ad104, e104, hx104_0⟩ := Kd.at_int HR1_1.out x5_2 p104 q104
          cases e104
          replace hx104_0 := (HB.out.cell (World.block_lt_of_cell? w _ hx104_0)).trans hx104_0
          replace p104 := eq_true p104
          replace q104 := eq_true q104
          go_wp2
          repeat (go_quiet (fail); try go_wp2)
          go_roundg k2
          case measure => have := HJ2.out; have := HK2.out; omega
          case rel => exact ⟨(wrap64 (x5_2 + 1)), (by first | rfl | (simp; done) | (simp [*]; done)), H', ⟨by have := HJ2.out; have := HK2.out; omega⟩, ⟨qk BK101⟩, ⟨qk BK102⟩, ⟨by repeat (first | (with_reducible first | exact HB.out | apply qx | apply qv | apply qw | refine qs ?_ (by assumption)) | exact HB.out)⟩⟩
         ·rw [if_neg c17] at H
          have c17b0 : ((rd l0_1 x5_2) == (rd l1_1 x5_2)) = false := beq_eq_false_iff_ne.mpr c17
          have c17b1 : ((rd l0_1 x5_2) != (rd l1_1 x5_2)) = true := bne_iff_ne.mpr c17
          obtain rfl := Option.some.inj H
          have hnb21 := NB101_102.out
          have hnc21 := NB102_101.out
          have hcz22_0 : wr.cell? ⟨gb101, 0, none⟩ = some (.bool a0_0) := qc BK101 0
          have hcz22_1 : wr.cell? ⟨gb101, 1, none⟩ = some (.slice A0_1 l0_1.length c0_1) := qc BK101 1
          have hfz22_0 := blk_frozen BK101.out 0
          have hfz22_1 := blk_frozen BK101.out 1
          have p103 : 0 ≤ (x5_2 : Int) := of_decide_eq_true (by first | (with_reducible assumption) | assumption)
          have q103 : x5_2 < (l0_1.length : Int) := of_decide_eq_true (by first | (with_reducible assumption) | assumption)
          obtain ⟨ad103, e103, hx103_0⟩ := Kd.at_int HR0_1.out x5_2 p103 q103
          cases e103
          replace hx103_0 := (HB.out.cell (World.block_lt_of_cell? w _ hx103_0)).trans hx103_0
          replace p103 := eq_true p103
          replace q103 := eq_true q103
          have hcz23_0 : wr.cell? ⟨gb102, 0, none⟩ = some (.bool a1_0) := qc BK102 0
          have hcz23_1 : wr.cell? ⟨gb102, 1, none⟩ = some (.slice A1_1 l1_1.length c1_1) := qc BK102 1
          have hfz23_0 := blk_frozen BK102.out 0
          have hfz23_1 := blk_frozen BK102.out 1
          have p104 : 0 ≤ (x5_2 : Int) := of_decide_eq_true (by first | (with_reducible assumption) | assumption)
          have q104 : x5_2 < (l1_1.length : Int) := of_decide_eq_true (by first | (with_reducible assumption) | assumption)
          obtain ⟨ad104, e104, hx104_0⟩ := Kd.at_int HR1_1.out x5_2 p104 q104
          cases e104
          replace hx104_0 := (HB.out.cell (World.block_lt_of_cell? w _ hx104_0)).trans hx104_0
          replace p104 := eq_true p104
          replace q104 := eq_true q104
          go_wp2
          repeat (go_quiet (fail); try go_wp2)
          go_ret
          exact ⟨by first | rfl | (simp [errW_none, errW_some] <;> rfl) | (simp [*, errW_none, errW_some] <;> rfl), by repeat (first | (with_reducible first | exact HB.out | apply qx | apply qv | apply qw | refine qs ?_ (by assumption)) | exact HB.out)⟩
        ·rw [if_neg c16] at H
         exact absurd H (by simp)
       ·rw [if_neg c15] at H
        exact absurd H (by simp)
      ·rw [if_neg c14] at H
       have c14b0 : decide (x5_2 < (l0_1.length : Int)) = false := decide_eq_false c14
       clear c14
       obtain rfl := Option.some.inj H
       have hnb24 := NB101_102.out
       have hnc24 := NB102_101.out
       have hcz25_0 : wr.cell? ⟨gb101, 0, none⟩ = some (.bool a0_0) := qc BK101 0
       have hcz25_1 : wr.cell? ⟨gb101, 1, none⟩ = some (.slice A0_1 l0_1.length c0_1) := qc BK101 1
       have hfz25_0 := blk_frozen BK101.out 0
       have hfz25_1 := blk_frozen BK101.out 1
       go_wp2
       repeat (go_quiet (fail); try go_wp2)
       go_ret
       exact ⟨by first | rfl | (simp [errW_none, errW_some] <;> rfl) | (simp [*, errW_none, errW_some] <;> rfl), by repeat (first | (with_reducible first | exact HB.out | apply qx | apply qv | apply qw | refine qs ?_ (by assumption)) | exact HB.out)⟩
def moraineref02_cut.l0 : Nat → List Int → Int → Option (List Int)
 | 0, _, _ => none
 | k + 1, x0, x3 => if x3 > 0 then (if 0 ≤ (wrap64 (x3 - 1)) then (if (wrap64 (x3 - 1)) < (x0.length : Int) then (if (rd x0 (wrap64 (x3 - 1))) = 0 then (moraineref02_cut.l0 k x0 (wrap64 (x3 - 1))) else (if 0 ≤ x3 then (if x3 ≤ (x0.length : Int) then (some (x0.take (x3 : Int).toNat)) else (none)) else (none))) else (none)) else (none)) else (if 0 ≤ x3 then (if x3 ≤ (x0.length : Int) then (some (x0.take (x3 : Int).toNat)) else (none)) else (none))
def moraineref02_cut.f (k : Nat) (l0 : List Int) : Option (List Int) := moraineref02_cut.l0 k l0 (l0.length : Int)
set_option maxHeartbeats 8000000 in
set_option maxRecDepth 100000 in
theorem moraineref02_cut.calls (k : Nat) (P0_ : Nat → Prop) (u9000_ : Value) (l0 : List Int) (r : List Int) (w0 w : World) (hB : Below w0.heap.size w0 w) (ho0 : Kd.R (Kd.int .u8) 5 w w0.heap.size P0_ u9000_ l0) (h : moraineref02_cut.f k l0 = some r) :
  Calls Tryd.prog 85 #[u9000_] w fun e w' => ∃ v0_ : Value, e = .returned (v0_) ∧ Kd.R (Kd.int .u8) 5 w' w0.heap.size (fun k_ => (P0_ k_ ∨ w.heap.size ≤ k_)) v0_ r ∧ Below w0.heap.size w0 w' ∧ Kept w w' (fun k_ => P0_ k_) := by
 have HO0 := Aside0.mk (show Kd.R (Kd.int .u8) 5 w w0.heap.size (fun k_ => (P0_ k_ ∨ w.heap.size ≤ k_)) u9000_ l0 from Kd.R_mono ho0 (fun k_ hk => (.inl hk)))
 have HK := Aside0.mk (Kept.refl w (fun k_ => P0_ k_))
 have HW0 := Aside0.mk hB.size
 have HB := Aside0.mk hB
 clear hB
 have H : (moraineref02_cut.l0 k l0 (l0.length : Int)) = some r := h
 clear h
 have H' := Aside0.mk H
 clear H
 obtain ⟨Ao2, co2, eo2⟩ := Kd.R_slice HO0.out
 subst eo2
 go_enter Tryd.func85, Tryd.ntmps85
 go_wp2
 go_loopg [3] k (fun kq v3 w' => ∃ (x3_1 : Int), v3 = .int .i64 x3_1 ∧ Aside0 (moraineref02_cut.l0 kq l0 x3_1 = some r) ∧ Aside0 (kq ≤ k) ∧ Aside0 (Kd.R (Kd.int .u8) 5 w' w0.heap.size (fun k_ => (P0_ k_ ∨ w.heap.size ≤ k_)) (.slice Ao2 l0.length co2) l0) ∧ Aside0 (Kept w w' (fun k_ => P0_ k_)) ∧ Aside0 (Below w0.heap.size w0 w'))
 case atStart => exact ⟨((l0.length : Int)), (by first | rfl | (simp; done) | (simp [*]; done)), H', ⟨Nat.le_refl _⟩, ⟨qq HO0⟩, ⟨by repeat (first | (with_reducible first | exact HK.out | apply Kept.alloc | apply Kept.drewN | apply Kept.drew) | exact HK.out)⟩, ⟨by repeat (first | (with_reducible first | exact HB.out | apply qx | apply qv | apply qw) | exact HB.out)⟩⟩
 case round =>
  clear H'
  try clear p2
  obtain ⟨x3_1, rfl, HA, HK1, HO_0, HK, HB⟩ := hrel
  cases gk with
  | zero => exact absurd HA.out (by simp [moraineref02_cut.l0])
  | succ k1 =>
   have H := HA.out
   clear HA
   simp only [moraineref02_cut.l0] at H
   by_cases c3 : x3_1 > 0
   ·rw [if_pos c3] at H
    have c3b0 : decide (0 < x3_1) = true := decide_eq_true c3
    clear c3
    obtain ⟨ji4, hji4⟩ : ∃ j_ : Int, (wrap64 (x3_1 - 1)) = j_ := ⟨_, rfl⟩
    replace H : (if 0 ≤ (ji4) then (if (ji4) < (l0.length : Int) then (if (rd l0 (ji4)) = 0 then (moraineref02_cut.l0 k1 l0 ji4) else (if 0 ≤ x3_1 then (if x3_1 ≤ (l0.length : Int) then (some (l0.take (x3_1 : Int).toNat)) else (none)) else (none))) else (none)) else (none)) = some r := by first | (rw [hji4] at H; exact H) | (simp only [hji4] at H ⊢; exact H)
    have hji4w : (IntKind.i64.wrap (x3_1 - 1)) = ji4 := (i64_w _).trans hji4
    by_cases c5 : 0 ≤ (ji4)
    ·rw [if_pos c5] at H
     have c5b0 : decide (0 ≤ (ji4)) = true := decide_eq_true c5
     clear c5
     by_cases c6 : (ji4) < (l0.length : Int)
     ·rw [if_pos c6] at H
      have c6b0 : decide ((ji4) < (l0.length : Int)) = true := decide_eq_true c6
      clear c6
      by_cases c7 : (rd l0 (ji4)) = 0
      ·rw [if_pos c7] at H
       have c7b0 : ((rd l0 (ji4)) == 0) = true := beq_iff_eq.mpr c7
       have c7b1 : ((rd l0 (ji4)) != 0) = false := bne_eq_false_iff_eq.mpr c7
       clear c7
       have H' := Aside0.mk H
       clear H
       have p105 : 0 ≤ ((ji4) : Int) := of_decide_eq_true (by first | (with_reducible assumption) | assumption)
       have q105 : (ji4) < (l0.length : Int) := of_decide_eq_true (by first | (with_reducible assumption) | assumption)
       obtain ⟨ad105, e105, hx105_0⟩ := Kd.at_int (Kd.R_reads' HO_0.out).2.2 (ji4) p105 q105
       cases e105
       replace p105 := eq_true p105
       replace q105 := eq_true q105
       go_wp2
       go_roundg k1
       case measure => have := HK1.out; omega
       case rel => exact ⟨(ji4), (by first | rfl | (simp; done) | (simp only [← hji4] <;> (first | rfl | simp)) | (simp [*]; done)), H', ⟨by have := HK1.out; omega⟩, ⟨qq HO_0⟩, ⟨by repeat (first | (with_reducible first | exact HK.out | apply Kept.alloc | apply Kept.drewN | apply Kept.drew) | exact HK.out)⟩, ⟨by repeat (first | (with_reducible first | exact HB.out | apply qx | apply qv | apply qw) | exact HB.out)⟩⟩
      ·rw [if_neg c7] at H
       have c7b0 : ((rd l0 (ji4)) == 0) = false := beq_eq_false_iff_ne.mpr c7
       have c7b1 : ((rd l0 (ji4)) != 0) = true := bne_iff_ne.mpr c7
       by_cases c8 : 0 ≤ x3_1
       ·rw [if_pos c8] at H
        have c8b0 := eq_true c8
        have c8b1 : decide (0 ≤ x3_1) = true := decide_eq_true c8
        clear c8
        by_cases c9 : x3_1 ≤ (l0.length : Int)
        ·rw [if_pos c9] at H
         have c9b0 := eq_true c9
         have c9b1 : decide (x3_1 ≤ (l0.length : Int)) = true := decide_eq_true c9
         clear c9
         obtain ⟨y106, hy106⟩ : ∃ y_ : List Int, y_ = (l0.take (x3_1 : Int).toNat) := ⟨_, rfl⟩
         replace H : (some y106) = some r := by first | (rw [hy106]; with_reducible exact H) | (have H2_ := (Option.bind_some _ _).symm.trans H; rw [hy106]; with_reducible exact H2_) | (have H2_ := (Option.bind_some _ _).symm.trans H; with_reducible exact H2_) | with_reducible exact H | (rw [hy106]; exact H) | exact H
         have Ny106 := Aside0.mk hy106
         clear hy106
         obtain rfl := Option.some.inj H
         have p105 : 0 ≤ ((ji4) : Int) := of_decide_eq_true (by first | (with_reducible assumption) | assumption)
         have q105 : (ji4) < (l0.length : Int) := of_decide_eq_true (by first | (with_reducible assumption) | assumption)
         obtain ⟨ad105, e105, hx105_0⟩ := Kd.at_int (Kd.R_reads' HO_0.out).2.2 (ji4) p105 q105
         cases e105
         replace p105 := eq_true p105
         replace q105 := eq_true q105
         have q10 : (x3_1 : Int) ≤ ((l0.length : Int) : Int) := of_decide_eq_true (by first | (with_reducible assumption) | assumption)
         obtain ⟨i010, hi010, _, hsz10, _⟩ := info_parts info5
         have hcut10 := cut_to (P := Tryd.prog) 32 5 .i64 Tryd.underlying32 hi010 (some ad105) l0.length co2 x3_1 (of_decide_eq_true (by first | (with_reducible assumption) | assumption)) q10 (Kd.R_reads' HO_0.out).2.1
         have hr10 := Kd.R_take (m := (x3_1 : Int).toNat) HO_0.out (by omega)
         have hy10 : y106.length = (x3_1 : Int).toNat := (by rw [Ny106.out, List.length_take]; omega)
         rw [← Ny106.out] at hr10
         rw [← hy10] at hr10 hcut10
         clear hy10 hi010 hsz10 HO_0
         have HO108 := Aside0.mk hr10
         clear hr10
         replace q10 := eq_true q10
         go_wp2
         go_ret
         exact ⟨_, by first | rfl | (simp [errW_none, errW_some] <;> rfl) | (simp only [← hji4]; first | rfl | (simp [errW_none, errW_some] <;> rfl)) | (simp [*, errW_none, errW_some] <;> rfl), by (with_reducible repeat first|apply Kd.R_alloc|apply Kd.R_drewN|apply Kd.R_drew); exact HO108.out, by repeat (first | (with_reducible first | exact HB.out | apply qx | apply qv | apply qw) | exact HB.out), by repeat (first | (with_reducible first | exact HK.out | apply Kept.alloc | apply Kept.drewN | apply Kept.drew) | exact HK.out)⟩
        ·rw [if_neg c9] at H
         exact absurd H (by simp)
       ·rw [if_neg c8] at H
        exact absurd H (by simp)
     ·rw [if_neg c6] at H
      exact absurd H (by simp)
    ·rw [if_neg c5] at H
     exact absurd H (by simp)
   ·rw [if_neg c3] at H
    have c3b0 : decide (0 < x3_1) = false := decide_eq_false c3
    clear c3
    by_cases c11 : 0 ≤ x3_1
    ·rw [if_pos c11] at H
     have c11b0 := eq_true c11
     have c11b1 : decide (0 ≤ x3_1) = true := decide_eq_true c11
     clear c11
     by_cases c12 : x3_1 ≤ (l0.length : Int)
     ·rw [if_pos c12] at H
      have c12b0 := eq_true c12
      have c12b1 : decide (x3_1 ≤ (l0.length : Int)) = true := decide_eq_true c12
      clear c12
      obtain ⟨y109, hy109⟩ : ∃ y_ : List Int, y_ = (l0.take (x3_1 : Int).toNat) := ⟨_, rfl⟩
      replace H : (some y109) = some r := by first | (rw [hy109]; with_reducible exact H) | (have H2_ := (Option.bind_some _ _).symm.trans H; rw [hy109]; with_reducible exact H2_) | (have H2_ := (Option.bind_some _ _).symm.trans H; with_reducible exact H2_) | with_reducible exact H | (rw [hy109]; exact H) | exact H
      have Ny109 := Aside0.mk hy109
      clear hy109
      obtain rfl := Option.some.inj H
      have q13 : (x3_1 : Int) ≤ ((l0.length : Int) : Int) := of_decide_eq_true (by first | (with_reducible assumption) | assumption)
      obtain ⟨i013, hi013, _, hsz13, _⟩ := info_parts info5
      have hcut13 := cut_to (P := Tryd.prog) 32 5 .i64 Tryd.underlying32 hi013 Ao2 l0.length co2 x3_1 (of_decide_eq_true (by first | (with_reducible assumption) | assumption)) q13 (Kd.R_reads' HO_0.out).2.1
      have hr13 := Kd.R_take (m := (x3_1 : Int).toNat) HO_0.out (by omega)
      have hy13 : y109.length = (x3_1 : Int).toNat := (by rw [Ny109.out, List.length_take]; omega)
      rw [← Ny109.out] at hr13
      rw [← hy13] at hr13 hcut13
      clear hy13 hi013 hsz13 HO_0
      have HO111 := Aside0.mk hr13
      clear hr13
      replace q13 := eq_true q13
      go_wp2
      go_ret
      exact ⟨_, by first | rfl | (simp [errW_none, errW_some] <;> rfl) | (simp [*, errW_none, errW_some] <;> rfl), by (with_reducible repeat first|apply Kd.R_alloc|apply Kd.R_drewN|apply Kd.R_drew); exact HO111.out, by repeat (first | (with_reducible first | exact HB.out | apply qx | apply qv | apply qw) | exact HB.out), by repeat (first | (with_reducible first | exact HK.out | apply Kept.alloc | apply Kept.drewN | apply Kept.drew) | exact HK.out)⟩
     ·rw [if_neg c12] at H
      exact absurd H (by simp)
    ·rw [if_neg c11] at H
     exact absurd H (by simp)
def moraineref02_value.f (k : Nat) (a0 : Bool) (l1 : List Int) : Option (Bool × List Int) := (moraineref02_cut.f k l1).bind fun t113 => (if a0 = true then (some (decide (0 < t113.length), t113)) else (some (false, t113)))
set_option maxHeartbeats 8000000 in
set_option maxRecDepth 100000 in
theorem moraineref02_value.calls (k : Nat) (a0 : Bool) (P1_ : Nat → Prop) (u9000_ : Value) (l1 : List Int) (r1 : Bool) (r2 : List Int) (w0 w : World) (hB : Below w0.heap.size w0 w) (ho1 : Kd.R (Kd.int .u8) 5 w w0.heap.size P1_ u9000_ l1) (h : moraineref02_value.f k a0 l1 = some (r1, r2)) :
  Calls Tryd.prog 62 #[.bool a0, u9000_] w fun e w' => ∃ v1_ : Value, e = .returned (.agg #[.bool r1, v1_]) ∧ Kd.R (Kd.int .u8) 5 w' w0.heap.size (fun k_ => (P1_ k_ ∨ w.heap.size ≤ k_)) v1_ r2 ∧ Below w0.heap.size w0 w' ∧ Kept w w' (fun k_ => P1_ k_) := by
 have hu34 := Tryd.underlying34
 have HO1 := Aside0.mk (show Kd.R (Kd.int .u8) 5 w w0.heap.size (fun k_ => (P1_ k_ ∨ w.heap.size ≤ k_)) u9000_ l1 from Kd.R_mono ho1 (fun k_ hk => (.inl hk)))
 have HK := Aside0.mk (Kept.refl w (fun k_ => P1_ k_))
 have HW0 := Aside0.mk hB.size
 have HB := Aside0.mk hB
 clear hB
 have H : ((moraineref02_cut.f k l1).bind fun t113 => (if a0 = true then (some (decide (0 < t113.length), t113)) else (some (false, t113)))) = some (r1, r2) := h
 clear h
 replace H := Option.bind_eq_some_iff.mp H
 obtain ⟨t113, A30, H⟩ := H
 replace H : (if a0 = true then (some (decide (0 < t113.length), t113)) else (some (false, t113))) = some (r1, r2) := H
 have A3 := Aside0.mk A30
 clear A30
 by_cases c4 : a0 = true
 ·subst c4
  have H1 : (some (decide (0 < t113.length), t113)) = some (r1, r2) := by rw [if_pos rfl] at H; exact H
  clear H
  have H := H1
  clear H1
  simp only [Option.some.injEq, Prod.mk.injEq] at H
  obtain ⟨rfl, rfl⟩ := H
  go_enter Tryd.func62, Tryd.ntmps62
  go_wp2_with (first | ((with_reducible refine gate_dst (N := 4) rfl ?_); (try (refine gate_guard (by rfl) ?_; dsimp only)); refine box_event ?hg (N := 4) ?hd (cs := #[.bool false, .slice none 0 0]) (t := 34) ?hr ?_; (case hd => rfl); (case hg => rfl); (case hr => go_simp <;> rfl); intro gb112 hg w5 hbox hb; have n0_ := qr HO1 hb; have n1_ := Aside0.mk (Kept.below (S := (fun k_ => P1_ k_)) (by repeat (first | (with_reducible first | exact HK.out | apply Kept.alloc | apply Kept.drewN | apply Kept.drew) | exact HK.out)) hb); have n2_ := Aside0.mk (below_step (by repeat (first | (with_reducible first | exact HB.out | apply qx | apply qv | apply qw) | exact HB.out)) hb); have n3_ := Aside0.mk (hbox); have n4_ := Aside0.mk ((by rw [hg]; exact (by first | exact HK.out.1 | exact (show Kept w _ (fun k_ => P1_ k_) from by repeat (first | (with_reducible first | exact HK.out | apply Kept.alloc | apply Kept.drewN | apply Kept.drew) | exact HK.out)).1) : w.heap.size ≤ gb112)); have n5_ := Aside0.mk ((by rw [hg]; exact (below_size (by repeat (first | (with_reducible first | exact HB.out | apply qx | apply qv | apply qw) | exact HB.out))) : w0.heap.size ≤ gb112)); clear HO1; clear HK; clear HB; have HO1 := n0_; have HK := n1_; have HB := n2_; have BK112 := n3_; have GW112 := n4_; have GE112 := n5_; clear n0_ n1_ n2_ n3_ n4_ n5_; clear hb hbox hg; obtain ⟨Ao6, co6, eo6⟩ := Kd.R_slice HO1.out; subst eo6) | ((with_reducible refine gate_callee (f := 85) rfl ?_); refine goesL_ (some 6) rfl rfl Tryd.func85 (by kernel_rfl) rfl #[.slice Ao6 l1.length co6] rfl (by (try simp only [zM, zO, zP]); first|done|rfl) ?_; (with_reducible refine (moraineref02_cut.calls k (fun k_ => some k_ = (.slice Ao6 l1.length co6 : Value).ownBlock) (.slice Ao6 l1.length co6) l1 t113 w0 _ ?side1 ?side2 A3.out).mono ?_); (case side1 => repeat (first | (with_reducible first | exact HB.out | apply qx | apply qv | apply qw | refine below_set ?_ GE112.out) | exact HB.out)); (case side2 => exact Kd.R_tight rfl HO1.out); rintro e w7 ⟨v114, rfl, ho0, hb, hkp⟩; refine ⟨_, rfl, ?_⟩; have n0_ := Aside0.mk (blk_kept (by (with_reducible repeat first|refine qN ?_ _|refine qW ?_|refine qA ?_ _); exact BK112.out) hkp (fun hs_ => (fun e_ => (Kd.R_ne HO1.out BK112.out (by decide)) e_) hs_)); have n1_ := Aside0.mk (Kd.R_mono (ok' := fun k_ => (P1_ k_ ∨ w.heap.size ≤ k_)) ho0 (fun k_ hk_ => Or.elim hk_ (fun hs_ => (HO1.out.1 k_ (hs_).symm)) (fun hn_ => (.inr (Nat.le_trans (by first | exact HK.out.1 | exact (show Kept w _ (fun k_ => P1_ k_) from by repeat (first | (with_reducible first | exact HK.out | apply Kept.alloc | apply Kept.drewN | apply Kept.drew | refine Kept.setCell ?_ (.inr GW112.out) _) | exact HK.out)).1) hn_))))); have n2_ := Aside0.mk (Kept.then_ (S := (fun k_ => P1_ k_)) (by repeat (first | (with_reducible first | exact HK.out | apply Kept.alloc | apply Kept.drewN | apply Kept.drew | refine Kept.setCell ?_ (.inr GW112.out) _) | exact HK.out)) hkp (fun k_ hs_ => (fun e_ => (HO1.out.1 k_ e_.symm)) hs_)); have n3_ := Aside0.mk (hb); clear BK112; clear HK; clear HB; clear HO1; have BK112 := n0_; have HO115 := n1_; have HK := n2_; have HB := n3_; clear n0_ n1_ n2_ n3_; (try clear hb); (try clear hkp); (try clear ho0); obtain ⟨Ao8, co8, eo8⟩ := Kd.R_slice HO115.out; subst eo8; have hcz9_0 : w7.cell? ⟨gb112, 0, none⟩ = some (.bool false) := qc BK112 0; have hcz9_1 : w7.cell? ⟨gb112, 1, none⟩ = some (.slice none 0 0) := qc BK112 1; have hfz9_0 := blk_frozen BK112.out 0; have hfz9_1 := blk_frozen BK112.out 1))
  refine bodyPost_ret (results_cell_row rfl _ _ gb112 34 #[.bool (decide (0 < t113.length)), .slice Ao8 t113.length co8] (0, 0) _ rfl (by (with_reducible repeat first|refine qN ?_ _|refine qW ?_|refine qA ?_ _); refine blk_put (cs := #[.bool (decide (0 < t113.length)), .slice none 0 0]) ?_ 1 _ rfl; (with_reducible repeat first|refine qN ?_ _|refine qW ?_|refine qA ?_ _); refine blk_put (cs := #[.bool false, .slice none 0 0]) ?_ 0 _ rfl; (with_reducible repeat first|refine qN ?_ _|refine qW ?_|refine qA ?_ _); exact BK112.out) Tryd.underlying34 rfl (by kernel_rfl)) rfl ?_
  exact ⟨_, by first | rfl | (simp [errW_none, errW_some] <;> rfl) | (simp [*, errW_none, errW_some] <;> rfl), by (with_reducible repeat first|apply Kd.R_alloc|apply Kd.R_drewN|apply Kd.R_drew); exact Kd.R_mono (Kd.R_far (p := ⟨gb112, 1, none⟩) (Kd.R_far (p := ⟨gb112, 0, none⟩) (Kd.R_types HO115.out BK112.out (by decide)) (fun _ hk => hk.2) (.bool (decide (0 < t113.length)))) (fun _ hk => hk.2) (.slice Ao8 t113.length co8)) (fun _ hk => hk.1), by repeat (first | (with_reducible first | exact HB.out | apply qx | apply qv | apply qw | refine below_set ?_ GE112.out) | exact HB.out), by repeat (first | (with_reducible first | exact HK.out | apply Kept.alloc | apply Kept.drewN | apply Kept.drew | refine Kept.setCell ?_ (.inr GW112.out) _) | exact HK.out)⟩
 ·replace c4 := Bool.eq_false_iff.mpr c4
  subst c4
  have H1 : (some (false, t113)) = some (r1, r2) := by rw [if_neg (show ¬ (false = true) by decide)] at H; exact H
  clear H
  have H := H1
  clear H1
  simp only [Option.some.injEq, Prod.mk.injEq] at H
  obtain ⟨rfl, rfl⟩ := H
  go_enter Tryd.func62, Tryd.ntmps62
  go_wp2_with (first | ((with_reducible refine gate_dst (N := 4) rfl ?_); (try (refine gate_guard (by rfl) ?_; dsimp only)); refine box_event ?hg (N := 4) ?hd (cs := #[.bool false, .slice none 0 0]) (t := 34) ?hr ?_; (case hd => rfl); (case hg => rfl); (case hr => go_simp <;> rfl); intro gb112 hg w10 hbox hb; have n0_ := qr HO1 hb; have n1_ := Aside0.mk (Kept.below (S := (fun k_ => P1_ k_)) (by repeat (first | (with_reducible first | exact HK.out | apply Kept.alloc | apply Kept.drewN | apply Kept.drew) | exact HK.out)) hb); have n2_ := Aside0.mk (below_step (by repeat (first | (with_reducible first | exact HB.out | apply qx | apply qv | apply qw) | exact HB.out)) hb); have n3_ := Aside0.mk (hbox); have n4_ := Aside0.mk ((by rw [hg]; exact (by first | exact HK.out.1 | exact (show Kept w _ (fun k_ => P1_ k_) from by repeat (first | (with_reducible first | exact HK.out | apply Kept.alloc | apply Kept.drewN | apply Kept.drew) | exact HK.out)).1) : w.heap.size ≤ gb112)); have n5_ := Aside0.mk ((by rw [hg]; exact (below_size (by repeat (first | (with_reducible first | exact HB.out | apply qx | apply qv | apply qw) | exact HB.out))) : w0.heap.size ≤ gb112)); clear HO1; clear HK; clear HB; have HO1 := n0_; have HK := n1_; have HB := n2_; have BK112 := n3_; have GW112 := n4_; have GE112 := n5_; clear n0_ n1_ n2_ n3_ n4_ n5_; clear hb hbox hg; obtain ⟨Ao11, co11, eo11⟩ := Kd.R_slice HO1.out; subst eo11) | ((with_reducible refine gate_callee (f := 85) rfl ?_); refine goesL_ (some 6) rfl rfl Tryd.func85 (by kernel_rfl) rfl #[.slice Ao11 l1.length co11] rfl (by (try simp only [zM, zO, zP]); first|done|rfl) ?_; (with_reducible refine (moraineref02_cut.calls k (fun k_ => some k_ = (.slice Ao11 l1.length co11 : Value).ownBlock) (.slice Ao11 l1.length co11) l1 t113 w0 _ ?side1 ?side2 A3.out).mono ?_); (case side1 => repeat (first | (with_reducible first | exact HB.out | apply qx | apply qv | apply qw | refine below_set ?_ GE112.out) | exact HB.out)); (case side2 => exact Kd.R_tight rfl HO1.out); rintro e w12 ⟨v114, rfl, ho0, hb, hkp⟩; refine ⟨_, rfl, ?_⟩; have n0_ := Aside0.mk (blk_kept (by (with_reducible repeat first|refine qN ?_ _|refine qW ?_|refine qA ?_ _); exact BK112.out) hkp (fun hs_ => (fun e_ => (Kd.R_ne HO1.out BK112.out (by decide)) e_) hs_)); have n1_ := Aside0.mk (Kd.R_mono (ok' := fun k_ => (P1_ k_ ∨ w.heap.size ≤ k_)) ho0 (fun k_ hk_ => Or.elim hk_ (fun hs_ => (HO1.out.1 k_ (hs_).symm)) (fun hn_ => (.inr (Nat.le_trans (by first | exact HK.out.1 | exact (show Kept w _ (fun k_ => P1_ k_) from by repeat (first | (with_reducible first | exact HK.out | apply Kept.alloc | apply Kept.drewN | apply Kept.drew | refine Kept.setCell ?_ (.inr GW112.out) _) | exact HK.out)).1) hn_))))); have n2_ := Aside0.mk (Kept.then_ (S := (fun k_ => P1_ k_)) (by repeat (first | (with_reducible first | exact HK.out | apply Kept.alloc | apply Kept.drewN | apply Kept.drew | refine Kept.setCell ?_ (.inr GW112.out) _) | exact HK.out)) hkp (fun k_ hs_ => (fun e_ => (HO1.out.1 k_ e_.symm)) hs_)); have n3_ := Aside0.mk (hb); clear BK112; clear HK; clear HB; clear HO1; have BK112 := n0_; have HO115 := n1_; have HK := n2_; have HB := n3_; clear n0_ n1_ n2_ n3_; (try clear hb); (try clear hkp); (try clear ho0); obtain ⟨Ao13, co13, eo13⟩ := Kd.R_slice HO115.out; subst eo13; have hcz14_0 : w12.cell? ⟨gb112, 0, none⟩ = some (.bool false) := qc BK112 0; have hcz14_1 : w12.cell? ⟨gb112, 1, none⟩ = some (.slice none 0 0) := qc BK112 1; have hfz14_0 := blk_frozen BK112.out 0; have hfz14_1 := blk_frozen BK112.out 1))
  refine bodyPost_ret (results_cell_row rfl _ _ gb112 34 #[.bool false, .slice Ao13 t113.length co13] (0, 0) _ rfl (by (with_reducible repeat first|refine qN ?_ _|refine qW ?_|refine qA ?_ _); refine blk_put (cs := #[.bool false, .slice none 0 0]) ?_ 1 _ rfl; (with_reducible repeat first|refine qN ?_ _|refine qW ?_|refine qA ?_ _); refine blk_put (cs := #[.bool false, .slice none 0 0]) ?_ 0 _ rfl; (with_reducible repeat first|refine qN ?_ _|refine qW ?_|refine qA ?_ _); exact BK112.out) Tryd.underlying34 rfl (by kernel_rfl)) rfl ?_
  exact ⟨_, by first | rfl | (simp [errW_none, errW_some] <;> rfl) | (simp [*, errW_none, errW_some] <;> rfl), by (with_reducible repeat first|apply Kd.R_alloc|apply Kd.R_drewN|apply Kd.R_drew); exact Kd.R_mono (qz HO115 BK112 (by decide) (.bool false) (.slice Ao13 t113.length co13)) (fun _ hk => hk.1), by repeat (first | (with_reducible first | exact HB.out | apply qx | apply qv | apply qw | refine below_set ?_ GE112.out) | exact HB.out), by repeat (first | (with_reducible first | exact HK.out | apply Kept.alloc | apply Kept.drewN | apply Kept.drew | refine Kept.setCell ?_ (.inr GW112.out) _) | exact HK.out)⟩
mutual
def moraineref02_Value.l0 : Nat → List Int → Int → Bool → List Int → Option (Bool × List Int)
 | 0, _, _, _, _ => none
 | k + 1, x3, x4, x117000, x117001 => if x4 < (x117001.length : Int) then (moraineref02_Value.l1 k x3 x4 0 x117000 x117001) else ((moraineref02_value.f k x117000 x3).bind fun bt118 => (some (bt118.1, bt118.2)))
def moraineref02_Value.l1 : Nat → List Int → Int → Int → Bool → List Int → Option (Bool × List Int)
 | 0, _, _, _, _, _ => none
 | k + 1, x3, x4, x5, x117000, x117001 => if x5 < 32 then (if 0 ≤ x4 then (if x4 < (x117001.length : Int) then (if 0 ≤ x5 then (if x3.length < 140737488355328 then (moraineref02_Value.l1 k (x3 ++ [(Go.bits .and .u32 (shr .u32 (rd x117001 x4) x5) 1) % 256]) x4 (wrap64 (x5 + 1)) x117000 x117001) else (none)) else (none)) else (none)) else (none)) else (moraineref02_Value.l0 k x3 (wrap64 (x4 + 1)) x117000 x117001)
end
def moraineref02_Value.f (k : Nat) (a0_0 : Bool) (l0_1 : List Int) : Option (Bool × List Int) := moraineref02_Value.l0 k ([] : List Int) 0 a0_0 l0_1
set_option maxHeartbeats 8000000 in
set_option maxRecDepth 100000 in
theorem moraineref02_Value.calls (k : Nat) (a0_0 : Bool) (A0_1 : Option Addr) (c0_1 : Nat) (l0_1 : List Int) (r1 : Bool) (r2 : List Int) (w : World) (hr0_1 : Kd.C (Kd.int .u32) w A0_1 l0_1.length l0_1) (hc0_1 : l0_1.length ≤ c0_1) (h : moraineref02_Value.f k a0_0 l0_1 = some (r1, r2)) :
  Calls Tryd.prog 24 #[.agg #[.bool a0_0, .slice A0_1 l0_1.length c0_1]] w fun e w' => ∃ v1_ : Value, e = .returned (.agg #[.bool r1, v1_]) ∧ Kd.R (Kd.int .u8) 5 w' w.heap.size (fun _ => True) v1_ r2 ∧ Below w.heap.size w w' := by
 have hu25 := Tryd.underlying25
 have hu34 := Tryd.underlying34
 have HR0_1 := Aside0.mk hr0_1
 have HC0_1 := Aside0.mk hc0_1
 clear hr0_1 hc0_1
 have HB := Aside0.mk (Below.refl w.heap.size w)
 have H : (moraineref02_Value.l0 k ([] : List Int) 0 a0_0 l0_1) = some (r1, r2) := h
 clear h
 have H' := Aside0.mk H
 clear H
 go_enter Tryd.func24, Tryd.ntmps24
 go_wp2_with (first | ((with_reducible refine gate_dst (N := 1) rfl ?_); refine box_event ?hg (N := 1) ?hd (cs := #[.bool a0_0, .slice A0_1 l0_1.length c0_1]) (t := 25) ?hr ?_; (case hd => rfl); (case hg => rfl); (case hr => go_simp <;> rfl); intro gb116 hg w2 hbox hb; have BK116 := Aside0.mk (hbox); have GW116 := qg hg (by repeat (first | (with_reducible first | exact HB.out | apply qx | apply qv | apply qw) | exact HB.out)); have GE116 := GW116; replace HB := Aside0.mk (below_step (by repeat (first | (with_reducible first | exact HB.out | apply qx | apply qv | apply qw) | exact HB.out)) hb); clear hb hbox hg) | ((with_reducible refine gate_dst (N := 2) rfl ?_); refine box_event ?hg (N := 2) ?hd (cs := #[.bool false, .slice none 0 0]) (t := 34) ?hr ?_; (case hd => rfl); (case hg => rfl); (case hr => go_simp <;> rfl); intro gb117 hg w3 hbox hb; have BK117 := Aside0.mk (hbox); have GW117 := qg hg (by repeat (first | (with_reducible first | exact HB.out | apply qx | apply qv | apply qw | refine below_set ?_ GE116.out) | exact HB.out)); have GE117 := GW117; replace HB := Aside0.mk (below_step (by repeat (first | (with_reducible first | exact HB.out | apply qx | apply qv | apply qw | refine below_set ?_ GE116.out) | exact HB.out)) hb); have NB116_117 := qn BK116 hg; have NB117_116 := qm BK116 hg; replace BK116 := qb BK116 hb; clear hb hbox hg))
 go_loopg [3, 4] k (fun kq v3 v4 w' => ∃ (x3_1 : List Int) (x4_1 : Int), v4 = .int .i64 x4_1 ∧ Aside0 (moraineref02_Value.l0 kq x3_1 x4_1 a0_0 l0_1 = some (r1, r2)) ∧ Aside0 (kq ≤ k) ∧ Aside0 (Kd.R (Kd.int .u8) 5 w' w.heap.size (fun _ => True) v3 x3_1) ∧ Aside0 (w'.heap[gb116]? = some (.cells #[.bool a0_0, (.slice A0_1 l0_1.length c0_1)] 25 (0, 0))) ∧ Aside0 (w'.heap[gb117]? = some (.cells #[.bool false, (.slice none 0 0)] 34 (0, 0))) ∧ Aside0 (Below w.heap.size w w'))
 case atStart => exact ⟨(([] : List Int)), (0), (by first | rfl | (simp; done) | (simp [*]; done)), H', ⟨Nat.le_refl _⟩, ⟨by first | exact Kd.R_nil _ _ _ _ _ | exact Kd.N_nil _ _ _ _ _ | exact Kd.V_nil _ _ _ _ _ | exact Kd.Q_nil _ _ _ _ _ | exact Kd.S_nil _ _ _ _ _⟩, ⟨qk BK116⟩, ⟨qk BK117⟩, ⟨by repeat (first | (with_reducible first | exact HB.out | apply qx | apply qv | apply qw | refine qs ?_ (by assumption)) | exact HB.out)⟩⟩
 case round =>
  clear H'
  try clear c2
  try clear p2
  obtain ⟨x3_1, x4_1, rfl, HA, HK1, HO_3, BK116, BK117, HB⟩ := hrel
  cases gk with
  | zero => exact absurd HA.out (by simp [moraineref02_Value.l0])
  | succ k1 =>
   have H := HA.out
   clear HA
   simp only [moraineref02_Value.l0] at H
   by_cases c4 : x4_1 < (l0_1.length : Int)
   ·rw [if_pos c4] at H
    have c4b0 : decide (x4_1 < (l0_1.length : Int)) = true := decide_eq_true c4
    clear c4
    have H' := Aside0.mk H
    clear H
    have hnb5 := NB116_117.out
    have hnc5 := NB117_116.out
    have hcz6_0 : wr.cell? ⟨gb116, 0, none⟩ = some (.bool a0_0) := qc BK116 0
    have hcz6_1 : wr.cell? ⟨gb116, 1, none⟩ = some (.slice A0_1 l0_1.length c0_1) := qc BK116 1
    have hfz6_0 := blk_frozen BK116.out 0
    have hfz6_1 := blk_frozen BK116.out 1
    go_wp2
    go_loopg [3, 5] k1 (fun kq v3 v5 w' => ∃ (x3_2 : List Int) (x5_2 : Int), v5 = .int .i64 x5_2 ∧ Aside0 (moraineref02_Value.l1 kq x3_2 x4_1 x5_2 a0_0 l0_1 = some (r1, r2)) ∧ Aside0 (kq ≤ k1) ∧ Aside0 (Kd.R (Kd.int .u8) 5 w' w.heap.size (fun _ => True) v3 x3_2) ∧ Aside0 (w'.heap[gb116]? = some (.cells #[.bool a0_0, (.slice A0_1 l0_1.length c0_1)] 25 (0, 0))) ∧ Aside0 (w'.heap[gb117]? = some (.cells #[.bool false, (.slice none 0 0)] 34 (0, 0))) ∧ Aside0 (Below w.heap.size w w'))
    case atStart => exact ⟨(x3_1), (0), (by first | rfl | (simp; done) | (simp [*]; done)), H', ⟨Nat.le_refl _⟩, ⟨qq HO_3⟩, ⟨qk BK116⟩, ⟨qk BK117⟩, ⟨by repeat (first | (with_reducible first | exact HB.out | apply qx | apply qv | apply qw | refine qs ?_ (by assumption)) | exact HB.out)⟩⟩
    case round =>
     clear H'
     try clear c2
     try clear p2
     try clear c4
     try clear c4b0
     try clear c5
     try clear hcz6_0
     try clear hcz6_1
     try clear hfz6_0
     try clear hfz6_1
     try clear p2
     obtain ⟨x3_2, x5_2, rfl, HA, HK2, HO_3, BK116, BK117, HB⟩ := hrel
     cases gk with
     | zero => exact absurd HA.out (by simp [moraineref02_Value.l1])
     | succ k2 =>
      have H := HA.out
      clear HA
      simp only [moraineref02_Value.l1] at H
      by_cases c7 : x5_2 < 32
      ·rw [if_pos c7] at H
       have c7b0 : decide (x5_2 < 32) = true := decide_eq_true c7
       clear c7
       by_cases c8 : 0 ≤ x4_1
       ·rw [if_pos c8] at H
        have c8b0 : decide (0 ≤ x4_1) = true := decide_eq_true c8
        clear c8
        by_cases c9 : x4_1 < (l0_1.length : Int)
        ·rw [if_pos c9] at H
         have c9b0 : decide (x4_1 < (l0_1.length : Int)) = true := decide_eq_true c9
         clear c9
         by_cases c10 : 0 ≤ x5_2
         ·rw [if_pos c10] at H
          have c10b0 := eq_true c10
          have c10b1 : decide (0 ≤ x5_2) = true := decide_eq_true c10
          clear c10
          obtain ⟨ji11, hji11⟩ : ∃ j_ : Int, (shr .u32 (rd l0_1 x4_1) x5_2) = j_ := ⟨_, rfl⟩
          replace H : (if x3_2.length < 140737488355328 then (moraineref02_Value.l1 k2 (x3_2 ++ [(Go.bits .and .u32 (ji11) 1) % 256]) x4_1 (wrap64 (x5_2 + 1)) a0_0 l0_1) else (none)) = some (r1, r2) := by first | (rw [hji11] at H; exact H) | (simp only [hji11] at H ⊢; exact H)
          have hji11_ : ((rd l0_1 x4_1) / 2 ^ min x5_2.toNat 32) = ji11 := hji11
          have hji11z : x5_2 ≤ 32 → ((rd l0_1 x4_1) / 2 ^ x5_2.toNat) = ji11 := shr_small hji11
          by_cases c12 : x3_2.length < 140737488355328
          ·rw [if_pos c12] at H
           have LMc12 := Aside0.mk c12
           clear c12
           obtain ⟨y123, hy123⟩ : ∃ y_ : List Int, y_ = (x3_2 ++ [(Go.bits .and .u32 (ji11) 1) % 256]) := ⟨_, rfl⟩
           replace H : (moraineref02_Value.l1 k2 y123 x4_1 (wrap64 (x5_2 + 1)) a0_0 l0_1) = some (r1, r2) := by first | (rw [hy123]; with_reducible exact H) | (have H2_ := (Option.bind_some _ _).symm.trans H; rw [hy123]; with_reducible exact H2_) | (have H2_ := (Option.bind_some _ _).symm.trans H; with_reducible exact H2_) | with_reducible exact H | (rw [hy123]; exact H) | exact H
           have Ny123 := Aside0.mk hy123
           clear hy123
           have H' := Aside0.mk H
           clear H
           have hnb13 := NB116_117.out
           have hnc13 := NB117_116.out
           have hcz14_0 : wr.cell? ⟨gb116, 0, none⟩ = some (.bool a0_0) := qc BK116 0
           have hcz14_1 : wr.cell? ⟨gb116, 1, none⟩ = some (.slice A0_1 l0_1.length c0_1) := qc BK116 1
           have hfz14_0 := blk_frozen BK116.out 0
           have hfz14_1 := blk_frozen BK116.out 1
           have p122 : 0 ≤ (x4_1 : Int) := of_decide_eq_true (by first | (with_reducible assumption) | assumption)
           have q122 : x4_1 < (l0_1.length : Int) := of_decide_eq_true (by first | (with_reducible assumption) | assumption)
           obtain ⟨ad122, e122, hx122_0⟩ := Kd.at_int HR0_1.out x4_1 p122 q122
           cases e122
           replace hx122_0 := (HB.out.cell (World.block_lt_of_cell? w _ hx122_0)).trans hx122_0
           replace p122 := eq_true p122
           replace q122 := eq_true q122
           go_wp2_with (first | ((with_reducible refine gate_builtin (b := .append) (xs := #[.tmp 17, .tmp 27]) rfl ?_); at_builtin; refine Kd.R_append (Kd.int .u8) (w0 := w) w.heap.size rfl (.tmp 17) (.tmp 27) 32 5 (.int .u8 0) 1 rfl Tryd.underlying32 info5 rfl (by decide) (by omega) u3 x3_2 ((Go.bits .and .u32 (ji11) 1) % 256) [.int .u8 ((Go.bits .and .u32 (ji11) 1) % 256)] (fun _ => True) (fun _ => False) rfl rfl ?aP (fun _ hk => hk.elim) ?aF ?aO ?aB ?aS ?aL ?_; (case aP => exact rfl); (case aB => exact (by repeat with_reducible first|exact HB.out|apply qx|apply qv|apply qw|refine qs ?_ (by assumption))); (case aF => exact (fun _ _ => trivial)); (case aO => exact (by (with_reducible repeat first|apply Kd.R_alloc|apply Kd.R_drewN|apply Kd.R_drew); exact HO_3.out)); (case aS => exact (below_size (by repeat with_reducible first|exact HB.out|apply qx|apply qv|apply qw|refine qs ?_ (by assumption)))); (case aL => have := LMc12.out; omega); intro v124 w15 ho hb hg hat; rw [← Ny123.out] at ho; have n0_ := Aside0.mk (blk_grown (g := gb116) (o := .cells #[.bool a0_0, .slice (some ad122) l0_1.length c0_1] 25 (0, 0)) (by (with_reducible repeat first|refine qN ?_ _|refine qW ?_|refine qA ?_ _); exact BK116.out) hg (Kd.R_ne HO_3.out BK116.out (by decide))); have n1_ := Aside0.mk (blk_grown (g := gb117) (o := .cells #[.bool false, .slice none 0 0] 34 (0, 0)) (by (with_reducible repeat first|refine qN ?_ _|refine qW ?_|refine qA ?_ _); exact BK117.out) hg (Kd.R_ne HO_3.out BK117.out (by decide))); have n2_ := Aside0.mk (hb); have n3_ := Aside0.mk (ho); clear BK116; clear BK117; clear HB; clear HO_3; have BK116 := n0_; have BK117 := n1_; have HB := n2_; have HO125 := n3_; clear n0_ n1_ n2_ n3_; clear ho hb hg hat))
           go_roundg k2
           case measure => have := HK1.out; have := HK2.out; omega
           case rel => exact ⟨(y123), (wrap64 (x5_2 + 1)), (by first | rfl | (simp; done) | (simp [*]; done)), H', ⟨by have := HK1.out; have := HK2.out; omega⟩, ⟨qq HO125⟩, ⟨qk BK116⟩, ⟨qk BK117⟩, ⟨by repeat (first | (with_reducible first | exact HB.out | apply qx | apply qv | apply qw | refine qs ?_ (by assumption)) | exact HB.out)⟩⟩
          ·rw [if_neg c12] at H
           exact absurd H (by simp)
         ·rw [if_neg c10] at H
          exact absurd H (by simp)
        ·rw [if_neg c9] at H
         exact absurd H (by simp)
       ·rw [if_neg c8] at H
        exact absurd H (by simp)
      ·rw [if_neg c7] at H
       have c7b0 : decide (x5_2 < 32) = false := decide_eq_false c7
       clear c7
       have H' := Aside0.mk H
       clear H
       go_wp2
       go_roundg k2
       case measure => have := HK1.out; have := HK2.out; omega
       case rel => exact ⟨(x3_2), (wrap64 (x4_1 + 1)), (by first | rfl | (simp; done) | (simp [*]; done)), H', ⟨by have := HK1.out; have := HK2.out; omega⟩, ⟨qq HO_3⟩, ⟨qk BK116⟩, ⟨qk BK117⟩, ⟨by repeat (first | (with_reducible first | exact HB.out | apply qx | apply qv | apply qw | refine qs ?_ (by assumption)) | exact HB.out)⟩⟩
   ·rw [if_neg c4] at H
    have c4b0 : decide (x4_1 < (l0_1.length : Int)) = false := decide_eq_false c4
    clear c4
    replace H := Option.bind_eq_some_iff.mp H
    obtain ⟨⟨t118, t119⟩, A160, H⟩ := H
    replace H : (some (t118, t119)) = some (r1, r2) := H
    have A16 := Aside0.mk A160
    clear A160
    simp only [Option.some.injEq, Prod.mk.injEq] at H
    obtain ⟨rfl, rfl⟩ := H
    have hnb17 := NB116_117.out
    have hnc17 := NB117_116.out
    have hcz18_0 : wr.cell? ⟨gb116, 0, none⟩ = some (.bool a0_0) := qc BK116 0
    have hcz18_1 : wr.cell? ⟨gb116, 1, none⟩ = some (.slice A0_1 l0_1.length c0_1) := qc BK116 1
    have hfz18_0 := blk_frozen BK116.out 0
    have hfz18_1 := blk_frozen BK116.out 1
    obtain ⟨Ao19, co19, eo19⟩ := Kd.R_slice HO_3.out
    subst eo19
    go_wp2_with (first | ((with_reducible refine gate_callee (f := 62) rfl ?_); refine goesL_ (some 32) rfl rfl Tryd.func62 (by kernel_rfl) rfl #[.bool a0_0, .slice Ao19 x3_1.length co19] rfl (by (try simp only [zM, zO, zP]); first|done|rfl) ?_; (with_reducible refine (moraineref02_value.calls k1 a0_0 (fun k_ => some k_ = (.slice Ao19 x3_1.length co19 : Value).ownBlock) (.slice Ao19 x3_1.length co19) x3_1 t118 t119 w _ ?side1 ?side2 A16.out).mono ?_); (case side1 => repeat (first | (with_reducible first | exact HB.out | apply qx | apply qv | apply qw | refine qs ?_ (by assumption)) | exact HB.out)); (case side2 => exact Kd.R_tight rfl HO_3.out); rintro e w20 ⟨v120, rfl, ho0, hb, hkp⟩; refine ⟨_, rfl, ?_⟩; have n0_ := Aside0.mk (blk_kept (by (with_reducible repeat first|refine qN ?_ _|refine qW ?_|refine qA ?_ _); exact BK116.out) hkp (fun hs_ => (fun e_ => (Kd.R_ne HO_3.out BK116.out (by decide)) e_) hs_)); have n1_ := Aside0.mk (blk_kept (by (with_reducible repeat first|refine qN ?_ _|refine qW ?_|refine qA ?_ _); exact BK117.out) hkp (fun hs_ => (fun e_ => (Kd.R_ne HO_3.out BK117.out (by decide)) e_) hs_)); have n2_ := Aside0.mk (Kd.R_mono (ok' := fun k_ => True) ho0 (fun k_ hk_ => trivial)); have n3_ := Aside0.mk (hb); clear BK116; clear BK117; clear HB; clear HO_3; have BK116 := n0_; have BK117 := n1_; have HO121 := n2_; have HB := n3_; clear n0_ n1_ n2_ n3_; (try clear hb); (try clear hkp); (try clear ho0); have hcz21_0 : w20.cell? ⟨gb117, 0, none⟩ = some (.bool false) := qc BK117 0; have hcz21_1 : w20.cell? ⟨gb117, 1, none⟩ = some (.slice none 0 0) := qc BK117 1; have hfz21_0 := blk_frozen BK117.out 0; have hfz21_1 := blk_frozen BK117.out 1; obtain ⟨Ao22, co22, eo22⟩ := Kd.R_slice HO121.out; subst eo22))
    refine bodyPost_ret (results_cell_row rfl _ _ gb117 34 #[.bool t118, .slice Ao22 t119.length co22] (0, 0) _ rfl (by (with_reducible repeat first|refine qN ?_ _|refine qW ?_|refine qA ?_ _); refine blk_put (cs := #[.bool t118, .slice none 0 0]) ?_ 1 _ rfl; (with_reducible repeat first|refine qN ?_ _|refine qW ?_|refine qA ?_ _); refine blk_put (cs := #[.bool false, .slice none 0 0]) ?_ 0 _ rfl; (with_reducible repeat first|refine qN ?_ _|refine qW ?_|refine qA ?_ _); exact BK117.out) Tryd.underlying34 rfl (by kernel_rfl)) rfl ?_
    exact ⟨_, by first | rfl | (simp [errW_none, errW_some] <;> rfl) | (simp [*, errW_none, errW_some] <;> rfl), by (with_reducible repeat first|apply Kd.R_alloc|apply Kd.R_drewN|apply Kd.R_drew); exact Kd.R_mono (qz HO121 BK117 (by decide) (.bool t118) (.slice Ao22 t119.length co22)) (fun _ hk => trivial), by repeat (first | (with_reducible first | exact HB.out | apply qx | apply qv | apply qw | refine qs ?_ (by assumption)) | exact HB.out)⟩
end Go.Proofs.YthhpnlbeniihhaaDoor.PRef
-- Printed by a program of this session's (wip/tools/printr.py, over the kit's print program).
namespace Go.Proofs.YthhpnlbeniihhaaDoor.PRef
open Go.RowKit Go.Proofs.YthhpnlbeniihhaaDoorW.PrintWords Go.Proofs.YthhpnlbeniihhaaDoorW.PrintLast Go.Proofs.YthhpnlbeniihhaaDoorW.PrintMore
attribute [local go_sem] max2_int min2_int max_two min_two max_three min_three max_four min_four   -- for this text's walks alone
set_option linter.unusedVariables false
set_option linter.unusedSimpArgs false
def moraineref02_less.l0 : Nat → List Int → List Int → Int → Option (Bool)
 | 0, _, _, _ => none
 | k + 1, x0, x1, x5 => if x5 ≥ 0 then (if 0 ≤ x5 then (if x5 < (x0.length : Int) then (if x5 < (x1.length : Int) then (if (rd x0 x5) = (rd x1 x5) then (moraineref02_less.l0 k x0 x1 (wrap64 (x5 - 1))) else (some (decide ((rd x0 x5) < (rd x1 x5))))) else (none)) else (none)) else (none)) else (some false)
def moraineref02_less.f (k : Nat) (l0 : List Int) (l1 : List Int) : Option (Bool) := if (l0.length : Int) = (l1.length : Int) then (moraineref02_less.l0 k l0 l1 (wrap64 ((l0.length : Int) - 1))) else (some (decide ((l0.length : Int) < (l1.length : Int))))
set_option maxHeartbeats 8000000 in
set_option maxRecDepth 100000 in
theorem moraineref02_less.calls (k : Nat) (A0 : Option Addr) (c0 : Nat) (l0 : List Int) (A1 : Option Addr) (c1 : Nat) (l1 : List Int) (r : Bool) (w : World) (hr0 : Kd.C (Kd.int .u8) w A0 l0.length l0) (hc0 : l0.length ≤ c0) (hr1 : Kd.C (Kd.int .u8) w A1 l1.length l1) (hc1 : l1.length ≤ c1) (h : moraineref02_less.f k l0 l1 = some r) :
  Calls Tryd.prog 77 #[.slice A0 l0.length c0, .slice A1 l1.length c1] w fun e w' => e = .returned (.bool r) ∧ Drawn0 w w' := by
 have HR0 := Aside0.mk hr0
 have HC0 := Aside0.mk hc0
 clear hr0 hc0
 have HR1 := Aside0.mk hr1
 have HC1 := Aside0.mk hc1
 clear hr1 hc1
 have H : (if (l0.length : Int) = (l1.length : Int) then (moraineref02_less.l0 k l0 l1 (wrap64 ((l0.length : Int) - 1))) else (some (decide ((l0.length : Int) < (l1.length : Int))))) = some r := h
 clear h
 by_cases c3 : (l0.length : Int) = (l1.length : Int)
 ·rw [if_pos c3] at H
  have c3b0 : ((l0.length : Int) == (l1.length : Int)) = true := beq_iff_eq.mpr c3
  have c3b1 : ((l0.length : Int) != (l1.length : Int)) = false := bne_eq_false_iff_eq.mpr c3
  have c3b2 : (l0.length == l1.length) = true := by first | simpa using c3 | (simp at c3 ⊢; omega)
  clear c3
  have H' := Aside0.mk H
  clear H
  go_enter Tryd.func77, Tryd.ntmps77
  go_wp2
  repeat (go_quiet (fail); try go_wp2)
  go_loopg [5] k (fun kq v5 w' => ∃ (x5_1 : Int), v5 = .int .i64 x5_1 ∧ Aside0 (moraineref02_less.l0 kq l0 l1 x5_1 = some r) ∧ Aside0 (kq ≤ k) ∧ Drawn0 w w')
  case atStart => exact ⟨(wrap64 ((l0.length : Int) - 1)), (by first | rfl | (simp; done) | (simp [*]; done)), H', ⟨Nat.le_refl _⟩, by repeat (first | exact Drawn0.refl _ | apply Drawn0.step)⟩
  case round =>
   clear H'
   try clear c1
   try clear p2
   try clear c3
   try clear c3b0
   try clear c3b1
   try clear c3b2
   obtain ⟨x5_1, rfl, HA, HK1, ⟨m1, rfl⟩⟩ := hrel
   cases gk with
   | zero => exact absurd HA.out (by simp [moraineref02_less.l0])
   | succ k1 =>
    have H := HA.out
    clear HA
    simp only [moraineref02_less.l0] at H
    by_cases c4 : x5_1 ≥ 0
    ·rw [if_pos c4] at H
     have c4b0 : decide (0 ≤ x5_1) = true := decide_eq_true c4
     clear c4
     by_cases c5 : 0 ≤ x5_1
     ·rw [if_pos c5] at H
      have c5b0 : decide (0 ≤ x5_1) = true := decide_eq_true c5
      clear c5
      by_cases c6 : x5_1 < (l0.length : Int)
      ·rw [if_pos c6] at H
       have c6b0 : decide (x5_1 < (l0.length : Int)) = true := decide_eq_true c6
       clear c6
       by_cases c7 : x5_1 < (l1.length : Int)
       ·rw [if_pos c7] at H
        have c7b0 : decide (x5_1 < (l1.length : Int)) = true := decide_eq_true c7
        clear c7
        by_cases c8 : (rd l0 x5_1) = (rd l1 x5_1)
        ·rw [if_pos c8] at H
         have c8b0 : ((rd l0 x5_1) == (rd l1 x5_1)) = true := beq_iff_eq.mpr c8
         have c8b1 : ((rd l0 x5_1) != (rd l1 x5_1)) = false := bne_eq_false_iff_eq.mpr c8
         clear c8
         have H' := Aside0.mk H
         clear H
         have p165 : 0 ≤ (x5_1 : Int) := of_decide_eq_true (by first | (with_reducible assumption) | assumption)
         have q165 : x5_1 < (l0.length : Int) := of_decide_eq_true (by first | (with_reducible assumption) | assumption)
         obtain ⟨ad165, e165, hx165_0⟩ := Kd.at_int HR0.out x5_1 p165 q165
         cases e165
         replace p165 := eq_true p165
         replace q165 := eq_true q165
         have p166 : 0 ≤ (x5_1 : Int) := of_decide_eq_true (by first | (with_reducible assumption) | assumption)
         have q166 : x5_1 < (l1.length : Int) := of_decide_eq_true (by first | (with_reducible assumption) | assumption)
         obtain ⟨ad166, e166, hx166_0⟩ := Kd.at_int HR1.out x5_1 p166 q166
         cases e166
         replace p166 := eq_true p166
         replace q166 := eq_true q166
         go_wp2
         repeat (go_quiet (fail); try go_wp2)
         go_roundg k1
         case measure => have := HK1.out; omega
         case rel => exact ⟨(wrap64 (x5_1 - 1)), (by first | rfl | (simp; done) | (simp [*]; done)), H', ⟨by have := HK1.out; omega⟩, by repeat (first | exact Drawn0.refl _ | apply Drawn0.step)⟩
        ·rw [if_neg c8] at H
         have c8b0 : ((rd l0 x5_1) == (rd l1 x5_1)) = false := beq_eq_false_iff_ne.mpr c8
         have c8b1 : ((rd l0 x5_1) != (rd l1 x5_1)) = true := bne_iff_ne.mpr c8
         obtain rfl := Option.some.inj H
         have p165 : 0 ≤ (x5_1 : Int) := of_decide_eq_true (by first | (with_reducible assumption) | assumption)
         have q165 : x5_1 < (l0.length : Int) := of_decide_eq_true (by first | (with_reducible assumption) | assumption)
         obtain ⟨ad165, e165, hx165_0⟩ := Kd.at_int HR0.out x5_1 p165 q165
         cases e165
         replace p165 := eq_true p165
         replace q165 := eq_true q165
         have p166 : 0 ≤ (x5_1 : Int) := of_decide_eq_true (by first | (with_reducible assumption) | assumption)
         have q166 : x5_1 < (l1.length : Int) := of_decide_eq_true (by first | (with_reducible assumption) | assumption)
         obtain ⟨ad166, e166, hx166_0⟩ := Kd.at_int HR1.out x5_1 p166 q166
         cases e166
         replace p166 := eq_true p166
         replace q166 := eq_true q166
         have p167 : 0 ≤ (x5_1 : Int) := of_decide_eq_true (by first | (with_reducible assumption) | assumption)
         have q167 : x5_1 < (l0.length : Int) := of_decide_eq_true (by first | (with_reducible assumption) | assumption)
         obtain ⟨ad167, e167, hx167_0⟩ := Kd.at_int HR0.out x5_1 p167 q167
         obtain rfl : ad165 = ad167 := (by injection e167)
         replace p167 := eq_true p167
         replace q167 := eq_true q167
         have p168 : 0 ≤ (x5_1 : Int) := of_decide_eq_true (by first | (with_reducible assumption) | assumption)
         have q168 : x5_1 < (l1.length : Int) := of_decide_eq_true (by first | (with_reducible assumption) | assumption)
         obtain ⟨ad168, e168, hx168_0⟩ := Kd.at_int HR1.out x5_1 p168 q168
         obtain rfl : ad166 = ad168 := (by injection e168)
         replace p168 := eq_true p168
         replace q168 := eq_true q168
         go_wp2
         repeat (go_quiet (fail); try go_wp2)
         go_ret
         exact ⟨by first | rfl | (simp; done) | (simp [*]; done), by repeat (first | exact Drawn0.refl _ | apply Drawn0.step)⟩
       ·rw [if_neg c7] at H
        exact absurd H (by simp)
      ·rw [if_neg c6] at H
       exact absurd H (by simp)
     ·rw [if_neg c5] at H
      exact absurd H (by simp)
    ·rw [if_neg c4] at H
     have c4b0 : decide (0 ≤ x5_1) = false := decide_eq_false c4
     clear c4
     obtain rfl := Option.some.inj H
     go_wp2
     repeat (go_quiet (fail); try go_wp2)
     go_ret
     exact ⟨by first | rfl | (simp; done) | (simp [*]; done), by repeat (first | exact Drawn0.refl _ | apply Drawn0.step)⟩
 ·rw [if_neg c3] at H
  have c3b0 : ((l0.length : Int) == (l1.length : Int)) = false := beq_eq_false_iff_ne.mpr c3
  have c3b1 : ((l0.length : Int) != (l1.length : Int)) = true := bne_iff_ne.mpr c3
  have c3b2 : (l0.length == l1.length) = false := by first | simpa using c3 | (simp at c3 ⊢; omega)
  obtain rfl := Option.some.inj H
  go_enter Tryd.func77, Tryd.ntmps77
  go_wp2
  repeat (go_quiet (fail); try go_wp2)
  go_ret
  exact ⟨by first | rfl | (simp; done) | (simp [*]; done), by repeat (first | exact Drawn0.refl _ | apply Drawn0.step)⟩
end Go.Proofs.YthhpnlbeniihhaaDoor.PRef
namespace Go.Proofs.YthhpnlbeniihhaaDoor.PRef
end Go.Proofs.YthhpnlbeniihhaaDoor.PRef
-- Printed by a program of this session's (wip/tools/printr.py, over the kit's print program).
namespace Go.Proofs.YthhpnlbeniihhaaDoor.PRef
open Go.RowKit Go.Proofs.YthhpnlbeniihhaaDoorW.PrintWords Go.Proofs.YthhpnlbeniihhaaDoorW.PrintLast Go.Proofs.YthhpnlbeniihhaaDoorW.PrintMore
attribute [local go_sem] max2_int min2_int max_two min_two max_three min_three max_four min_four   -- for this text's walks alone
set_option linter.unusedVariables false
set_option linter.unusedSimpArgs false
def moraineref02_Num.l0 : Nat → Int → Bool → List Int → Bool → List Int → Option (Bool × List Int × Int)
 | 0, _, _, _, _, _ => none
 | k + 1, x5, x127000, x127001, x129000, x129001 => if x5 < (x127001.length : Int) then (if (Int.tmod x5 32) = 0 then (if x129001.length < 35184372088832 then ((some (x129001 ++ [0] : List Int)).bind fun y129 => (if 0 ≤ x5 then (if (rd x127001 x5) = 1 then (if 0 ≤ (wrap64 (Int.tdiv x5 32)) then (if (wrap64 (Int.tdiv x5 32)) < (y129.length : Int) then (if 0 ≤ (Int.tmod x5 32) then (moraineref02_Num.l0 k (wrap64 (x5 + 1)) x127000 x127001 x129000 (y129.set ((wrap64 (Int.tdiv x5 32)) : Int).toNat (Go.bits .or .u32 (rd y129 (wrap64 (Int.tdiv x5 32))) (shl .u32 1 (Int.tmod x5 32))))) else (none)) else (none)) else (none)) else (moraineref02_Num.l0 k (wrap64 (x5 + 1)) x127000 x127001 x129000 y129)) else (none))) else (none)) else (if 0 ≤ x5 then (if (rd x127001 x5) = 1 then (if 0 ≤ (wrap64 (Int.tdiv x5 32)) then (if (wrap64 (Int.tdiv x5 32)) < (x129001.length : Int) then (if 0 ≤ (Int.tmod x5 32) then (moraineref02_Num.l0 k (wrap64 (x5 + 1)) x127000 x127001 x129000 (x129001.set ((wrap64 (Int.tdiv x5 32)) : Int).toNat (Go.bits .or .u32 (rd x129001 (wrap64 (Int.tdiv x5 32))) (shl .u32 1 (Int.tmod x5 32))))) else (none)) else (none)) else (none)) else (moraineref02_Num.l0 k (wrap64 (x5 + 1)) x127000 x127001 x129000 x129001)) else (none))) else (some (x129000, x129001, 0))
def moraineref02_Num.f (k : Nat) (a0_0 : Bool) (l0_1 : List Int) : Option (Bool × List Int × Int) := if (l0_1.length : Int) > 1536 then (some (false, ([] : List Int), 6)) else (moraineref02_Num.l0 k 0 a0_0 l0_1 a0_0 ([] : List Int))
theorem moraineref02_Num.mono_l : ∀ k, (∀ y0 y1 y2 y3 y4, LeO (moraineref02_Num.l0 k y0 y1 y2 y3 y4) (moraineref02_Num.l0 (k + 1) y0 y1 y2 y3 y4))
 | 0 => fun _ _ _ _ _ r h => by simp [moraineref02_Num.l0] at h
 | k + 1 => by
  have ih0 := moraineref02_Num.mono_l k
  ·intro y0 y1 y2 y3 y4
   unfold moraineref02_Num.l0
   repeat' first
   | (with_reducible exact ih0 _ _ _ _ _)
   | (with_reducible exact LeO.refl _)
   | (with_reducible exact LeO.none _)
   | (with_reducible refine LeO.ite ?_ ?_)
   | (with_reducible refine LeO.bind ?_ (fun _ => ?_))
   | exact ih0 _ _ _ _ _
   | exact LeO.none _
   | refine LeO.ite ?_ ?_
   | refine LeO.bind ?_ (fun _ => ?_)
theorem moraineref02_Num.mono : ∀ a0 a1 k, LeO (moraineref02_Num.f k a0 a1) (moraineref02_Num.f (k + 1) a0 a1) := by
 intro a0 a1 k
 have ih0 := moraineref02_Num.mono_l k
 unfold moraineref02_Num.f
 repeat' first
   | (with_reducible exact ih0 _ _ _ _ _)
   | (with_reducible exact LeO.refl _)
   | (with_reducible exact LeO.none _)
   | (with_reducible refine LeO.ite ?_ ?_)
   | (with_reducible refine LeO.bind ?_ (fun _ => ?_))
   | exact ih0 _ _ _ _ _
   | exact LeO.none _
   | refine LeO.ite ?_ ?_
   | refine LeO.bind ?_ (fun _ => ?_)
def moraineref02_Num.T10 : Bool × List (List Nat × List Nat) := (true, [([], []), ([0], [0]), ([], []), ([2], [2]), ([], []), ([4], [4]), ([], []), ([6], [6]), ([5, 7], [5, 7]), ([8], [8]), ([], []), ([10], [10]), ([11], [11]), ([9, 12], [9, 12]), ([1, 3, 0, 1, 2, 3, 4, 5, 6, 7, 8, 9, 10, 11, 12, 13], [1, 3]), ([14, 13, 0, 1, 2, 3, 4, 5, 6, 7, 8, 9, 10, 11, 12, 13], [13, 14])])
def moraineref02_Num.B10 : List Nat := [0, 1, 0, 4, 0, 16, 0, 64, 240, 496, 0, 1024, 3072, 8176, 16383, 32767]
theorem moraineref02_Num.tab10 : rtab .any (opsOf Tryd.f52 10) = moraineref02_Num.T10 := by kernel_rfl
theorem moraineref02_Num.bits10 : waitsOk moraineref02_Num.T10.2 moraineref02_Num.B10 = true := by kernel_rfl
set_option maxHeartbeats 8000000 in
set_option maxRecDepth 100000 in
theorem moraineref02_Num.calls (k : Nat) (a0_0 : Bool) (A0_1 : Option Addr) (c0_1 : Nat) (l0_1 : List Int) (r1 : Bool) (r2 : List Int) (r3 : Int) (w : World) (hr0_1 : Kd.C (Kd.int .u8) w A0_1 l0_1.length l0_1) (hc0_1 : l0_1.length ≤ c0_1) (h : moraineref02_Num.f k a0_0 l0_1 = some (r1, r2, r3)) :
  Calls Tryd.prog 52 #[.agg #[.bool a0_0, .slice A0_1 l0_1.length c0_1]] w fun e w' => ∃ v1_ : Value, e = .returned (.tuple #[.agg #[.bool r1, v1_], .int .i64 r3]) ∧ Kd.R (Kd.int .u32) 63 w' w.heap.size (fun _ => True) v1_ r2 ∧ Below w.heap.size w w' := by
 have hu34 := Tryd.underlying34
 have hu25 := Tryd.underlying25
 have HR0_1 := Aside0.mk hr0_1
 have HC0_1 := Aside0.mk hc0_1
 clear hr0_1 hc0_1
 have HB := Aside0.mk (Below.refl w.heap.size w)
 have H : (if (l0_1.length : Int) > 1536 then (some (false, ([] : List Int), 6)) else (moraineref02_Num.l0 k 0 a0_0 l0_1 a0_0 ([] : List Int))) = some (r1, r2, r3) := h
 clear h
 by_cases c2 : (l0_1.length : Int) > 1536
 ·rw [if_pos c2] at H
  have c2b0 : decide (1536 < (l0_1.length : Int)) = true := decide_eq_true c2
  have c2b1 : decide (1536 < l0_1.length) = true := decide_eq_true (by omega)
  clear c2
  simp only [Option.some.injEq, Prod.mk.injEq] at H
  obtain ⟨rfl, rfl, rfl⟩ := H
  go_enter Tryd.func52, Tryd.ntmps52
  go_wp2_with (first | ((with_reducible refine gate_dst (N := 1) rfl ?_); refine box_event ?hg (N := 1) ?hd (cs := #[.bool a0_0, .slice A0_1 l0_1.length c0_1]) (t := 34) ?hr ?_; (case hd => rfl); (case hg => rfl); (case hr => go_simp <;> rfl); intro gb126 hg w3 hbox hb; have BK126 := Aside0.mk (hbox); have GW126 := qg hg (by repeat (first | (with_reducible first | exact HB.out | apply qx | apply qv | apply qw) | exact HB.out)); have GE126 := GW126; replace HB := Aside0.mk (below_step (by repeat (first | (with_reducible first | exact HB.out | apply qx | apply qv | apply qw) | exact HB.out)) hb); clear hb hbox hg) | ((with_reducible refine gate_dst (N := 2) rfl ?_); refine box_event ?hg (N := 2) ?hd (cs := #[.bool false, .slice none 0 0]) (t := 25) ?hr ?_; (case hd => rfl); (case hg => rfl); (case hr => go_simp <;> rfl); intro gb127 hg w4 hbox hb; have BK127 := Aside0.mk (hbox); have GW127 := qg hg (by repeat (first | (with_reducible first | exact HB.out | apply qx | apply qv | apply qw | refine below_set ?_ GE126.out) | exact HB.out)); have GE127 := GW127; replace HB := Aside0.mk (below_step (by repeat (first | (with_reducible first | exact HB.out | apply qx | apply qv | apply qw | refine below_set ?_ GE126.out) | exact HB.out)) hb); have NB126_127 := qn BK126 hg; have NB127_126 := qm BK126 hg; replace BK126 := qb BK126 hb; clear hb hbox hg; have hnb5 := NB126_127.out; have hnc5 := NB127_126.out; have hcz6_0 : w4.cell? ⟨gb126, 0, none⟩ = some (.bool a0_0) := qc BK126 0; have hcz6_1 : w4.cell? ⟨gb126, 1, none⟩ = some (.slice A0_1 l0_1.length c0_1) := qc BK126 1; have hfz6_0 := blk_frozen BK126.out 0; have hfz6_1 := blk_frozen BK126.out 1; have hcz7_0 : w4.cell? ⟨gb127, 0, none⟩ = some (.bool false) := qc BK127 0; have hcz7_1 : w4.cell? ⟨gb127, 1, none⟩ = some (.slice none 0 0) := qc BK127 1; have hfz7_0 := blk_frozen BK127.out 0; have hfz7_1 := blk_frozen BK127.out 1))
  refine bodyPost_ret (results_ct rfl _ _ gb127 25 #[.bool false, .slice none 0 0] (0, 0) _ rfl (by (with_reducible repeat first|refine qN ?_ _|refine qW ?_|refine qA ?_ _); refine blk_put (cs := #[.bool false, .slice none 0 0]) ?_ 1 _ rfl; (with_reducible repeat first|refine qN ?_ _|refine qW ?_|refine qA ?_ _); refine blk_put (cs := #[.bool false, .slice none 0 0]) ?_ 0 _ rfl; (with_reducible repeat first|refine qN ?_ _|refine qW ?_|refine qA ?_ _); exact BK127.out) Tryd.underlying25 rfl (by kernel_rfl)) rfl ?_
  exact ⟨_, by first | rfl | (simp [errW_none, errW_some] <;> rfl) | (simp [*, errW_none, errW_some] <;> rfl), by first | exact Kd.R_nil _ _ _ _ _ | exact Kd.N_nil _ _ _ _ _ | exact Kd.V_nil _ _ _ _ _ | exact Kd.Q_nil _ _ _ _ _ | exact Kd.S_nil _ _ _ _ _, by repeat (first | (with_reducible first | exact HB.out | apply qx | apply qv | apply qw | refine qs ?_ (by assumption)) | exact HB.out)⟩
 ·rw [if_neg c2] at H
  have c2b0 : decide (1536 < (l0_1.length : Int)) = false := decide_eq_false c2
  have c2b1 : decide (1536 < l0_1.length) = false := decide_eq_false (by omega)
  clear c2
  have H' := Aside0.mk H
  clear H
  go_enter Tryd.func52, Tryd.ntmps52
  go_wp2_with (first | ((with_reducible refine gate_dst (N := 1) rfl ?_); refine box_event ?hg (N := 1) ?hd (cs := #[.bool a0_0, .slice A0_1 l0_1.length c0_1]) (t := 34) ?hr ?_; (case hd => rfl); (case hg => rfl); (case hr => go_simp <;> rfl); intro gb126 hg w8 hbox hb; have BK126 := Aside0.mk (hbox); have GW126 := qg hg (by repeat (first | (with_reducible first | exact HB.out | apply qx | apply qv | apply qw) | exact HB.out)); have GE126 := GW126; replace HB := Aside0.mk (below_step (by repeat (first | (with_reducible first | exact HB.out | apply qx | apply qv | apply qw) | exact HB.out)) hb); clear hb hbox hg) | ((with_reducible refine gate_dst (N := 2) rfl ?_); refine box_event ?hg (N := 2) ?hd (cs := #[.bool false, .slice none 0 0]) (t := 25) ?hr ?_; (case hd => rfl); (case hg => rfl); (case hr => go_simp <;> rfl); intro gb127 hg w9 hbox hb; have BK127 := Aside0.mk (hbox); have GW127 := qg hg (by repeat (first | (with_reducible first | exact HB.out | apply qx | apply qv | apply qw | refine below_set ?_ GE126.out) | exact HB.out)); have GE127 := GW127; replace HB := Aside0.mk (below_step (by repeat (first | (with_reducible first | exact HB.out | apply qx | apply qv | apply qw | refine below_set ?_ GE126.out) | exact HB.out)) hb); have NB126_127 := qn BK126 hg; have NB127_126 := qm BK126 hg; replace BK126 := qb BK126 hb; clear hb hbox hg; have hnb10 := NB126_127.out; have hnc10 := NB127_126.out; have hcz11_0 : w9.cell? ⟨gb126, 0, none⟩ = some (.bool a0_0) := qc BK126 0; have hcz11_1 : w9.cell? ⟨gb126, 1, none⟩ = some (.slice A0_1 l0_1.length c0_1) := qc BK126 1; have hfz11_0 := blk_frozen BK126.out 0; have hfz11_1 := blk_frozen BK126.out 1) | ((with_reducible refine gate_dst (N := 4) rfl ?_); refine box_event ?hg (N := 4) ?hd (cs := #[.bool false, .slice none 0 0]) (t := 25) ?hr ?_; (case hd => rfl); (case hg => rfl); (case hr => go_simp <;> rfl); intro gb128 hg w12 hbox hb; have BK128 := Aside0.mk (hbox); have GW128 := qg hg (by repeat with_reducible first|exact HB.out|apply qx|apply qv|apply qw|refine qs ?_ (by assumption)); have GE128 := GW128; replace HB := Aside0.mk (below_step (by repeat with_reducible first|exact HB.out|apply qx|apply qv|apply qw|refine qs ?_ (by assumption)) hb); have NB126_128 := qn BK126 hg; have NB128_126 := qm BK126 hg; replace BK126 := qb BK126 hb; have NB127_128 := qn BK127 hg; have NB128_127 := qm BK127 hg; replace BK127 := qb BK127 hb; clear hb hbox hg; have hnb13 := NB128_126.out; have hnc13 := NB126_128.out; have hnb14 := NB128_127.out; have hnc14 := NB127_128.out; have hcz15_0 : w12.cell? ⟨gb128, 0, none⟩ = some (.bool false) := qc BK128 0; have hcz15_1 : w12.cell? ⟨gb128, 1, none⟩ = some (.slice none 0 0) := qc BK128 1; have hfz15_0 := blk_frozen BK128.out 0; have hfz15_1 := blk_frozen BK128.out 1))
  go_loopg [5] k (fun kq v5 w' => ∃ (x5_1 : Int) (x129001_1 : List Int) (u129001 : Value), v5 = .int .i64 x5_1 ∧ Aside0 (moraineref02_Num.l0 kq x5_1 a0_0 l0_1 a0_0 x129001_1 = some (r1, r2, r3)) ∧ Aside0 (kq ≤ k) ∧ Aside0 (Kd.R (Kd.int .u32) 63 w' w.heap.size (fun _ => True) u129001 x129001_1) ∧ Aside0 (w'.heap[gb126]? = some (.cells #[.bool a0_0, (.slice A0_1 l0_1.length c0_1)] 34 (0, 0))) ∧ Aside0 (w'.heap[gb127]? = some (.cells #[.bool false, (.slice none 0 0)] 25 (0, 0))) ∧ Aside0 (w'.heap[gb128]? = some (.cells #[.bool a0_0, u129001] 25 (0, 0))) ∧ Aside0 (Below w.heap.size w w'))
  case atStart => exact ⟨(0), (([] : List Int)), (.slice none 0 0), (by first | rfl | (simp; done) | (simp [*]; done)), H', ⟨Nat.le_refl _⟩, ⟨by first | exact Kd.R_nil _ _ _ _ _ | exact Kd.N_nil _ _ _ _ _ | exact Kd.V_nil _ _ _ _ _ | exact Kd.Q_nil _ _ _ _ _ | exact Kd.S_nil _ _ _ _ _⟩, ⟨by (with_reducible repeat first|refine qN ?_ _|refine qW ?_|refine qA ?_ _); refine qf ?_ NB126_128; (with_reducible repeat first|refine qN ?_ _|refine qW ?_|refine qA ?_ _); exact BK126.out⟩, ⟨by (with_reducible repeat first|refine qN ?_ _|refine qW ?_|refine qA ?_ _); refine qf ?_ NB127_128; (with_reducible repeat first|refine qN ?_ _|refine qW ?_|refine qA ?_ _); exact BK127.out⟩, ⟨by (with_reducible repeat first|refine qN ?_ _|refine qW ?_|refine qA ?_ _); refine blk_put (cs := #[.bool a0_0, .slice none 0 0]) ?_ 1 _ rfl; (with_reducible repeat first|refine qN ?_ _|refine qW ?_|refine qA ?_ _); refine blk_put (cs := #[.bool false, .slice none 0 0]) ?_ 0 _ rfl; (with_reducible repeat first|refine qN ?_ _|refine qW ?_|refine qA ?_ _); exact BK128.out⟩, ⟨by repeat (first | (with_reducible first | exact HB.out | apply qx | apply qv | apply qw | refine qs ?_ (by assumption)) | exact HB.out)⟩⟩
  case round =>
   clear H'
   try clear c1
   try clear c2
   try clear c2b0
   try clear c2b1
   try clear p2
   try clear c5
   try clear c10
   try clear c13
   try clear c14
   try clear hcz11_0
   try clear hcz11_1
   try clear hcz15_0
   try clear hcz15_1
   try clear hcz6_0
   try clear hcz6_1
   try clear hcz7_0
   try clear hcz7_1
   try clear hfz11_0
   try clear hfz11_1
   try clear hfz15_0
   try clear hfz15_1
   try clear hfz6_0
   try clear hfz6_1
   try clear hfz7_0
   try clear hfz7_1
   obtain ⟨x5_1, x129001_1, u129001, rfl, HA, HK1, HO_129001, BK126, BK127, BK128, HB⟩ := hrel
   cases gk with
   | zero => exact absurd HA.out (by simp [moraineref02_Num.l0])
   | succ k1 =>
    have H := HA.out
    clear HA
    simp only [moraineref02_Num.l0] at H
    by_cases c16 : x5_1 < (l0_1.length : Int)
    ·rw [if_pos c16] at H
     have c16b0 : decide (x5_1 < (l0_1.length : Int)) = true := decide_eq_true c16
     clear c16
     by_cases c17 : (Int.tmod x5_1 32) = 0
     ·rw [if_pos c17] at H
      have c17b0 : ((Int.tmod x5_1 32) == 0) = true := beq_iff_eq.mpr c17
      have c17b1 : ((Int.tmod x5_1 32) != 0) = false := bne_eq_false_iff_eq.mpr c17
      clear c17
      by_cases c18 : x129001_1.length < 35184372088832
      ·rw [if_pos c18] at H
       have LMc18 := Aside0.mk c18
       clear c18
       obtain ⟨y129, hy129⟩ : ∃ y_ : List Int, y_ = (x129001_1 ++ [0]) := ⟨_, rfl⟩
       replace H : (if 0 ≤ x5_1 then (if (rd l0_1 x5_1) = 1 then (if 0 ≤ (wrap64 (Int.tdiv x5_1 32)) then (if (wrap64 (Int.tdiv x5_1 32)) < (y129.length : Int) then (if 0 ≤ (Int.tmod x5_1 32) then (moraineref02_Num.l0 k1 (wrap64 (x5_1 + 1)) a0_0 l0_1 a0_0 (y129.set ((wrap64 (Int.tdiv x5_1 32)) : Int).toNat (Go.bits .or .u32 (rd y129 (wrap64 (Int.tdiv x5_1 32))) (shl .u32 1 (Int.tmod x5_1 32))))) else (none)) else (none)) else (none)) else (moraineref02_Num.l0 k1 (wrap64 (x5_1 + 1)) a0_0 l0_1 a0_0 y129)) else (none)) = some (r1, r2, r3) := by first | (rw [hy129]; with_reducible exact H) | (have H2_ := (Option.bind_some _ _).symm.trans H; rw [hy129]; with_reducible exact H2_) | (have H2_ := (Option.bind_some _ _).symm.trans H; with_reducible exact H2_) | with_reducible exact H | (rw [hy129]; exact H) | exact H
       have Ny129 := Aside0.mk hy129
       clear hy129
       by_cases c19 : 0 ≤ x5_1
       ·rw [if_pos c19] at H
        have c19b0 : decide (0 ≤ x5_1) = true := decide_eq_true c19
        clear c19
        by_cases c20 : (rd l0_1 x5_1) = 1
        ·rw [if_pos c20] at H
         have c20b0 : ((rd l0_1 x5_1) == 1) = true := beq_iff_eq.mpr c20
         have c20b1 : ((rd l0_1 x5_1) != 1) = false := bne_eq_false_iff_eq.mpr c20
         clear c20
         obtain ⟨ji21, hji21⟩ : ∃ j_ : Int, (wrap64 (Int.tdiv x5_1 32)) = j_ := ⟨_, rfl⟩
         replace H : (if 0 ≤ (ji21) then (if (ji21) < (y129.length : Int) then (if 0 ≤ (Int.tmod x5_1 32) then (moraineref02_Num.l0 k1 (wrap64 (x5_1 + 1)) a0_0 l0_1 a0_0 (y129.set ((ji21) : Int).toNat (Go.bits .or .u32 (rd y129 (ji21)) (shl .u32 1 (Int.tmod x5_1 32))))) else (none)) else (none)) else (none)) = some (r1, r2, r3) := by first | (rw [hji21] at H; exact H) | (simp only [hji21] at H ⊢; exact H)
         have hji21w : (IntKind.i64.wrap (Int.tdiv x5_1 32)) = ji21 := (i64_w _).trans hji21
         by_cases c22 : 0 ≤ (ji21)
         ·rw [if_pos c22] at H
          have c22b0 : decide (0 ≤ (ji21)) = true := decide_eq_true c22
          clear c22
          by_cases c23 : (ji21) < (y129.length : Int)
          ·rw [if_pos c23] at H
           have c23b0 : decide ((ji21) < (y129.length : Int)) = true := decide_eq_true c23
           clear c23
           obtain ⟨ji24, hji24⟩ : ∃ j_ : Int, (Int.tmod x5_1 32) = j_ := ⟨_, rfl⟩
           replace H : (if 0 ≤ (ji24) then (moraineref02_Num.l0 k1 (wrap64 (x5_1 + 1)) a0_0 l0_1 a0_0 (y129.set ((ji21) : Int).toNat (Go.bits .or .u32 (rd y129 (ji21)) (shl .u32 1 (ji24))))) else (none)) = some (r1, r2, r3) := by first | (rw [hji24] at H; exact H) | (simp only [hji24] at H ⊢; exact H)
           (try rw [hji24] at c17b0)
           (try rw [hji24] at c17b1)
           by_cases c25 : 0 ≤ (ji24)
           ·rw [if_pos c25] at H
            have c25b0 := eq_true c25
            have c25b1 : decide (0 ≤ (ji24)) = true := decide_eq_true c25
            clear c25
            obtain ⟨ji26, hji26⟩ : ∃ j_ : Int, (shl .u32 1 (ji24)) = j_ := ⟨_, rfl⟩
            replace H : (moraineref02_Num.l0 k1 (wrap64 (x5_1 + 1)) a0_0 l0_1 a0_0 (y129.set ((ji21) : Int).toNat (Go.bits .or .u32 (rd y129 (ji21)) (ji26)))) = some (r1, r2, r3) := by first | (rw [hji26] at H; exact H) | (simp only [hji26] at H ⊢; exact H)
            have hji26_ : (IntKind.u32.wrap (1 * 2 ^ min (ji24).toNat 32)) = ji26 := hji26
            have hji26z : (ji24) ≤ 32 → (IntKind.u32.wrap (1 * 2 ^ (ji24).toNat)) = ji26 := shl_small hji26
            have hji26u : (IntKind.u32.wrap (2 ^ min (ji24).toNat 32)) = ji26 := by have h_ := hji26_; rw [Int.one_mul] at h_; exact h_
            have hji26v : (ji24) ≤ 32 → (IntKind.u32.wrap (2 ^ (ji24).toNat)) = ji26 := fun hle_ => by have h_ := hji26z hle_; rw [Int.one_mul] at h_; exact h_
            obtain ⟨y134, hy134⟩ : ∃ y_ : List Int, y_ = (y129.set ((ji21) : Int).toNat (Go.bits .or .u32 (rd y129 (ji21)) (ji26))) := ⟨_, rfl⟩
            replace H : (moraineref02_Num.l0 k1 (wrap64 (x5_1 + 1)) a0_0 l0_1 a0_0 y134) = some (r1, r2, r3) := by first | (rw [hy134]; with_reducible exact H) | (have H2_ := (Option.bind_some _ _).symm.trans H; rw [hy134]; with_reducible exact H2_) | (have H2_ := (Option.bind_some _ _).symm.trans H; with_reducible exact H2_) | with_reducible exact H | (rw [hy134]; exact H) | exact H
            have Ny134 := Aside0.mk hy134
            clear hy134
            have H' := Aside0.mk H
            clear H
            have hnb28 := NB126_127.out
            have hnc28 := NB127_126.out
            have hnb29 := NB126_128.out
            have hnc29 := NB128_126.out
            have hcz30_0 : wr.cell? ⟨gb126, 0, none⟩ = some (.bool a0_0) := qc BK126 0
            have hcz30_1 : wr.cell? ⟨gb126, 1, none⟩ = some (.slice A0_1 l0_1.length c0_1) := qc BK126 1
            have hfz30_0 := blk_frozen BK126.out 0
            have hfz30_1 := blk_frozen BK126.out 1
            have hnb31 := NB128_127.out
            have hnc31 := NB127_128.out
            have hcz32_0 : wr.cell? ⟨gb128, 0, none⟩ = some (.bool a0_0) := qc BK128 0
            have hcz32_1 : wr.cell? ⟨gb128, 1, none⟩ = some (u129001) := qc BK128 1
            have hfz32_0 := blk_frozen BK128.out 0
            have hfz32_1 := blk_frozen BK128.out 1
            try go_wp2_with (first | ((with_reducible refine gate_builtin (b := .append) (xs := #[.tmp 25, .tmp 26]) rfl ?_); at_builtin; refine Kd.R_append (Kd.int .u32) (w0 := w) w.heap.size rfl (.tmp 25) (.tmp 26) 23 63 (.int .u32 0) 4 rfl Tryd.underlying23 info63 rfl (by decide) (by omega) u129001 x129001_1 0 [.int .u32 0] (fun _ => True) (fun _ => False) rfl rfl ?aP (fun _ hk => hk.elim) ?aF ?aO ?aB ?aS ?aL ?_; (case aP => exact rfl); (case aB => exact (by repeat with_reducible first|exact HB.out|apply qx|apply qv|apply qw|refine qs ?_ (by assumption))); (case aF => exact (fun _ _ => trivial)); (case aO => exact (by (with_reducible repeat first|apply Kd.R_alloc|apply Kd.R_drewN|apply Kd.R_drew); exact HO_129001.out)); (case aS => exact (below_size (by repeat with_reducible first|exact HB.out|apply qx|apply qv|apply qw|refine qs ?_ (by assumption)))); (case aL => have := LMc18.out; omega); intro v130 w33 ho hb hg hat; rw [← Ny129.out] at ho; have n0_ := Aside0.mk (blk_grown (g := gb126) (o := .cells #[.bool a0_0, .slice A0_1 l0_1.length c0_1] 34 (0, 0)) (by (with_reducible repeat first|refine qN ?_ _|refine qW ?_|refine qA ?_ _); exact BK126.out) hg (Kd.R_ne HO_129001.out BK126.out (by decide))); have n1_ := Aside0.mk (blk_grown (g := gb127) (o := .cells #[.bool false, .slice none 0 0] 25 (0, 0)) (by (with_reducible repeat first|refine qN ?_ _|refine qW ?_|refine qA ?_ _); exact BK127.out) hg (Kd.R_ne HO_129001.out BK127.out (by decide))); have n2_ := Aside0.mk (blk_grown (g := gb128) (o := .cells #[.bool a0_0, u129001] 25 (0, 0)) (by (with_reducible repeat first|refine qN ?_ _|refine qW ?_|refine qA ?_ _); exact BK128.out) hg (Kd.R_ne HO_129001.out BK128.out (by decide))); have n3_ := Aside0.mk (hb); have n4_ := Aside0.mk (ho); clear BK126; clear BK127; clear BK128; clear HB; clear HO_129001; have BK126 := n0_; have BK127 := n1_; have BK128 := n2_; have HB := n3_; have HO131 := n4_; clear n0_ n1_ n2_ n3_ n4_; clear ho hb hg hat; obtain ⟨Ao34, co34, eo34⟩ := Kd.R_slice HO131.out; subst eo34; have hcz35_0 : w33.cell? ⟨gb128, 0, none⟩ = some (.bool a0_0) := qc BK128 0; have hcz35_1 : w33.cell? ⟨gb128, 1, none⟩ = some (u129001) := qc BK128 1; have hfz35_0 := blk_frozen BK128.out 0; have hfz35_1 := blk_frozen BK128.out 1; have hcz36_0 : w33.cell? ⟨gb126, 0, none⟩ = some (.bool a0_0) := qc BK126 0; have hcz36_1 : w33.cell? ⟨gb126, 1, none⟩ = some (.slice A0_1 l0_1.length c0_1) := qc BK126 1; have hfz36_0 := blk_frozen BK126.out 0; have hfz36_1 := blk_frozen BK126.out 1; have p132 : 0 ≤ (x5_1 : Int) := of_decide_eq_true (by first | (with_reducible assumption) | assumption); have q132 : x5_1 < (l0_1.length : Int) := of_decide_eq_true (by first | (with_reducible assumption) | assumption); obtain ⟨ad132, e132, hx132_0⟩ := Kd.at_int HR0_1.out x5_1 p132 q132; cases e132; have hn132_0 : ad132.block ≠ gb128 := Nat.ne_of_lt (Nat.lt_of_lt_of_le (by have := World.block_lt_of_cell? _ _ hx132_0; first | rwa [add_block] at this | exact this) GW128.out); replace hx132_0 := (HB.out.cell (World.block_lt_of_cell? w _ hx132_0)).trans hx132_0; replace hx132_0 := (cell_far (p := ⟨gb128, 1, none⟩) (by first | (rw [add_block]; exact hn132_0) | (show (Addr.add _ _).block ≠ _; rw [add_block]; exact hn132_0) | exact hn132_0) (.slice Ao34 y129.length co34)).trans hx132_0; clear hn132_0; replace p132 := eq_true p132; replace q132 := eq_true q132))
            have n0_ : Aside0 (Kd.R (Kd.int .u32) 63 (w33.setCell ⟨gb128, 1, none⟩ (.slice Ao34 y129.length co34)) w.heap.size (fun _ => True) (.slice Ao34 y129.length co34) y129) := ⟨by (with_reducible repeat first|apply Kd.R_alloc|apply Kd.R_drewN|apply Kd.R_drew); exact Kd.R_mono (Kd.R_far (p := ⟨gb128, 1, none⟩) (Kd.R_types HO131.out BK128.out (by decide)) (fun _ hk => hk.2) (.slice Ao34 y129.length co34)) (fun _ hk => trivial)⟩
            have n1_ : Aside0 ((w33.setCell ⟨gb128, 1, none⟩ (.slice Ao34 y129.length co34)).heap[gb126]? = some (.cells #[.bool a0_0, .slice (some ad132) l0_1.length c0_1] 34 (0, 0))) := ⟨by (with_reducible repeat first|refine qN ?_ _|refine qW ?_|refine qA ?_ _); refine blk_far ?_ NB126_128.out _; (with_reducible repeat first|refine qN ?_ _|refine qW ?_|refine qA ?_ _); exact BK126.out⟩
            have n2_ : Aside0 ((w33.setCell ⟨gb128, 1, none⟩ (.slice Ao34 y129.length co34)).heap[gb127]? = some (.cells #[.bool false, .slice none 0 0] 25 (0, 0))) := ⟨by (with_reducible repeat first|refine qN ?_ _|refine qW ?_|refine qA ?_ _); refine blk_far ?_ NB127_128.out _; (with_reducible repeat first|refine qN ?_ _|refine qW ?_|refine qA ?_ _); exact BK127.out⟩
            have n3_ : Aside0 ((w33.setCell ⟨gb128, 1, none⟩ (.slice Ao34 y129.length co34)).heap[gb128]? = some (.cells #[.bool a0_0, .slice Ao34 y129.length co34] 25 (0, 0))) := ⟨by (with_reducible repeat first|refine qN ?_ _|refine qW ?_|refine qA ?_ _); refine blk_put (cs := #[.bool a0_0, u129001]) ?_ 1 _ rfl; (with_reducible repeat first|refine qN ?_ _|refine qW ?_|refine qA ?_ _); exact BK128.out⟩
            have n4_ : Aside0 (Below w.heap.size w (w33.setCell ⟨gb128, 1, none⟩ (.slice Ao34 y129.length co34))) := ⟨by repeat (first | (with_reducible first | exact HB.out | apply qx | apply qv | apply qw | refine qs ?_ (by assumption)) | exact HB.out)⟩
            (try clear HO131)
            (try clear BK126)
            (try clear BK127)
            (try clear BK128)
            (try clear HB)
            generalize (w33.setCell ⟨gb128, 1, none⟩ (.slice Ao34 y129.length co34)) = w37 at n0_ n1_ n2_ n3_ n4_ ⊢
            have HO131 := n0_
            have BK126 := n1_
            have BK127 := n2_
            have BK128 := n3_
            have HB := n4_
            clear n0_ n1_ n2_ n3_ n4_
            replace HO131 := Aside0.mk (Kd.R_drew HO131.out)
            replace BK126 := Aside0.mk (blk_drew BK126.out)
            replace BK127 := Aside0.mk (blk_drew BK127.out)
            replace BK128 := Aside0.mk (blk_drew BK128.out)
            replace HB := Aside0.mk (below_drew1 HB.out)
            have p133 : 0 ≤ ((ji21) : Int) := of_decide_eq_true (by first | (with_reducible assumption) | assumption)
            have q133 : (ji21) < (y129.length : Int) := of_decide_eq_true (by first | (with_reducible assumption) | assumption)
            obtain ⟨ad133, e133, hx133_0⟩ := Kd.at_int (Kd.R_reads' HO131.out).2.2 (ji21) p133 q133
            cases e133
            replace p133 := eq_true p133
            replace q133 := eq_true q133
            have p27 : 0 ≤ ((ji21) : Int) := of_decide_eq_true (by first | (with_reducible assumption) | assumption)
            have q27 : ((ji21) : Int) < ((y129.length : Int) : Int) := of_decide_eq_true (by first | (with_reducible assumption) | assumption)
            obtain ⟨go27, co27, eo27, gb27, gl27, cl27, HG27⟩ := Kd.R_form HO131.out (by omega)
            (first | cases eo27 | (injection eo27 with ea_ en_ ec_; (first | subst ea_ | (injection ea_ with ea_; subst ea_)); subst ec_; clear en_))
            have GB27 := Aside0.mk gb27
            have GG27 := Aside0.mk HG27
            clear gb27 gl27 HG27
            (first | simp only [add_plain] at hx133_0 | skip)
            obtain ⟨hx27_0, hf27_0⟩ := Kd.R_celln 0 HO131.out ((ji21) : Int) p27 q27
            replace p27 := eq_true p27
            replace q27 := eq_true q27
            have HP39 := Kd.R_putn HO131.out ((ji21) : Int) (Go.bits .or .u32 (rd y129 (ji21)) (ji26))
            rw [← Ny134.out] at HP39
            have HQ39 := Aside0.mk HP39
            clear HP39
            refine start_ (n := 16) (S := fun w' => w'.cell? ⟨gb128, 0, none⟩ = some (.bool a0_0) ∧ w'.cell? ⟨gb128, 1, none⟩ = some (.slice (some ⟨go27, 0, none⟩) y129.length co34) ∧ w'.cell? ⟨go27, ((ji21)).toNat, none⟩ = some (.int .u32 (rd y129 (ji21)))) (ds := [15]) #[false, false, false, false, false, false, false, false, false, false, false, false, false, false, false, false] (by kernel_rfl) rfl rfl ⟨qc BK128 0, qc BK128 1, hx133_0⟩ (fun hHeld => ?_); refine with_tabW moraineref02_Num.tab10 moraineref02_Num.bits10 (fun HT_ HW_ => ?_)
            generalize w37.drew = w38 at HO131 BK126 BK127 BK128 HB GG27 HQ39 hf27_0 hx133_0 hx27_0 hHeld ⊢
            refine pure_ (i := 0) (N := some 35) (v := ?_) (a' := ?_) #[true, false, false, false, false, false, false, false, false, false, false, false, false, false, false, false] rfl rfl (any_of HT_.out (by kernel_rfl)) (fun _ _ _ h => h) (Or.inl ⟨by rfl, ?_⟩) ?_ ?_
            rotate_left
            ·intro w'
             go_simp
             with_reducible rfl
            rotate_left
            ·simp only [Act.put, zA, zB, zC, i64_w, i32_w]
             rfl
            refine pure_ (i := 2) (N := some 37) (v := ?_) (a' := ?_) #[true, false, true, false, false, false, false, false, false, false, false, false, false, false, false, false] rfl rfl (any_of HT_.out (by kernel_rfl)) (fun _ _ _ h => h) (Or.inl ⟨by rfl, ?_⟩) ?_ ?_
            rotate_left
            ·intro w'
             go_simp
             with_reducible rfl
            rotate_left
            ·simp only [Act.put, zA, zB, zC, i64_w, i32_w]
             rfl
            refine pure_ (i := 3) (N := some 38) (v := ?_) (a' := ?_) #[true, false, true, true, false, false, false, false, false, false, false, false, false, false, false, false] rfl rfl (any_of HT_.out (by kernel_rfl)) (fun _ _ _ h => h) (Or.inl ⟨by rfl, ?_⟩) ?_ ?_
            rotate_left
            ·intro w'
             go_simp
             with_reducible rfl
            rotate_left
            ·simp only [Act.put, zA, zB, zC, i64_w, i32_w]
             rfl
            refine pure_ (i := 4) (N := some 39) (v := ?_) (a' := ?_) #[true, false, true, true, true, false, false, false, false, false, false, false, false, false, false, false] rfl rfl (any_of HT_.out (by kernel_rfl)) (fun _ _ _ h => h) (Or.inl ⟨by rfl, ?_⟩) ?_ ?_
            rotate_left
            ·intro w'
             go_simp
             with_reducible rfl
            rotate_left
            ·simp only [Act.put, zA, zB, zC, i64_w, i32_w]
             rfl
            refine pure_ (i := 6) (N := some 41) (v := ?_) (a' := ?_) #[true, false, true, true, true, false, true, false, false, false, false, false, false, false, false, false] rfl rfl (any_of HT_.out (by kernel_rfl)) (fun _ _ _ h => h) (Or.inl ⟨by rfl, ?_⟩) ?_ ?_
            rotate_left
            ·intro w'
             go_simp
             with_reducible rfl
            rotate_left
            ·simp only [Act.put, zA, zB, zC, i64_w, i32_w]
             rfl
            refine pure_ (i := 7) (N := some 42) (v := ?_) (a' := ?_) #[true, false, true, true, true, false, true, true, false, false, false, false, false, false, false, false] rfl rfl (any_of HT_.out (by kernel_rfl)) (fun _ _ _ h => h) (Or.inl ⟨by rfl, ?_⟩) ?_ ?_
            rotate_left
            ·intro w'
             go_simp
             with_reducible rfl
            rotate_left
            ·simp only [Act.put, zA, zB, zC, i64_w, i32_w]
             rfl
            refine pure_ (i := 10) (N := some 45) (v := ?_) (a' := ?_) #[true, false, true, true, true, false, true, true, false, false, true, false, false, false, false, false] rfl rfl (any_of HT_.out (by kernel_rfl)) (fun _ _ _ h => h) (Or.inl ⟨by rfl, ?_⟩) ?_ ?_
            rotate_left
            ·intro w'
             go_simp
             with_reducible rfl
            rotate_left
            ·simp only [Act.put, zA, zB, zC, i64_w, i32_w]
             rfl
            refine pure_ (i := 11) (N := some 46) (v := ?_) (a' := ?_) #[true, false, true, true, true, false, true, true, false, false, true, true, false, false, false, false] rfl rfl (any_of HT_.out (by kernel_rfl)) (fun _ _ _ h => h) (Or.inl ⟨by rfl, ?_⟩) ?_ ?_
            rotate_left
            ·intro w'
             go_simp
             with_reducible rfl
            rotate_left
            ·simp only [Act.put, zA, zB, zC, i64_w, i32_w]
             rfl
            refine pure_ (i := 12) (N := some 47) (v := ?_) (a' := ?_) #[true, false, true, true, true, false, true, true, false, false, true, true, true, false, false, false] rfl rfl (any_of HT_.out (by kernel_rfl)) (fun _ _ _ h => h) (Or.inl ⟨by rfl, ?_⟩) ?_ ?_
            rotate_left
            ·intro w'
             go_simp
             with_reducible rfl
            rotate_left
            ·simp only [Act.put, zA, zB, zC, i64_w, i32_w]
             rfl
            refine take_ (i := 1) (N := some 36) (v := ?_) (a' := ?_) #[true, true, true, true, true, false, true, true, false, false, true, true, true, false, false, false] rfl rfl (take_ofW HT_.out HW_.out (by kernel_rfl)) (fun _ _ _ h => h) (Or.inl ⟨by rfl, ?_⟩) hHeld ?_ ?_
            rotate_left
            ·rintro w' ⟨s0, s1, s2⟩
             go_simp
             with_reducible rfl
            rotate_left
            ·simp only [Act.put, zA, zB, zC, i64_w, i32_w]
             rfl
            refine take_ (i := 5) (N := some 40) (v := ?_) (a' := ?_) #[true, true, true, true, true, true, true, true, false, false, true, true, true, false, false, false] rfl rfl (take_ofW HT_.out HW_.out (by kernel_rfl)) (fun _ _ _ h => h) (Or.inl ⟨by rfl, ?_⟩) hHeld ?_ ?_
            rotate_left
            ·rintro w' ⟨s0, s1, s2⟩
             go_simp
             with_reducible rfl
            rotate_left
            ·simp only [Act.put, zA, zB, zC, i64_w, i32_w]
             rfl
            refine pure_ (i := 8) (N := some 43) (v := ?_) (a' := ?_) #[true, true, true, true, true, true, true, true, true, false, true, true, true, false, false, false] rfl rfl (any_of HT_.out (by kernel_rfl)) (fun _ _ _ h => h) (Or.inl ⟨by rfl, ?_⟩) ?_ ?_
            rotate_left
            ·intro w'
             go_simp
             with_reducible rfl
            rotate_left
            ·simp only [Act.put, zA, zB, zC, i64_w, i32_w]
             rfl
            refine take_ (i := 9) (N := some 44) (v := ?_) (a' := ?_) #[true, true, true, true, true, true, true, true, true, true, true, true, true, false, false, false] rfl rfl (take_ofW HT_.out HW_.out (by kernel_rfl)) (fun _ _ _ h => h) (Or.inl ⟨by rfl, ?_⟩) hHeld ?_ ?_
            rotate_left
            ·rintro w' ⟨s0, s1, s2⟩
             go_simp
             with_reducible rfl
            rotate_left
            ·simp only [Act.put, zA, zB, zC, i64_w, i32_w]
             rfl
            refine pure_ (i := 13) (N := some 48) (v := ?_) (a' := ?_) #[true, true, true, true, true, true, true, true, true, true, true, true, true, true, false, false] rfl rfl (any_of HT_.out (by kernel_rfl)) (fun _ _ _ h => h) (Or.inl ⟨by rfl, ?_⟩) ?_ ?_
            rotate_left
            ·intro w'
             go_simp
             with_reducible rfl
            rotate_left
            ·simp only [Act.put, zA, zB, zC, i64_w, i32_w]
             rfl
            refine pure_ (i := 14) (N := some 49) (v := ?_) (a' := ?_) #[true, true, true, true, true, true, true, true, true, true, true, true, true, true, true, false] rfl rfl (any_of HT_.out (by kernel_rfl)) (fun _ _ _ h => h) (Or.inl ⟨by rfl, ?_⟩) ?_ ?_
            rotate_left
            ·intro w'
             go_simp
             with_reducible rfl
            rotate_left
            ·simp only [Act.put, zA, zB, zC, i64_w, i32_w]
             rfl
            refine last_ (i := 15) (N := none) #[true, true, true, true, true, true, true, true, true, true, true, true, true, true, true, true] rfl rfl (one_of HT_.out (by kernel_rfl)) (by decide) (fun K hK => ?_)
            refine skip_ (w1 := ?_) (by rfl) rfl ?_ ?_
            rotate_left
            ·go_simp
             rfl
            refine hK.out _ _ ?_
            clear hK K
            refine done_ (done_of HT_.out (by kernel_rfl)) ?_
            try go_wp2
            go_roundg k1
            case measure => have := HK1.out; omega
            case rel => exact ⟨(wrap64 (x5_1 + 1)), (y134), (.slice (some ⟨go27, 0, none⟩) y129.length co34), (by first | rfl | (simp; done) | (simp [*]; done)), H', ⟨by have := HK1.out; omega⟩, ⟨by (with_reducible repeat first|apply Kd.R_alloc|apply Kd.R_drewN|apply Kd.R_drew); first | exact HQ39.out | (have h_ := hji26v (by have := Int.tmod_lt_of_pos x5_1 (show (0 : Int) < 32 by decide); omega); rw [IntKind.wrap_u32] at h_; rw [← h_] at HQ39; exact HQ39.out)⟩, ⟨by (with_reducible repeat first|refine qN ?_ _|refine qW ?_|refine qA ?_ _); refine blk_far ?_ (by have h_ := Kd.R_ne HO131.out BK126.out (by decide); intro e_; exact h_ (by rw [e_]; rfl)) _; (with_reducible repeat first|refine qN ?_ _|refine qW ?_|refine qA ?_ _); exact BK126.out⟩, ⟨by (with_reducible repeat first|refine qN ?_ _|refine qW ?_|refine qA ?_ _); refine blk_far ?_ (by have h_ := Kd.R_ne HO131.out BK127.out (by decide); intro e_; exact h_ (by rw [e_]; rfl)) _; (with_reducible repeat first|refine qN ?_ _|refine qW ?_|refine qA ?_ _); exact BK127.out⟩, ⟨by (with_reducible repeat first|refine qN ?_ _|refine qW ?_|refine qA ?_ _); refine blk_far ?_ (by have h_ := Kd.R_ne HO131.out BK128.out (by decide); intro e_; exact h_ (by rw [e_]; rfl)) _; (with_reducible repeat first|refine qN ?_ _|refine qW ?_|refine qA ?_ _); exact BK128.out⟩, ⟨by repeat (first | (with_reducible first | exact HB.out | apply qx | apply qv | apply qw | refine below_set ?_ GB27.out | refine qs ?_ (by assumption)) | exact HB.out)⟩⟩
           ·rw [if_neg c25] at H
            exact absurd H (by simp)
          ·rw [if_neg c23] at H
           exact absurd H (by simp)
         ·rw [if_neg c22] at H
          exact absurd H (by simp)
        ·rw [if_neg c20] at H
         have c20b0 : ((rd l0_1 x5_1) == 1) = false := beq_eq_false_iff_ne.mpr c20
         have c20b1 : ((rd l0_1 x5_1) != 1) = true := bne_iff_ne.mpr c20
         have H' := Aside0.mk H
         clear H
         have hnb40 := NB126_127.out
         have hnc40 := NB127_126.out
         have hnb41 := NB126_128.out
         have hnc41 := NB128_126.out
         have hcz42_0 : wr.cell? ⟨gb126, 0, none⟩ = some (.bool a0_0) := qc BK126 0
         have hcz42_1 : wr.cell? ⟨gb126, 1, none⟩ = some (.slice A0_1 l0_1.length c0_1) := qc BK126 1
         have hfz42_0 := blk_frozen BK126.out 0
         have hfz42_1 := blk_frozen BK126.out 1
         have hnb43 := NB128_127.out
         have hnc43 := NB127_128.out
         have hcz44_0 : wr.cell? ⟨gb128, 0, none⟩ = some (.bool a0_0) := qc BK128 0
         have hcz44_1 : wr.cell? ⟨gb128, 1, none⟩ = some (u129001) := qc BK128 1
         have hfz44_0 := blk_frozen BK128.out 0
         have hfz44_1 := blk_frozen BK128.out 1
         go_wp2_with (first | ((with_reducible refine gate_builtin (b := .append) (xs := #[.tmp 25, .tmp 26]) rfl ?_); at_builtin; refine Kd.R_append (Kd.int .u32) (w0 := w) w.heap.size rfl (.tmp 25) (.tmp 26) 23 63 (.int .u32 0) 4 rfl Tryd.underlying23 info63 rfl (by decide) (by omega) u129001 x129001_1 0 [.int .u32 0] (fun _ => True) (fun _ => False) rfl rfl ?aP (fun _ hk => hk.elim) ?aF ?aO ?aB ?aS ?aL ?_; (case aP => exact rfl); (case aB => exact (by repeat with_reducible first|exact HB.out|apply qx|apply qv|apply qw|refine qs ?_ (by assumption))); (case aF => exact (fun _ _ => trivial)); (case aO => exact (by (with_reducible repeat first|apply Kd.R_alloc|apply Kd.R_drewN|apply Kd.R_drew); exact HO_129001.out)); (case aS => exact (below_size (by repeat with_reducible first|exact HB.out|apply qx|apply qv|apply qw|refine qs ?_ (by assumption)))); (case aL => have := LMc18.out; omega); intro v130 w45 ho hb hg hat; rw [← Ny129.out] at ho; have n0_ := Aside0.mk (blk_grown (g := gb126) (o := .cells #[.bool a0_0, .slice A0_1 l0_1.length c0_1] 34 (0, 0)) (by (with_reducible repeat first|refine qN ?_ _|refine qW ?_|refine qA ?_ _); exact BK126.out) hg (Kd.R_ne HO_129001.out BK126.out (by decide))); have n1_ := Aside0.mk (blk_grown (g := gb127) (o := .cells #[.bool false, .slice none 0 0] 25 (0, 0)) (by (with_reducible repeat first|refine qN ?_ _|refine qW ?_|refine qA ?_ _); exact BK127.out) hg (Kd.R_ne HO_129001.out BK127.out (by decide))); have n2_ := Aside0.mk (blk_grown (g := gb128) (o := .cells #[.bool a0_0, u129001] 25 (0, 0)) (by (with_reducible repeat first|refine qN ?_ _|refine qW ?_|refine qA ?_ _); exact BK128.out) hg (Kd.R_ne HO_129001.out BK128.out (by decide))); have n3_ := Aside0.mk (hb); have n4_ := Aside0.mk (ho); clear BK126; clear BK127; clear BK128; clear HB; clear HO_129001; have BK126 := n0_; have BK127 := n1_; have BK128 := n2_; have HB := n3_; have HO131 := n4_; clear n0_ n1_ n2_ n3_ n4_; clear ho hb hg hat; obtain ⟨Ao46, co46, eo46⟩ := Kd.R_slice HO131.out; subst eo46; have hcz47_0 : w45.cell? ⟨gb128, 0, none⟩ = some (.bool a0_0) := qc BK128 0; have hcz47_1 : w45.cell? ⟨gb128, 1, none⟩ = some (u129001) := qc BK128 1; have hfz47_0 := blk_frozen BK128.out 0; have hfz47_1 := blk_frozen BK128.out 1; have hcz48_0 : w45.cell? ⟨gb126, 0, none⟩ = some (.bool a0_0) := qc BK126 0; have hcz48_1 : w45.cell? ⟨gb126, 1, none⟩ = some (.slice A0_1 l0_1.length c0_1) := qc BK126 1; have hfz48_0 := blk_frozen BK126.out 0; have hfz48_1 := blk_frozen BK126.out 1; have p132 : 0 ≤ (x5_1 : Int) := of_decide_eq_true (by first | (with_reducible assumption) | assumption); have q132 : x5_1 < (l0_1.length : Int) := of_decide_eq_true (by first | (with_reducible assumption) | assumption); obtain ⟨ad132, e132, hx132_0⟩ := Kd.at_int HR0_1.out x5_1 p132 q132; cases e132; have hn132_0 : ad132.block ≠ gb128 := Nat.ne_of_lt (Nat.lt_of_lt_of_le (by have := World.block_lt_of_cell? _ _ hx132_0; first | rwa [add_block] at this | exact this) GW128.out); replace hx132_0 := (HB.out.cell (World.block_lt_of_cell? w _ hx132_0)).trans hx132_0; replace hx132_0 := (cell_far (p := ⟨gb128, 1, none⟩) (by first | (rw [add_block]; exact hn132_0) | (show (Addr.add _ _).block ≠ _; rw [add_block]; exact hn132_0) | exact hn132_0) (.slice Ao46 y129.length co46)).trans hx132_0; clear hn132_0; replace p132 := eq_true p132; replace q132 := eq_true q132))
         go_roundg k1
         case measure => have := HK1.out; omega
         case rel => exact ⟨(wrap64 (x5_1 + 1)), (y129), (.slice Ao46 y129.length co46), (by first | rfl | (simp; done) | (simp [*]; done)), H', ⟨by have := HK1.out; omega⟩, ⟨by (with_reducible repeat first|apply Kd.R_alloc|apply Kd.R_drewN|apply Kd.R_drew); exact Kd.R_mono (Kd.R_far (p := ⟨gb128, 1, none⟩) (Kd.R_types HO131.out BK128.out (by decide)) (fun _ hk => hk.2) (.slice Ao46 y129.length co46)) (fun _ hk => trivial)⟩, ⟨by (with_reducible repeat first|refine qN ?_ _|refine qW ?_|refine qA ?_ _); refine blk_far ?_ NB126_128.out _; (with_reducible repeat first|refine qN ?_ _|refine qW ?_|refine qA ?_ _); exact BK126.out⟩, ⟨by (with_reducible repeat first|refine qN ?_ _|refine qW ?_|refine qA ?_ _); refine blk_far ?_ NB127_128.out _; (with_reducible repeat first|refine qN ?_ _|refine qW ?_|refine qA ?_ _); exact BK127.out⟩, ⟨by (with_reducible repeat first|refine qN ?_ _|refine qW ?_|refine qA ?_ _); refine blk_put (cs := #[.bool a0_0, u129001]) ?_ 1 _ rfl; (with_reducible repeat first|refine qN ?_ _|refine qW ?_|refine qA ?_ _); exact BK128.out⟩, ⟨by repeat (first | (with_reducible first | exact HB.out | apply qx | apply qv | apply qw | refine qs ?_ (by assumption)) | exact HB.out)⟩⟩
       ·rw [if_neg c19] at H
        exact absurd H (by simp)
      ·rw [if_neg c18] at H
       exact absurd H (by simp)
     ·rw [if_neg c17] at H
      have c17b0 : ((Int.tmod x5_1 32) == 0) = false := beq_eq_false_iff_ne.mpr c17
      have c17b1 : ((Int.tmod x5_1 32) != 0) = true := bne_iff_ne.mpr c17
      by_cases c49 : 0 ≤ x5_1
      ·rw [if_pos c49] at H
       have c49b0 : decide (0 ≤ x5_1) = true := decide_eq_true c49
       clear c49
       by_cases c50 : (rd l0_1 x5_1) = 1
       ·rw [if_pos c50] at H
        have c50b0 : ((rd l0_1 x5_1) == 1) = true := beq_iff_eq.mpr c50
        have c50b1 : ((rd l0_1 x5_1) != 1) = false := bne_eq_false_iff_eq.mpr c50
        clear c50
        obtain ⟨ji51, hji51⟩ : ∃ j_ : Int, (wrap64 (Int.tdiv x5_1 32)) = j_ := ⟨_, rfl⟩
        replace H : (if 0 ≤ (ji51) then (if (ji51) < (x129001_1.length : Int) then (if 0 ≤ (Int.tmod x5_1 32) then (moraineref02_Num.l0 k1 (wrap64 (x5_1 + 1)) a0_0 l0_1 a0_0 (x129001_1.set ((ji51) : Int).toNat (Go.bits .or .u32 (rd x129001_1 (ji51)) (shl .u32 1 (Int.tmod x5_1 32))))) else (none)) else (none)) else (none)) = some (r1, r2, r3) := by first | (rw [hji51] at H; exact H) | (simp only [hji51] at H ⊢; exact H)
        have hji51w : (IntKind.i64.wrap (Int.tdiv x5_1 32)) = ji51 := (i64_w _).trans hji51
        by_cases c52 : 0 ≤ (ji51)
        ·rw [if_pos c52] at H
         have c52b0 : decide (0 ≤ (ji51)) = true := decide_eq_true c52
         clear c52
         by_cases c53 : (ji51) < (x129001_1.length : Int)
         ·rw [if_pos c53] at H
          have c53b0 : decide ((ji51) < (x129001_1.length : Int)) = true := decide_eq_true c53
          clear c53
          obtain ⟨ji54, hji54⟩ : ∃ j_ : Int, (Int.tmod x5_1 32) = j_ := ⟨_, rfl⟩
          replace H : (if 0 ≤ (ji54) then (moraineref02_Num.l0 k1 (wrap64 (x5_1 + 1)) a0_0 l0_1 a0_0 (x129001_1.set ((ji51) : Int).toNat (Go.bits .or .u32 (rd x129001_1 (ji51)) (shl .u32 1 (ji54))))) else (none)) = some (r1, r2, r3) := by first | (rw [hji54] at H; exact H) | (simp only [hji54] at H ⊢; exact H)
          (try rw [hji54] at c17b0)
          (try rw [hji54] at c17b1)
          by_cases c55 : 0 ≤ (ji54)
          ·rw [if_pos c55] at H
           have c55b0 := eq_true c55
           have c55b1 : decide (0 ≤ (ji54)) = true := decide_eq_true c55
           clear c55
           obtain ⟨ji56, hji56⟩ : ∃ j_ : Int, (shl .u32 1 (ji54)) = j_ := ⟨_, rfl⟩
           replace H : (moraineref02_Num.l0 k1 (wrap64 (x5_1 + 1)) a0_0 l0_1 a0_0 (x129001_1.set ((ji51) : Int).toNat (Go.bits .or .u32 (rd x129001_1 (ji51)) (ji56)))) = some (r1, r2, r3) := by first | (rw [hji56] at H; exact H) | (simp only [hji56] at H ⊢; exact H)
           have hji56_ : (IntKind.u32.wrap (1 * 2 ^ min (ji54).toNat 32)) = ji56 := hji56
           have hji56z : (ji54) ≤ 32 → (IntKind.u32.wrap (1 * 2 ^ (ji54).toNat)) = ji56 := shl_small hji56
           have hji56u : (IntKind.u32.wrap (2 ^ min (ji54).toNat 32)) = ji56 := by have h_ := hji56_; rw [Int.one_mul] at h_; exact h_
           have hji56v : (ji54) ≤ 32 → (IntKind.u32.wrap (2 ^ (ji54).toNat)) = ji56 := fun hle_ => by have h_ := hji56z hle_; rw [Int.one_mul] at h_; exact h_
           obtain ⟨y137, hy137⟩ : ∃ y_ : List Int, y_ = (x129001_1.set ((ji51) : Int).toNat (Go.bits .or .u32 (rd x129001_1 (ji51)) (ji56))) := ⟨_, rfl⟩
           replace H : (moraineref02_Num.l0 k1 (wrap64 (x5_1 + 1)) a0_0 l0_1 a0_0 y137) = some (r1, r2, r3) := by first | (rw [hy137]; with_reducible exact H) | (have H2_ := (Option.bind_some _ _).symm.trans H; rw [hy137]; with_reducible exact H2_) | (have H2_ := (Option.bind_some _ _).symm.trans H; with_reducible exact H2_) | with_reducible exact H | (rw [hy137]; exact H) | exact H
           have Ny137 := Aside0.mk hy137
           clear hy137
           have H' := Aside0.mk H
           clear H
           have hnb58 := NB126_127.out
           have hnc58 := NB127_126.out
           have hnb59 := NB126_128.out
           have hnc59 := NB128_126.out
           have hcz60_0 : wr.cell? ⟨gb126, 0, none⟩ = some (.bool a0_0) := qc BK126 0
           have hcz60_1 : wr.cell? ⟨gb126, 1, none⟩ = some (.slice A0_1 l0_1.length c0_1) := qc BK126 1
           have hfz60_0 := blk_frozen BK126.out 0
           have hfz60_1 := blk_frozen BK126.out 1
           have p135 : 0 ≤ (x5_1 : Int) := of_decide_eq_true (by first | (with_reducible assumption) | assumption)
           have q135 : x5_1 < (l0_1.length : Int) := of_decide_eq_true (by first | (with_reducible assumption) | assumption)
           obtain ⟨ad135, e135, hx135_0⟩ := Kd.at_int HR0_1.out x5_1 p135 q135
           cases e135
           replace hx135_0 := (HB.out.cell (World.block_lt_of_cell? w _ hx135_0)).trans hx135_0
           replace p135 := eq_true p135
           replace q135 := eq_true q135
           try go_wp2
           replace HO_129001 := Aside0.mk (Kd.R_drew HO_129001.out)
           replace BK126 := Aside0.mk (blk_drew BK126.out)
           replace BK127 := Aside0.mk (blk_drew BK127.out)
           replace BK128 := Aside0.mk (blk_drew BK128.out)
           replace HB := Aside0.mk (below_drew1 HB.out)
           obtain ⟨Ao62, co62, eo62⟩ := Kd.R_slice HO_129001.out
           (first | subst eo62 | (injection eo62 with f1_ f2_ f3_; have f4_ := f1_.symm; have f5_ := f3_.symm; clear f1_ f2_ f3_; subst f4_; subst f5_))
           have p136 : 0 ≤ ((ji51) : Int) := of_decide_eq_true (by first | (with_reducible assumption) | assumption)
           have q136 : (ji51) < (x129001_1.length : Int) := of_decide_eq_true (by first | (with_reducible assumption) | assumption)
           obtain ⟨ad136, e136, hx136_0⟩ := Kd.at_int (Kd.R_reads' HO_129001.out).2.2 (ji51) p136 q136
           cases e136
           replace p136 := eq_true p136
           replace q136 := eq_true q136
           have p57 : 0 ≤ ((ji51) : Int) := of_decide_eq_true (by first | (with_reducible assumption) | assumption)
           have q57 : ((ji51) : Int) < ((x129001_1.length : Int) : Int) := of_decide_eq_true (by first | (with_reducible assumption) | assumption)
           obtain ⟨go57, co57, eo57, gb57, gl57, cl57, HG57⟩ := Kd.R_form HO_129001.out (by omega)
           (first | cases eo57 | (injection eo57 with ea_ en_ ec_; (first | subst ea_ | (injection ea_ with ea_; subst ea_)); subst ec_; clear en_))
           have GB57 := Aside0.mk gb57
           have GG57 := Aside0.mk HG57
           clear gb57 gl57 HG57
           (first | simp only [add_plain] at hx136_0 | skip)
           obtain ⟨hx57_0, hf57_0⟩ := Kd.R_celln 0 HO_129001.out ((ji51) : Int) p57 q57
           replace p57 := eq_true p57
           replace q57 := eq_true q57
           have HP63 := Kd.R_putn HO_129001.out ((ji51) : Int) (Go.bits .or .u32 (rd x129001_1 (ji51)) (ji56))
           rw [← Ny137.out] at HP63
           have HQ63 := Aside0.mk HP63
           clear HP63
           refine start_ (n := 16) (S := fun w' => w'.cell? ⟨gb128, 0, none⟩ = some (.bool a0_0) ∧ w'.cell? ⟨gb128, 1, none⟩ = some (.slice (some ⟨go57, 0, none⟩) x129001_1.length co62) ∧ w'.cell? ⟨go57, ((ji51)).toNat, none⟩ = some (.int .u32 (rd x129001_1 (ji51)))) (ds := [15]) #[false, false, false, false, false, false, false, false, false, false, false, false, false, false, false, false] (by kernel_rfl) rfl rfl ⟨qc BK128 0, qc BK128 1, hx136_0⟩ (fun hHeld => ?_); refine with_tabW moraineref02_Num.tab10 moraineref02_Num.bits10 (fun HT_ HW_ => ?_)
           generalize wr.drew = w61 at HO_129001 BK126 BK127 BK128 HB GG57 HQ63 hf57_0 hx136_0 hx57_0 hHeld ⊢
           refine pure_ (i := 0) (N := some 35) (v := ?_) (a' := ?_) #[true, false, false, false, false, false, false, false, false, false, false, false, false, false, false, false] rfl rfl (any_of HT_.out (by kernel_rfl)) (fun _ _ _ h => h) (Or.inl ⟨by rfl, ?_⟩) ?_ ?_
           rotate_left
           ·intro w'
            go_simp
            with_reducible rfl
           rotate_left
           ·simp only [Act.put, zA, zB, zC, i64_w, i32_w]
            rfl
           refine pure_ (i := 2) (N := some 37) (v := ?_) (a' := ?_) #[true, false, true, false, false, false, false, false, false, false, false, false, false, false, false, false] rfl rfl (any_of HT_.out (by kernel_rfl)) (fun _ _ _ h => h) (Or.inl ⟨by rfl, ?_⟩) ?_ ?_
           rotate_left
           ·intro w'
            go_simp
            with_reducible rfl
           rotate_left
           ·simp only [Act.put, zA, zB, zC, i64_w, i32_w]
            rfl
           refine pure_ (i := 3) (N := some 38) (v := ?_) (a' := ?_) #[true, false, true, true, false, false, false, false, false, false, false, false, false, false, false, false] rfl rfl (any_of HT_.out (by kernel_rfl)) (fun _ _ _ h => h) (Or.inl ⟨by rfl, ?_⟩) ?_ ?_
           rotate_left
           ·intro w'
            go_simp
            with_reducible rfl
           rotate_left
           ·simp only [Act.put, zA, zB, zC, i64_w, i32_w]
            rfl
           refine pure_ (i := 4) (N := some 39) (v := ?_) (a' := ?_) #[true, false, true, true, true, false, false, false, false, false, false, false, false, false, false, false] rfl rfl (any_of HT_.out (by kernel_rfl)) (fun _ _ _ h => h) (Or.inl ⟨by rfl, ?_⟩) ?_ ?_
           rotate_left
           ·intro w'
            go_simp
            with_reducible rfl
           rotate_left
           ·simp only [Act.put, zA, zB, zC, i64_w, i32_w]
            rfl
           refine pure_ (i := 6) (N := some 41) (v := ?_) (a' := ?_) #[true, false, true, true, true, false, true, false, false, false, false, false, false, false, false, false] rfl rfl (any_of HT_.out (by kernel_rfl)) (fun _ _ _ h => h) (Or.inl ⟨by rfl, ?_⟩) ?_ ?_
           rotate_left
           ·intro w'
            go_simp
            with_reducible rfl
           rotate_left
           ·simp only [Act.put, zA, zB, zC, i64_w, i32_w]
            rfl
           refine pure_ (i := 7) (N := some 42) (v := ?_) (a' := ?_) #[true, false, true, true, true, false, true, true, false, false, false, false, false, false, false, false] rfl rfl (any_of HT_.out (by kernel_rfl)) (fun _ _ _ h => h) (Or.inl ⟨by rfl, ?_⟩) ?_ ?_
           rotate_left
           ·intro w'
            go_simp
            with_reducible rfl
           rotate_left
           ·simp only [Act.put, zA, zB, zC, i64_w, i32_w]
            rfl
           refine pure_ (i := 10) (N := some 45) (v := ?_) (a' := ?_) #[true, false, true, true, true, false, true, true, false, false, true, false, false, false, false, false] rfl rfl (any_of HT_.out (by kernel_rfl)) (fun _ _ _ h => h) (Or.inl ⟨by rfl, ?_⟩) ?_ ?_
           rotate_left
           ·intro w'
            go_simp
            with_reducible rfl
           rotate_left
           ·simp only [Act.put, zA, zB, zC, i64_w, i32_w]
            rfl
           refine pure_ (i := 11) (N := some 46) (v := ?_) (a' := ?_) #[true, false, true, true, true, false, true, true, false, false, true, true, false, false, false, false] rfl rfl (any_of HT_.out (by kernel_rfl)) (fun _ _ _ h => h) (Or.inl ⟨by rfl, ?_⟩) ?_ ?_
           rotate_left
           ·intro w'
            go_simp
            with_reducible rfl
           rotate_left
           ·simp only [Act.put, zA, zB, zC, i64_w, i32_w]
            rfl
           refine pure_ (i := 12) (N := some 47) (v := ?_) (a' := ?_) #[true, false, true, true, true, false, true, true, false, false, true, true, true, false, false, false] rfl rfl (any_of HT_.out (by kernel_rfl)) (fun _ _ _ h => h) (Or.inl ⟨by rfl, ?_⟩) ?_ ?_
           rotate_left
           ·intro w'
            go_simp
            with_reducible rfl
           rotate_left
           ·simp only [Act.put, zA, zB, zC, i64_w, i32_w]
            rfl
           refine take_ (i := 1) (N := some 36) (v := ?_) (a' := ?_) #[true, true, true, true, true, false, true, true, false, false, true, true, true, false, false, false] rfl rfl (take_ofW HT_.out HW_.out (by kernel_rfl)) (fun _ _ _ h => h) (Or.inl ⟨by rfl, ?_⟩) hHeld ?_ ?_
           rotate_left
           ·rintro w' ⟨s0, s1, s2⟩
            go_simp
            with_reducible rfl
           rotate_left
           ·simp only [Act.put, zA, zB, zC, i64_w, i32_w]
            rfl
           refine take_ (i := 5) (N := some 40) (v := ?_) (a' := ?_) #[true, true, true, true, true, true, true, true, false, false, true, true, true, false, false, false] rfl rfl (take_ofW HT_.out HW_.out (by kernel_rfl)) (fun _ _ _ h => h) (Or.inl ⟨by rfl, ?_⟩) hHeld ?_ ?_
           rotate_left
           ·rintro w' ⟨s0, s1, s2⟩
            go_simp
            with_reducible rfl
           rotate_left
           ·simp only [Act.put, zA, zB, zC, i64_w, i32_w]
            rfl
           refine pure_ (i := 8) (N := some 43) (v := ?_) (a' := ?_) #[true, true, true, true, true, true, true, true, true, false, true, true, true, false, false, false] rfl rfl (any_of HT_.out (by kernel_rfl)) (fun _ _ _ h => h) (Or.inl ⟨by rfl, ?_⟩) ?_ ?_
           rotate_left
           ·intro w'
            go_simp
            with_reducible rfl
           rotate_left
           ·simp only [Act.put, zA, zB, zC, i64_w, i32_w]
            rfl
           refine take_ (i := 9) (N := some 44) (v := ?_) (a' := ?_) #[true, true, true, true, true, true, true, true, true, true, true, true, true, false, false, false] rfl rfl (take_ofW HT_.out HW_.out (by kernel_rfl)) (fun _ _ _ h => h) (Or.inl ⟨by rfl, ?_⟩) hHeld ?_ ?_
           rotate_left
           ·rintro w' ⟨s0, s1, s2⟩
            go_simp
            with_reducible rfl
           rotate_left
           ·simp only [Act.put, zA, zB, zC, i64_w, i32_w]
            rfl
           refine pure_ (i := 13) (N := some 48) (v := ?_) (a' := ?_) #[true, true, true, true, true, true, true, true, true, true, true, true, true, true, false, false] rfl rfl (any_of HT_.out (by kernel_rfl)) (fun _ _ _ h => h) (Or.inl ⟨by rfl, ?_⟩) ?_ ?_
           rotate_left
           ·intro w'
            go_simp
            with_reducible rfl
           rotate_left
           ·simp only [Act.put, zA, zB, zC, i64_w, i32_w]
            rfl
           refine pure_ (i := 14) (N := some 49) (v := ?_) (a' := ?_) #[true, true, true, true, true, true, true, true, true, true, true, true, true, true, true, false] rfl rfl (any_of HT_.out (by kernel_rfl)) (fun _ _ _ h => h) (Or.inl ⟨by rfl, ?_⟩) ?_ ?_
           rotate_left
           ·intro w'
            go_simp
            with_reducible rfl
           rotate_left
           ·simp only [Act.put, zA, zB, zC, i64_w, i32_w]
            rfl
           refine last_ (i := 15) (N := none) #[true, true, true, true, true, true, true, true, true, true, true, true, true, true, true, true] rfl rfl (one_of HT_.out (by kernel_rfl)) (by decide) (fun K hK => ?_)
           refine skip_ (w1 := ?_) (by rfl) rfl ?_ ?_
           rotate_left
           ·go_simp
            rfl
           refine hK.out _ _ ?_
           clear hK K
           refine done_ (done_of HT_.out (by kernel_rfl)) ?_
           try go_wp2
           go_roundg k1
           case measure => have := HK1.out; omega
           case rel => exact ⟨(wrap64 (x5_1 + 1)), (y137), (.slice (some ⟨go57, 0, none⟩) x129001_1.length co62), (by first | rfl | (simp; done) | (simp [*]; done)), H', ⟨by have := HK1.out; omega⟩, ⟨by (with_reducible repeat first|apply Kd.R_alloc|apply Kd.R_drewN|apply Kd.R_drew); exact HQ63.out⟩, ⟨by (with_reducible repeat first|refine qN ?_ _|refine qW ?_|refine qA ?_ _); refine blk_far ?_ (by have h_ := Kd.R_ne HO_129001.out BK126.out (by decide); intro e_; exact h_ (by rw [e_]; rfl)) _; (with_reducible repeat first|refine qN ?_ _|refine qW ?_|refine qA ?_ _); exact BK126.out⟩, ⟨by (with_reducible repeat first|refine qN ?_ _|refine qW ?_|refine qA ?_ _); refine blk_far ?_ (by have h_ := Kd.R_ne HO_129001.out BK127.out (by decide); intro e_; exact h_ (by rw [e_]; rfl)) _; (with_reducible repeat first|refine qN ?_ _|refine qW ?_|refine qA ?_ _); exact BK127.out⟩, ⟨by (with_reducible repeat first|refine qN ?_ _|refine qW ?_|refine qA ?_ _); refine blk_far ?_ (by have h_ := Kd.R_ne HO_129001.out BK128.out (by decide); intro e_; exact h_ (by rw [e_]; rfl)) _; (with_reducible repeat first|refine qN ?_ _|refine qW ?_|refine qA ?_ _); exact BK128.out⟩, ⟨by repeat (first | (with_reducible first | exact HB.out | apply qx | apply qv | apply qw | refine below_set ?_ GB57.out | refine qs ?_ (by assumption)) | exact HB.out)⟩⟩
          ·rw [if_neg c55] at H
           exact absurd H (by simp)
         ·rw [if_neg c53] at H
          exact absurd H (by simp)
        ·rw [if_neg c52] at H
         exact absurd H (by simp)
       ·rw [if_neg c50] at H
        have c50b0 : ((rd l0_1 x5_1) == 1) = false := beq_eq_false_iff_ne.mpr c50
        have c50b1 : ((rd l0_1 x5_1) != 1) = true := bne_iff_ne.mpr c50
        have H' := Aside0.mk H
        clear H
        have hnb64 := NB126_127.out
        have hnc64 := NB127_126.out
        have hnb65 := NB126_128.out
        have hnc65 := NB128_126.out
        have hcz66_0 : wr.cell? ⟨gb126, 0, none⟩ = some (.bool a0_0) := qc BK126 0
        have hcz66_1 : wr.cell? ⟨gb126, 1, none⟩ = some (.slice A0_1 l0_1.length c0_1) := qc BK126 1
        have hfz66_0 := blk_frozen BK126.out 0
        have hfz66_1 := blk_frozen BK126.out 1
        have p135 : 0 ≤ (x5_1 : Int) := of_decide_eq_true (by first | (with_reducible assumption) | assumption)
        have q135 : x5_1 < (l0_1.length : Int) := of_decide_eq_true (by first | (with_reducible assumption) | assumption)
        obtain ⟨ad135, e135, hx135_0⟩ := Kd.at_int HR0_1.out x5_1 p135 q135
        cases e135
        replace hx135_0 := (HB.out.cell (World.block_lt_of_cell? w _ hx135_0)).trans hx135_0
        replace p135 := eq_true p135
        replace q135 := eq_true q135
        go_wp2
        go_roundg k1
        case measure => have := HK1.out; omega
        case rel => exact ⟨(wrap64 (x5_1 + 1)), (x129001_1), (u129001), (by first | rfl | (simp; done) | (simp [*]; done)), H', ⟨by have := HK1.out; omega⟩, ⟨qq HO_129001⟩, ⟨qk BK126⟩, ⟨qk BK127⟩, ⟨qk BK128⟩, ⟨by repeat (first | (with_reducible first | exact HB.out | apply qx | apply qv | apply qw | refine qs ?_ (by assumption)) | exact HB.out)⟩⟩
      ·rw [if_neg c49] at H
       exact absurd H (by simp)
    ·rw [if_neg c16] at H
     have c16b0 : decide (x5_1 < (l0_1.length : Int)) = false := decide_eq_false c16
     clear c16
     simp only [Option.some.injEq, Prod.mk.injEq] at H
     obtain ⟨rfl, rfl, rfl⟩ := H
     have hnb67 := NB126_127.out
     have hnc67 := NB127_126.out
     have hnb68 := NB126_128.out
     have hnc68 := NB128_126.out
     have hcz69_0 : wr.cell? ⟨gb126, 0, none⟩ = some (.bool a0_0) := qc BK126 0
     have hcz69_1 : wr.cell? ⟨gb126, 1, none⟩ = some (.slice A0_1 l0_1.length c0_1) := qc BK126 1
     have hfz69_0 := blk_frozen BK126.out 0
     have hfz69_1 := blk_frozen BK126.out 1
     have hnb70 := NB128_127.out
     have hnc70 := NB127_128.out
     have hcz71_0 : wr.cell? ⟨gb128, 0, none⟩ = some (.bool a0_0) := qc BK128 0
     have hcz71_1 : wr.cell? ⟨gb128, 1, none⟩ = some (u129001) := qc BK128 1
     have hfz71_0 := blk_frozen BK128.out 0
     have hfz71_1 := blk_frozen BK128.out 1
     have hcz72_0 : wr.cell? ⟨gb127, 0, none⟩ = some (.bool false) := qc BK127 0
     have hcz72_1 : wr.cell? ⟨gb127, 1, none⟩ = some (.slice none 0 0) := qc BK127 1
     have hfz72_0 := blk_frozen BK127.out 0
     have hfz72_1 := blk_frozen BK127.out 1
     obtain ⟨Ao73, co73, eo73⟩ := Kd.R_slice HO_129001.out
     subst eo73
     go_wp2
     refine bodyPost_ret (results_ct rfl _ _ gb127 25 #[.bool a0_0, .slice Ao73 x129001_1.length co73] (0, 0) _ rfl (by (with_reducible repeat first|refine qN ?_ _|refine qW ?_|refine qA ?_ _); refine blk_put (cs := #[.bool a0_0, .slice none 0 0]) ?_ 1 _ rfl; (with_reducible repeat first|refine qN ?_ _|refine qW ?_|refine qA ?_ _); refine blk_put (cs := #[.bool false, .slice none 0 0]) ?_ 0 _ rfl; (with_reducible repeat first|refine qN ?_ _|refine qW ?_|refine qA ?_ _); exact BK127.out) Tryd.underlying25 rfl (by kernel_rfl)) rfl ?_
     exact ⟨_, by first | rfl | (simp [errW_none, errW_some] <;> rfl) | (simp [*, errW_none, errW_some] <;> rfl), by (with_reducible repeat first|apply Kd.R_alloc|apply Kd.R_drewN|apply Kd.R_drew); exact Kd.R_mono (qz HO_129001 BK127 (by decide) (.bool a0_0) (.slice Ao73 x129001_1.length co73)) (fun _ hk => trivial), by repeat (first | (with_reducible first | exact HB.out | apply qx | apply qv | apply qw | refine qs ?_ (by assumption)) | exact HB.out)⟩
end Go.Proofs.YthhpnlbeniihhaaDoor.PRef
