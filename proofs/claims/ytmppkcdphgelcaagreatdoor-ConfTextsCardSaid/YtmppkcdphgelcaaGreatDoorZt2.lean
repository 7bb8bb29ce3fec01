/- A part of the proof: texts of this seat, joined. -/
import Derived.ArgAppend
import Derived.Below
import Derived.BigQuiet
import Derived.Deep.AppendLies
import Derived.Deep.CutBlock
import Derived.Deep.DeepCutAuto
import Derived.Deep.Draws
import Derived.Deep.LoopGhost
import Derived.Deep.OwnRows
import Derived.Deep.QuietTactic
import Derived.Deep.RegionHeld3
import Derived.Handed
import Derived.IntWalk
import Derived.KernelRfl
import Derived.LaidLaws
import Derived.Laws.BitsLemmas
import Derived.Laws.BytesArg
import Derived.Laws.IdiomCopy
import Derived.Laws.MakeOwn
import Derived.Laws.OwnMore
import Derived.Laws.Rows
import Derived.Laws.Slices
import Derived.Laws.Strings
import Derived.Lay
import Derived.Lib.AppendStr
import Derived.Lib.ConvBytes
import Derived.Lib.LaidU8
import Derived.Lib.OthersKept
import Derived.Lib.TrimU
import Derived.LoopTactic
import Derived.Maps.AppendAt
import Derived.OrdersHeld
import Derived.OwnWalk
import Derived.RowKit
import Derived.RowKit3
import Derived.SevenTiedAt
import Derived.Shelf.Abstract
import Derived.Shelf.LaysC
import Derived.Shelf.LaysM
import Derived.Shelf.Strconv.Atoi
import Derived.Shelf.Strconv.AtoiAll
import Derived.Shelf.Strconv.AtoiErr
import Derived.Shelf.Strconv.AtoiErrFast
import Derived.Shelf.Strconv.AtoiFail
import Derived.Shelf.Strconv.AtoiInnerAll
import Derived.Shelf.Strconv.AtoiLong
import Derived.Shelf.Strconv.Clone
import Derived.Shelf.Strconv.ErrVar
import Derived.Shelf.Strconv.ErrVarAll
import Derived.Shelf.Strconv.Itoa0
import Derived.Shelf.Strconv.Itoa1
import Derived.Shelf.Strconv.Itoa2
import Derived.Shelf.Strconv.Itoa3
import Derived.Shelf.Strconv.Lower
import Derived.Shelf.Strconv.ParseInt10
import Derived.Shelf.Strconv.ParseIntEmpty
import Derived.Shelf.Strconv.ParseUint10
import Derived.Shelf.Strconv.ParseUint10Any
import Derived.Shelf.Strconv.ParseUint10At
import Derived.Shelf.Strconv.ParseUint10Empty
import Derived.Shelf.Strconv.ParseUint10b16
import Derived.Shelf.Strconv.ParseUint10b32
import Derived.Shelf.Strconv.ParseUint10b64
import Derived.Shelf.Strconv.ParseUint10b8
import Derived.Shelf.Strconv.ParseUintEmpty
import Derived.Shelf.Strconv.RangeError
import Derived.Shelf.Strconv.SyntaxError
import Derived.Shelf.Strconv.ToError
import Derived.Shelf.Strconv.ToErrorRange
import Derived.Shelf.Strings.Builder1
import Derived.Shelf.Strings.Builder2
import Derived.Shelf.Strings.Builder2Cap
import Derived.Shelf.Strings.BuilderCap
import Derived.Shelf.Strings.BuilderF
import Derived.Shelf.Strings.BuilderK
import Derived.Shelf.Strings.Count
import Derived.Shelf.Strings.Cut
import Derived.Shelf.Strings.Explode
import Derived.Shelf.Strings.OnBuilder
import Derived.Shelf.Strings.RuneCount
import Derived.Shelf.Strings.Search1
import Derived.Shelf.Strings.Search2
import Derived.Shelf.Strings.Search3
import Derived.Shelf.Strings.Shaped
import Derived.Shelf.Strings.Split
import Derived.Shelf.Strings.SplitShaped
import Derived.Shelf.Unicode.Decode
import Derived.Shelf.Unicode.DecodeAny
import Derived.Shelf.Unicode.DecodeSlow
import Derived.Shelf.Utf8.RuneCount
import Derived.Shelf.Vars
import Derived.Tactics
import Derived.WalkKit
import Derived.WalkLawsBesides
import Derived.WalkSmall
import Derived.WideLaws
import Derived.Test.YtmppkcdphgelcaaGreatDoorProg
import Derived.Test.YtmppkcdphgelcaaGreatDoorRows
import Derived.Test.YtmppkcdphgelcaaGreatDoorZt1
namespace Go.Proofs
open Go.Shelf
def Tryz.lays156_ren : Go.Shelf.Ren := ⟨fun | 156 => 37 | 165 => 55 | 166 => 56 | 169 => 57 | 240 => 67 | 241 => 68 | 276 => 79 | 277 => 80 | n => n, fun | 31 => 22 | 9 => 9 | 3 => 3 | 4 => 4 | 0 => 0 | 20 => 20 | 72 => 78 | 76 => 82 | 70 => 75 | 37 => 76 | 75 => 81 | 127 => 97 | 164 => 103 | 5 => 5 | 80 => 84 | n => n, fun | n => n⟩
theorem Tryz.lays156 : Go.Proofs.Lays.n156 Tryz.prog Tryz.lays156_ren := {
  mixed := by kernel_rfl
  f156 := Tryz.func37.trans (congrArg some (by kernel_rfl))
  f165 := Tryz.func55.trans (congrArg some (by kernel_rfl))
  f166 := Tryz.func56.trans (congrArg some (by kernel_rfl))
  f169 := Tryz.func57.trans (congrArg some (by kernel_rfl))
  f240 := Tryz.func67.trans (congrArg some (by kernel_rfl))
  f241 := Tryz.func68.trans (congrArg some (by kernel_rfl))
  f276 := Tryz.func79.trans (congrArg some (by kernel_rfl))
  f277 := Tryz.func80.trans (congrArg some (by kernel_rfl))
  t0 := Tryz.underlying0
  a0 := Tryz.isAgg0
  z0 := Tryz.sizeOf0
  v0 := Tryz.zeroValue0
  t3 := Tryz.underlying3
  a3 := Tryz.isAgg3
  z3 := Tryz.sizeOf3
  v3 := Tryz.zeroValue3
  t4 := Tryz.underlying4
  a4 := Tryz.isAgg4
  z4 := Tryz.sizeOf4
  v4 := Tryz.zeroValue4
  t9 := Tryz.underlying9
  a9 := Tryz.isAgg9
  z9 := Tryz.sizeOf9
  v9 := Tryz.zeroValue9
  t20 := Tryz.underlying20
  a20 := Tryz.isAgg20
  z20 := Tryz.sizeOf20
  v20 := Tryz.zeroValue20
  t31 := Tryz.underlying22
  a31 := Tryz.isAgg22
  z31 := Tryz.sizeOf22
  v31 := Tryz.zeroValue22
  t37 := Tryz.underlying76
  a37 := Tryz.isAgg76
  z37 := Tryz.sizeOf76
  v37 := Tryz.zeroValue76
  t70 := Tryz.underlying75
  a70 := Tryz.isAgg75
  z70 := Tryz.sizeOf75
  v70 := Tryz.zeroValue75
  t72 := Tryz.underlying78
  a72 := Tryz.isAgg78
  z72 := Tryz.sizeOf78
  v72 := Tryz.zeroValue78
  t75 := Tryz.underlying81
  a75 := Tryz.isAgg81
  z75 := Tryz.sizeOf81
  v75 := Tryz.zeroValue81
  t76 := Tryz.underlying82
  a76 := Tryz.isAgg82
  z76 := Tryz.sizeOf82
  v76 := Tryz.zeroValue82
  t127 := Tryz.underlying97
  a127 := Tryz.isAgg97
  z127 := Tryz.sizeOf97
  v127 := Tryz.zeroValue97
  t164 := Tryz.underlying103
  a164 := Tryz.isAgg103
  z164 := Tryz.sizeOf103
  v164 := Tryz.zeroValue103 }
theorem Tryz.Builder_Extra_156 : Builder.Extra Tryz.prog Tryz.lays156_ren := {
  sizeBuilder := by kernel_rfl
  liesBuilder := by kernel_rfl
  t5 := Tryz.underlying5
  a5 := Tryz.isAgg5
  z5 := Tryz.sizeOf5
  v5 := Tryz.zeroValue5
  infoByte := by kernel_rfl
  cellsByte := by kernel_rfl
  sizeByte := by kernel_rfl
  neB5 := by decide }
open Go.RowKit in
theorem Tryz.strings_Join_none (a : Option Addr) (c : Nat) (sep : ByteArray) (w : World) :
    Calls Tryz.prog 37 #[.slice a 0 c, .string sep] w fun e w' => e = .returned (.string ⟨#[]⟩) ∧ w' = w := Any.strings_Join_none Tryz.lays156 Tryz.Builder_Extra_156 a c sep w
open Go.RowKit in
theorem Tryz.strings_Join (bk o c : Nat) (xs : List ByteArray) (sep : ByteArray) (w : World) (hcells : ∀ (j : Nat) x, xs[j]? = some x → w.cell? ⟨bk, o + j, none⟩ = some (.string x)) (hbk : bk < w.heap.size) (hN : xs.length ≤ 140737488355328) (hcap : xs.length ≤ c) (hlen : (Lib.join (xs.map (·.data.toList)) sep.data.toList).length ≤ 140737488355328) :
    Calls Tryz.prog 37 #[.slice (some ⟨bk, o, none⟩) xs.length c, .string sep] w fun e w' => e = .returned (.string ⟨(Lib.join (xs.map (·.data.toList)) sep.data.toList).toArray⟩) ∧ Below w.heap.size w w' := Any.strings_Join Tryz.lays156 Tryz.Builder_Extra_156 bk o c xs sep w hcells hbk hN hcap hlen
def Tryz.laysM171_ren : Go.Shelf.Ren := ⟨fun | 171 => 38 | 243 => 58 | 246 => 69 | 283 => 81 | 284 => 82 | 285 => 83 | 286 => 84 | 129 => 93 | 317 => 92 | 318 => 94 | 319 => 95 | 320 => 96 | 337 => 100 | 338 => 101 | n => n, fun | 3 => 3 | 9 => 9 | 2 => 2 | 4 => 4 | 171 => 106 | 0 => 0 | 53 => 39 | 37 => 76 | 5 => 5 | 173 => 109 | 212 => 117 | 51 => 111 | 20 => 20 | 213 => 118 | 46 => 101 | 232 => 132 | 233 => 133 | n => n, fun | 17 => 1 | 18 => 4 | 19 => 5 | n => n⟩
theorem Tryz.laysM171 : Go.Proofs.LaysM.n171 Tryz.prog Tryz.laysM171_ren := {
  mixed := by kernel_rfl
  f129 := Tryz.func93.trans (congrArg some (by kernel_rfl))
  f171 := Tryz.func38.trans (congrArg some (by kernel_rfl))
  f243 := Tryz.func58.trans (congrArg some (by kernel_rfl))
  f246 := Tryz.func69.trans (congrArg some (by kernel_rfl))
  f283 := Tryz.func81.trans (congrArg some (by kernel_rfl))
  f284 := Tryz.func82.trans (congrArg some (by kernel_rfl))
  f285 := Tryz.func83.trans (congrArg some (by kernel_rfl))
  f286 := Tryz.func84.trans (congrArg some (by kernel_rfl))
  f317 := Tryz.func92.trans (congrArg some (by kernel_rfl))
  f318 := Tryz.func94.trans (congrArg some (by kernel_rfl))
  f319 := Tryz.func95.trans (congrArg some (by kernel_rfl))
  f320 := Tryz.func96.trans (congrArg some (by kernel_rfl))
  f337 := Tryz.func100.trans (congrArg some (by kernel_rfl))
  f338 := Tryz.func101.trans (congrArg some (by kernel_rfl))
  t0 := Tryz.underlying0
  a0 := Tryz.isAgg0
  z0 := Tryz.sizeOf0
  v0 := Tryz.zeroValue0
  t2 := Tryz.underlying2
  a2 := Tryz.isAgg2
  z2 := Tryz.sizeOf2
  v2 := Tryz.zeroValue2
  t3 := Tryz.underlying3
  a3 := Tryz.isAgg3
  z3 := Tryz.sizeOf3
  v3 := Tryz.zeroValue3
  t4 := Tryz.underlying4
  a4 := Tryz.isAgg4
  z4 := Tryz.sizeOf4
  v4 := Tryz.zeroValue4
  t5 := Tryz.underlying5
  a5 := Tryz.isAgg5
  z5 := Tryz.sizeOf5
  v5 := Tryz.zeroValue5
  t9 := Tryz.underlying9
  a9 := Tryz.isAgg9
  z9 := Tryz.sizeOf9
  v9 := Tryz.zeroValue9
  t20 := Tryz.underlying20
  a20 := Tryz.isAgg20
  z20 := Tryz.sizeOf20
  v20 := Tryz.zeroValue20
  t37 := Tryz.underlying76
  a37 := Tryz.isAgg76
  z37 := Tryz.sizeOf76
  v37 := Tryz.zeroValue76
  t46 := Tryz.underlying101
  a46 := Tryz.isAgg101
  z46 := Tryz.sizeOf101
  v46 := Tryz.zeroValue101
  t51 := Tryz.underlying111
  a51 := Tryz.isAgg111
  z51 := Tryz.sizeOf111
  v51 := Tryz.zeroValue111
  t53 := Tryz.underlying39
  a53 := Tryz.isAgg39
  z53 := Tryz.sizeOf39
  v53 := Tryz.zeroValue39
  t171 := Tryz.underlying106
  a171 := Tryz.isAgg106
  z171 := Tryz.sizeOf106
  v171 := Tryz.zeroValue106
  t173 := Tryz.underlying109
  a173 := Tryz.isAgg109
  z173 := Tryz.sizeOf109
  v173 := Tryz.zeroValue109
  t212 := Tryz.underlying117
  a212 := Tryz.isAgg117
  z212 := Tryz.sizeOf117
  v212 := Tryz.zeroValue117
  t213 := Tryz.underlying118
  a213 := Tryz.isAgg118
  z213 := Tryz.sizeOf118
  t232 := Tryz.underlying132
  a232 := Tryz.isAgg132
  z232 := Tryz.sizeOf132
  v232 := Tryz.zeroValue132
  t233 := Tryz.underlying133
  a233 := Tryz.isAgg133
  z233 := Tryz.sizeOf133
  v233 := Tryz.zeroValue133
  g17 := by kernel_rfl
  g18 := by kernel_rfl
  g19 := by kernel_rfl
  i0 := by kernel_rfl
  i2 := by kernel_rfl
  i3 := by kernel_rfl
  i4 := by kernel_rfl
  i5 := by kernel_rfl
  i9 := by kernel_rfl
  i20 := by kernel_rfl
  i37 := by kernel_rfl
  i46 := by kernel_rfl
  i51 := by kernel_rfl
  i53 := by kernel_rfl
  i171 := by kernel_rfl
  i173 := by kernel_rfl
  i212 := by kernel_rfl
  i232 := by kernel_rfl
  i233 := by kernel_rfl
  m17 := by kernel_rfl
  m18 := by kernel_rfl
  m19 := by kernel_rfl }
open Go.RowKit Go.Sort Go.Lib in
theorem Tryz.strconv_Itoa (n : Int) (h0 : -9223372036854775808 ≤ n) (h1 : n ≤ 9223372036854775807) (w : World) (htab : Lib.TabIs Tryz.prog w "internal/strconv.uint64pow10" .u64 Lib.pow10Tab) :
    Calls Tryz.prog 38 #[.int .i64 n] w fun e w' => e = .returned (.string ⟨(Lib.itoa n).toArray⟩) ∧ ∃ k os, w' = grow (w.drewN k) os := Any.strconv_Itoa Tryz.laysM171 n h0 h1 w htab
def Tryz.laysC172_ren : Go.Shelf.Ren := ⟨fun | 172 => 87 | 244 => 97 | 245 => 98 | 247 => 102 | 279 => 103 | 280 => 104 | 281 => 105 | 282 => 106 | 287 => 107 | 316 => 108 | 171 => 38 | 205 => 109 | 321 => 110 | 322 => 111 | 243 => 58 | 246 => 69 | 283 => 81 | 284 => 82 | 285 => 83 | 286 => 84 | 129 => 93 | 317 => 92 | 318 => 94 | 319 => 95 | 320 => 96 | 337 => 100 | 338 => 101 | n => n, fun | 9 => 9 | 3 => 3 | 75 => 81 | 76 => 82 | 4 => 4 | 5 => 5 | 167 => 122 | 37 => 76 | 0 => 0 | 85 => 123 | 2 => 2 | 168 => 125 | 53 => 39 | 175 => 134 | 46 => 101 | 210 => 138 | 127 => 97 | 145 => 143 | 143 => 141 | 21 => 21 | 171 => 106 | 173 => 109 | 212 => 117 | 51 => 111 | 20 => 20 | 213 => 118 | 232 => 132 | 233 => 133 | 80 => 84 | n => n, fun | 15 => 6 | 16 => 7 | 17 => 1 | 18 => 4 | 19 => 5 | n => n⟩
theorem Tryz.laysC172 : Go.Proofs.LaysC.n172 Tryz.prog Tryz.laysC172_ren := {
  mixed := by kernel_rfl
  f129 := Tryz.func93.trans (congrArg some (by kernel_rfl))
  f171 := Tryz.func38.trans (congrArg some (by kernel_rfl))
  f172 := Tryz.func87.trans (congrArg some (by kernel_rfl))
  f205 := Tryz.func109.trans (congrArg some (by kernel_rfl))
  f243 := Tryz.func58.trans (congrArg some (by kernel_rfl))
  f244 := Tryz.func97.trans (congrArg some (by kernel_rfl))
  f245 := Tryz.func98.trans (congrArg some (by kernel_rfl))
  f246 := Tryz.func69.trans (congrArg some (by kernel_rfl))
  f247 := Tryz.func102.trans (congrArg some (by kernel_rfl))
  f279 := Tryz.func103.trans (congrArg some (by kernel_rfl))
  f280 := Tryz.func104.trans (congrArg some (by kernel_rfl))
  f281 := Tryz.func105.trans (congrArg some (by kernel_rfl))
  f282 := Tryz.func106.trans (congrArg some (by kernel_rfl))
  f283 := Tryz.func81.trans (congrArg some (by kernel_rfl))
  f284 := Tryz.func82.trans (congrArg some (by kernel_rfl))
  f285 := Tryz.func83.trans (congrArg some (by kernel_rfl))
  f286 := Tryz.func84.trans (congrArg some (by kernel_rfl))
  f287 := Tryz.func107.trans (congrArg some (by kernel_rfl))
  f316 := Tryz.func108.trans (congrArg some (by kernel_rfl))
  f317 := Tryz.func92.trans (congrArg some (by kernel_rfl))
  f318 := Tryz.func94.trans (congrArg some (by kernel_rfl))
  f319 := Tryz.func95.trans (congrArg some (by kernel_rfl))
  f320 := Tryz.func96.trans (congrArg some (by kernel_rfl))
  f321 := Tryz.func110.trans (congrArg some (by kernel_rfl))
  f322 := Tryz.func111.trans (congrArg some (by kernel_rfl))
  f337 := Tryz.func100.trans (congrArg some (by kernel_rfl))
  f338 := Tryz.func101.trans (congrArg some (by kernel_rfl))
  t0 := Tryz.underlying0
  a0 := Tryz.isAgg0
  z0 := Tryz.sizeOf0
  v0 := Tryz.zeroValue0
  t2 := Tryz.underlying2
  a2 := Tryz.isAgg2
  z2 := Tryz.sizeOf2
  v2 := Tryz.zeroValue2
  t3 := Tryz.underlying3
  a3 := Tryz.isAgg3
  z3 := Tryz.sizeOf3
  v3 := Tryz.zeroValue3
  t4 := Tryz.underlying4
  a4 := Tryz.isAgg4
  z4 := Tryz.sizeOf4
  v4 := Tryz.zeroValue4
  t5 := Tryz.underlying5
  a5 := Tryz.isAgg5
  z5 := Tryz.sizeOf5
  v5 := Tryz.zeroValue5
  t9 := Tryz.underlying9
  a9 := Tryz.isAgg9
  z9 := Tryz.sizeOf9
  v9 := Tryz.zeroValue9
  t20 := Tryz.underlying20
  a20 := Tryz.isAgg20
  z20 := Tryz.sizeOf20
  v20 := Tryz.zeroValue20
  t21 := Tryz.underlying21
  a21 := Tryz.isAgg21
  z21 := Tryz.sizeOf21
  v21 := Tryz.zeroValue21
  t37 := Tryz.underlying76
  a37 := Tryz.isAgg76
  z37 := Tryz.sizeOf76
  v37 := Tryz.zeroValue76
  t46 := Tryz.underlying101
  a46 := Tryz.isAgg101
  z46 := Tryz.sizeOf101
  v46 := Tryz.zeroValue101
  t51 := Tryz.underlying111
  a51 := Tryz.isAgg111
  z51 := Tryz.sizeOf111
  v51 := Tryz.zeroValue111
  t53 := Tryz.underlying39
  a53 := Tryz.isAgg39
  z53 := Tryz.sizeOf39
  v53 := Tryz.zeroValue39
  t75 := Tryz.underlying81
  a75 := Tryz.isAgg81
  z75 := Tryz.sizeOf81
  v75 := Tryz.zeroValue81
  t76 := Tryz.underlying82
  a76 := Tryz.isAgg82
  z76 := Tryz.sizeOf82
  v76 := Tryz.zeroValue82
  t85 := Tryz.underlying123
  a85 := Tryz.isAgg123
  z85 := Tryz.sizeOf123
  v85 := Tryz.zeroValue123
  t127 := Tryz.underlying97
  a127 := Tryz.isAgg97
  z127 := Tryz.sizeOf97
  v127 := Tryz.zeroValue97
  t143 := Tryz.underlying141
  a143 := Tryz.isAgg141
  z143 := Tryz.sizeOf141
  v143 := Tryz.zeroValue141
  t145 := Tryz.underlying143
  a145 := Tryz.isAgg143
  z145 := Tryz.sizeOf143
  v145 := Tryz.zeroValue143
  t167 := Tryz.underlying122
  a167 := Tryz.isAgg122
  z167 := Tryz.sizeOf122
  v167 := Tryz.zeroValue122
  t168 := Tryz.underlying125
  a168 := Tryz.isAgg125
  z168 := Tryz.sizeOf125
  v168 := Tryz.zeroValue125
  t171 := Tryz.underlying106
  a171 := Tryz.isAgg106
  z171 := Tryz.sizeOf106
  v171 := Tryz.zeroValue106
  t173 := Tryz.underlying109
  a173 := Tryz.isAgg109
  z173 := Tryz.sizeOf109
  v173 := Tryz.zeroValue109
  t175 := Tryz.underlying134
  a175 := Tryz.isAgg134
  z175 := Tryz.sizeOf134
  v175 := Tryz.zeroValue134
  t210 := Tryz.underlying138
  a210 := Tryz.isAgg138
  z210 := Tryz.sizeOf138
  v210 := Tryz.zeroValue138
  t212 := Tryz.underlying117
  a212 := Tryz.isAgg117
  z212 := Tryz.sizeOf117
  v212 := Tryz.zeroValue117
  t213 := Tryz.underlying118
  a213 := Tryz.isAgg118
  z213 := Tryz.sizeOf118
  t232 := Tryz.underlying132
  a232 := Tryz.isAgg132
  z232 := Tryz.sizeOf132
  v232 := Tryz.zeroValue132
  t233 := Tryz.underlying133
  a233 := Tryz.isAgg133
  z233 := Tryz.sizeOf133
  v233 := Tryz.zeroValue133
  g15 := by kernel_rfl
  g16 := by kernel_rfl
  g17 := by kernel_rfl
  g18 := by kernel_rfl
  g19 := by kernel_rfl
  t80 := Tryz.underlying84
  a80 := Tryz.isAgg84
  z80 := Tryz.sizeOf84
  v80 := Tryz.zeroValue84
  i0 := by kernel_rfl
  i2 := by kernel_rfl
  i3 := by kernel_rfl
  i4 := by kernel_rfl
  i5 := by kernel_rfl
  i9 := by kernel_rfl
  i20 := by kernel_rfl
  i21 := by kernel_rfl
  i37 := by kernel_rfl
  i46 := by kernel_rfl
  i51 := by kernel_rfl
  i53 := by kernel_rfl
  i75 := by kernel_rfl
  i76 := by kernel_rfl
  i80 := by kernel_rfl
  i85 := by kernel_rfl
  i127 := by kernel_rfl
  i143 := by kernel_rfl
  i145 := by kernel_rfl
  i167 := by kernel_rfl
  i168 := by kernel_rfl
  i171 := by kernel_rfl
  i173 := by kernel_rfl
  i175 := by kernel_rfl
  i210 := by kernel_rfl
  i212 := by kernel_rfl
  i232 := by kernel_rfl
  i233 := by kernel_rfl
  m15 := by kernel_rfl
  m16 := by kernel_rfl
  m17 := by kernel_rfl
  m18 := by kernel_rfl
  m19 := by kernel_rfl
  c0 := by kernel_rfl
  c2 := by kernel_rfl
  c3 := by kernel_rfl
  c4 := by kernel_rfl
  c5 := by kernel_rfl
  c9 := by kernel_rfl
  c20 := by kernel_rfl
  c21 := by kernel_rfl
  c37 := by kernel_rfl
  c46 := by kernel_rfl
  c51 := by kernel_rfl
  c53 := by kernel_rfl
  c75 := by kernel_rfl
  c76 := by kernel_rfl
  c80 := by kernel_rfl
  c85 := by kernel_rfl
  c127 := by kernel_rfl
  c143 := by kernel_rfl
  c145 := by kernel_rfl
  c167 := by kernel_rfl
  c168 := by kernel_rfl
  c171 := by kernel_rfl
  c173 := by kernel_rfl
  c175 := by kernel_rfl
  c210 := by kernel_rfl
  c212 := by kernel_rfl
  c213 := by kernel_rfl
  c232 := by kernel_rfl
  c233 := by kernel_rfl }
open Go.RowKit in
theorem Tryz.strconv_Atoi_ok (s : ByteArray) (hmax : s.size ≤ 9223372036854775806) (v : Int) (h : Lib.atoiAll s.data.toList = .ok v) (w : World) :
    Calls Tryz.prog 87 #[.string s] w fun e w' => e = .returned (.tuple #[.int .i64 v, .nilIface]) ∧ (w' = w ∨ ∃ t, w' = Lib.bytesWorld w 5 t) := Any.strconv_Atoi_ok Tryz.laysC172 s hmax v h w
open Go.RowKit in
theorem Tryz.strconv_Atoi_syntax_var (s : ByteArray) (hlim : s.size ≤ 281474976710656) (h : Lib.atoiAll s.data.toList = Lib.atoiAll []) (tp : TypeId) (p : Value) (w : World) (hvar : w.var? Tryz.prog "strconv.ErrSyntax" = some #[.iface tp p]) :
    Calls Tryz.prog 87 #[.string s] w fun e w' => ∃ N, e = .returned (.tuple #[.int .i64 0, .iface 125 (.pointer (some ⟨N, 0, none⟩))]) ∧ w.heap.size ≤ N ∧ w'.heap[N]? = some (.cells #[.string ⟨#[65, 116, 111, 105]⟩, .string s, .iface tp p] 138 (0, 0)) ∧ Below w.heap.size w w' := Any.strconv_Atoi_syntax_var Tryz.laysC172 s hlim h tp p w hvar
open Go.RowKit in
theorem Tryz.strconv_Atoi_range_var (s : ByteArray) (hlim : s.size ≤ 281474976710656) (h : Lib.atoiAll s.data.toList = .range) (tp : TypeId) (p : Value) (w : World) (hvar : w.var? Tryz.prog "strconv.ErrRange" = some #[.iface tp p]) :
    Calls Tryz.prog 87 #[.string s] w fun e w' => ∃ N, e = .returned (.tuple #[.int .i64 (Lib.atoiSat s.data.toList), .iface 125 (.pointer (some ⟨N, 0, none⟩))]) ∧ w.heap.size ≤ N ∧ w'.heap[N]? = some (.cells #[.string ⟨#[65, 116, 111, 105]⟩, .string s, .iface tp p] 138 (0, 0)) ∧ Below w.heap.size w w' := Any.strconv_Atoi_range_var Tryz.laysC172 s hlim h tp p w hvar
def Tryz.lays145_ren : Go.Shelf.Ren := ⟨fun | 145 => 29 | 220 => 43 | 219 => 59 | 217 => 70 | 225 => 71 | 224 => 72 | 267 => 73 | 266 => 85 | 314 => 86 | n => n, fun | 9 => 9 | 4 => 4 | 59 => 52 | 3 => 3 | 5 => 5 | 46 => 101 | 146 => 112 | 51 => 111 | n => n, fun | 1 => 0 | n => n⟩
theorem Tryz.lays145 : Go.Proofs.Lays.n145 Tryz.prog Tryz.lays145_ren := {
  mixed := by kernel_rfl
  f145 := Tryz.func29.trans (congrArg some (by kernel_rfl))
  f217 := Tryz.func70.trans (congrArg some (by kernel_rfl))
  f219 := Tryz.func59.trans (congrArg some (by kernel_rfl))
  f220 := Tryz.func43.trans (congrArg some (by kernel_rfl))
  f224 := Tryz.func72.trans (congrArg some (by kernel_rfl))
  f225 := Tryz.func71.trans (congrArg some (by kernel_rfl))
  f266 := Tryz.func85.trans (congrArg some (by kernel_rfl))
  f267 := Tryz.func73.trans (congrArg some (by kernel_rfl))
  f314 := Tryz.func86.trans (congrArg some (by kernel_rfl))
  t3 := Tryz.underlying3
  a3 := Tryz.isAgg3
  z3 := Tryz.sizeOf3
  v3 := Tryz.zeroValue3
  t4 := Tryz.underlying4
  a4 := Tryz.isAgg4
  z4 := Tryz.sizeOf4
  v4 := Tryz.zeroValue4
  t5 := Tryz.underlying5
  a5 := Tryz.isAgg5
  z5 := Tryz.sizeOf5
  v5 := Tryz.zeroValue5
  t9 := Tryz.underlying9
  a9 := Tryz.isAgg9
  z9 := Tryz.sizeOf9
  v9 := Tryz.zeroValue9
  t46 := Tryz.underlying101
  a46 := Tryz.isAgg101
  z46 := Tryz.sizeOf101
  v46 := Tryz.zeroValue101
  t51 := Tryz.underlying111
  a51 := Tryz.isAgg111
  z51 := Tryz.sizeOf111
  v51 := Tryz.zeroValue111
  t59 := Tryz.underlying52
  a59 := Tryz.isAgg52
  z59 := Tryz.sizeOf52
  v59 := Tryz.zeroValue52
  t146 := Tryz.underlying112
  a146 := Tryz.isAgg112
  z146 := Tryz.sizeOf112
  v146 := Tryz.zeroValue112
  g1 := by kernel_rfl }
open Go.RowKit Go.Lib in
theorem Tryz.strings_Cut (s sep : ByteArray) (m : Int) (w : World) (hs : s.size < 4294967281) (hm : w.cell? ⟨0, 0, none⟩ = some (.int .i64 m)) :
    Calls Tryz.prog 29 #[.string s, .string sep] w fun e w' => e = .returned (.tuple #[.string ⟨(Lib.cut s.data.toList sep.data.toList).1.toArray⟩, .string ⟨(Lib.cut s.data.toList sep.data.toList).2.1.toArray⟩, .bool (Lib.cut s.data.toList sep.data.toList).2.2]) ∧ ∃ n, w' = w.drewN n := Any.strings_Cut Tryz.lays145 s sep m w hs hm
def Tryz.lays146_ren : Go.Shelf.Ren := ⟨fun | 146 => 47 | 221 => 62 | 268 => 76 | 138 => 77 | 143 => 78 | 195 => 89 | 197 => 90 | 218 => 91 | 219 => 59 | 260 => 99 | 217 => 70 | 225 => 71 | 224 => 72 | 267 => 73 | 266 => 85 | 314 => 86 | n => n, fun | 9 => 9 | 31 => 22 | 3 => 3 | 4 => 4 | 0 => 0 | 105 => 114 | 21 => 21 | 5 => 5 | 46 => 101 | 119 => 128 | 139 => 131 | 138 => 130 | 146 => 112 | 51 => 111 | n => n, fun | 1 => 0 | 3 => 2 | 4 => 3 | n => n⟩
theorem Tryz.lays146 : Go.Proofs.Lays.n146 Tryz.prog Tryz.lays146_ren := {
  mixed := by kernel_rfl
  f138 := Tryz.func77.trans (congrArg some (by kernel_rfl))
  f143 := Tryz.func78.trans (congrArg some (by kernel_rfl))
  f146 := Tryz.func47.trans (congrArg some (by kernel_rfl))
  f195 := Tryz.func89.trans (congrArg some (by kernel_rfl))
  f197 := Tryz.func90.trans (congrArg some (by kernel_rfl))
  f217 := Tryz.func70.trans (congrArg some (by kernel_rfl))
  f218 := Tryz.func91.trans (congrArg some (by kernel_rfl))
  f219 := Tryz.func59.trans (congrArg some (by kernel_rfl))
  f221 := Tryz.func62.trans (congrArg some (by kernel_rfl))
  f224 := Tryz.func72.trans (congrArg some (by kernel_rfl))
  f225 := Tryz.func71.trans (congrArg some (by kernel_rfl))
  f260 := Tryz.func99.trans (congrArg some (by kernel_rfl))
  f266 := Tryz.func85.trans (congrArg some (by kernel_rfl))
  f267 := Tryz.func73.trans (congrArg some (by kernel_rfl))
  f268 := Tryz.func76.trans (congrArg some (by kernel_rfl))
  f314 := Tryz.func86.trans (congrArg some (by kernel_rfl))
  t0 := Tryz.underlying0
  a0 := Tryz.isAgg0
  z0 := Tryz.sizeOf0
  v0 := Tryz.zeroValue0
  t3 := Tryz.underlying3
  a3 := Tryz.isAgg3
  z3 := Tryz.sizeOf3
  v3 := Tryz.zeroValue3
  t4 := Tryz.underlying4
  a4 := Tryz.isAgg4
  z4 := Tryz.sizeOf4
  v4 := Tryz.zeroValue4
  t5 := Tryz.underlying5
  a5 := Tryz.isAgg5
  z5 := Tryz.sizeOf5
  v5 := Tryz.zeroValue5
  t9 := Tryz.underlying9
  a9 := Tryz.isAgg9
  z9 := Tryz.sizeOf9
  v9 := Tryz.zeroValue9
  t21 := Tryz.underlying21
  a21 := Tryz.isAgg21
  z21 := Tryz.sizeOf21
  v21 := Tryz.zeroValue21
  t31 := Tryz.underlying22
  a31 := Tryz.isAgg22
  z31 := Tryz.sizeOf22
  v31 := Tryz.zeroValue22
  t46 := Tryz.underlying101
  a46 := Tryz.isAgg101
  z46 := Tryz.sizeOf101
  v46 := Tryz.zeroValue101
  t51 := Tryz.underlying111
  a51 := Tryz.isAgg111
  z51 := Tryz.sizeOf111
  v51 := Tryz.zeroValue111
  t105 := Tryz.underlying114
  a105 := Tryz.isAgg114
  z105 := Tryz.sizeOf114
  v105 := Tryz.zeroValue114
  t119 := Tryz.underlying128
  a119 := Tryz.isAgg128
  z119 := Tryz.sizeOf128
  t138 := Tryz.underlying130
  a138 := Tryz.isAgg130
  z138 := Tryz.sizeOf130
  v138 := Tryz.zeroValue130
  t139 := Tryz.underlying131
  a139 := Tryz.isAgg131
  z139 := Tryz.sizeOf131
  v139 := Tryz.zeroValue131
  t146 := Tryz.underlying112
  a146 := Tryz.isAgg112
  z146 := Tryz.sizeOf112
  v146 := Tryz.zeroValue112
  g1 := by kernel_rfl
  g3 := by kernel_rfl
  g4 := by kernel_rfl }
open Go.RowKit Go.Lib in
theorem Tryz.strings_Split (s sep : ByteArray) (m : Int) (w : World) (hs : s.size < 4294967281) (hm : w.cell? ⟨0, 0, none⟩ = some (.int .i64 m)) (h1 : 1 ≤ sep.size) :
    Calls Tryz.prog 47 #[.string s, .string sep] w fun e w' =>
      e = .returned (.slice (some ⟨w.heap.size, 0, none⟩) (Lib.countB s sep + 1) (Lib.countB s sep + 1)) ∧ w' = w.alloc (.cells ((Lib.splitB sep 0 (Lib.countB s sep) s).map Value.string).toArray 9) := Any.strings_Split Tryz.lays146 (by kernel_rfl) s sep m w hs hm h1
end Go.Proofs
namespace Go.Proofs.YtmppkcdphgelcaaGreatDoor
open Go.RowKit
structure Laid (w : World) : Prop where
  maxlen : ∃ m : Int, w.cell? ⟨0, 0, none⟩ = some (.int .i64 m)
  tab : Lib.TabIs Tryz.prog w "internal/strconv.uint64pow10" .u64 Lib.pow10Tab
  syn : ∃ tp p, w.var? Tryz.prog "strconv.ErrSyntax" = some #[.iface tp p]
  rng : ∃ tp p, w.var? Tryz.prog "strconv.ErrRange" = some #[.iface tp p]
  size : 9 ≤ w.heap.size
theorem Laid.belowB {w w' : World} {B : Nat} (h : Laid w) (h9 : 9 ≤ B) (hb : Below B w w') : Laid w' where
  maxlen := by
    obtain ⟨m, hm⟩ := h.maxlen
    refine ⟨m, ?_⟩
    rw [← hm]
    exact hb.cell (p := ⟨0, 0, none⟩) (by show 0 < _; omega)
  tab := var?_below (g := 1) hb (by kernel_rfl) (by omega) h.tab
  syn := by
    obtain ⟨tp, p, hv⟩ := h.syn
    exact ⟨tp, p, var?_below (g := 6) hb (by kernel_rfl) (by omega) hv⟩
  rng := by
    obtain ⟨tp, p, hv⟩ := h.rng
    exact ⟨tp, p, var?_below (g := 7) hb (by kernel_rfl) (by omega) hv⟩
  size := Nat.le_trans h.size hb.size
theorem Laid.below {w w' : World} (h : Laid w) (hb : Below w.heap.size w w') : Laid w' := h.belowB h.size hb
end Go.Proofs.YtmppkcdphgelcaaGreatDoor
namespace Go.Proofs.YtmppkcdphgelcaaGreatDoor
open Go Go.RowKit Go.Lib
theorem row_own : ownKnob Tryz.prog.godebug = none := by kernel_rfl
theorem row_laidOut : laidOutB Tryz.prog = true := by kernel_rfl
section
variable {H : Type} {enc : TypeId × Value → H}
theorem lift_both {a : Assume} {C : Checked} {os : Os} {f : FuncId} {fn : Func} {s : ChangeSpec} {conds : List PathCond} {apart fresh handsOn again : Bool} {X : World → Array Value → Prop}
    (hX : ∀ (w w' : World) (args : Array Value), w.heap = w'.heap → X w args → X w' args)
    (own : ownKnob C.prog.godebug = none) (started : os.Started) (noInit : C.prog.inits.idxOf? f = none) (hfn : C.prog.funcs[f]? = some fn)
    (witness : ∃ (w : World) (tape : Tape) (i : Input), w.os = os ∧ (w.forCall tape i).Shaped C.prog ∧ i.vars = [] ∧ Input.okWide C.prog (w.forCall tape i) .any w.heap.size f i ∧
      ((s.pre enc C.prog fn conds apart (w.forCall tape i).memory i.args ∧ X (w.forCall tape i).memory i.args) ∧ sizedMet enc C.prog fn (OpenSpec.ofChange s) apart (w.forCall tape i).memory i.args) ∧ a.holds C.prog (lone (Frame.enter C.prog f i.args .normal) [] (w.forCall tape i)))
    (contract : ∀ (W : World) (base : Nat) (args : Array Value) (ds gs : List (DataW H)) (before : List MemPlace),
      (∀ (j : Nat) t v, fn.params[j]? = some t → args[j]? = some v → Value.okWide C.prog W .any base t v) →
      DataW.Whole enc C.prog fn.params.toList s.vars apart W args.toList ds gs before →
      (DataW.weightsEach C.prog (fn.params.toList ++ s.plain.varTypes C.prog) (ds ++ gs)).all (· ≤ reachBytes) = true → X W args → W.ShapedOpen C.prog →
      Calls C.prog f args W fun e W' => ∃ v, e = .returned v ∧ s.post enc C.prog fn apart fresh handsOn again W args v W') :
    ReturnsInHanded a C os f .any (fun w args => (s.pre enc C.prog fn conds apart w args ∧ X w args) ∧ sizedMet enc C.prog fn (OpenSpec.ofChange s) apart w args) (s.post enc C.prog fn apart fresh handsOn again) := by
  refine returnsInHanded_of_calls own started noInit witness ?_
  intro w tape i _ hsh _ hok hpre _
  obtain ⟨_, _, _, fn', hfn', _, _, _, _, hval⟩ := hok
  have e : fn' = fn := Option.some.inj (hfn'.symm.trans hfn)
  subst e
  obtain ⟨⟨⟨ds, gs, before, hw, _⟩, hx⟩, hz⟩ := hpre
  have hw' := DataW.Whole.of_heap (w' := w.forCall tape i) (by rfl) hw
  refine (contract (w.forCall tape i) w.heap.size i.args ds gs before hval hw' (hz.weights hw) (hX _ _ _ (by rfl) hx) hsh).mono fun e W' ⟨v, he, hp⟩ => ?_
  subst he
  exact ChangeSpec.post_blind hp
end
theorem err_reads {W : World} {n nm : String} {d : DataW Unit} {g : Nat} (hg : Tryz.prog.globalNamed n = some g) (ht : (Tryz.prog.globals[g]?).map (·.type) = some 81) (h : VarReads Tryz.prog W n (.iface nm d)) : ∃ tp p, W.var? Tryz.prog n = some #[.iface tp p] := by
  obtain ⟨g', t, cs, fuel, p, h1, h2, h3, h4⟩ := h
  obtain rfl := Option.some.inj (hg.symm.trans h1)
  obtain rfl := Option.some.inj (ht.symm.trans h2)
  obtain ⟨_, u, v, e, _, _⟩ := iface_of_trod Tryz.underlying81 h4
  refine ⟨u, v, ?_⟩
  rw [h3]
  have : cs = #[.iface u v] := by
    cases cs
    simp at e
    rw [e]
  rw [this]
theorem tab_reads {W : World} (h : VarReads Tryz.prog W "internal/strconv.uint64pow10" (tabData .u64 pow10Tab)) : TabIs Tryz.prog W "internal/strconv.uint64pow10" .u64 pow10Tab := by
  obtain ⟨g', t, cs, fuel, p, h1, h2, h3, h4⟩ := h
  obtain rfl := Option.some.inj ((show Tryz.prog.globalNamed "internal/strconv.uint64pow10" = some 1 by kernel_rfl).symm.trans h1)
  obtain rfl := Option.some.inj ((show (Tryz.prog.globals[1]?).map (·.type) = some 117 by kernel_rfl).symm.trans h2)
  unfold TabIs
  rw [h3, ← cells_of_tab Tryz.underlying117 Tryz.underlying39 (by kernel_rfl) (by kernel_rfl) h4]
theorem laid_of {W : World} {l : List (String × DataW Unit)} (h : laidMet Tryz.prog l W) (hsh : W.ShapedOpen Tryz.prog)
    (m1 : ("internal/strconv.uint64pow10", (tabData .u64 pow10Tab : DataW Unit)) ∈ l) (m2 : ("strconv.ErrSyntax", (Rows.laid_strconv_ErrSyntax : DataW Unit)) ∈ l) (m3 : ("strconv.ErrRange", (Rows.laid_strconv_ErrRange : DataW Unit)) ∈ l) : Laid W where
  maxlen := by
    obtain ⟨⟨zero, t⟩, h0⟩ : ∃ x, ((begin Tryz.prog (fun _ _ => 0) default).world.heap[0]?).bind Obj.row? = some x := ⟨(#[.int .i64 0], 3), by kernel_rfl⟩
    have e : (zero, t) = (#[Value.int .i64 0], 3) := Option.some.inj (h0.symm.trans (by kernel_rfl))
    cases e
    exact cell_of_shapedOpen_int hsh (by decide +kernel) h0 rfl (by kernel_rfl) (by kernel_rfl) Tryz.underlying3
  tab := tab_reads (laidMet.reads h m1)
  syn := err_reads (g := 6) (by kernel_rfl) (by kernel_rfl) (laidMet.reads h m2)
  rng := err_reads (g := 7) (by kernel_rfl) (by kernel_rfl) (laidMet.reads h m3)
  size := by
    obtain ⟨o, _, ho, _⟩ := hsh.2 9 (by decide +kernel) (by decide +kernel)
    have := (Array.getElem?_eq_some_iff.1 ho).1
    omega
end Go.Proofs.YtmppkcdphgelcaaGreatDoor
namespace Go.Proofs.YtmppkcdphgelcaaGreatDoor
open Go
theorem bytesLess_leq : ∀ a b : List UInt8, (Op.bytesLess a b || a == b) = !(Op.bytesLess b a)
  | [], [] => by rfl
  | [], b :: bs => by simp [Op.bytesLess]
  | a :: as_, [] => by simp [Op.bytesLess]
  | a :: as_, b :: bs => by
    have ih := bytesLess_leq as_ bs
    simp only [Op.bytesLess, List.cons_beq_cons]
    rcases Nat.lt_trichotomy a.toNat b.toNat with h | h | h
    · have h1 : a < b := UInt8.lt_iff_toNat_lt.mpr h
      have h2 : ¬ b < a := fun h => by have := UInt8.lt_iff_toNat_lt.mp h; omega
      have h3 : ¬ b = a := fun h => by subst h; omega
      simp [h1, h2, h3]
    · have h1 : a = b := UInt8.toNat_inj.mp h
      subst h1
      have h2 : ¬ a < a := fun h => by have := UInt8.lt_iff_toNat_lt.mp h; omega
      simpa [h2] using ih
    · have h1 : b < a := UInt8.lt_iff_toNat_lt.mpr h
      have h2 : ¬ a < b := fun h => by have := UInt8.lt_iff_toNat_lt.mp h; omega
      have h3 : ¬ a = b := fun h => by subst h; omega
      simp [h1, h2, h3]
@[go_sem] theorem binOp_string_leq' (t : TypeId) (a b : ByteArray) : binOp .leq t (.string a) (.string b) = pure (.bool (!(Op.bytesLess b.toList a.toList))) := by
  rw [← bytesLess_leq]; simp [binOp, Op.stringOp]
@[go_sem] theorem binOp_string_gtr' (t : TypeId) (a b : ByteArray) : binOp .gtr t (.string a) (.string b) = pure (.bool (Op.bytesLess b.toList a.toList)) := by
  rw [← Bool.not_not (Op.bytesLess b.toList a.toList), ← bytesLess_leq]; simp [binOp, Op.stringOp]
end Go.Proofs.YtmppkcdphgelcaaGreatDoor
namespace Go.Proofs.YtmppkcdphgelcaaGreatDoor.PConf
open Go.RowKit Go.Proofs.YtmppkcdphgelcaaGreatDoor.W.PrintWords Go.Proofs.YtmppkcdphgelcaaGreatDoor.W.PrintLast Go.Proofs.YtmppkcdphgelcaaGreatDoor.W.PrintMore
attribute [local go_sem] max2_int min2_int max_two min_two max_three min_three max_four min_four   -- for this text's walks alone
set_option linter.unusedVariables false
set_option linter.unusedSimpArgs false
def errW : Option Int → Value
  | none => .nilIface
  | some c => .iface 0 (.int .i64 c)
theorem errW_none : errW none = .nilIface := rfl
theorem errW_some (c : Int) : errW (some c) = .iface 0 (.int .i64 c) := rfl
theorem info3 : (Tryz.prog.info? 3).map (fun i => (i.zero, i.size, i.bytes)) = some (some (.int .i64 0), 1, 8) := by kernel_rfl
theorem info9 : (Tryz.prog.info? 9).map (fun i => (i.zero, i.size, i.bytes)) = some (some (.string ⟨#[]⟩), 1, 16) := by kernel_rfl
theorem info74 : (Tryz.prog.info? 74).map (fun i => (i.zero, i.size, i.bytes)) = some (some (.agg #[(.int .i64 0), (.int .i64 0), (.bool false)]), 3, 24) := by kernel_rfl
structure S41 where
  f0 : Int
  f1 : Int
  f2 : Int
def z41 : S41 := ⟨(0 : Int), (0 : Int), (0 : Int)⟩
def k41 : Kd S41 := Kd.iso (Kd.pair (Kd.int .i64) (Kd.pair (Kd.int .i64) (Kd.int .u64))) (fun x : S41 => (x.f0, x.f1, x.f2))
theorem k41_open {w : World} {x : S41} {cs : List Value} (h : k41.K w x cs) : cs = [.int .i64 x.f0, .int .i64 x.f1, .int .u64 x.f2] := by
  obtain ⟨_, _, rfl, rfl, ⟨_, _, rfl, rfl, rfl⟩⟩ := h
  exact rfl
theorem k41_mk (w : World) (x : S41)  : k41.K w x [.int .i64 x.f0, .int .i64 x.f1, .int .u64 x.f2] := ⟨[.int .i64 x.f0], [.int .i64 x.f1, .int .u64 x.f2], rfl, rfl, ⟨[.int .i64 x.f1], [.int .u64 x.f2], rfl, rfl, rfl⟩⟩
theorem k41_mkM (w : World) (base : Nat) (ok : Nat → Prop) (x : S41)  : k41.M w base ok x [.int .i64 x.f0, .int .i64 x.f1, .int .u64 x.f2] := ⟨[.int .i64 x.f0], [.int .i64 x.f1, .int .u64 x.f2], rfl, rfl, ⟨[.int .i64 x.f1], [.int .u64 x.f2], rfl, rfl, rfl⟩⟩
def rd_T41 (xs : List S41) (i : Int) : S41 := xs.getD i.toNat z41
theorem at_T41 {w : World} {A : Option Addr} {n : Nat} {xs : List S41} (h : Kd.C k41 w A n xs) (i : Int) (h0 : 0 ≤ i) (h1 : i < n) : ∃ ad , A = some ad ∧ w.cell? (ad.add (i.toNat * 3)) = some (.int .i64 (rd_T41 xs i).f0) ∧ w.cell? ⟨(ad.add (i.toNat * 3)).block, (ad.add (i.toNat * 3)).off + 1, none⟩ = some (.int .i64 (rd_T41 xs i).f1) ∧ w.cell? ⟨(ad.add (i.toNat * 3)).block, (ad.add (i.toNat * 3)).off + 2, none⟩ = some (.int .u64 (rd_T41 xs i).f2) := by
  obtain ⟨ad, c, e, _, hK, hc0⟩ := Kd.C_get h z41 i h0 h1
  have hc : ∀ j u, c[j]? = some u → w.cell? (ad.add (i.toNat * 3 + j)) = some u := hc0
  obtain rfl := k41_open hK
  exact ⟨ad, e, hc 0 _ rfl, by rw [← add_field _ _ 1 (by omega)]; exact hc 1 _ rfl, by rw [← add_field _ _ 2 (by omega)]; exact hc 2 _ rfl⟩
structure S74 where
  f0 : Int
  f1 : Int
  f2 : Bool
def z74 : S74 := ⟨(0 : Int), (0 : Int), false⟩
def k74 : Kd S74 := Kd.iso (Kd.pair (Kd.int .i64) (Kd.pair (Kd.int .i64) Kd.bool)) (fun x : S74 => (x.f0, x.f1, x.f2))
theorem k74_open {w : World} {x : S74} {cs : List Value} (h : k74.K w x cs) : cs = [.int .i64 x.f0, .int .i64 x.f1, .bool x.f2] := by
  obtain ⟨_, _, rfl, rfl, ⟨_, _, rfl, rfl, rfl⟩⟩ := h
  exact rfl
theorem k74_mkM (w : World) (base : Nat) (ok : Nat → Prop) (x : S74)  : k74.M w base ok x [.int .i64 x.f0, .int .i64 x.f1, .bool x.f2] := ⟨[.int .i64 x.f0], [.int .i64 x.f1, .bool x.f2], rfl, rfl, ⟨[.int .i64 x.f1], [.bool x.f2], rfl, rfl, rfl⟩⟩
def rd_T74 (xs : List S74) (i : Int) : S74 := xs.getD i.toNat z74
theorem at_T74 {w : World} {A : Option Addr} {n : Nat} {xs : List S74} (h : Kd.C k74 w A n xs) (i : Int) (h0 : 0 ≤ i) (h1 : i < n) : ∃ ad , A = some ad ∧ w.cell? (ad.add (i.toNat * 3)) = some (.int .i64 (rd_T74 xs i).f0) ∧ w.cell? ⟨(ad.add (i.toNat * 3)).block, (ad.add (i.toNat * 3)).off + 1, none⟩ = some (.int .i64 (rd_T74 xs i).f1) ∧ w.cell? ⟨(ad.add (i.toNat * 3)).block, (ad.add (i.toNat * 3)).off + 2, none⟩ = some (.bool (rd_T74 xs i).f2) := by
  obtain ⟨ad, c, e, _, hK, hc0⟩ := Kd.C_get h z74 i h0 h1
  have hc : ∀ j u, c[j]? = some u → w.cell? (ad.add (i.toNat * 3 + j)) = some u := hc0
  obtain rfl := k74_open hK
  exact ⟨ad, e, hc 0 _ rfl, by rw [← add_field _ _ 1 (by omega)]; exact hc 1 _ rfl, by rw [← add_field _ _ 2 (by omega)]; exact hc 2 _ rfl⟩
end Go.Proofs.YtmppkcdphgelcaaGreatDoor.PConf
namespace Go.Proofs.YtmppkcdphgelcaaGreatDoor.PConf
open Go.RowKit Go.Proofs.YtmppkcdphgelcaaGreatDoor.W.PrintWords Go.Proofs.YtmppkcdphgelcaaGreatDoor.W.PrintLast Go.Proofs.YtmppkcdphgelcaaGreatDoor.W.PrintMore
attribute [local go_sem] max2_int min2_int max_two min_two max_three min_three max_four min_four   -- for this text's walks alone
set_option linter.unusedVariables false
set_option linter.unusedSimpArgs false
theorem eqA41 (d : Nat) (w : World) (x0 y0 : Int) (x1 y1 : Int) (x2 y2 : Int) :
  (Op.equalIn (d + 2) 41 (.agg #[.int .i64 x0, .int .i64 x1, .int .u64 x2]) (.agg #[.int .i64 y0, .int .i64 y1, .int .u64 y2])).run Tryz.prog w = .ok (x0 == y0 && (x1 == y1 && (x2 == y2))) w := by
 refine eqA_of Tryz.underlying41 (by kernel_rfl) ?_
 refine eqf_cons (by rfl) (by go_simp; rfl) (by go_simp; rfl) (by go_simp) ?_
 refine eqf_cons (by rfl) (by go_simp; rfl) (by go_simp; rfl) (by go_simp) ?_
 exact eqf_last (by rfl) (by go_simp; rfl) (by go_simp; rfl) (by go_simp)
end Go.Proofs.YtmppkcdphgelcaaGreatDoor.PConf
namespace Go.Proofs.YtmppkcdphgelcaaGreatDoor.PConf
open Go.RowKit Go.Proofs.YtmppkcdphgelcaaGreatDoor.W.PrintWords Go.Proofs.YtmppkcdphgelcaaGreatDoor.W.PrintLast Go.Proofs.YtmppkcdphgelcaaGreatDoor.W.PrintMore
attribute [local go_sem] max2_int min2_int max_two min_two max_three min_three max_four min_four   -- for this text's walks alone
set_option linter.unusedVariables false
set_option linter.unusedSimpArgs false
def conf_in.f (a0 : Int) (a1 : Int) (a2 : Int) : Option (Bool) := if a0 ≥ a1 then (some (decide (a0 ≤ a2))) else (some false)
set_option maxHeartbeats 8000000 in
set_option maxRecDepth 100000 in
theorem conf_in.calls (a0 : Int) (a1 : Int) (a2 : Int) (r : Bool) (w : World) (h : conf_in.f a0 a1 a2 = some r) :
  Calls Tryz.prog 16 #[.int .i64 a0, .int .i64 a1, .int .i64 a2] w fun e w' => e = .returned (.bool r) ∧ Drawn0 w w' := by
 have H : (if a0 ≥ a1 then (some (decide (a0 ≤ a2))) else (some false)) = some r := h
 clear h
 by_cases c4 : a0 ≥ a1
 ·
  rw [if_pos c4] at H
  have c4b0 : decide (a1 ≤ a0) = true := decide_eq_true c4
  clear c4
  obtain rfl := Option.some.inj H
  go_enter Tryz.func16, Tryz.ntmps16
  go_wp2
  go_ret
  exact ⟨by first | rfl | (simp; done) | (simp [*]; done), by repeat (first | exact Drawn0.refl _ | apply Drawn0.step)⟩
 ·
  rw [if_neg c4] at H
  have c4b0 : decide (a1 ≤ a0) = false := decide_eq_false c4
  clear c4
  obtain rfl := Option.some.inj H
  go_enter Tryz.func16, Tryz.ntmps16
  go_wp2
  go_ret
  exact ⟨by first | rfl | (simp; done) | (simp [*]; done), by repeat (first | exact Drawn0.refl _ | apply Drawn0.step)⟩
end Go.Proofs.YtmppkcdphgelcaaGreatDoor.PConf
namespace Go.Proofs.YtmppkcdphgelcaaGreatDoor.PConf
open Go.RowKit Go.Proofs.YtmppkcdphgelcaaGreatDoor.W.PrintWords Go.Proofs.YtmppkcdphgelcaaGreatDoor.W.PrintLast Go.Proofs.YtmppkcdphgelcaaGreatDoor.W.PrintMore
attribute [local go_sem] max2_int min2_int max_two min_two max_three min_three max_four min_four   -- for this text's walks alone
set_option linter.unusedVariables false
set_option linter.unusedSimpArgs false
def glyph_Letter.f (a0 : Int) : Option (Bool) := if a0 ≥ 97 then (if a0 ≤ 122 then (some true) else (if a0 ≥ 48 then (if a0 ≤ 57 then (some true) else (if a0 ≥ 161 then (if a0 ≤ 1114111 then (if a0 = 65533 then (some false) else (if a0 < 55296 then (some true) else (some (decide (a0 > 57343))))) else (some false)) else (some false))) else (if a0 ≥ 161 then (if a0 ≤ 1114111 then (if a0 = 65533 then (some false) else (if a0 < 55296 then (some true) else (some (decide (a0 > 57343))))) else (some false)) else (some false)))) else (if a0 ≥ 48 then (if a0 ≤ 57 then (some true) else (if a0 ≥ 161 then (if a0 ≤ 1114111 then (if a0 = 65533 then (some false) else (if a0 < 55296 then (some true) else (some (decide (a0 > 57343))))) else (some false)) else (some false))) else (if a0 ≥ 161 then (if a0 ≤ 1114111 then (if a0 = 65533 then (some false) else (if a0 < 55296 then (some true) else (some (decide (a0 > 57343))))) else (some false)) else (some false)))
set_option maxHeartbeats 8000000 in
set_option maxRecDepth 100000 in
theorem glyph_Letter.calls (a0 : Int) (r : Bool) (w : World) (h : glyph_Letter.f a0 = some r) :
  Calls Tryz.prog 52 #[.int .i32 a0] w fun e w' => e = .returned (.bool r) ∧ Drawn0 w w' := by
 have H : (if a0 ≥ 97 then (if a0 ≤ 122 then (some true) else (if a0 ≥ 48 then (if a0 ≤ 57 then (some true) else (if a0 ≥ 161 then (if a0 ≤ 1114111 then (if a0 = 65533 then (some false) else (if a0 < 55296 then (some true) else (some (decide (a0 > 57343))))) else (some false)) else (some false))) else (if a0 ≥ 161 then (if a0 ≤ 1114111 then (if a0 = 65533 then (some false) else (if a0 < 55296 then (some true) else (some (decide (a0 > 57343))))) else (some false)) else (some false)))) else (if a0 ≥ 48 then (if a0 ≤ 57 then (some true) else (if a0 ≥ 161 then (if a0 ≤ 1114111 then (if a0 = 65533 then (some false) else (if a0 < 55296 then (some true) else (some (decide (a0 > 57343))))) else (some false)) else (some false))) else (if a0 ≥ 161 then (if a0 ≤ 1114111 then (if a0 = 65533 then (some false) else (if a0 < 55296 then (some true) else (some (decide (a0 > 57343))))) else (some false)) else (some false)))) = some r := h
 clear h
 by_cases c2 : a0 ≥ 97
 ·
  rw [if_pos c2] at H
  have c2b0 : decide (97 ≤ a0) = true := decide_eq_true c2
  clear c2
  by_cases c3 : a0 ≤ 122
  ·
   rw [if_pos c3] at H
   have c3b0 : decide (a0 ≤ 122) = true := decide_eq_true c3
   clear c3
   obtain rfl := Option.some.inj H
   go_enter Tryz.func52, Tryz.ntmps52
   go_wp2
   go_ret
   exact ⟨by first | rfl | (simp; done) | (simp [*]; done), by repeat (first | exact Drawn0.refl _ | apply Drawn0.step)⟩
  ·
   rw [if_neg c3] at H
   have c3b0 : decide (a0 ≤ 122) = false := decide_eq_false c3
   clear c3
   by_cases c4 : a0 ≥ 48
   ·
    rw [if_pos c4] at H
    have c4b0 : decide (48 ≤ a0) = true := decide_eq_true c4
    clear c4
    by_cases c5 : a0 ≤ 57
    ·
     rw [if_pos c5] at H
     have c5b0 : decide (a0 ≤ 57) = true := decide_eq_true c5
     clear c5
     obtain rfl := Option.some.inj H
     go_enter Tryz.func52, Tryz.ntmps52
     go_wp2
     go_ret
     exact ⟨by first | rfl | (simp; done) | (simp [*]; done), by repeat (first | exact Drawn0.refl _ | apply Drawn0.step)⟩
    ·
     rw [if_neg c5] at H
     have c5b0 : decide (a0 ≤ 57) = false := decide_eq_false c5
     clear c5
     by_cases c6 : a0 ≥ 161
     ·
      rw [if_pos c6] at H
      have c6b0 : decide (161 ≤ a0) = true := decide_eq_true c6
      clear c6
      by_cases c7 : a0 ≤ 1114111
      ·
       rw [if_pos c7] at H
       have c7b0 : decide (a0 ≤ 1114111) = true := decide_eq_true c7
       clear c7
       by_cases c8 : a0 = 65533
       ·
        rw [if_pos c8] at H
        have c8b0 : (a0 == 65533) = true := beq_iff_eq.mpr c8
        have c8b1 : (a0 != 65533) = false := bne_eq_false_iff_eq.mpr c8
        clear c8
        obtain rfl := Option.some.inj H
        go_enter Tryz.func52, Tryz.ntmps52
        go_wp2
        go_ret
        exact ⟨by first | rfl | (simp; done) | (simp [*]; done), by repeat (first | exact Drawn0.refl _ | apply Drawn0.step)⟩
       ·
        rw [if_neg c8] at H
        have c8b0 : (a0 == 65533) = false := beq_eq_false_iff_ne.mpr c8
        have c8b1 : (a0 != 65533) = true := bne_iff_ne.mpr c8
        by_cases c9 : a0 < 55296
        ·
         rw [if_pos c9] at H
         have c9b0 : decide (a0 < 55296) = true := decide_eq_true c9
         clear c9
         obtain rfl := Option.some.inj H
         go_enter Tryz.func52, Tryz.ntmps52
         go_wp2
         go_ret
         exact ⟨by first | rfl | (simp; done) | (simp [*]; done), by repeat (first | exact Drawn0.refl _ | apply Drawn0.step)⟩
        ·
         rw [if_neg c9] at H
         have c9b0 : decide (a0 < 55296) = false := decide_eq_false c9
         clear c9
         obtain rfl := Option.some.inj H
         go_enter Tryz.func52, Tryz.ntmps52
         go_wp2
         go_ret
         exact ⟨by first | rfl | (simp; done) | (simp [*]; done), by repeat (first | exact Drawn0.refl _ | apply Drawn0.step)⟩
      ·
       rw [if_neg c7] at H
       have c7b0 : decide (a0 ≤ 1114111) = false := decide_eq_false c7
       clear c7
       obtain rfl := Option.some.inj H
       go_enter Tryz.func52, Tryz.ntmps52
       go_wp2
       go_ret
       exact ⟨by first | rfl | (simp; done) | (simp [*]; done), by repeat (first | exact Drawn0.refl _ | apply Drawn0.step)⟩
     ·
      rw [if_neg c6] at H
      have c6b0 : decide (161 ≤ a0) = false := decide_eq_false c6
      clear c6
      obtain rfl := Option.some.inj H
      go_enter Tryz.func52, Tryz.ntmps52
      go_wp2
      go_ret
      exact ⟨by first | rfl | (simp; done) | (simp [*]; done), by repeat (first | exact Drawn0.refl _ | apply Drawn0.step)⟩
   ·
    rw [if_neg c4] at H
    have c4b0 : decide (48 ≤ a0) = false := decide_eq_false c4
    clear c4
    by_cases c10 : a0 ≥ 161
    ·
     rw [if_pos c10] at H
     have c10b0 : decide (161 ≤ a0) = true := decide_eq_true c10
     clear c10
     by_cases c11 : a0 ≤ 1114111
     ·
      rw [if_pos c11] at H
      have c11b0 : decide (a0 ≤ 1114111) = true := decide_eq_true c11
      clear c11
      by_cases c12 : a0 = 65533
      ·
       rw [if_pos c12] at H
       have c12b0 : (a0 == 65533) = true := beq_iff_eq.mpr c12
       have c12b1 : (a0 != 65533) = false := bne_eq_false_iff_eq.mpr c12
       clear c12
       obtain rfl := Option.some.inj H
       go_enter Tryz.func52, Tryz.ntmps52
       go_wp2
       go_ret
       exact ⟨by first | rfl | (simp; done) | (simp [*]; done), by repeat (first | exact Drawn0.refl _ | apply Drawn0.step)⟩
      ·
       rw [if_neg c12] at H
       have c12b0 : (a0 == 65533) = false := beq_eq_false_iff_ne.mpr c12
       have c12b1 : (a0 != 65533) = true := bne_iff_ne.mpr c12
       by_cases c13 : a0 < 55296
       ·
        rw [if_pos c13] at H
        have c13b0 : decide (a0 < 55296) = true := decide_eq_true c13
        clear c13
        obtain rfl := Option.some.inj H
        go_enter Tryz.func52, Tryz.ntmps52
        go_wp2
        go_ret
        exact ⟨by first | rfl | (simp; done) | (simp [*]; done), by repeat (first | exact Drawn0.refl _ | apply Drawn0.step)⟩
       ·
        rw [if_neg c13] at H
        have c13b0 : decide (a0 < 55296) = false := decide_eq_false c13
        clear c13
        obtain rfl := Option.some.inj H
        go_enter Tryz.func52, Tryz.ntmps52
        go_wp2
        go_ret
        exact ⟨by first | rfl | (simp; done) | (simp [*]; done), by repeat (first | exact Drawn0.refl _ | apply Drawn0.step)⟩
     ·
      rw [if_neg c11] at H
      have c11b0 : decide (a0 ≤ 1114111) = false := decide_eq_false c11
      clear c11
      obtain rfl := Option.some.inj H
      go_enter Tryz.func52, Tryz.ntmps52
      go_wp2
      go_ret
      exact ⟨by first | rfl | (simp; done) | (simp [*]; done), by repeat (first | exact Drawn0.refl _ | apply Drawn0.step)⟩
    ·
     rw [if_neg c10] at H
     have c10b0 : decide (161 ≤ a0) = false := decide_eq_false c10
     clear c10
     obtain rfl := Option.some.inj H
     go_enter Tryz.func52, Tryz.ntmps52
     go_wp2
     go_ret
     exact ⟨by first | rfl | (simp; done) | (simp [*]; done), by repeat (first | exact Drawn0.refl _ | apply Drawn0.step)⟩
 ·
  rw [if_neg c2] at H
  have c2b0 : decide (97 ≤ a0) = false := decide_eq_false c2
  clear c2
  by_cases c14 : a0 ≥ 48
  ·
   rw [if_pos c14] at H
   have c14b0 : decide (48 ≤ a0) = true := decide_eq_true c14
   clear c14
   by_cases c15 : a0 ≤ 57
   ·
    rw [if_pos c15] at H
    have c15b0 : decide (a0 ≤ 57) = true := decide_eq_true c15
    clear c15
    obtain rfl := Option.some.inj H
    go_enter Tryz.func52, Tryz.ntmps52
    go_wp2
    go_ret
    exact ⟨by first | rfl | (simp; done) | (simp [*]; done), by repeat (first | exact Drawn0.refl _ | apply Drawn0.step)⟩
   ·
    rw [if_neg c15] at H
    have c15b0 : decide (a0 ≤ 57) = false := decide_eq_false c15
    clear c15
    by_cases c16 : a0 ≥ 161
    ·
     rw [if_pos c16] at H
     have c16b0 : decide (161 ≤ a0) = true := decide_eq_true c16
     clear c16
     by_cases c17 : a0 ≤ 1114111
     ·
      rw [if_pos c17] at H
      have c17b0 : decide (a0 ≤ 1114111) = true := decide_eq_true c17
      clear c17
      by_cases c18 : a0 = 65533
      ·
       rw [if_pos c18] at H
       have c18b0 : (a0 == 65533) = true := beq_iff_eq.mpr c18
       have c18b1 : (a0 != 65533) = false := bne_eq_false_iff_eq.mpr c18
       clear c18
       obtain rfl := Option.some.inj H
       go_enter Tryz.func52, Tryz.ntmps52
       go_wp2
       go_ret
       exact ⟨by first | rfl | (simp; done) | (simp [*]; done), by repeat (first | exact Drawn0.refl _ | apply Drawn0.step)⟩
      ·
       rw [if_neg c18] at H
       have c18b0 : (a0 == 65533) = false := beq_eq_false_iff_ne.mpr c18
       have c18b1 : (a0 != 65533) = true := bne_iff_ne.mpr c18
       by_cases c19 : a0 < 55296
       ·
        rw [if_pos c19] at H
        have c19b0 : decide (a0 < 55296) = true := decide_eq_true c19
        clear c19
        obtain rfl := Option.some.inj H
        go_enter Tryz.func52, Tryz.ntmps52
        go_wp2
        go_ret
        exact ⟨by first | rfl | (simp; done) | (simp [*]; done), by repeat (first | exact Drawn0.refl _ | apply Drawn0.step)⟩
       ·
        rw [if_neg c19] at H
        have c19b0 : decide (a0 < 55296) = false := decide_eq_false c19
        clear c19
        obtain rfl := Option.some.inj H
        go_enter Tryz.func52, Tryz.ntmps52
        go_wp2
        go_ret
        exact ⟨by first | rfl | (simp; done) | (simp [*]; done), by repeat (first | exact Drawn0.refl _ | apply Drawn0.step)⟩
     ·
      rw [if_neg c17] at H
      have c17b0 : decide (a0 ≤ 1114111) = false := decide_eq_false c17
      clear c17
      obtain rfl := Option.some.inj H
      go_enter Tryz.func52, Tryz.ntmps52
      go_wp2
      go_ret
      exact ⟨by first | rfl | (simp; done) | (simp [*]; done), by repeat (first | exact Drawn0.refl _ | apply Drawn0.step)⟩
    ·
     rw [if_neg c16] at H
     have c16b0 : decide (161 ≤ a0) = false := decide_eq_false c16
     clear c16
     obtain rfl := Option.some.inj H
     go_enter Tryz.func52, Tryz.ntmps52
     go_wp2
     go_ret
     exact ⟨by first | rfl | (simp; done) | (simp [*]; done), by repeat (first | exact Drawn0.refl _ | apply Drawn0.step)⟩
  ·
   rw [if_neg c14] at H
   have c14b0 : decide (48 ≤ a0) = false := decide_eq_false c14
   clear c14
   by_cases c20 : a0 ≥ 161
   ·
    rw [if_pos c20] at H
    have c20b0 : decide (161 ≤ a0) = true := decide_eq_true c20
    clear c20
    by_cases c21 : a0 ≤ 1114111
    ·
     rw [if_pos c21] at H
     have c21b0 : decide (a0 ≤ 1114111) = true := decide_eq_true c21
     clear c21
     by_cases c22 : a0 = 65533
     ·
      rw [if_pos c22] at H
      have c22b0 : (a0 == 65533) = true := beq_iff_eq.mpr c22
      have c22b1 : (a0 != 65533) = false := bne_eq_false_iff_eq.mpr c22
      clear c22
      obtain rfl := Option.some.inj H
      go_enter Tryz.func52, Tryz.ntmps52
      go_wp2
      go_ret
      exact ⟨by first | rfl | (simp; done) | (simp [*]; done), by repeat (first | exact Drawn0.refl _ | apply Drawn0.step)⟩
     ·
      rw [if_neg c22] at H
      have c22b0 : (a0 == 65533) = false := beq_eq_false_iff_ne.mpr c22
      have c22b1 : (a0 != 65533) = true := bne_iff_ne.mpr c22
      by_cases c23 : a0 < 55296
      ·
       rw [if_pos c23] at H
       have c23b0 : decide (a0 < 55296) = true := decide_eq_true c23
       clear c23
       obtain rfl := Option.some.inj H
       go_enter Tryz.func52, Tryz.ntmps52
       go_wp2
       go_ret
       exact ⟨by first | rfl | (simp; done) | (simp [*]; done), by repeat (first | exact Drawn0.refl _ | apply Drawn0.step)⟩
      ·
       rw [if_neg c23] at H
       have c23b0 : decide (a0 < 55296) = false := decide_eq_false c23
       clear c23
       obtain rfl := Option.some.inj H
       go_enter Tryz.func52, Tryz.ntmps52
       go_wp2
       go_ret
       exact ⟨by first | rfl | (simp; done) | (simp [*]; done), by repeat (first | exact Drawn0.refl _ | apply Drawn0.step)⟩
    ·
     rw [if_neg c21] at H
     have c21b0 : decide (a0 ≤ 1114111) = false := decide_eq_false c21
     clear c21
     obtain rfl := Option.some.inj H
     go_enter Tryz.func52, Tryz.ntmps52
     go_wp2
     go_ret
     exact ⟨by first | rfl | (simp; done) | (simp [*]; done), by repeat (first | exact Drawn0.refl _ | apply Drawn0.step)⟩
   ·
    rw [if_neg c20] at H
    have c20b0 : decide (161 ≤ a0) = false := decide_eq_false c20
    clear c20
    obtain rfl := Option.some.inj H
    go_enter Tryz.func52, Tryz.ntmps52
    go_wp2
    go_ret
    exact ⟨by first | rfl | (simp; done) | (simp [*]; done), by repeat (first | exact Drawn0.refl _ | apply Drawn0.step)⟩
end Go.Proofs.YtmppkcdphgelcaaGreatDoor.PConf
namespace Go.Proofs.YtmppkcdphgelcaaGreatDoor.PConf
open Go.RowKit Go.Proofs.YtmppkcdphgelcaaGreatDoor.W.PrintWords Go.Proofs.YtmppkcdphgelcaaGreatDoor.W.PrintLast Go.Proofs.YtmppkcdphgelcaaGreatDoor.W.PrintMore
attribute [local go_sem] max2_int min2_int max_two min_two max_three min_three max_four min_four   -- for this text's walks alone
set_option linter.unusedVariables false
set_option linter.unusedSimpArgs false
def glyph_Name.letter (c : Int) : Bool := (glyph_Letter.f c).getD false
def glyph_Name.from (s : ByteArray) : Nat → Nat → Nat → Bool
 | 0, _, n => decide (1 ≤ n ∧ n ≤ 16)
 | f + 1, pos, n => if pos < s.size then (if glyph_Name.letter ((Utf8.decode s pos).1 : Nat) = true ∧ ¬ (n = 0 ∧ (Utf8.decode s pos).1 ≤ 57) then glyph_Name.from s f (pos + (Utf8.decode s pos).2) (n + 1) else false) else decide (1 ≤ n ∧ n ≤ 16)
def glyph_Name.f (a0 : ByteArray) : Option (Bool) := if a0.size ≤ 4611686018427387904 then some (glyph_Name.from a0 a0.size 0 0) else none
theorem glyph_Name.letter_some (c : Int) : glyph_Letter.f c = some (glyph_Name.letter c) := by
 have : ∃ b, glyph_Letter.f c = some b := by
  unfold glyph_Letter.f
  repeat' (first | exact ⟨_, rfl⟩ | split)
 obtain ⟨b, hb⟩ := this
 unfold glyph_Name.letter
 rw [hb]; rfl
theorem glyph_Name.iterPos {w : World} {k : Nat} {s : ByteArray} {p : Nat} (h : w.heap[k]? = some (.stringIter s p)) : w.iterPos k = p := by simp [World.iterPos, h]
set_option maxHeartbeats 2000000 in
theorem glyph_Name.calls (a0 : ByteArray) (r : Bool) (w : World) (h : glyph_Name.f a0 = some r) :
  Calls Tryz.prog 32 #[.string a0] w fun e w' => e = .returned (.bool r) ∧ Below w.heap.size w w' := by
 unfold glyph_Name.f at h
 by_cases hs : a0.size ≤ 4611686018427387904
 ·
  rw [if_pos hs] at h
  have H := As0.mk (Option.some.inj h)
  clear h
  go_enter Tryz.func32, Tryz.ntmps32
  go_wp2
  go_loopw [2, 3, 5] (fun r2 n c wr => ∃ (pos fuel k : Nat), r2 = .bool false ∧ n = .int .i64 k ∧ As0 (wr.heap[w.heap.size]? = some (.stringIter a0 pos)) ∧ As0 (Below w.heap.size w wr) ∧ As0 (glyph_Name.from a0 fuel pos k = glyph_Name.from a0 a0.size 0 0) ∧ a0.size ≤ pos + fuel ∧ k ≤ pos) (fun _ _ _ wr => a0.size - wr.iterPos w.heap.size)
  case atStart => exact ⟨0, a0.size, 0, rfl, rfl, ⟨World.iter_heap w a0 0⟩, ⟨(Below.refl _ _).alloc (Nat.le_refl _) _⟩, ⟨rfl⟩, by omega, by omega⟩
  case round =>
   obtain ⟨pos, fuel, k, rfl, rfl, hit0, hbw0, HS, hb, hk⟩ := hrel
   by_cases hp : pos < a0.size
   ·
    have hit := hit0.out
    have hnx : ∀ ty, (Instr.next (.pointer (some ⟨w.heap.size, 0, none⟩)) true ty).run Tryz.prog wr = _ := fun ty => Lib.run_next_any_at wr w.heap.size a0 pos ty hit hp
    have hwd := Lib.width_pos a0 pos
    obtain ⟨fuel, rfl⟩ : ∃ f', fuel = f' + 1 := ⟨fuel - 1, by omega⟩
    have hit2 := As0.mk (Lib.iterAt_heap wr w.heap.size a0 pos (pos + (Utf8.decode a0 pos).2) hit)
    have hbw2 := As0.mk (Lib.below_iterAt hbw0.out (k := w.heap.size) (Nat.le_refl _) a0 (pos + (Utf8.decode a0 pos).2))
    have hpos0 := As0.mk (glyph_Name.iterPos hit)
    obtain ⟨W1, hW1⟩ : ∃ W1, W1 = wr.iterAt w.heap.size a0 (pos + (Utf8.decode a0 pos).2) := ⟨_, rfl⟩
    rw [← hW1] at hnx hit2 hbw2
    have hs1 := As0.mk ((show glyph_Name.from a0 (fuel + 1) pos k = (if glyph_Name.letter ((Utf8.decode a0 pos).1 : Nat) = true ∧ ¬ (k = 0 ∧ (Utf8.decode a0 pos).1 ≤ 57) then glyph_Name.from a0 fuel (pos + (Utf8.decode a0 pos).2) (k + 1) else false) by rw [glyph_Name.from, if_pos hp]).symm.trans HS.out)
    have hlt := Lib.rune_le a0 pos
    obtain ⟨c, hc⟩ : ∃ c, c = (Utf8.decode a0 pos).1 := ⟨_, rfl⟩
    obtain ⟨wd, hwd0⟩ : ∃ c, c = (Utf8.decode a0 pos).2 := ⟨_, rfl⟩
    rw [← hc] at hnx hs1 hlt
    rw [← hwd0] at hit2 hs1 hwd hW1
    clear hW1 hit hit0 hbw0 HS hc hwd0
    have HC := As0.mk (fun W => glyph_Letter.calls (c : Int) (glyph_Name.letter (c : Nat)) W (glyph_Name.letter_some _))
    cases hl : glyph_Name.letter (c : Nat) with
    | false =>
     have hv := As0.mk (((if_neg (fun h => by rw [hl] at h; exact absurd h.1 (by decide))).symm.trans hs1.out).trans H.out)
     rw [hl] at HC
     clear hs1 H hl
     go_wp2_with (go_at_call 52; refine (HC.out _).mono ?_; rintro e w' ⟨rfl, ⟨q, rfl⟩⟩)
     go_ret
     exact ⟨by rw [← hv.out]; rfl, bln hbw2.out q⟩
    | true =>
     rw [hl] at HC
     by_cases hk0 : k = 0 ∧ c ≤ 57
     ·
      have hv := As0.mk (((if_neg (fun h => h.2 hk0)).symm.trans hs1.out).trans H.out)
      obtain ⟨rfl, h57⟩ := hk0
      have h57' : decide ((c : Int) ≤ 57) = true := decide_eq_true (by omega)
      clear hs1 H hl
      go_wp2_with (go_at_call 52; refine (HC.out _).mono ?_; rintro e w' ⟨rfl, ⟨q, rfl⟩⟩)
      go_ret
      exact ⟨by rw [← hv.out]; rfl, bln hbw2.out q⟩
     ·
      have hv := As0.mk ((if_pos (by rw [hl]; exact ⟨rfl, hk0⟩)).symm.trans hs1.out)
      clear hs1 hl
      by_cases hk1 : k = 0
      ·
       subst hk1
       have h57' : decide ((c : Int) ≤ 57) = false := decide_eq_false (by omega)
       go_wp2_with (go_at_call 52; refine (HC.out _).mono ?_; rintro e w' ⟨rfl, ⟨q, rfl⟩⟩)
       go_roundw
       case rel => exact ⟨pos + wd, fuel, 1, rfl, rfl, hit2, ⟨bln hbw2.out q⟩, hv, by omega, by omega⟩
       case measure => rw [show (W1.drewN q).iterPos w.heap.size = pos + wd from glyph_Name.iterPos hit2.out, hpos0.out]; omega
      ·
       have hkb : ((k : Int) == 0) = false := beq_eq_false_iff_ne.mpr (by omega)
       go_wp2_with (go_at_call 52; refine (HC.out _).mono ?_; rintro e w' ⟨rfl, ⟨q, rfl⟩⟩)
       go_roundw
       case rel => exact ⟨pos + wd, fuel, k + 1, rfl, by go_num, hit2, ⟨bln hbw2.out q⟩, hv, by omega, by omega⟩
       case measure => rw [show (W1.drewN q).iterPos w.heap.size = pos + wd from glyph_Name.iterPos hit2.out, hpos0.out]; omega
   ·
    have hit := hit0.out
    have hnx : ∀ ty, (Instr.next (.pointer (some ⟨w.heap.size, 0, none⟩)) true ty).run Tryz.prog wr = _ := fun ty => Lib.run_next_end_at wr w.heap.size a0 pos ty hit hp
    have hv := As0.mk ((show glyph_Name.from a0 fuel pos k = decide (1 ≤ k ∧ k ≤ 16) by cases fuel <;> simp [glyph_Name.from, hp]).symm.trans (HS.out.trans H.out))
    clear HS H hit hit0
    by_cases h1 : 1 ≤ k
    ·
     have h1' : decide (1 ≤ (k : Int)) = true := decide_eq_true (by omega)
     have h1'' : decide ((k : Int) ≥ 1) = true := decide_eq_true (by omega)
     by_cases h2 : k ≤ 16
     ·
      have h2' : decide ((k : Int) ≤ 16) = true := decide_eq_true (by omega)
      have hv' := As0.mk ((decide_eq_true ⟨h1, h2⟩).symm.trans hv.out)
      clear hv
      go_wp2
      go_ret
      exact ⟨by rw [← hv'.out]; rfl, hbw0.out⟩
     ·
      have h2' : decide ((k : Int) ≤ 16) = false := decide_eq_false (by omega)
      have hv' := As0.mk ((decide_eq_false (fun h : 1 ≤ k ∧ k ≤ 16 => h2 h.2)).symm.trans hv.out)
      clear hv
      go_wp2
      go_ret
      exact ⟨by rw [← hv'.out]; rfl, hbw0.out⟩
    ·
     have h1' : decide (1 ≤ (k : Int)) = false := decide_eq_false (by omega)
     have h1'' : decide ((k : Int) ≥ 1) = false := decide_eq_false (by omega)
     have hv' := As0.mk ((decide_eq_false (fun h : 1 ≤ k ∧ k ≤ 16 => h1 h.1)).symm.trans hv.out)
     clear hv
     go_wp2
     go_ret
     exact ⟨by rw [← hv'.out]; rfl, hbw0.out⟩
 ·
  rw [if_neg hs] at h
  cases h
end Go.Proofs.YtmppkcdphgelcaaGreatDoor.PConf
namespace Go.Proofs.YtmppkcdphgelcaaGreatDoor
open Go.RowKit Go.Shelf Go.Proofs.YtmppkcdphgelcaaGreatDoor.W.PrintWords Go.Proofs.YtmppkcdphgelcaaGreatDoor.W.PrintLast Go.Proofs.YtmppkcdphgelcaaGreatDoor.W.PrintMore
set_option linter.unusedVariables false
set_option linter.unusedSimpArgs false
def firstN (p : Nat → Bool) : Nat → Nat → Int
  | 0, _ => -1
  | k + 1, i => if p i then (i : Int) else firstN p k (i + 1)
theorem firstN_yes {p : Nat → Bool} {n i : Nat} (hi : i < n) (h : p i = true) : firstN p (n - i) i = i := by
  obtain ⟨k, hk⟩ : ∃ k, n - i = k + 1 := ⟨n - i - 1, by omega⟩
  rw [hk, firstN, if_pos h]
theorem firstN_no {p : Nat → Bool} {n i : Nat} (hi : i < n) (h : p i = false) : firstN p (n - i) i = firstN p (n - (i + 1)) (i + 1) := by
  obtain ⟨k, hk⟩ : ∃ k, n - i = k + 1 := ⟨n - i - 1, by omega⟩
  rw [hk, firstN, if_neg (by simp [h]), show n - (i + 1) = k from by omega]
structure IsFirst (p : Nat → Bool) (n : Int) (w : World) (e : Ending) (w' : World) : Prop where
  val : e = .returned (.int .i64 (firstN p n.toNat 0))
  world : ∃ q, w' = w.drewN q
set_option maxHeartbeats 1000000 in
theorem first_any (g : Nat) (lb : Array Value) (p : Nat → Bool) (n : Int) (w : World) (hn : n ≤ 9223372036854775807) (eg : ∀ args w, (callFunc g args).run Tryz.prog w = .ok (.enter g args) w)
    (hp : ∀ i : Nat, (i : Int) < n → ∀ m, Calls Tryz.prog g (#[.int .i64 i] ++ lb) (w.drewN m) fun e w' => e = .returned (.bool (p i)) ∧ ∃ q, w' = (w.drewN m).drewN q) :
    Calls Tryz.prog 33 #[.int .i64 n, .func (.func g) #[] lb] w (IsFirst p n w) := by
  have HP := As0.mk hp
  clear hp
  go_enter Tryz.func33, Tryz.ntmps33
  go_wp2
  go_loopw [4, 5] (fun r i wr => ∃ (k q : Nat), i = .int .i64 k ∧ r = .int .i64 0 ∧ (k ≤ n.toNat) ∧ As0 (wr = w.drewN q) ∧ As0 (firstN p (n.toNat - k) k = firstN p n.toNat 0))
      (fun r i wr => n.toNat - (intOf i).toNat)
  case atStart => exact ⟨0, 0, rfl, rfl, Nat.zero_le _, ⟨rfl⟩, ⟨rfl⟩⟩
  case round =>
    obtain ⟨k, q, rfl, rfl, hk, hw, HV⟩ := hrel
    obtain rfl := hw.out
    clear hw
    by_cases hlt : (k : Int) < n
    · have hc := As0.mk (HP.out k hlt q)
      cases hpk : p k with
      | true =>
        have hv := As0.mk ((firstN_yes (show k < n.toNat by omega) hpk).symm.trans HV.out)
        rw [hpk] at hc
        clear hpk HV
        go_wp2_with (go_at_fn g; refine hc.out.mono ?_; rintro e w' ⟨rfl, q2, rfl⟩)
        go_ret
        exact ⟨congrArg (fun z => Ending.returned (.int .i64 z)) hv.out, q + q2, rfl⟩
      | false =>
        have hv := As0.mk ((firstN_no (show k < n.toNat by omega) hpk).symm.trans HV.out)
        rw [hpk] at hc
        clear hpk HV
        go_wp2_with (go_at_fn g; refine hc.out.mono ?_; rintro e w' ⟨rfl, q2, rfl⟩)
        go_roundw
        case rel => exact ⟨k + 1, q + q2, by go_num, rfl, by omega, ⟨rfl⟩, hv⟩
        case measure => simp [intOf]; omega
    · have hv := As0.mk ((show firstN p (n.toNat - k) k = -1 by rw [show n.toNat - k = 0 from by omega]; rfl).symm.trans HV.out)
      clear HV
      go_wp2
      go_ret
      exact ⟨congrArg (fun z => Ending.returned (.int .i64 z)) hv.out, q, rfl⟩
end Go.Proofs.YtmppkcdphgelcaaGreatDoor
namespace Go.Proofs.YtmppkcdphgelcaaGreatDoor.PConf
open Go.RowKit Go.Proofs.YtmppkcdphgelcaaGreatDoor.W.PrintWords Go.Proofs.YtmppkcdphgelcaaGreatDoor.W.PrintLast Go.Proofs.YtmppkcdphgelcaaGreatDoor.W.PrintMore
attribute [local go_sem] max2_int min2_int max_two min_two max_three min_three max_four min_four   -- for this text's walks alone
set_option linter.unusedVariables false
set_option linter.unusedSimpArgs false
def names_Check.named (l : List ByteArray) : Bool := l.all fun s => glyph_Name.from s s.size 0 0
def names_Check.geq (l : List ByteArray) (i : Nat) : Bool := !(Op.bytesLess (l.getD i ByteArray.empty).toList (l.getD (i + 1) ByteArray.empty).toList)
def names_Check.f (l0 : List ByteArray) : Option (Int) :=
 if (∀ s ∈ l0, s.size ≤ 4611686018427387904) ∧ l0.length ≤ 9223372036854775807 then
  some (if 16 < l0.length then 1 else if names_Check.named l0 = false then 5 else if 0 ≤ firstN (names_Check.geq l0) (l0.length - 1) 0 then 1 else 0) else none
theorem names_Check.getD_at {l : List ByteArray} {k : Nat} (h : k < l.length) : l.getD k ByteArray.empty = l[k] := by
 rw [List.getD_eq_getElem?_getD, List.getElem?_eq_getElem h]; rfl
set_option maxHeartbeats 1000000 in
theorem names_Check.asks (A0 : Option Addr) (c0 : Nat) (l0 : List ByteArray) (W : World) (B1 : Nat) (hB1 : W.cell? ⟨B1, 0, none⟩ = some (.slice A0 l0.length c0))
  (hr : Kd.C Kd.string W A0 l0.length l0) (hc0 : l0.length ≤ c0) (hn : l0.length ≤ 16) (i : Nat) (hi : i + 1 < l0.length) :
  Calls Tryz.prog 34 #[.int .i64 i, .pointer (some ⟨B1, 0, none⟩)] W fun e w' => e = .returned (.bool (names_Check.geq l0 i)) ∧ ∃ q, w' = W.drewN q := by
 obtain ⟨ad, rfl, hx⟩ := Kd.at_string hr i (by omega) (by omega)
 obtain ⟨ad', e', hy⟩ := Kd.at_string hr ((i + 1 : Nat) : Int) (by omega) (by omega)
 obtain rfl : ad = ad' := by injection e'
 unfold names_Check.geq
 have e1 : ∀ k : Nat, ((k : Int)).toNat = k := fun _ => rfl
 rw [e1] at hx hy
 have e2 : ∀ k : Nat, rdOf ByteArray.empty l0 (k : Int) = l0.getD k ByteArray.empty := fun _ => rfl
 rw [e2] at hx hy
 clear e1 e2 hr e'
 obtain ⟨x, hx0⟩ : ∃ x, x = l0.getD i ByteArray.empty := ⟨_, rfl⟩
 obtain ⟨y, hy0⟩ : ∃ x, x = l0.getD (i + 1) ByteArray.empty := ⟨_, rfl⟩
 rw [← hx0] at hx ⊢
 rw [← hy0] at hy ⊢
 clear hx0 hy0
 have h0 : 0 ≤ (i : Int) := by omega
 have h1 : (i : Int) < (l0.length : Int) := by omega
 have h2 : 0 ≤ (i : Int) + 1 := by omega
 have h3 : (i : Int) + 1 < (l0.length : Int) := by omega
 have h4 : IntKind.i64.wrap ((i : Int) + 1) = (i : Int) + 1 := IntWalk.i64_in _ (by omega)
 have h5 : ((i : Int) + 1).toNat = i + 1 := by omega
 rw [show ad.add (i + 1) = ⟨ad.block, ad.off + (i + 1), none⟩ by simp [Addr.add]] at hy
 go_enter Tryz.func34, Tryz.ntmps34
 go_wp2
 go_quiet (fail)
 go_wp2
 go_ret
 exact ⟨rfl, _, rfl⟩
set_option maxHeartbeats 2000000 in
theorem names_Check.calls (A0 : Option Addr) (c0 : Nat) (l0 : List ByteArray) (r : Int) (w : World) (hr0 : Kd.C Kd.string w A0 l0.length l0) (hc0 : l0.length ≤ c0) (h : names_Check.f l0 = some r) :
  Calls Tryz.prog 17 #[.slice A0 l0.length c0] w fun e w' => e = .returned (.int .i64 r) ∧ Below w.heap.size w w' := by
 unfold names_Check.f at h
 by_cases hs : (∀ s ∈ l0, s.size ≤ 4611686018427387904) ∧ l0.length ≤ 9223372036854775807
 ·
  rw [if_pos hs] at h
  have HS := As0.mk hs.1
  have hs2 := hs.2
  have H := As0.mk (Option.some.inj h)
  clear h hs
  by_cases h16 : 16 < l0.length
  ·
   have H' := As0.mk ((if_pos h16).symm.trans H.out)
   have h16a : decide ((16 : Int) < (l0.length : Int)) = true := decide_eq_true (by omega)
   have h16b : decide (16 < l0.length) = true := decide_eq_true h16
   clear H hr0 hc0
   go_enter Tryz.func17, Tryz.ntmps17
   go_wp2
   go_ret
   exact ⟨by rw [← H'.out]; rfl, bla (Below.refl _ _) _⟩
  ·
   have H' := As0.mk ((if_neg h16).symm.trans H.out)
   have h16a : decide ((16 : Int) < (l0.length : Int)) = false := decide_eq_false (by omega)
   have h16b : decide (16 < l0.length) = false := decide_eq_false h16
   have h16c : l0.length ≤ 16 := by omega
   have hmf : ∀ (fn : Fn) (first cap : Array Value) (w : World), (Instr.makeFunc fn first cap).run Tryz.prog w = .ok (.func fn first cap) w := fun _ _ _ _ => rfl
   have HR := As0.mk (Kd.C_alloc hr0 (.cells #[.slice A0 l0.length c0] 22))
   have HB := As0.mk (bla (Below.refl w.heap.size w) (.cells #[.slice A0 l0.length c0] 22))
   have hM : (w.alloc (.cells #[.slice A0 l0.length c0] 22)).cell? ⟨w.heap.size, 0, none⟩ = some (.slice A0 l0.length c0) := by
    rw [World.cell?_alloc_at _ _ _ _ rfl]; rfl
   have HM := As0.mk hM
   have HSZ := As0.mk (show w.heap.size < (w.alloc (.cells #[.slice A0 l0.length c0] 22)).heap.size by simp)
   clear H hr0 hM h16
   go_enter Tryz.func17, Tryz.ntmps17
   go_wp2
   obtain ⟨W0, hW0⟩ : ∃ W0, W0 = w.alloc (.cells #[.slice A0 l0.length c0] 22) := ⟨_, rfl⟩
   rw [← hW0] at HR HB HM HSZ ⊢
   clear hW0
   go_loopw [2, 4, 11] (fun r2 s i wr => ∃ k : Nat, r2 = .int .i64 0 ∧ i = .int .i64 k ∧ k ≤ l0.length ∧ As0 (Below W0.heap.size W0 wr) ∧ As0 (∀ j, j < k → glyph_Name.from (l0.getD j ByteArray.empty) (l0.getD j ByteArray.empty).size 0 0 = true)) (fun _ _ i _ => l0.length - (intOf i).toNat)
   case atStart => exact ⟨0, rfl, rfl, by omega, ⟨Below.refl _ _⟩, ⟨fun j hj => absurd hj (by omega)⟩⟩
   case round =>
    obtain ⟨k, rfl, rfl, hk, HBw, HN⟩ := hrel
    have HRw := As0.mk (Kd.C_below HR.out HBw.out)
    have HMw := As0.mk ((HBw.out.cell (p := ⟨w.heap.size, 0, none⟩) HSZ.out).trans HM.out)
    have HBB := As0.mk (below_then HB.out HB.out.size HBw.out)
    by_cases hlt : k < l0.length
    ·
     obtain ⟨ad, hA, hx⟩ := Kd.at_string HRw.out k (by omega) (by omega)
     subst hA
     have e1 : ((k : Int)).toNat = k := rfl
     rw [e1] at hx
     have e2 : rdOf ByteArray.empty l0 (k : Int) = l0.getD k ByteArray.empty := rfl
     rw [e2] at hx
     have hmem : (l0.getD k ByteArray.empty) ∈ l0 := by
      rw [names_Check.getD_at hlt]; exact List.getElem_mem hlt
     have hsz := HS.out _ hmem
     obtain ⟨x, hx0⟩ : ∃ x, x = l0.getD k ByteArray.empty := ⟨_, rfl⟩
     have hxx := As0.mk hx0
     rw [← hx0] at hx hsz
     clear e1 e2 hx0 hmem
     have h0 : 0 ≤ (k : Int) := by omega
     have h1 : (k : Int) < (l0.length : Int) := by omega
     have HC := As0.mk (glyph_Name.calls x (glyph_Name.from x x.size 0 0) wr (by unfold glyph_Name.f; rw [if_pos hsz]))
     cases hb : glyph_Name.from x x.size 0 0 with
     | false =>
      rw [hb] at HC
      have hnm : names_Check.named l0 = false := by
       unfold names_Check.named
       rw [Bool.eq_false_iff]
       intro hall
       rw [List.all_eq_true] at hall
       have := hall (l0.getD k ByteArray.empty) (by rw [names_Check.getD_at hlt]; exact List.getElem_mem hlt)
       rw [← hxx.out, hb] at this
       exact absurd this (by decide)
      have hv := As0.mk ((if_pos hnm).symm.trans H'.out)
      clear hb hnm hsz
      go_wp2_with (go_at_call 32; refine HC.out.mono ?_; rintro e w' ⟨rfl, hb2⟩; have HB2 := As0.mk (below_then HBB.out HBB.out.size hb2); clear hb2)
      go_ret
      exact ⟨by rw [← hv.out]; rfl, HB2.out⟩
     | true =>
      rw [hb] at HC
      have HN' := As0.mk (show ∀ j, j < k + 1 → glyph_Name.from (l0.getD j ByteArray.empty) (l0.getD j ByteArray.empty).size 0 0 = true from fun j hj => by
       by_cases e : j = k
       ·
        subst e; rw [← hxx.out]; exact hb
       ·
        exact HN.out j (by omega))
      clear hb hsz
      go_wp2_with (go_at_call 32; refine HC.out.mono ?_; rintro e w' ⟨rfl, hb2⟩; have HB2 := As0.mk (below_then HBw.out HBw.out.size hb2); clear hb2)
      go_roundw
      case rel => exact ⟨k + 1, rfl, by go_num, by omega, HB2, HN'⟩
      case measure => simp [intOf]; omega
    ·
     have hke : k = l0.length := by omega
     have hnm : ¬ names_Check.named l0 = false := by
      unfold names_Check.named
      intro hall
      rw [Bool.eq_false_iff] at hall
      refine hall (List.all_eq_true.mpr fun s hs => ?_)
      obtain ⟨j, hj, rfl⟩ := List.mem_iff_getElem.mp hs
      have := HN.out j (by omega)
      rw [names_Check.getD_at hj] at this
      exact this
     have hv := As0.mk ((if_neg hnm).symm.trans H'.out)
     have HC := As0.mk (first_any 34 #[.pointer (some ⟨w.heap.size, 0, none⟩)] (names_Check.geq l0) ((l0.length : Int) - 1) wr (by omega) (enters_of Tryz.func34 (by kernel_rfl) rfl)
      (fun i hi m => names_Check.asks A0 c0 l0 (wr.drewN m) w.heap.size HMw.out (Kd.C_drewN HRw.out m) hc0 h16c i (by omega)))
     have hm := HMw.out
     have hsub : IntKind.i64.wrap ((l0.length : Int) - 1) = (l0.length : Int) - 1 := IntWalk.i64_in _ (by omega)
     clear hnm hke H'
     by_cases hf : 0 ≤ firstN (names_Check.geq l0) (l0.length - 1) 0
     ·
      have hv' := As0.mk ((if_pos hf).symm.trans hv.out)
      have hfd : decide (0 ≤ firstN (names_Check.geq l0) (l0.length - 1) 0) = true := decide_eq_true hf
      clear hv hf
      go_wp2_with (go_at_call 33; refine HC.out.mono ?_; rintro e w' ⟨rfl, q, rfl⟩)
      go_ret
      exact ⟨by rw [← hv'.out]; rfl, bln HBB.out q⟩
     ·
      have hv' := As0.mk ((if_neg hf).symm.trans hv.out)
      have hfd : decide (0 ≤ firstN (names_Check.geq l0) (l0.length - 1) 0) = false := decide_eq_false hf
      clear hv hf
      go_wp2_with (go_at_call 33; refine HC.out.mono ?_; rintro e w' ⟨rfl, q, rfl⟩)
      go_ret
      exact ⟨by rw [← hv'.out]; rfl, bln HBB.out q⟩
 ·
  rw [if_neg hs] at h
  cases h
end Go.Proofs.YtmppkcdphgelcaaGreatDoor.PConf
namespace Go.Proofs.YtmppkcdphgelcaaGreatDoor.PConf
open Go.RowKit Go.Proofs.YtmppkcdphgelcaaGreatDoor.W.PrintWords Go.Proofs.YtmppkcdphgelcaaGreatDoor.W.PrintLast Go.Proofs.YtmppkcdphgelcaaGreatDoor.W.PrintMore
attribute [local go_sem] max2_int min2_int max_two min_two max_three min_three max_four min_four   -- for this text's walks alone
set_option linter.unusedVariables false
set_option linter.unusedSimpArgs false
def flock_Below.f (a0 : Int) : Option (Int) := if a0 ≤ 0 then (some 0) else (if a0 ≥ 64 then (some 18446744073709551615) else (if 0 ≤ a0 then (some (IntKind.u64.wrap ((shl .u64 1 a0) - 1))) else (none)))
set_option maxHeartbeats 8000000 in
set_option maxRecDepth 100000 in
theorem flock_Below.calls (a0 : Int) (r : Int) (w : World) (h : flock_Below.f a0 = some r) :
  Calls Tryz.prog 18 #[.int .i64 a0] w fun e w' => e = .returned (.int .u64 r) ∧ Drawn0 w w' := by
 have H : (if a0 ≤ 0 then (some 0) else (if a0 ≥ 64 then (some 18446744073709551615) else (if 0 ≤ a0 then (some (IntKind.u64.wrap ((shl .u64 1 a0) - 1))) else (none)))) = some r := h
 clear h
 by_cases c2 : a0 ≤ 0
 ·
  rw [if_pos c2] at H
  have c2b0 : decide (a0 ≤ 0) = true := decide_eq_true c2
  clear c2
  obtain rfl := Option.some.inj H
  go_enter Tryz.func18, Tryz.ntmps18
  go_wp2
  go_ret
  exact ⟨by first | rfl | (simp; done) | (simp [*]; done), by repeat (first | exact Drawn0.refl _ | apply Drawn0.step)⟩
 ·
  rw [if_neg c2] at H
  have c2b0 : decide (a0 ≤ 0) = false := decide_eq_false c2
  clear c2
  by_cases c3 : a0 ≥ 64
  ·
   rw [if_pos c3] at H
   have c3b0 : decide (64 ≤ a0) = true := decide_eq_true c3
   clear c3
   obtain rfl := Option.some.inj H
   go_enter Tryz.func18, Tryz.ntmps18
   go_wp2
   go_ret
   exact ⟨by first | rfl | (simp; done) | (simp [*]; done), by repeat (first | exact Drawn0.refl _ | apply Drawn0.step)⟩
  ·
   rw [if_neg c3] at H
   have c3b0 : decide (64 ≤ a0) = false := decide_eq_false c3
   clear c3
   by_cases c4 : 0 ≤ a0
   ·
    rw [if_pos c4] at H
    have c4b0 := eq_true c4
    have c4b1 : decide (0 ≤ a0) = true := decide_eq_true c4
    clear c4
    obtain ⟨ji5, hji5⟩ : ∃ j_ : Int, (shl .u64 1 a0) = j_ := ⟨_, rfl⟩
    replace H : (some (IntKind.u64.wrap ((ji5) - 1))) = some r := by first | (rw [hji5] at H; exact H) | (simp only [hji5] at H ⊢; exact H)
    have hji5_ : (IntKind.u64.wrap (1 * 2 ^ min a0.toNat 64)) = ji5 := hji5
    have hji5z : a0 ≤ 64 → (IntKind.u64.wrap (1 * 2 ^ a0.toNat)) = ji5 := shl_small hji5
    have hji5u : (IntKind.u64.wrap (2 ^ min a0.toNat 64)) = ji5 := by have h_ := hji5_; rw [Int.one_mul] at h_; exact h_
    have hji5v : a0 ≤ 64 → (IntKind.u64.wrap (2 ^ a0.toNat)) = ji5 := fun hle_ => by have h_ := hji5z hle_; rw [Int.one_mul] at h_; exact h_
    obtain rfl := Option.some.inj H
    go_enter Tryz.func18, Tryz.ntmps18
    go_wp2
    go_ret
    exact ⟨by first | rfl | (simp; done) | (simp only [← hji5] <;> (first | rfl | simp)) | (simp [*]; done), by repeat (first | exact Drawn0.refl _ | apply Drawn0.step)⟩
   ·
    rw [if_neg c4] at H
    exact absurd H (by simp)
end Go.Proofs.YtmppkcdphgelcaaGreatDoor.PConf
namespace Go.Proofs.YtmppkcdphgelcaaGreatDoor.PConf
open Go.RowKit Go.Proofs.YtmppkcdphgelcaaGreatDoor.W.PrintWords Go.Proofs.YtmppkcdphgelcaaGreatDoor.W.PrintLast Go.Proofs.YtmppkcdphgelcaaGreatDoor.W.PrintMore
attribute [local go_sem] max2_int min2_int max_two min_two max_three min_three max_four min_four   -- for this text's walks alone
set_option linter.unusedVariables false
set_option linter.unusedSimpArgs false
mutual
def conf_Check.j0 : Nat → Bool → Int → Int → Int → Int → Int → List ByteArray → List (S41) → Option (Int)
 | 0, _, _, _, _, _, _, _, _ => none
 | k + 1, x33, x105000, x105001, x105002, x105003, x105004, x105005, x105006 => if x33 = true then (some 1) else ((names_Check.f x105005).bind fun t110 => (if t110 = 0 then ((conf_in.f (x105006.length : Int) 1 64).bind fun t111 => (if t111 = true then (conf_Check.l0 k x105006 (x105006.length : Int) 0 x105000 x105001 x105002 x105003 x105004 x105005 x105006) else (some 1))) else (some t110)))
def conf_Check.l0 : Nat → List (S41) → Int → Int → Int → Int → Int → Int → Int → List ByteArray → List (S41) → Option (Int)
 | 0, _, _, _, _, _, _, _, _, _, _ => none
 | k + 1, x46, x47, x48, x105000, x105001, x105002, x105003, x105004, x105005, x105006 => if x48 < x47 then (if 0 ≤ x48 then (if x48 < (x46.length : Int) then ((conf_in.f ((rd_T41 x46 x48).f0) 1 255).bind fun t114 => (if t114 = true then ((conf_in.f ((rd_T41 x46 x48).f1) 1 64).bind fun t115 => (if t115 = true then ((flock_Below.f (x105005.length : Int)).bind fun t116 => (if (Go.bits .andNot .u64 ((rd_T41 x46 x48).f2) t116) = 0 then (conf_Check.l0 k x46 x47 (wrap64 (x48 + 1)) x105000 x105001 x105002 x105003 x105004 x105005 x105006) else (some 1))) else (some 1))) else (some 1))) else (none)) else (none)) else (some 0)
end
def conf_Check.f (k : Nat) (a0_0 : Int) (a0_1 : Int) (a0_2 : Int) (a0_3 : Int) (a0_4 : Int) (l0_5 : List ByteArray) (l0_6 : List (S41)) : Option (Int) := (conf_in.f a0_0 1 8).bind fun t105 => (if t105 = true then ((conf_in.f a0_1 1 1000).bind fun t106 => (if t106 = true then ((conf_in.f a0_2 1 1000).bind fun t107 => (if t107 = true then ((conf_in.f a0_3 0 65536).bind fun t108 => (if t108 = true then ((conf_in.f a0_4 1 16).bind fun t109 => (conf_Check.j0 k (!t109) a0_0 a0_1 a0_2 a0_3 a0_4 l0_5 l0_6)) else (conf_Check.j0 k true a0_0 a0_1 a0_2 a0_3 a0_4 l0_5 l0_6))) else (conf_Check.j0 k true a0_0 a0_1 a0_2 a0_3 a0_4 l0_5 l0_6))) else (conf_Check.j0 k true a0_0 a0_1 a0_2 a0_3 a0_4 l0_5 l0_6))) else (conf_Check.j0 k true a0_0 a0_1 a0_2 a0_3 a0_4 l0_5 l0_6))
theorem conf_Check.mono_l : ∀ k, (∀ y0 y1 y2 y3 y4 y5 y6 y7, LeO (conf_Check.j0 k y0 y1 y2 y3 y4 y5 y6 y7) (conf_Check.j0 (k + 1) y0 y1 y2 y3 y4 y5 y6 y7)) ∧ (∀ y0 y1 y2 y3 y4 y5 y6 y7 y8 y9, LeO (conf_Check.l0 k y0 y1 y2 y3 y4 y5 y6 y7 y8 y9) (conf_Check.l0 (k + 1) y0 y1 y2 y3 y4 y5 y6 y7 y8 y9))
 | 0 => ⟨fun _ _ _ _ _ _ _ _ r h => by simp [conf_Check.j0] at h, fun _ _ _ _ _ _ _ _ _ _ r h => by simp [conf_Check.l0] at h⟩
 | k + 1 => by
  obtain ⟨ih0, ih1⟩ := conf_Check.mono_l k
  refine ⟨?_, ?_⟩
  ·
   intro y0 y1 y2 y3 y4 y5 y6 y7
   unfold conf_Check.j0
   repeat' first
   | (with_reducible exact ih0 _ _ _ _ _ _ _ _)
   | (with_reducible exact ih1 _ _ _ _ _ _ _ _ _ _)
   | (with_reducible exact LeO.refl _)
   | (with_reducible exact LeO.none _)
   | (with_reducible refine LeO.ite ?_ ?_)
   | (with_reducible refine LeO.bind ?_ (fun _ => ?_))
   | exact ih0 _ _ _ _ _ _ _ _
   | exact ih1 _ _ _ _ _ _ _ _ _ _
   | exact LeO.none _
   | refine LeO.ite ?_ ?_
   | refine LeO.bind ?_ (fun _ => ?_)
  ·
   intro y0 y1 y2 y3 y4 y5 y6 y7 y8 y9
   unfold conf_Check.l0
   repeat' first
   | (with_reducible exact ih0 _ _ _ _ _ _ _ _)
   | (with_reducible exact ih1 _ _ _ _ _ _ _ _ _ _)
   | (with_reducible exact LeO.refl _)
   | (with_reducible exact LeO.none _)
   | (with_reducible refine LeO.ite ?_ ?_)
   | (with_reducible refine LeO.bind ?_ (fun _ => ?_))
   | exact ih0 _ _ _ _ _ _ _ _
   | exact ih1 _ _ _ _ _ _ _ _ _ _
   | exact LeO.none _
   | refine LeO.ite ?_ ?_
   | refine LeO.bind ?_ (fun _ => ?_)
theorem conf_Check.mono : ∀ a0 a1 a2 a3 a4 a5 a6 k, LeO (conf_Check.f k a0 a1 a2 a3 a4 a5 a6) (conf_Check.f (k + 1) a0 a1 a2 a3 a4 a5 a6) := by
 intro a0 a1 a2 a3 a4 a5 a6 k
 obtain ⟨ih0, ih1⟩ := conf_Check.mono_l k
 unfold conf_Check.f
 repeat' first
   | (with_reducible exact ih0 _ _ _ _ _ _ _ _)
   | (with_reducible exact ih1 _ _ _ _ _ _ _ _ _ _)
   | (with_reducible exact LeO.refl _)
   | (with_reducible exact LeO.none _)
   | (with_reducible refine LeO.ite ?_ ?_)
   | (with_reducible refine LeO.bind ?_ (fun _ => ?_))
   | exact ih0 _ _ _ _ _ _ _ _
   | exact ih1 _ _ _ _ _ _ _ _ _ _
   | exact LeO.none _
   | refine LeO.ite ?_ ?_
   | refine LeO.bind ?_ (fun _ => ?_)
set_option maxHeartbeats 8000000 in
set_option maxRecDepth 100000 in
theorem conf_Check.calls (k : Nat) (a0_0 : Int) (a0_1 : Int) (a0_2 : Int) (a0_3 : Int) (a0_4 : Int) (A0_5 : Option Addr) (c0_5 : Nat) (l0_5 : List ByteArray) (A0_6 : Option Addr) (c0_6 : Nat) (l0_6 : List (S41)) (r : Int) (w : World) (hr0_5 : Kd.C Kd.string w A0_5 l0_5.length l0_5) (hc0_5 : l0_5.length ≤ c0_5) (hr0_6 : Kd.C k41 w A0_6 l0_6.length l0_6) (hc0_6 : l0_6.length ≤ c0_6) (h : conf_Check.f k a0_0 a0_1 a0_2 a0_3 a0_4 l0_5 l0_6 = some r) :
  Calls Tryz.prog 7 #[.agg #[.int .i64 a0_0, .int .i64 a0_1, .int .i64 a0_2, .int .i64 a0_3, .int .i64 a0_4, .slice A0_5 l0_5.length c0_5, .slice A0_6 l0_6.length c0_6]] w fun e w' => e = .returned (.int .i64 r) ∧ Below w.heap.size w w' := by
 have hu25 := Tryz.underlying25
 have hu41 := Tryz.underlying41
 have HR0_5 := As0.mk hr0_5
 have HC0_5 := As0.mk hc0_5
 clear hr0_5 hc0_5
 have HR0_6 := As0.mk hr0_6
 have HC0_6 := As0.mk hc0_6
 clear hr0_6 hc0_6
 have HB := As0.mk (Below.refl w.heap.size w)
 have H : ((conf_in.f a0_0 1 8).bind fun t105 => (if t105 = true then ((conf_in.f a0_1 1 1000).bind fun t106 => (if t106 = true then ((conf_in.f a0_2 1 1000).bind fun t107 => (if t107 = true then ((conf_in.f a0_3 0 65536).bind fun t108 => (if t108 = true then ((conf_in.f a0_4 1 16).bind fun t109 => (conf_Check.j0 k (!t109) a0_0 a0_1 a0_2 a0_3 a0_4 l0_5 l0_6)) else (conf_Check.j0 k true a0_0 a0_1 a0_2 a0_3 a0_4 l0_5 l0_6))) else (conf_Check.j0 k true a0_0 a0_1 a0_2 a0_3 a0_4 l0_5 l0_6))) else (conf_Check.j0 k true a0_0 a0_1 a0_2 a0_3 a0_4 l0_5 l0_6))) else (conf_Check.j0 k true a0_0 a0_1 a0_2 a0_3 a0_4 l0_5 l0_6))) = some r := h
 clear h
 have HC2 := As0.mk H
 clear H
 go_enter Tryz.func7, Tryz.ntmps7
 go_upto_region 1 with (first | ((with_reducible refine gate_dst (N := 1) rfl ?_); (try (refine gate_guard (by rfl) ?_; dsimp only)); refine box_event ?hg (N := 1) ?hd (cs := #[.int .i64 a0_0, .int .i64 a0_1, .int .i64 a0_2, .int .i64 a0_3, .int .i64 a0_4, .slice A0_5 l0_5.length c0_5, .slice A0_6 l0_6.length c0_6]) (t := 25) ?hr ?_; (case hd => rfl); (case hg => rfl); (case hr => first | (go_simp; done) | (go_simp; rfl)); intro gb104 hg w3 hbox hb; have n0_ := As0.mk (below_step (by repeat (first | (with_reducible first | exact HB.out | apply bla | apply bln | apply bld) | exact HB.out)) hb); have n1_ := As0.mk (hbox); have n2_ := As0.mk ((by rw [hg]; exact (below_size (by repeat (first | (with_reducible first | exact HB.out | apply bla | apply bln | apply bld) | exact HB.out))) : w.heap.size ≤ gb104)); have n3_ := As0.mk ((by rw [hg]; exact (below_size (by repeat (first | (with_reducible first | exact HB.out | apply bla | apply bln | apply bld) | exact HB.out))) : w.heap.size ≤ gb104)); clear HB; have HB := n0_; have BK104 := n1_; have GW104 := n2_; have GE104 := n3_; clear n0_ n1_ n2_ n3_; clear hb hbox hg))
 repeat (go_quiet (first | ((with_reducible refine gate_dst (N := 1) rfl ?_); (try (refine gate_guard (by rfl) ?_; dsimp only)); refine box_event ?hg (N := 1) ?hd (cs := #[.int .i64 a0_0, .int .i64 a0_1, .int .i64 a0_2, .int .i64 a0_3, .int .i64 a0_4, .slice A0_5 l0_5.length c0_5, .slice A0_6 l0_6.length c0_6]) (t := 25) ?hr ?_; (case hd => rfl); (case hg => rfl); (case hr => first | (go_simp; done) | (go_simp; rfl)); intro gb104 hg w3 hbox hb; have n0_ := As0.mk (below_step (by repeat (first | (with_reducible first | exact HB.out | apply bla | apply bln | apply bld) | exact HB.out)) hb); have n1_ := As0.mk (hbox); have n2_ := As0.mk ((by rw [hg]; exact (below_size (by repeat (first | (with_reducible first | exact HB.out | apply bla | apply bln | apply bld) | exact HB.out))) : w.heap.size ≤ gb104)); have n3_ := As0.mk ((by rw [hg]; exact (below_size (by repeat (first | (with_reducible first | exact HB.out | apply bla | apply bln | apply bld) | exact HB.out))) : w.heap.size ≤ gb104)); clear HB; have HB := n0_; have BK104 := n1_; have GW104 := n2_; have GE104 := n3_; clear n0_ n1_ n2_ n3_; clear hb hbox hg)); go_upto_region 1 with (first | ((with_reducible refine gate_dst (N := 1) rfl ?_); (try (refine gate_guard (by rfl) ?_; dsimp only)); refine box_event ?hg (N := 1) ?hd (cs := #[.int .i64 a0_0, .int .i64 a0_1, .int .i64 a0_2, .int .i64 a0_3, .int .i64 a0_4, .slice A0_5 l0_5.length c0_5, .slice A0_6 l0_6.length c0_6]) (t := 25) ?hr ?_; (case hd => rfl); (case hg => rfl); (case hr => first | (go_simp; done) | (go_simp; rfl)); intro gb104 hg w3 hbox hb; have n0_ := As0.mk (below_step (by repeat (first | (with_reducible first | exact HB.out | apply bla | apply bln | apply bld) | exact HB.out)) hb); have n1_ := As0.mk (hbox); have n2_ := As0.mk ((by rw [hg]; exact (below_size (by repeat (first | (with_reducible first | exact HB.out | apply bla | apply bln | apply bld) | exact HB.out))) : w.heap.size ≤ gb104)); have n3_ := As0.mk ((by rw [hg]; exact (below_size (by repeat (first | (with_reducible first | exact HB.out | apply bla | apply bln | apply bld) | exact HB.out))) : w.heap.size ≤ gb104)); clear HB; have HB := n0_; have BK104 := n1_; have GW104 := n2_; have GE104 := n3_; clear n0_ n1_ n2_ n3_; clear hb hbox hg)))
 (try simp only [Act.put, List.setIfInBounds_toArray, List.set_cons_zero, List.set_cons_succ])
 go_cut [33] (fun v33 wc => ∃ (kq : Nat) (x33_1 : Bool), v33 = .bool x33_1 ∧ As0 (conf_Check.j0 kq x33_1 a0_0 a0_1 a0_2 a0_3 a0_4 l0_5 l0_6 = some r) ∧ As0 (kq ≤ k) ∧ As0 (wc.heap[gb104]? = some (.cells #[.int .i64 a0_0, .int .i64 a0_1, .int .i64 a0_2, .int .i64 a0_3, .int .i64 a0_4, (.slice A0_5 l0_5.length c0_5), (.slice A0_6 l0_6.length c0_6)] 25 (0, 0))) ∧ As0 (Below w.heap.size w wc))
 case first =>
  have H := HC2.out
  clear HC2
  replace H := Option.bind_eq_some_iff.mp H
  obtain ⟨t105, A40, H⟩ := H
  replace H : (if t105 = true then ((conf_in.f a0_1 1 1000).bind fun t106 => (if t106 = true then ((conf_in.f a0_2 1 1000).bind fun t107 => (if t107 = true then ((conf_in.f a0_3 0 65536).bind fun t108 => (if t108 = true then ((conf_in.f a0_4 1 16).bind fun t109 => (conf_Check.j0 k (!t109) a0_0 a0_1 a0_2 a0_3 a0_4 l0_5 l0_6)) else (conf_Check.j0 k true a0_0 a0_1 a0_2 a0_3 a0_4 l0_5 l0_6))) else (conf_Check.j0 k true a0_0 a0_1 a0_2 a0_3 a0_4 l0_5 l0_6))) else (conf_Check.j0 k true a0_0 a0_1 a0_2 a0_3 a0_4 l0_5 l0_6))) else (conf_Check.j0 k true a0_0 a0_1 a0_2 a0_3 a0_4 l0_5 l0_6)) = some r := H
  have A4 := As0.mk A40
  clear A40
  by_cases c5 : t105 = true
  ·
   subst c5
   have H1 : ((conf_in.f a0_1 1 1000).bind fun t106 => (if t106 = true then ((conf_in.f a0_2 1 1000).bind fun t107 => (if t107 = true then ((conf_in.f a0_3 0 65536).bind fun t108 => (if t108 = true then ((conf_in.f a0_4 1 16).bind fun t109 => (conf_Check.j0 k (!t109) a0_0 a0_1 a0_2 a0_3 a0_4 l0_5 l0_6)) else (conf_Check.j0 k true a0_0 a0_1 a0_2 a0_3 a0_4 l0_5 l0_6))) else (conf_Check.j0 k true a0_0 a0_1 a0_2 a0_3 a0_4 l0_5 l0_6))) else (conf_Check.j0 k true a0_0 a0_1 a0_2 a0_3 a0_4 l0_5 l0_6))) = some r := by rw [if_pos rfl] at H; exact H
   clear H
   have H := H1
   clear H1
   replace H := Option.bind_eq_some_iff.mp H
   obtain ⟨t106, A60, H⟩ := H
   replace H : (if t106 = true then ((conf_in.f a0_2 1 1000).bind fun t107 => (if t107 = true then ((conf_in.f a0_3 0 65536).bind fun t108 => (if t108 = true then ((conf_in.f a0_4 1 16).bind fun t109 => (conf_Check.j0 k (!t109) a0_0 a0_1 a0_2 a0_3 a0_4 l0_5 l0_6)) else (conf_Check.j0 k true a0_0 a0_1 a0_2 a0_3 a0_4 l0_5 l0_6))) else (conf_Check.j0 k true a0_0 a0_1 a0_2 a0_3 a0_4 l0_5 l0_6))) else (conf_Check.j0 k true a0_0 a0_1 a0_2 a0_3 a0_4 l0_5 l0_6)) = some r := H
   have A6 := As0.mk A60
   clear A60
   by_cases c7 : t106 = true
   ·
    subst c7
    have H1 : ((conf_in.f a0_2 1 1000).bind fun t107 => (if t107 = true then ((conf_in.f a0_3 0 65536).bind fun t108 => (if t108 = true then ((conf_in.f a0_4 1 16).bind fun t109 => (conf_Check.j0 k (!t109) a0_0 a0_1 a0_2 a0_3 a0_4 l0_5 l0_6)) else (conf_Check.j0 k true a0_0 a0_1 a0_2 a0_3 a0_4 l0_5 l0_6))) else (conf_Check.j0 k true a0_0 a0_1 a0_2 a0_3 a0_4 l0_5 l0_6))) = some r := by rw [if_pos rfl] at H; exact H
    clear H
    have H := H1
    clear H1
    replace H := Option.bind_eq_some_iff.mp H
    obtain ⟨t107, A80, H⟩ := H
    replace H : (if t107 = true then ((conf_in.f a0_3 0 65536).bind fun t108 => (if t108 = true then ((conf_in.f a0_4 1 16).bind fun t109 => (conf_Check.j0 k (!t109) a0_0 a0_1 a0_2 a0_3 a0_4 l0_5 l0_6)) else (conf_Check.j0 k true a0_0 a0_1 a0_2 a0_3 a0_4 l0_5 l0_6))) else (conf_Check.j0 k true a0_0 a0_1 a0_2 a0_3 a0_4 l0_5 l0_6)) = some r := H
    have A8 := As0.mk A80
    clear A80
    by_cases c9 : t107 = true
    ·
     subst c9
     have H1 : ((conf_in.f a0_3 0 65536).bind fun t108 => (if t108 = true then ((conf_in.f a0_4 1 16).bind fun t109 => (conf_Check.j0 k (!t109) a0_0 a0_1 a0_2 a0_3 a0_4 l0_5 l0_6)) else (conf_Check.j0 k true a0_0 a0_1 a0_2 a0_3 a0_4 l0_5 l0_6))) = some r := by rw [if_pos rfl] at H; exact H
     clear H
     have H := H1
     clear H1
     replace H := Option.bind_eq_some_iff.mp H
     obtain ⟨t108, A100, H⟩ := H
     replace H : (if t108 = true then ((conf_in.f a0_4 1 16).bind fun t109 => (conf_Check.j0 k (!t109) a0_0 a0_1 a0_2 a0_3 a0_4 l0_5 l0_6)) else (conf_Check.j0 k true a0_0 a0_1 a0_2 a0_3 a0_4 l0_5 l0_6)) = some r := H
     have A10 := As0.mk A100
     clear A100
     by_cases c11 : t108 = true
     ·
      subst c11
      have H1 : ((conf_in.f a0_4 1 16).bind fun t109 => (conf_Check.j0 k (!t109) a0_0 a0_1 a0_2 a0_3 a0_4 l0_5 l0_6)) = some r := by rw [if_pos rfl] at H; exact H
      clear H
      have H := H1
      clear H1
      replace H := Option.bind_eq_some_iff.mp H
      obtain ⟨t109, A120, H⟩ := H
      replace H : (conf_Check.j0 k (!t109) a0_0 a0_1 a0_2 a0_3 a0_4 l0_5 l0_6) = some r := H
      have A12 := As0.mk A120
      clear A120
      have H' := As0.mk H
      clear H
      have hcz13_0 : w3.cell? ⟨gb104, 0, none⟩ = some (.int .i64 a0_0) := (bkc BK104.out 0).trans rfl
      have hcz13_1 : w3.cell? ⟨gb104, 1, none⟩ = some (.int .i64 a0_1) := (bkc BK104.out 1).trans rfl
      have hcz13_2 : w3.cell? ⟨gb104, 2, none⟩ = some (.int .i64 a0_2) := (bkc BK104.out 2).trans rfl
      have hcz13_3 : w3.cell? ⟨gb104, 3, none⟩ = some (.int .i64 a0_3) := (bkc BK104.out 3).trans rfl
      have hcz13_4 : w3.cell? ⟨gb104, 4, none⟩ = some (.int .i64 a0_4) := (bkc BK104.out 4).trans rfl
      have hcz13_5 : w3.cell? ⟨gb104, 5, none⟩ = some (.slice A0_5 l0_5.length c0_5) := (bkc BK104.out 5).trans rfl
      have hcz13_6 : w3.cell? ⟨gb104, 6, none⟩ = some (.slice A0_6 l0_6.length c0_6) := (bkc BK104.out 6).trans rfl
      have hfz13_0 := bkf BK104.out 0
      have hfz13_1 := bkf BK104.out 1
      have hfz13_2 := bkf BK104.out 2
      have hfz13_3 := bkf BK104.out 3
      have hfz13_4 := bkf BK104.out 4
      have hfz13_5 := bkf BK104.out 5
      have hfz13_6 := bkf BK104.out 6
      go_wp2_with (first | (go_at_call 16; (with_reducible refine (conf_in.calls a0_0 1 8 true _ A4.out).mono ?_); rintro e w' ⟨rfl, ⟨nd, rfl⟩⟩; (try first | exact ⟨rfl, _, World.drewN_drewN _ _ _⟩ | exact ⟨rfl, _, Eq.trans (World.drewN_drewN _ _ _) (congrArg (World.drewN _) (Nat.add_assoc _ _ _))⟩)) | (go_at_call 16; (with_reducible refine (conf_in.calls a0_1 1 1000 true _ A6.out).mono ?_); rintro e w' ⟨rfl, ⟨nd, rfl⟩⟩; (try first | exact ⟨rfl, _, World.drewN_drewN _ _ _⟩ | exact ⟨rfl, _, Eq.trans (World.drewN_drewN _ _ _) (congrArg (World.drewN _) (Nat.add_assoc _ _ _))⟩)) | (go_at_call 16; (with_reducible refine (conf_in.calls a0_2 1 1000 true _ A8.out).mono ?_); rintro e w' ⟨rfl, ⟨nd, rfl⟩⟩; (try first | exact ⟨rfl, _, World.drewN_drewN _ _ _⟩ | exact ⟨rfl, _, Eq.trans (World.drewN_drewN _ _ _) (congrArg (World.drewN _) (Nat.add_assoc _ _ _))⟩)) | (go_at_call 16; (with_reducible refine (conf_in.calls a0_3 0 65536 true _ A10.out).mono ?_); rintro e w' ⟨rfl, ⟨nd, rfl⟩⟩; (try first | exact ⟨rfl, _, World.drewN_drewN _ _ _⟩ | exact ⟨rfl, _, Eq.trans (World.drewN_drewN _ _ _) (congrArg (World.drewN _) (Nat.add_assoc _ _ _))⟩)) | (go_at_call 16; (with_reducible refine (conf_in.calls a0_4 1 16 t109 _ A12.out).mono ?_); rintro e w' ⟨rfl, ⟨nd, rfl⟩⟩; (try first | exact ⟨rfl, _, World.drewN_drewN _ _ _⟩ | exact ⟨rfl, _, Eq.trans (World.drewN_drewN _ _ _) (congrArg (World.drewN _) (Nat.add_assoc _ _ _))⟩)))
      repeat (go_quiet (first | (go_at_call 16; (with_reducible refine (conf_in.calls a0_0 1 8 true _ A4.out).mono ?_); rintro e w' ⟨rfl, ⟨nd, rfl⟩⟩; (try first | exact ⟨rfl, _, World.drewN_drewN _ _ _⟩ | exact ⟨rfl, _, Eq.trans (World.drewN_drewN _ _ _) (congrArg (World.drewN _) (Nat.add_assoc _ _ _))⟩)) | (go_at_call 16; (with_reducible refine (conf_in.calls a0_1 1 1000 true _ A6.out).mono ?_); rintro e w' ⟨rfl, ⟨nd, rfl⟩⟩; (try first | exact ⟨rfl, _, World.drewN_drewN _ _ _⟩ | exact ⟨rfl, _, Eq.trans (World.drewN_drewN _ _ _) (congrArg (World.drewN _) (Nat.add_assoc _ _ _))⟩)) | (go_at_call 16; (with_reducible refine (conf_in.calls a0_2 1 1000 true _ A8.out).mono ?_); rintro e w' ⟨rfl, ⟨nd, rfl⟩⟩; (try first | exact ⟨rfl, _, World.drewN_drewN _ _ _⟩ | exact ⟨rfl, _, Eq.trans (World.drewN_drewN _ _ _) (congrArg (World.drewN _) (Nat.add_assoc _ _ _))⟩)) | (go_at_call 16; (with_reducible refine (conf_in.calls a0_3 0 65536 true _ A10.out).mono ?_); rintro e w' ⟨rfl, ⟨nd, rfl⟩⟩; (try first | exact ⟨rfl, _, World.drewN_drewN _ _ _⟩ | exact ⟨rfl, _, Eq.trans (World.drewN_drewN _ _ _) (congrArg (World.drewN _) (Nat.add_assoc _ _ _))⟩)) | (go_at_call 16; (with_reducible refine (conf_in.calls a0_4 1 16 t109 _ A12.out).mono ?_); rintro e w' ⟨rfl, ⟨nd, rfl⟩⟩; (try first | exact ⟨rfl, _, World.drewN_drewN _ _ _⟩ | exact ⟨rfl, _, Eq.trans (World.drewN_drewN _ _ _) (congrArg (World.drewN _) (Nat.add_assoc _ _ _))⟩))); try go_wp2_with (first | (go_at_call 16; (with_reducible refine (conf_in.calls a0_0 1 8 true _ A4.out).mono ?_); rintro e w' ⟨rfl, ⟨nd, rfl⟩⟩; (try first | exact ⟨rfl, _, World.drewN_drewN _ _ _⟩ | exact ⟨rfl, _, Eq.trans (World.drewN_drewN _ _ _) (congrArg (World.drewN _) (Nat.add_assoc _ _ _))⟩)) | (go_at_call 16; (with_reducible refine (conf_in.calls a0_1 1 1000 true _ A6.out).mono ?_); rintro e w' ⟨rfl, ⟨nd, rfl⟩⟩; (try first | exact ⟨rfl, _, World.drewN_drewN _ _ _⟩ | exact ⟨rfl, _, Eq.trans (World.drewN_drewN _ _ _) (congrArg (World.drewN _) (Nat.add_assoc _ _ _))⟩)) | (go_at_call 16; (with_reducible refine (conf_in.calls a0_2 1 1000 true _ A8.out).mono ?_); rintro e w' ⟨rfl, ⟨nd, rfl⟩⟩; (try first | exact ⟨rfl, _, World.drewN_drewN _ _ _⟩ | exact ⟨rfl, _, Eq.trans (World.drewN_drewN _ _ _) (congrArg (World.drewN _) (Nat.add_assoc _ _ _))⟩)) | (go_at_call 16; (with_reducible refine (conf_in.calls a0_3 0 65536 true _ A10.out).mono ?_); rintro e w' ⟨rfl, ⟨nd, rfl⟩⟩; (try first | exact ⟨rfl, _, World.drewN_drewN _ _ _⟩ | exact ⟨rfl, _, Eq.trans (World.drewN_drewN _ _ _) (congrArg (World.drewN _) (Nat.add_assoc _ _ _))⟩)) | (go_at_call 16; (with_reducible refine (conf_in.calls a0_4 1 16 t109 _ A12.out).mono ?_); rintro e w' ⟨rfl, ⟨nd, rfl⟩⟩; (try first | exact ⟨rfl, _, World.drewN_drewN _ _ _⟩ | exact ⟨rfl, _, Eq.trans (World.drewN_drewN _ _ _) (congrArg (World.drewN _) (Nat.add_assoc _ _ _))⟩))))
      go_meet
      case rel => exact ⟨_, (!t109), (by first | rfl | (simp; done) | (simp [*]; done)), H', ⟨by first | omega | exact Nat.le_refl _⟩, ⟨by (with_reducible repeat (first | refine bkn ?_ _ | refine bkd ?_ | refine bka ?_ _)); exact BK104.out⟩, ⟨by repeat (first | (with_reducible first | exact HB.out | apply bla | apply bln | apply bld | refine bls ?_ GE104.out) | exact HB.out)⟩⟩
     ·
      replace c11 := Bool.eq_false_iff.mpr c11
      subst c11
      have H1 : (conf_Check.j0 k true a0_0 a0_1 a0_2 a0_3 a0_4 l0_5 l0_6) = some r := by rw [if_neg (show ¬ (false = true) by decide)] at H; exact H
      clear H
      have H := H1
      clear H1
      have H' := As0.mk H
      clear H
      have hcz14_0 : w3.cell? ⟨gb104, 0, none⟩ = some (.int .i64 a0_0) := (bkc BK104.out 0).trans rfl
      have hcz14_1 : w3.cell? ⟨gb104, 1, none⟩ = some (.int .i64 a0_1) := (bkc BK104.out 1).trans rfl
      have hcz14_2 : w3.cell? ⟨gb104, 2, none⟩ = some (.int .i64 a0_2) := (bkc BK104.out 2).trans rfl
      have hcz14_3 : w3.cell? ⟨gb104, 3, none⟩ = some (.int .i64 a0_3) := (bkc BK104.out 3).trans rfl
      have hcz14_4 : w3.cell? ⟨gb104, 4, none⟩ = some (.int .i64 a0_4) := (bkc BK104.out 4).trans rfl
      have hcz14_5 : w3.cell? ⟨gb104, 5, none⟩ = some (.slice A0_5 l0_5.length c0_5) := (bkc BK104.out 5).trans rfl
      have hcz14_6 : w3.cell? ⟨gb104, 6, none⟩ = some (.slice A0_6 l0_6.length c0_6) := (bkc BK104.out 6).trans rfl
      have hfz14_0 := bkf BK104.out 0
      have hfz14_1 := bkf BK104.out 1
      have hfz14_2 := bkf BK104.out 2
      have hfz14_3 := bkf BK104.out 3
      have hfz14_4 := bkf BK104.out 4
      have hfz14_5 := bkf BK104.out 5
      have hfz14_6 := bkf BK104.out 6
      go_wp2_with (first | (go_at_call 16; (with_reducible refine (conf_in.calls a0_0 1 8 true _ A4.out).mono ?_); rintro e w' ⟨rfl, ⟨nd, rfl⟩⟩; (try first | exact ⟨rfl, _, World.drewN_drewN _ _ _⟩ | exact ⟨rfl, _, Eq.trans (World.drewN_drewN _ _ _) (congrArg (World.drewN _) (Nat.add_assoc _ _ _))⟩)) | (go_at_call 16; (with_reducible refine (conf_in.calls a0_1 1 1000 true _ A6.out).mono ?_); rintro e w' ⟨rfl, ⟨nd, rfl⟩⟩; (try first | exact ⟨rfl, _, World.drewN_drewN _ _ _⟩ | exact ⟨rfl, _, Eq.trans (World.drewN_drewN _ _ _) (congrArg (World.drewN _) (Nat.add_assoc _ _ _))⟩)) | (go_at_call 16; (with_reducible refine (conf_in.calls a0_2 1 1000 true _ A8.out).mono ?_); rintro e w' ⟨rfl, ⟨nd, rfl⟩⟩; (try first | exact ⟨rfl, _, World.drewN_drewN _ _ _⟩ | exact ⟨rfl, _, Eq.trans (World.drewN_drewN _ _ _) (congrArg (World.drewN _) (Nat.add_assoc _ _ _))⟩)) | (go_at_call 16; (with_reducible refine (conf_in.calls a0_3 0 65536 false _ A10.out).mono ?_); rintro e w' ⟨rfl, ⟨nd, rfl⟩⟩; (try first | exact ⟨rfl, _, World.drewN_drewN _ _ _⟩ | exact ⟨rfl, _, Eq.trans (World.drewN_drewN _ _ _) (congrArg (World.drewN _) (Nat.add_assoc _ _ _))⟩)))
      repeat (go_quiet (first | (go_at_call 16; (with_reducible refine (conf_in.calls a0_0 1 8 true _ A4.out).mono ?_); rintro e w' ⟨rfl, ⟨nd, rfl⟩⟩; (try first | exact ⟨rfl, _, World.drewN_drewN _ _ _⟩ | exact ⟨rfl, _, Eq.trans (World.drewN_drewN _ _ _) (congrArg (World.drewN _) (Nat.add_assoc _ _ _))⟩)) | (go_at_call 16; (with_reducible refine (conf_in.calls a0_1 1 1000 true _ A6.out).mono ?_); rintro e w' ⟨rfl, ⟨nd, rfl⟩⟩; (try first | exact ⟨rfl, _, World.drewN_drewN _ _ _⟩ | exact ⟨rfl, _, Eq.trans (World.drewN_drewN _ _ _) (congrArg (World.drewN _) (Nat.add_assoc _ _ _))⟩)) | (go_at_call 16; (with_reducible refine (conf_in.calls a0_2 1 1000 true _ A8.out).mono ?_); rintro e w' ⟨rfl, ⟨nd, rfl⟩⟩; (try first | exact ⟨rfl, _, World.drewN_drewN _ _ _⟩ | exact ⟨rfl, _, Eq.trans (World.drewN_drewN _ _ _) (congrArg (World.drewN _) (Nat.add_assoc _ _ _))⟩)) | (go_at_call 16; (with_reducible refine (conf_in.calls a0_3 0 65536 false _ A10.out).mono ?_); rintro e w' ⟨rfl, ⟨nd, rfl⟩⟩; (try first | exact ⟨rfl, _, World.drewN_drewN _ _ _⟩ | exact ⟨rfl, _, Eq.trans (World.drewN_drewN _ _ _) (congrArg (World.drewN _) (Nat.add_assoc _ _ _))⟩))); try go_wp2_with (first | (go_at_call 16; (with_reducible refine (conf_in.calls a0_0 1 8 true _ A4.out).mono ?_); rintro e w' ⟨rfl, ⟨nd, rfl⟩⟩; (try first | exact ⟨rfl, _, World.drewN_drewN _ _ _⟩ | exact ⟨rfl, _, Eq.trans (World.drewN_drewN _ _ _) (congrArg (World.drewN _) (Nat.add_assoc _ _ _))⟩)) | (go_at_call 16; (with_reducible refine (conf_in.calls a0_1 1 1000 true _ A6.out).mono ?_); rintro e w' ⟨rfl, ⟨nd, rfl⟩⟩; (try first | exact ⟨rfl, _, World.drewN_drewN _ _ _⟩ | exact ⟨rfl, _, Eq.trans (World.drewN_drewN _ _ _) (congrArg (World.drewN _) (Nat.add_assoc _ _ _))⟩)) | (go_at_call 16; (with_reducible refine (conf_in.calls a0_2 1 1000 true _ A8.out).mono ?_); rintro e w' ⟨rfl, ⟨nd, rfl⟩⟩; (try first | exact ⟨rfl, _, World.drewN_drewN _ _ _⟩ | exact ⟨rfl, _, Eq.trans (World.drewN_drewN _ _ _) (congrArg (World.drewN _) (Nat.add_assoc _ _ _))⟩)) | (go_at_call 16; (with_reducible refine (conf_in.calls a0_3 0 65536 false _ A10.out).mono ?_); rintro e w' ⟨rfl, ⟨nd, rfl⟩⟩; (try first | exact ⟨rfl, _, World.drewN_drewN _ _ _⟩ | exact ⟨rfl, _, Eq.trans (World.drewN_drewN _ _ _) (congrArg (World.drewN _) (Nat.add_assoc _ _ _))⟩))))
      go_meet
      case rel => exact ⟨_, (true), (by first | rfl | (simp; done) | (simp [*]; done)), H', ⟨by first | omega | exact Nat.le_refl _⟩, ⟨by (with_reducible repeat (first | refine bkn ?_ _ | refine bkd ?_ | refine bka ?_ _)); exact BK104.out⟩, ⟨by repeat (first | (with_reducible first | exact HB.out | apply bla | apply bln | apply bld | refine bls ?_ GE104.out) | exact HB.out)⟩⟩
    ·
     replace c9 := Bool.eq_false_iff.mpr c9
     subst c9
     have H1 : (conf_Check.j0 k true a0_0 a0_1 a0_2 a0_3 a0_4 l0_5 l0_6) = some r := by rw [if_neg (show ¬ (false = true) by decide)] at H; exact H
     clear H
     have H := H1
     clear H1
     have H' := As0.mk H
     clear H
     have hcz15_0 : w3.cell? ⟨gb104, 0, none⟩ = some (.int .i64 a0_0) := (bkc BK104.out 0).trans rfl
     have hcz15_1 : w3.cell? ⟨gb104, 1, none⟩ = some (.int .i64 a0_1) := (bkc BK104.out 1).trans rfl
     have hcz15_2 : w3.cell? ⟨gb104, 2, none⟩ = some (.int .i64 a0_2) := (bkc BK104.out 2).trans rfl
     have hcz15_3 : w3.cell? ⟨gb104, 3, none⟩ = some (.int .i64 a0_3) := (bkc BK104.out 3).trans rfl
     have hcz15_4 : w3.cell? ⟨gb104, 4, none⟩ = some (.int .i64 a0_4) := (bkc BK104.out 4).trans rfl
     have hcz15_5 : w3.cell? ⟨gb104, 5, none⟩ = some (.slice A0_5 l0_5.length c0_5) := (bkc BK104.out 5).trans rfl
     have hcz15_6 : w3.cell? ⟨gb104, 6, none⟩ = some (.slice A0_6 l0_6.length c0_6) := (bkc BK104.out 6).trans rfl
     have hfz15_0 := bkf BK104.out 0
     have hfz15_1 := bkf BK104.out 1
     have hfz15_2 := bkf BK104.out 2
     have hfz15_3 := bkf BK104.out 3
     have hfz15_4 := bkf BK104.out 4
     have hfz15_5 := bkf BK104.out 5
     have hfz15_6 := bkf BK104.out 6
     go_wp2_with (first | (go_at_call 16; (with_reducible refine (conf_in.calls a0_0 1 8 true _ A4.out).mono ?_); rintro e w' ⟨rfl, ⟨nd, rfl⟩⟩; (try first | exact ⟨rfl, _, World.drewN_drewN _ _ _⟩ | exact ⟨rfl, _, Eq.trans (World.drewN_drewN _ _ _) (congrArg (World.drewN _) (Nat.add_assoc _ _ _))⟩)) | (go_at_call 16; (with_reducible refine (conf_in.calls a0_1 1 1000 true _ A6.out).mono ?_); rintro e w' ⟨rfl, ⟨nd, rfl⟩⟩; (try first | exact ⟨rfl, _, World.drewN_drewN _ _ _⟩ | exact ⟨rfl, _, Eq.trans (World.drewN_drewN _ _ _) (congrArg (World.drewN _) (Nat.add_assoc _ _ _))⟩)) | (go_at_call 16; (with_reducible refine (conf_in.calls a0_2 1 1000 false _ A8.out).mono ?_); rintro e w' ⟨rfl, ⟨nd, rfl⟩⟩; (try first | exact ⟨rfl, _, World.drewN_drewN _ _ _⟩ | exact ⟨rfl, _, Eq.trans (World.drewN_drewN _ _ _) (congrArg (World.drewN _) (Nat.add_assoc _ _ _))⟩)))
     repeat (go_quiet (first | (go_at_call 16; (with_reducible refine (conf_in.calls a0_0 1 8 true _ A4.out).mono ?_); rintro e w' ⟨rfl, ⟨nd, rfl⟩⟩; (try first | exact ⟨rfl, _, World.drewN_drewN _ _ _⟩ | exact ⟨rfl, _, Eq.trans (World.drewN_drewN _ _ _) (congrArg (World.drewN _) (Nat.add_assoc _ _ _))⟩)) | (go_at_call 16; (with_reducible refine (conf_in.calls a0_1 1 1000 true _ A6.out).mono ?_); rintro e w' ⟨rfl, ⟨nd, rfl⟩⟩; (try first | exact ⟨rfl, _, World.drewN_drewN _ _ _⟩ | exact ⟨rfl, _, Eq.trans (World.drewN_drewN _ _ _) (congrArg (World.drewN _) (Nat.add_assoc _ _ _))⟩)) | (go_at_call 16; (with_reducible refine (conf_in.calls a0_2 1 1000 false _ A8.out).mono ?_); rintro e w' ⟨rfl, ⟨nd, rfl⟩⟩; (try first | exact ⟨rfl, _, World.drewN_drewN _ _ _⟩ | exact ⟨rfl, _, Eq.trans (World.drewN_drewN _ _ _) (congrArg (World.drewN _) (Nat.add_assoc _ _ _))⟩))); try go_wp2_with (first | (go_at_call 16; (with_reducible refine (conf_in.calls a0_0 1 8 true _ A4.out).mono ?_); rintro e w' ⟨rfl, ⟨nd, rfl⟩⟩; (try first | exact ⟨rfl, _, World.drewN_drewN _ _ _⟩ | exact ⟨rfl, _, Eq.trans (World.drewN_drewN _ _ _) (congrArg (World.drewN _) (Nat.add_assoc _ _ _))⟩)) | (go_at_call 16; (with_reducible refine (conf_in.calls a0_1 1 1000 true _ A6.out).mono ?_); rintro e w' ⟨rfl, ⟨nd, rfl⟩⟩; (try first | exact ⟨rfl, _, World.drewN_drewN _ _ _⟩ | exact ⟨rfl, _, Eq.trans (World.drewN_drewN _ _ _) (congrArg (World.drewN _) (Nat.add_assoc _ _ _))⟩)) | (go_at_call 16; (with_reducible refine (conf_in.calls a0_2 1 1000 false _ A8.out).mono ?_); rintro e w' ⟨rfl, ⟨nd, rfl⟩⟩; (try first | exact ⟨rfl, _, World.drewN_drewN _ _ _⟩ | exact ⟨rfl, _, Eq.trans (World.drewN_drewN _ _ _) (congrArg (World.drewN _) (Nat.add_assoc _ _ _))⟩))))
     go_meet
     case rel => exact ⟨_, (true), (by first | rfl | (simp; done) | (simp [*]; done)), H', ⟨by first | omega | exact Nat.le_refl _⟩, ⟨by (with_reducible repeat (first | refine bkn ?_ _ | refine bkd ?_ | refine bka ?_ _)); exact BK104.out⟩, ⟨by repeat (first | (with_reducible first | exact HB.out | apply bla | apply bln | apply bld | refine bls ?_ GE104.out) | exact HB.out)⟩⟩
   ·
    replace c7 := Bool.eq_false_iff.mpr c7
    subst c7
    have H1 : (conf_Check.j0 k true a0_0 a0_1 a0_2 a0_3 a0_4 l0_5 l0_6) = some r := by rw [if_neg (show ¬ (false = true) by decide)] at H; exact H
    clear H
    have H := H1
    clear H1
    have H' := As0.mk H
    clear H
    have hcz16_0 : w3.cell? ⟨gb104, 0, none⟩ = some (.int .i64 a0_0) := (bkc BK104.out 0).trans rfl
    have hcz16_1 : w3.cell? ⟨gb104, 1, none⟩ = some (.int .i64 a0_1) := (bkc BK104.out 1).trans rfl
    have hcz16_2 : w3.cell? ⟨gb104, 2, none⟩ = some (.int .i64 a0_2) := (bkc BK104.out 2).trans rfl
    have hcz16_3 : w3.cell? ⟨gb104, 3, none⟩ = some (.int .i64 a0_3) := (bkc BK104.out 3).trans rfl
    have hcz16_4 : w3.cell? ⟨gb104, 4, none⟩ = some (.int .i64 a0_4) := (bkc BK104.out 4).trans rfl
    have hcz16_5 : w3.cell? ⟨gb104, 5, none⟩ = some (.slice A0_5 l0_5.length c0_5) := (bkc BK104.out 5).trans rfl
    have hcz16_6 : w3.cell? ⟨gb104, 6, none⟩ = some (.slice A0_6 l0_6.length c0_6) := (bkc BK104.out 6).trans rfl
    have hfz16_0 := bkf BK104.out 0
    have hfz16_1 := bkf BK104.out 1
    have hfz16_2 := bkf BK104.out 2
    have hfz16_3 := bkf BK104.out 3
    have hfz16_4 := bkf BK104.out 4
    have hfz16_5 := bkf BK104.out 5
    have hfz16_6 := bkf BK104.out 6
    go_wp2_with (first | (go_at_call 16; (with_reducible refine (conf_in.calls a0_0 1 8 true _ A4.out).mono ?_); rintro e w' ⟨rfl, ⟨nd, rfl⟩⟩; (try first | exact ⟨rfl, _, World.drewN_drewN _ _ _⟩ | exact ⟨rfl, _, Eq.trans (World.drewN_drewN _ _ _) (congrArg (World.drewN _) (Nat.add_assoc _ _ _))⟩)) | (go_at_call 16; (with_reducible refine (conf_in.calls a0_1 1 1000 false _ A6.out).mono ?_); rintro e w' ⟨rfl, ⟨nd, rfl⟩⟩; (try first | exact ⟨rfl, _, World.drewN_drewN _ _ _⟩ | exact ⟨rfl, _, Eq.trans (World.drewN_drewN _ _ _) (congrArg (World.drewN _) (Nat.add_assoc _ _ _))⟩)))
    repeat (go_quiet (first | (go_at_call 16; (with_reducible refine (conf_in.calls a0_0 1 8 true _ A4.out).mono ?_); rintro e w' ⟨rfl, ⟨nd, rfl⟩⟩; (try first | exact ⟨rfl, _, World.drewN_drewN _ _ _⟩ | exact ⟨rfl, _, Eq.trans (World.drewN_drewN _ _ _) (congrArg (World.drewN _) (Nat.add_assoc _ _ _))⟩)) | (go_at_call 16; (with_reducible refine (conf_in.calls a0_1 1 1000 false _ A6.out).mono ?_); rintro e w' ⟨rfl, ⟨nd, rfl⟩⟩; (try first | exact ⟨rfl, _, World.drewN_drewN _ _ _⟩ | exact ⟨rfl, _, Eq.trans (World.drewN_drewN _ _ _) (congrArg (World.drewN _) (Nat.add_assoc _ _ _))⟩))); try go_wp2_with (first | (go_at_call 16; (with_reducible refine (conf_in.calls a0_0 1 8 true _ A4.out).mono ?_); rintro e w' ⟨rfl, ⟨nd, rfl⟩⟩; (try first | exact ⟨rfl, _, World.drewN_drewN _ _ _⟩ | exact ⟨rfl, _, Eq.trans (World.drewN_drewN _ _ _) (congrArg (World.drewN _) (Nat.add_assoc _ _ _))⟩)) | (go_at_call 16; (with_reducible refine (conf_in.calls a0_1 1 1000 false _ A6.out).mono ?_); rintro e w' ⟨rfl, ⟨nd, rfl⟩⟩; (try first | exact ⟨rfl, _, World.drewN_drewN _ _ _⟩ | exact ⟨rfl, _, Eq.trans (World.drewN_drewN _ _ _) (congrArg (World.drewN _) (Nat.add_assoc _ _ _))⟩))))
    go_meet
    case rel => exact ⟨_, (true), (by first | rfl | (simp; done) | (simp [*]; done)), H', ⟨by first | omega | exact Nat.le_refl _⟩, ⟨by (with_reducible repeat (first | refine bkn ?_ _ | refine bkd ?_ | refine bka ?_ _)); exact BK104.out⟩, ⟨by repeat (first | (with_reducible first | exact HB.out | apply bla | apply bln | apply bld | refine bls ?_ GE104.out) | exact HB.out)⟩⟩
  ·
   replace c5 := Bool.eq_false_iff.mpr c5
   subst c5
   have H1 : (conf_Check.j0 k true a0_0 a0_1 a0_2 a0_3 a0_4 l0_5 l0_6) = some r := by rw [if_neg (show ¬ (false = true) by decide)] at H; exact H
   clear H
   have H := H1
   clear H1
   have H' := As0.mk H
   clear H
   have hcz17_0 : w3.cell? ⟨gb104, 0, none⟩ = some (.int .i64 a0_0) := (bkc BK104.out 0).trans rfl
   have hcz17_1 : w3.cell? ⟨gb104, 1, none⟩ = some (.int .i64 a0_1) := (bkc BK104.out 1).trans rfl
   have hcz17_2 : w3.cell? ⟨gb104, 2, none⟩ = some (.int .i64 a0_2) := (bkc BK104.out 2).trans rfl
   have hcz17_3 : w3.cell? ⟨gb104, 3, none⟩ = some (.int .i64 a0_3) := (bkc BK104.out 3).trans rfl
   have hcz17_4 : w3.cell? ⟨gb104, 4, none⟩ = some (.int .i64 a0_4) := (bkc BK104.out 4).trans rfl
   have hcz17_5 : w3.cell? ⟨gb104, 5, none⟩ = some (.slice A0_5 l0_5.length c0_5) := (bkc BK104.out 5).trans rfl
   have hcz17_6 : w3.cell? ⟨gb104, 6, none⟩ = some (.slice A0_6 l0_6.length c0_6) := (bkc BK104.out 6).trans rfl
   have hfz17_0 := bkf BK104.out 0
   have hfz17_1 := bkf BK104.out 1
   have hfz17_2 := bkf BK104.out 2
   have hfz17_3 := bkf BK104.out 3
   have hfz17_4 := bkf BK104.out 4
   have hfz17_5 := bkf BK104.out 5
   have hfz17_6 := bkf BK104.out 6
   go_wp2_with (first | (go_at_call 16; (with_reducible refine (conf_in.calls a0_0 1 8 false _ A4.out).mono ?_); rintro e w' ⟨rfl, ⟨nd, rfl⟩⟩; (try first | exact ⟨rfl, _, World.drewN_drewN _ _ _⟩ | exact ⟨rfl, _, Eq.trans (World.drewN_drewN _ _ _) (congrArg (World.drewN _) (Nat.add_assoc _ _ _))⟩)))
   repeat (go_quiet (first | (go_at_call 16; (with_reducible refine (conf_in.calls a0_0 1 8 false _ A4.out).mono ?_); rintro e w' ⟨rfl, ⟨nd, rfl⟩⟩; (try first | exact ⟨rfl, _, World.drewN_drewN _ _ _⟩ | exact ⟨rfl, _, Eq.trans (World.drewN_drewN _ _ _) (congrArg (World.drewN _) (Nat.add_assoc _ _ _))⟩))); try go_wp2_with (first | (go_at_call 16; (with_reducible refine (conf_in.calls a0_0 1 8 false _ A4.out).mono ?_); rintro e w' ⟨rfl, ⟨nd, rfl⟩⟩; (try first | exact ⟨rfl, _, World.drewN_drewN _ _ _⟩ | exact ⟨rfl, _, Eq.trans (World.drewN_drewN _ _ _) (congrArg (World.drewN _) (Nat.add_assoc _ _ _))⟩))))
   go_meet
   case rel => exact ⟨_, (true), (by first | rfl | (simp; done) | (simp [*]; done)), H', ⟨by first | omega | exact Nat.le_refl _⟩, ⟨by (with_reducible repeat (first | refine bkn ?_ _ | refine bkd ?_ | refine bka ?_ _)); exact BK104.out⟩, ⟨by repeat (first | (with_reducible first | exact HB.out | apply bla | apply bln | apply bld | refine bls ?_ GE104.out) | exact HB.out)⟩⟩
 case rest =>
  clear HC2
  try clear c1
  try clear p2
  try clear c5
  try clear c7
  try clear c9
  try clear c11
  try clear hcz13_0
  try clear hcz13_1
  try clear hcz13_2
  try clear hcz13_3
  try clear hcz13_4
  try clear hcz13_5
  try clear hcz13_6
  try clear hcz14_0
  try clear hcz14_1
  try clear hcz14_2
  try clear hcz14_3
  try clear hcz14_4
  try clear hcz14_5
  try clear hcz14_6
  try clear hcz15_0
  try clear hcz15_1
  try clear hcz15_2
  try clear hcz15_3
  try clear hcz15_4
  try clear hcz15_5
  try clear hcz15_6
  try clear hcz16_0
  try clear hcz16_1
  try clear hcz16_2
  try clear hcz16_3
  try clear hcz16_4
  try clear hcz16_5
  try clear hcz16_6
  try clear hcz17_0
  try clear hcz17_1
  try clear hcz17_2
  try clear hcz17_3
  try clear hcz17_4
  try clear hcz17_5
  try clear hcz17_6
  try clear hfz13_0
  try clear hfz13_1
  try clear hfz13_2
  try clear hfz13_3
  try clear hfz13_4
  try clear hfz13_5
  try clear hfz13_6
  try clear hfz14_0
  try clear hfz14_1
  try clear hfz14_2
  try clear hfz14_3
  try clear hfz14_4
  try clear hfz14_5
  try clear hfz14_6
  try clear hfz15_0
  try clear hfz15_1
  try clear hfz15_2
  try clear hfz15_3
  try clear hfz15_4
  try clear hfz15_5
  try clear hfz15_6
  try clear hfz16_0
  try clear hfz16_1
  try clear hfz16_2
  try clear hfz16_3
  try clear hfz16_4
  try clear hfz16_5
  try clear hfz16_6
  try clear hfz17_0
  try clear hfz17_1
  try clear hfz17_2
  try clear hfz17_3
  try clear hfz17_4
  try clear hfz17_5
  try clear hfz17_6
  obtain ⟨kq, x33_1, rfl, HA, HJ1, BK104, HB⟩ := hcut
  cases kq with
  | zero => exact absurd HA.out (by simp [conf_Check.j0])
  | succ kj1 =>
   have H := HA.out
   clear HA
   simp only [conf_Check.j0] at H
   by_cases c18 : x33_1 = true
   ·
    subst c18
    have H1 : (some 1) = some r := by rw [if_pos rfl] at H; exact H
    clear H
    have H := H1
    clear H1
    obtain rfl := Option.some.inj H
    go_wp2
    repeat (go_quiet (fail); try go_wp2)
    go_ret
    exact ⟨by first | rfl | (simp [errW_none, errW_some] <;> rfl) | (simp [*, errW_none, errW_some] <;> rfl), by repeat (first | (with_reducible first | exact HB.out | apply bla | apply bln | apply bld | refine bls ?_ GE104.out) | exact HB.out)⟩
   ·
    replace c18 := Bool.eq_false_iff.mpr c18
    subst c18
    have H1 : ((names_Check.f l0_5).bind fun t110 => (if t110 = 0 then ((conf_in.f (l0_6.length : Int) 1 64).bind fun t111 => (if t111 = true then (conf_Check.l0 kj1 l0_6 (l0_6.length : Int) 0 a0_0 a0_1 a0_2 a0_3 a0_4 l0_5 l0_6) else (some 1))) else (some t110))) = some r := by rw [if_neg (show ¬ (false = true) by decide)] at H; exact H
    clear H
    have H := H1
    clear H1
    replace H := Option.bind_eq_some_iff.mp H
    obtain ⟨t110, A190, H⟩ := H
    replace H : (if t110 = 0 then ((conf_in.f (l0_6.length : Int) 1 64).bind fun t111 => (if t111 = true then (conf_Check.l0 kj1 l0_6 (l0_6.length : Int) 0 a0_0 a0_1 a0_2 a0_3 a0_4 l0_5 l0_6) else (some 1))) else (some t110)) = some r := H
    have A19 := As0.mk A190
    clear A190
    by_cases c20 : t110 = 0
    ·
     rw [if_pos c20] at H
     have c20b0 : (t110 == 0) = true := beq_iff_eq.mpr c20
     have c20b1 : (t110 != 0) = false := bne_eq_false_iff_eq.mpr c20
     clear c20
     replace H := Option.bind_eq_some_iff.mp H
     obtain ⟨t111, A210, H⟩ := H
     replace H : (if t111 = true then (conf_Check.l0 kj1 l0_6 (l0_6.length : Int) 0 a0_0 a0_1 a0_2 a0_3 a0_4 l0_5 l0_6) else (some 1)) = some r := H
     have A21 := As0.mk A210
     clear A210
     by_cases c22 : t111 = true
     ·
      subst c22
      have H1 : (conf_Check.l0 kj1 l0_6 (l0_6.length : Int) 0 a0_0 a0_1 a0_2 a0_3 a0_4 l0_5 l0_6) = some r := by rw [if_pos rfl] at H; exact H
      clear H
      have H := H1
      clear H1
      have H' := As0.mk H
      clear H
      have hcz23_0 : wc.cell? ⟨gb104, 0, none⟩ = some (.int .i64 a0_0) := (bkc BK104.out 0).trans rfl
      have hcz23_1 : wc.cell? ⟨gb104, 1, none⟩ = some (.int .i64 a0_1) := (bkc BK104.out 1).trans rfl
      have hcz23_2 : wc.cell? ⟨gb104, 2, none⟩ = some (.int .i64 a0_2) := (bkc BK104.out 2).trans rfl
      have hcz23_3 : wc.cell? ⟨gb104, 3, none⟩ = some (.int .i64 a0_3) := (bkc BK104.out 3).trans rfl
      have hcz23_4 : wc.cell? ⟨gb104, 4, none⟩ = some (.int .i64 a0_4) := (bkc BK104.out 4).trans rfl
      have hcz23_5 : wc.cell? ⟨gb104, 5, none⟩ = some (.slice A0_5 l0_5.length c0_5) := (bkc BK104.out 5).trans rfl
      have hcz23_6 : wc.cell? ⟨gb104, 6, none⟩ = some (.slice A0_6 l0_6.length c0_6) := (bkc BK104.out 6).trans rfl
      have hfz23_0 := bkf BK104.out 0
      have hfz23_1 := bkf BK104.out 1
      have hfz23_2 := bkf BK104.out 2
      have hfz23_3 := bkf BK104.out 3
      have hfz23_4 := bkf BK104.out 4
      have hfz23_5 := bkf BK104.out 5
      have hfz23_6 := bkf BK104.out 6
      go_wp2_with (first | (go_at_call 17; (with_reducible refine (names_Check.calls _ _ l0_5 t110 _ ?side1 ?side2 A19.out).mono ?_); (case side1 => repeat (first | exact (Kd.C_below HR0_5.out HB.out) | (with_reducible refine Kd.C_alloc ?_ _) | (with_reducible refine Kd.C_drewN ?_ _) | (with_reducible refine Kd.C_drew ?_))); (case side2 => exact HC0_5.out); rintro e w24 ⟨rfl, hb⟩; have n0_ := As0.mk (blk_below (g := gb104) (o := .cells #[.int .i64 a0_0, .int .i64 a0_1, .int .i64 a0_2, .int .i64 a0_3, .int .i64 a0_4, .slice A0_5 l0_5.length c0_5, .slice A0_6 l0_6.length c0_6] 25 (0, 0)) (by (with_reducible repeat (first | refine bkn ?_ _ | refine bkd ?_ | refine bka ?_ _)); exact BK104.out) hb); have n1_ := As0.mk (below_step (by repeat (first | (with_reducible first | exact HB.out | apply bla | apply bln | apply bld | refine bls ?_ GE104.out) | exact HB.out)) hb); clear BK104; clear HB; have BK104 := n0_; have HB := n1_; clear n0_ n1_; (try clear hb); (try clear hb2); (try clear hk); (try clear hi); have hcz25_0 : w24.cell? ⟨gb104, 0, none⟩ = some (.int .i64 a0_0) := (bkc BK104.out 0).trans rfl; have hcz25_1 : w24.cell? ⟨gb104, 1, none⟩ = some (.int .i64 a0_1) := (bkc BK104.out 1).trans rfl; have hcz25_2 : w24.cell? ⟨gb104, 2, none⟩ = some (.int .i64 a0_2) := (bkc BK104.out 2).trans rfl; have hcz25_3 : w24.cell? ⟨gb104, 3, none⟩ = some (.int .i64 a0_3) := (bkc BK104.out 3).trans rfl; have hcz25_4 : w24.cell? ⟨gb104, 4, none⟩ = some (.int .i64 a0_4) := (bkc BK104.out 4).trans rfl; have hcz25_5 : w24.cell? ⟨gb104, 5, none⟩ = some (.slice A0_5 l0_5.length c0_5) := (bkc BK104.out 5).trans rfl; have hcz25_6 : w24.cell? ⟨gb104, 6, none⟩ = some (.slice A0_6 l0_6.length c0_6) := (bkc BK104.out 6).trans rfl; have hfz25_0 := bkf BK104.out 0; have hfz25_1 := bkf BK104.out 1; have hfz25_2 := bkf BK104.out 2; have hfz25_3 := bkf BK104.out 3; have hfz25_4 := bkf BK104.out 4; have hfz25_5 := bkf BK104.out 5; have hfz25_6 := bkf BK104.out 6) | (go_at_call 16; (with_reducible refine (conf_in.calls (l0_6.length : Int) 1 64 true _ A21.out).mono ?_); rintro e w' ⟨rfl, ⟨nd, rfl⟩⟩; (try first | exact ⟨rfl, _, World.drewN_drewN _ _ _⟩ | exact ⟨rfl, _, Eq.trans (World.drewN_drewN _ _ _) (congrArg (World.drewN _) (Nat.add_assoc _ _ _))⟩)))
      repeat (go_quiet (first | (go_at_call 17; (with_reducible refine (names_Check.calls _ _ l0_5 t110 _ ?side1 ?side2 A19.out).mono ?_); (case side1 => repeat (first | exact (Kd.C_below HR0_5.out HB.out) | (with_reducible refine Kd.C_alloc ?_ _) | (with_reducible refine Kd.C_drewN ?_ _) | (with_reducible refine Kd.C_drew ?_))); (case side2 => exact HC0_5.out); rintro e w24 ⟨rfl, hb⟩; have n0_ := As0.mk (blk_below (g := gb104) (o := .cells #[.int .i64 a0_0, .int .i64 a0_1, .int .i64 a0_2, .int .i64 a0_3, .int .i64 a0_4, .slice A0_5 l0_5.length c0_5, .slice A0_6 l0_6.length c0_6] 25 (0, 0)) (by (with_reducible repeat (first | refine bkn ?_ _ | refine bkd ?_ | refine bka ?_ _)); exact BK104.out) hb); have n1_ := As0.mk (below_step (by repeat (first | (with_reducible first | exact HB.out | apply bla | apply bln | apply bld | refine bls ?_ GE104.out) | exact HB.out)) hb); clear BK104; clear HB; have BK104 := n0_; have HB := n1_; clear n0_ n1_; (try clear hb); (try clear hb2); (try clear hk); (try clear hi); have hcz25_0 : w24.cell? ⟨gb104, 0, none⟩ = some (.int .i64 a0_0) := (bkc BK104.out 0).trans rfl; have hcz25_1 : w24.cell? ⟨gb104, 1, none⟩ = some (.int .i64 a0_1) := (bkc BK104.out 1).trans rfl; have hcz25_2 : w24.cell? ⟨gb104, 2, none⟩ = some (.int .i64 a0_2) := (bkc BK104.out 2).trans rfl; have hcz25_3 : w24.cell? ⟨gb104, 3, none⟩ = some (.int .i64 a0_3) := (bkc BK104.out 3).trans rfl; have hcz25_4 : w24.cell? ⟨gb104, 4, none⟩ = some (.int .i64 a0_4) := (bkc BK104.out 4).trans rfl; have hcz25_5 : w24.cell? ⟨gb104, 5, none⟩ = some (.slice A0_5 l0_5.length c0_5) := (bkc BK104.out 5).trans rfl; have hcz25_6 : w24.cell? ⟨gb104, 6, none⟩ = some (.slice A0_6 l0_6.length c0_6) := (bkc BK104.out 6).trans rfl; have hfz25_0 := bkf BK104.out 0; have hfz25_1 := bkf BK104.out 1; have hfz25_2 := bkf BK104.out 2; have hfz25_3 := bkf BK104.out 3; have hfz25_4 := bkf BK104.out 4; have hfz25_5 := bkf BK104.out 5; have hfz25_6 := bkf BK104.out 6) | (go_at_call 16; (with_reducible refine (conf_in.calls (l0_6.length : Int) 1 64 true _ A21.out).mono ?_); rintro e w' ⟨rfl, ⟨nd, rfl⟩⟩; (try first | exact ⟨rfl, _, World.drewN_drewN _ _ _⟩ | exact ⟨rfl, _, Eq.trans (World.drewN_drewN _ _ _) (congrArg (World.drewN _) (Nat.add_assoc _ _ _))⟩))); try go_wp2_with (first | (go_at_call 17; (with_reducible refine (names_Check.calls _ _ l0_5 t110 _ ?side1 ?side2 A19.out).mono ?_); (case side1 => repeat (first | exact (Kd.C_below HR0_5.out HB.out) | (with_reducible refine Kd.C_alloc ?_ _) | (with_reducible refine Kd.C_drewN ?_ _) | (with_reducible refine Kd.C_drew ?_))); (case side2 => exact HC0_5.out); rintro e w24 ⟨rfl, hb⟩; have n0_ := As0.mk (blk_below (g := gb104) (o := .cells #[.int .i64 a0_0, .int .i64 a0_1, .int .i64 a0_2, .int .i64 a0_3, .int .i64 a0_4, .slice A0_5 l0_5.length c0_5, .slice A0_6 l0_6.length c0_6] 25 (0, 0)) (by (with_reducible repeat (first | refine bkn ?_ _ | refine bkd ?_ | refine bka ?_ _)); exact BK104.out) hb); have n1_ := As0.mk (below_step (by repeat (first | (with_reducible first | exact HB.out | apply bla | apply bln | apply bld | refine bls ?_ GE104.out) | exact HB.out)) hb); clear BK104; clear HB; have BK104 := n0_; have HB := n1_; clear n0_ n1_; (try clear hb); (try clear hb2); (try clear hk); (try clear hi); have hcz25_0 : w24.cell? ⟨gb104, 0, none⟩ = some (.int .i64 a0_0) := (bkc BK104.out 0).trans rfl; have hcz25_1 : w24.cell? ⟨gb104, 1, none⟩ = some (.int .i64 a0_1) := (bkc BK104.out 1).trans rfl; have hcz25_2 : w24.cell? ⟨gb104, 2, none⟩ = some (.int .i64 a0_2) := (bkc BK104.out 2).trans rfl; have hcz25_3 : w24.cell? ⟨gb104, 3, none⟩ = some (.int .i64 a0_3) := (bkc BK104.out 3).trans rfl; have hcz25_4 : w24.cell? ⟨gb104, 4, none⟩ = some (.int .i64 a0_4) := (bkc BK104.out 4).trans rfl; have hcz25_5 : w24.cell? ⟨gb104, 5, none⟩ = some (.slice A0_5 l0_5.length c0_5) := (bkc BK104.out 5).trans rfl; have hcz25_6 : w24.cell? ⟨gb104, 6, none⟩ = some (.slice A0_6 l0_6.length c0_6) := (bkc BK104.out 6).trans rfl; have hfz25_0 := bkf BK104.out 0; have hfz25_1 := bkf BK104.out 1; have hfz25_2 := bkf BK104.out 2; have hfz25_3 := bkf BK104.out 3; have hfz25_4 := bkf BK104.out 4; have hfz25_5 := bkf BK104.out 5; have hfz25_6 := bkf BK104.out 6) | (go_at_call 16; (with_reducible refine (conf_in.calls (l0_6.length : Int) 1 64 true _ A21.out).mono ?_); rintro e w' ⟨rfl, ⟨nd, rfl⟩⟩; (try first | exact ⟨rfl, _, World.drewN_drewN _ _ _⟩ | exact ⟨rfl, _, Eq.trans (World.drewN_drewN _ _ _) (congrArg (World.drewN _) (Nat.add_assoc _ _ _))⟩))))
      go_loopg [48] kj1 (fun kq v48 w' => ∃ (x48_2 : Int), v48 = .int .i64 x48_2 ∧ As0 (conf_Check.l0 kq l0_6 (l0_6.length : Int) x48_2 a0_0 a0_1 a0_2 a0_3 a0_4 l0_5 l0_6 = some r) ∧ As0 (kq ≤ kj1) ∧ As0 (w'.heap[gb104]? = some (.cells #[.int .i64 a0_0, .int .i64 a0_1, .int .i64 a0_2, .int .i64 a0_3, .int .i64 a0_4, (.slice A0_5 l0_5.length c0_5), (.slice A0_6 l0_6.length c0_6)] 25 (0, 0))) ∧ As0 (Below w.heap.size w w'))
      case atStart => exact ⟨(0), (by first | rfl | (simp; done) | (simp [*]; done)), H', ⟨Nat.le_refl _⟩, ⟨by (with_reducible repeat (first | refine bkn ?_ _ | refine bkd ?_ | refine bka ?_ _)); exact BK104.out⟩, ⟨by repeat (first | (with_reducible first | exact HB.out | apply bla | apply bln | apply bld | refine bls ?_ GE104.out) | exact HB.out)⟩⟩
      case round =>
       clear H'
       try clear c1
       try clear c2
       try clear p2
       try clear c5
       try clear c7
       try clear c9
       try clear c11
       try clear c18
       try clear c20
       try clear c20b0
       try clear c20b1
       try clear c22
       try clear hcz13_0
       try clear hcz13_1
       try clear hcz13_2
       try clear hcz13_3
       try clear hcz13_4
       try clear hcz13_5
       try clear hcz13_6
       try clear hcz14_0
       try clear hcz14_1
       try clear hcz14_2
       try clear hcz14_3
       try clear hcz14_4
       try clear hcz14_5
       try clear hcz14_6
       try clear hcz15_0
       try clear hcz15_1
       try clear hcz15_2
       try clear hcz15_3
       try clear hcz15_4
       try clear hcz15_5
       try clear hcz15_6
       try clear hcz16_0
       try clear hcz16_1
       try clear hcz16_2
       try clear hcz16_3
       try clear hcz16_4
       try clear hcz16_5
       try clear hcz16_6
       try clear hcz17_0
       try clear hcz17_1
       try clear hcz17_2
       try clear hcz17_3
       try clear hcz17_4
       try clear hcz17_5
       try clear hcz17_6
       try clear hcz23_0
       try clear hcz23_1
       try clear hcz23_2
       try clear hcz23_3
       try clear hcz23_4
       try clear hcz23_5
       try clear hcz23_6
       try clear hcz25_0
       try clear hcz25_1
       try clear hcz25_2
       try clear hcz25_3
       try clear hcz25_4
       try clear hcz25_5
       try clear hcz25_6
       try clear hfz13_0
       try clear hfz13_1
       try clear hfz13_2
       try clear hfz13_3
       try clear hfz13_4
       try clear hfz13_5
       try clear hfz13_6
       try clear hfz14_0
       try clear hfz14_1
       try clear hfz14_2
       try clear hfz14_3
       try clear hfz14_4
       try clear hfz14_5
       try clear hfz14_6
       try clear hfz15_0
       try clear hfz15_1
       try clear hfz15_2
       try clear hfz15_3
       try clear hfz15_4
       try clear hfz15_5
       try clear hfz15_6
       try clear hfz16_0
       try clear hfz16_1
       try clear hfz16_2
       try clear hfz16_3
       try clear hfz16_4
       try clear hfz16_5
       try clear hfz16_6
       try clear hfz17_0
       try clear hfz17_1
       try clear hfz17_2
       try clear hfz17_3
       try clear hfz17_4
       try clear hfz17_5
       try clear hfz17_6
       try clear hfz23_0
       try clear hfz23_1
       try clear hfz23_2
       try clear hfz23_3
       try clear hfz23_4
       try clear hfz23_5
       try clear hfz23_6
       try clear hfz25_0
       try clear hfz25_1
       try clear hfz25_2
       try clear hfz25_3
       try clear hfz25_4
       try clear hfz25_5
       try clear hfz25_6
       try clear p2
       obtain ⟨x48_2, rfl, HA, HK2, BK104, HB⟩ := hrel
       cases gk with
       | zero => exact absurd HA.out (by simp [conf_Check.l0])
       | succ k2 =>
        have H := HA.out
        clear HA
        simp only [conf_Check.l0] at H
        by_cases c26 : x48_2 < (l0_6.length : Int)
        ·
         rw [if_pos c26] at H
         have c26b0 : decide (x48_2 < (l0_6.length : Int)) = true := decide_eq_true c26
         clear c26
         by_cases c27 : 0 ≤ x48_2
         ·
          rw [if_pos c27] at H
          have c27b0 : decide (0 ≤ x48_2) = true := decide_eq_true c27
          clear c27
          by_cases c28 : x48_2 < (l0_6.length : Int)
          ·
           rw [if_pos c28] at H
           have c28b0 : decide (x48_2 < (l0_6.length : Int)) = true := decide_eq_true c28
           clear c28
           replace H := Option.bind_eq_some_iff.mp H
           obtain ⟨t114, A290, H⟩ := H
           replace H : (if t114 = true then ((conf_in.f ((rd_T41 l0_6 x48_2).f1) 1 64).bind fun t115 => (if t115 = true then ((flock_Below.f (l0_5.length : Int)).bind fun t116 => (if (Go.bits .andNot .u64 ((rd_T41 l0_6 x48_2).f2) t116) = 0 then (conf_Check.l0 k2 l0_6 (l0_6.length : Int) (wrap64 (x48_2 + 1)) a0_0 a0_1 a0_2 a0_3 a0_4 l0_5 l0_6) else (some 1))) else (some 1))) else (some 1)) = some r := H
           have A29 := As0.mk A290
           clear A290
           by_cases c30 : t114 = true
           ·
            subst c30
            have H1 : ((conf_in.f ((rd_T41 l0_6 x48_2).f1) 1 64).bind fun t115 => (if t115 = true then ((flock_Below.f (l0_5.length : Int)).bind fun t116 => (if (Go.bits .andNot .u64 ((rd_T41 l0_6 x48_2).f2) t116) = 0 then (conf_Check.l0 k2 l0_6 (l0_6.length : Int) (wrap64 (x48_2 + 1)) a0_0 a0_1 a0_2 a0_3 a0_4 l0_5 l0_6) else (some 1))) else (some 1))) = some r := by rw [if_pos rfl] at H; exact H
            clear H
            have H := H1
            clear H1
            replace H := Option.bind_eq_some_iff.mp H
            obtain ⟨t115, A310, H⟩ := H
            replace H : (if t115 = true then ((flock_Below.f (l0_5.length : Int)).bind fun t116 => (if (Go.bits .andNot .u64 ((rd_T41 l0_6 x48_2).f2) t116) = 0 then (conf_Check.l0 k2 l0_6 (l0_6.length : Int) (wrap64 (x48_2 + 1)) a0_0 a0_1 a0_2 a0_3 a0_4 l0_5 l0_6) else (some 1))) else (some 1)) = some r := H
            have A31 := As0.mk A310
            clear A310
            by_cases c32 : t115 = true
            ·
             subst c32
             have H1 : ((flock_Below.f (l0_5.length : Int)).bind fun t116 => (if (Go.bits .andNot .u64 ((rd_T41 l0_6 x48_2).f2) t116) = 0 then (conf_Check.l0 k2 l0_6 (l0_6.length : Int) (wrap64 (x48_2 + 1)) a0_0 a0_1 a0_2 a0_3 a0_4 l0_5 l0_6) else (some 1))) = some r := by rw [if_pos rfl] at H; exact H
             clear H
             have H := H1
             clear H1
             replace H := Option.bind_eq_some_iff.mp H
             obtain ⟨t116, A330, H⟩ := H
             replace H : (if (Go.bits .andNot .u64 ((rd_T41 l0_6 x48_2).f2) t116) = 0 then (conf_Check.l0 k2 l0_6 (l0_6.length : Int) (wrap64 (x48_2 + 1)) a0_0 a0_1 a0_2 a0_3 a0_4 l0_5 l0_6) else (some 1)) = some r := H
             have A33 := As0.mk A330
             clear A330
             by_cases c34 : (Go.bits .andNot .u64 ((rd_T41 l0_6 x48_2).f2) t116) = 0
             ·
              rw [if_pos c34] at H
              have c34b0 : ((Go.bits .andNot .u64 ((rd_T41 l0_6 x48_2).f2) t116) == 0) = true := beq_iff_eq.mpr c34
              have c34b1 : ((Go.bits .andNot .u64 ((rd_T41 l0_6 x48_2).f2) t116) != 0) = false := bne_eq_false_iff_eq.mpr c34
              clear c34
              have H' := As0.mk H
              clear H
              have p112 : 0 ≤ (x48_2 : Int) := of_decide_eq_true (by first | (with_reducible assumption) | assumption)
              have q112 : x48_2 < (l0_6.length : Int) := of_decide_eq_true (by first | (with_reducible assumption) | assumption)
              obtain ⟨ad112, e112, hx112_0, hx112_1, hx112_2⟩ := at_T41 HR0_6.out x48_2 p112 q112
              cases e112
              replace hx112_0 := (HB.out.cell (World.block_lt_of_cell? w _ hx112_0)).trans hx112_0
              replace hx112_1 := (HB.out.cell (World.block_lt_of_cell? w _ hx112_1)).trans hx112_1
              replace hx112_2 := (HB.out.cell (World.block_lt_of_cell? w _ hx112_2)).trans hx112_2
              replace p112 := eq_true p112
              replace q112 := eq_true q112
              go_wp2_with (first | ((with_reducible refine gate_dst (N := 5) rfl ?_); (try (refine gate_guard (by rfl) ?_; dsimp only)); refine box_event ?hg (N := 5) ?hd (cs := #[.int .i64 0, .int .i64 0, .int .u64 0]) (t := 41) ?hr ?_; (case hd => rfl); (case hg => rfl); (case hr => first | (go_simp; done) | (go_simp; rfl)); intro gb113 hg w35 hbox hb; have n0_ := As0.mk (blk_below (g := gb104) (o := .cells #[.int .i64 a0_0, .int .i64 a0_1, .int .i64 a0_2, .int .i64 a0_3, .int .i64 a0_4, .slice A0_5 l0_5.length c0_5, .slice (some ad112) l0_6.length c0_6] 25 (0, 0)) (by (with_reducible repeat (first | refine bkn ?_ _ | refine bkd ?_ | refine bka ?_ _)); exact BK104.out) hb); have n1_ := As0.mk (below_step (by repeat (first | (with_reducible first | exact HB.out | apply bla | apply bln | apply bld | refine bls ?_ GE104.out) | exact HB.out)) hb); have n2_ := As0.mk (hbox); have n3_ := As0.mk ((by rw [hg]; exact (below_size (by repeat (first | (with_reducible first | exact HB.out | apply bla | apply bln | apply bld | refine bls ?_ GE104.out) | exact HB.out))) : w.heap.size ≤ gb113)); have n4_ := As0.mk ((by rw [hg]; exact (below_size (by repeat (first | (with_reducible first | exact HB.out | apply bla | apply bln | apply bld | refine bls ?_ GE104.out) | exact HB.out))) : w.heap.size ≤ gb113)); have n5_ := As0.mk ((by rw [hg]; exact Nat.ne_of_lt (blk_lt (g := gb104) (o := .cells #[.int .i64 a0_0, .int .i64 a0_1, .int .i64 a0_2, .int .i64 a0_3, .int .i64 a0_4, .slice A0_5 l0_5.length c0_5, .slice (some ad112) l0_6.length c0_6] 25 (0, 0)) (by (with_reducible repeat (first | refine bkn ?_ _ | refine bkd ?_ | refine bka ?_ _)); exact BK104.out)) : gb104 ≠ gb113)); have n6_ := As0.mk ((by rw [hg]; exact Nat.ne_of_gt (blk_lt (g := gb104) (o := .cells #[.int .i64 a0_0, .int .i64 a0_1, .int .i64 a0_2, .int .i64 a0_3, .int .i64 a0_4, .slice A0_5 l0_5.length c0_5, .slice (some ad112) l0_6.length c0_6] 25 (0, 0)) (by (with_reducible repeat (first | refine bkn ?_ _ | refine bkd ?_ | refine bka ?_ _)); exact BK104.out)) : gb113 ≠ gb104)); clear BK104; clear HB; have BK104 := n0_; have HB := n1_; have BK113 := n2_; have GW113 := n3_; have GE113 := n4_; have NB104_113 := n5_; have NB113_104 := n6_; clear n0_ n1_ n2_ n3_ n4_ n5_ n6_; clear hb hbox hg; have hnb36 := NB113_104.out; have hnc36 := NB104_113.out; have hcz37_0 : w35.cell? ⟨gb113, 0, none⟩ = some (.int .i64 0) := (bkc BK113.out 0).trans rfl; have hcz37_1 : w35.cell? ⟨gb113, 1, none⟩ = some (.int .i64 0) := (bkc BK113.out 1).trans rfl; have hcz37_2 : w35.cell? ⟨gb113, 2, none⟩ = some (.int .u64 0) := (bkc BK113.out 2).trans rfl; have hfz37_0 := bkf BK113.out 0; have hfz37_1 := bkf BK113.out 1; have hfz37_2 := bkf BK113.out 2) | (go_at_call 16; (with_reducible refine (conf_in.calls ((rd_T41 l0_6 x48_2).f0) 1 255 true _ A29.out).mono ?_); rintro e w' ⟨rfl, ⟨nd, rfl⟩⟩; (try first | exact ⟨rfl, _, World.drewN_drewN _ _ _⟩ | exact ⟨rfl, _, Eq.trans (World.drewN_drewN _ _ _) (congrArg (World.drewN _) (Nat.add_assoc _ _ _))⟩)) | (go_at_call 16; (with_reducible refine (conf_in.calls ((rd_T41 l0_6 x48_2).f1) 1 64 true _ A31.out).mono ?_); rintro e w' ⟨rfl, ⟨nd, rfl⟩⟩; (try first | exact ⟨rfl, _, World.drewN_drewN _ _ _⟩ | exact ⟨rfl, _, Eq.trans (World.drewN_drewN _ _ _) (congrArg (World.drewN _) (Nat.add_assoc _ _ _))⟩); have hcz38_0 : w35.cell? ⟨gb104, 0, none⟩ = some (.int .i64 a0_0) := (bkc BK104.out 0).trans rfl; have hcz38_1 : w35.cell? ⟨gb104, 1, none⟩ = some (.int .i64 a0_1) := (bkc BK104.out 1).trans rfl; have hcz38_2 : w35.cell? ⟨gb104, 2, none⟩ = some (.int .i64 a0_2) := (bkc BK104.out 2).trans rfl; have hcz38_3 : w35.cell? ⟨gb104, 3, none⟩ = some (.int .i64 a0_3) := (bkc BK104.out 3).trans rfl; have hcz38_4 : w35.cell? ⟨gb104, 4, none⟩ = some (.int .i64 a0_4) := (bkc BK104.out 4).trans rfl; have hcz38_5 : w35.cell? ⟨gb104, 5, none⟩ = some (.slice A0_5 l0_5.length c0_5) := (bkc BK104.out 5).trans rfl; have hcz38_6 : w35.cell? ⟨gb104, 6, none⟩ = some (.slice (some ad112) l0_6.length c0_6) := (bkc BK104.out 6).trans rfl; have hfz38_0 := bkf BK104.out 0; have hfz38_1 := bkf BK104.out 1; have hfz38_2 := bkf BK104.out 2; have hfz38_3 := bkf BK104.out 3; have hfz38_4 := bkf BK104.out 4; have hfz38_5 := bkf BK104.out 5; have hfz38_6 := bkf BK104.out 6) | (go_at_call 18; (with_reducible refine (flock_Below.calls (l0_5.length : Int) t116 _ A33.out).mono ?_); rintro e w' ⟨rfl, ⟨nd, rfl⟩⟩; (try first | exact ⟨rfl, _, World.drewN_drewN _ _ _⟩ | exact ⟨rfl, _, Eq.trans (World.drewN_drewN _ _ _) (congrArg (World.drewN _) (Nat.add_assoc _ _ _))⟩)))
              repeat (go_quiet (first | ((with_reducible refine gate_dst (N := 5) rfl ?_); (try (refine gate_guard (by rfl) ?_; dsimp only)); refine box_event ?hg (N := 5) ?hd (cs := #[.int .i64 0, .int .i64 0, .int .u64 0]) (t := 41) ?hr ?_; (case hd => rfl); (case hg => rfl); (case hr => first | (go_simp; done) | (go_simp; rfl)); intro gb113 hg w35 hbox hb; have n0_ := As0.mk (blk_below (g := gb104) (o := .cells #[.int .i64 a0_0, .int .i64 a0_1, .int .i64 a0_2, .int .i64 a0_3, .int .i64 a0_4, .slice A0_5 l0_5.length c0_5, .slice (some ad112) l0_6.length c0_6] 25 (0, 0)) (by (with_reducible repeat (first | refine bkn ?_ _ | refine bkd ?_ | refine bka ?_ _)); exact BK104.out) hb); have n1_ := As0.mk (below_step (by repeat (first | (with_reducible first | exact HB.out | apply bla | apply bln | apply bld | refine bls ?_ GE104.out) | exact HB.out)) hb); have n2_ := As0.mk (hbox); have n3_ := As0.mk ((by rw [hg]; exact (below_size (by repeat (first | (with_reducible first | exact HB.out | apply bla | apply bln | apply bld | refine bls ?_ GE104.out) | exact HB.out))) : w.heap.size ≤ gb113)); have n4_ := As0.mk ((by rw [hg]; exact (below_size (by repeat (first | (with_reducible first | exact HB.out | apply bla | apply bln | apply bld | refine bls ?_ GE104.out) | exact HB.out))) : w.heap.size ≤ gb113)); have n5_ := As0.mk ((by rw [hg]; exact Nat.ne_of_lt (blk_lt (g := gb104) (o := .cells #[.int .i64 a0_0, .int .i64 a0_1, .int .i64 a0_2, .int .i64 a0_3, .int .i64 a0_4, .slice A0_5 l0_5.length c0_5, .slice (some ad112) l0_6.length c0_6] 25 (0, 0)) (by (with_reducible repeat (first | refine bkn ?_ _ | refine bkd ?_ | refine bka ?_ _)); exact BK104.out)) : gb104 ≠ gb113)); have n6_ := As0.mk ((by rw [hg]; exact Nat.ne_of_gt (blk_lt (g := gb104) (o := .cells #[.int .i64 a0_0, .int .i64 a0_1, .int .i64 a0_2, .int .i64 a0_3, .int .i64 a0_4, .slice A0_5 l0_5.length c0_5, .slice (some ad112) l0_6.length c0_6] 25 (0, 0)) (by (with_reducible repeat (first | refine bkn ?_ _ | refine bkd ?_ | refine bka ?_ _)); exact BK104.out)) : gb113 ≠ gb104)); clear BK104; clear HB; have BK104 := n0_; have HB := n1_; have BK113 := n2_; have GW113 := n3_; have GE113 := n4_; have NB104_113 := n5_; have NB113_104 := n6_; clear n0_ n1_ n2_ n3_ n4_ n5_ n6_; clear hb hbox hg; have hnb36 := NB113_104.out; have hnc36 := NB104_113.out; have hcz37_0 : w35.cell? ⟨gb113, 0, none⟩ = some (.int .i64 0) := (bkc BK113.out 0).trans rfl; have hcz37_1 : w35.cell? ⟨gb113, 1, none⟩ = some (.int .i64 0) := (bkc BK113.out 1).trans rfl; have hcz37_2 : w35.cell? ⟨gb113, 2, none⟩ = some (.int .u64 0) := (bkc BK113.out 2).trans rfl; have hfz37_0 := bkf BK113.out 0; have hfz37_1 := bkf BK113.out 1; have hfz37_2 := bkf BK113.out 2) | (go_at_call 16; (with_reducible refine (conf_in.calls ((rd_T41 l0_6 x48_2).f0) 1 255 true _ A29.out).mono ?_); rintro e w' ⟨rfl, ⟨nd, rfl⟩⟩; (try first | exact ⟨rfl, _, World.drewN_drewN _ _ _⟩ | exact ⟨rfl, _, Eq.trans (World.drewN_drewN _ _ _) (congrArg (World.drewN _) (Nat.add_assoc _ _ _))⟩)) | (go_at_call 16; (with_reducible refine (conf_in.calls ((rd_T41 l0_6 x48_2).f1) 1 64 true _ A31.out).mono ?_); rintro e w' ⟨rfl, ⟨nd, rfl⟩⟩; (try first | exact ⟨rfl, _, World.drewN_drewN _ _ _⟩ | exact ⟨rfl, _, Eq.trans (World.drewN_drewN _ _ _) (congrArg (World.drewN _) (Nat.add_assoc _ _ _))⟩); have hcz38_0 : w35.cell? ⟨gb104, 0, none⟩ = some (.int .i64 a0_0) := (bkc BK104.out 0).trans rfl; have hcz38_1 : w35.cell? ⟨gb104, 1, none⟩ = some (.int .i64 a0_1) := (bkc BK104.out 1).trans rfl; have hcz38_2 : w35.cell? ⟨gb104, 2, none⟩ = some (.int .i64 a0_2) := (bkc BK104.out 2).trans rfl; have hcz38_3 : w35.cell? ⟨gb104, 3, none⟩ = some (.int .i64 a0_3) := (bkc BK104.out 3).trans rfl; have hcz38_4 : w35.cell? ⟨gb104, 4, none⟩ = some (.int .i64 a0_4) := (bkc BK104.out 4).trans rfl; have hcz38_5 : w35.cell? ⟨gb104, 5, none⟩ = some (.slice A0_5 l0_5.length c0_5) := (bkc BK104.out 5).trans rfl; have hcz38_6 : w35.cell? ⟨gb104, 6, none⟩ = some (.slice (some ad112) l0_6.length c0_6) := (bkc BK104.out 6).trans rfl; have hfz38_0 := bkf BK104.out 0; have hfz38_1 := bkf BK104.out 1; have hfz38_2 := bkf BK104.out 2; have hfz38_3 := bkf BK104.out 3; have hfz38_4 := bkf BK104.out 4; have hfz38_5 := bkf BK104.out 5; have hfz38_6 := bkf BK104.out 6) | (go_at_call 18; (with_reducible refine (flock_Below.calls (l0_5.length : Int) t116 _ A33.out).mono ?_); rintro e w' ⟨rfl, ⟨nd, rfl⟩⟩; (try first | exact ⟨rfl, _, World.drewN_drewN _ _ _⟩ | exact ⟨rfl, _, Eq.trans (World.drewN_drewN _ _ _) (congrArg (World.drewN _) (Nat.add_assoc _ _ _))⟩))); try go_wp2_with (first | ((with_reducible refine gate_dst (N := 5) rfl ?_); (try (refine gate_guard (by rfl) ?_; dsimp only)); refine box_event ?hg (N := 5) ?hd (cs := #[.int .i64 0, .int .i64 0, .int .u64 0]) (t := 41) ?hr ?_; (case hd => rfl); (case hg => rfl); (case hr => first | (go_simp; done) | (go_simp; rfl)); intro gb113 hg w35 hbox hb; have n0_ := As0.mk (blk_below (g := gb104) (o := .cells #[.int .i64 a0_0, .int .i64 a0_1, .int .i64 a0_2, .int .i64 a0_3, .int .i64 a0_4, .slice A0_5 l0_5.length c0_5, .slice (some ad112) l0_6.length c0_6] 25 (0, 0)) (by (with_reducible repeat (first | refine bkn ?_ _ | refine bkd ?_ | refine bka ?_ _)); exact BK104.out) hb); have n1_ := As0.mk (below_step (by repeat (first | (with_reducible first | exact HB.out | apply bla | apply bln | apply bld | refine bls ?_ GE104.out) | exact HB.out)) hb); have n2_ := As0.mk (hbox); have n3_ := As0.mk ((by rw [hg]; exact (below_size (by repeat (first | (with_reducible first | exact HB.out | apply bla | apply bln | apply bld | refine bls ?_ GE104.out) | exact HB.out))) : w.heap.size ≤ gb113)); have n4_ := As0.mk ((by rw [hg]; exact (below_size (by repeat (first | (with_reducible first | exact HB.out | apply bla | apply bln | apply bld | refine bls ?_ GE104.out) | exact HB.out))) : w.heap.size ≤ gb113)); have n5_ := As0.mk ((by rw [hg]; exact Nat.ne_of_lt (blk_lt (g := gb104) (o := .cells #[.int .i64 a0_0, .int .i64 a0_1, .int .i64 a0_2, .int .i64 a0_3, .int .i64 a0_4, .slice A0_5 l0_5.length c0_5, .slice (some ad112) l0_6.length c0_6] 25 (0, 0)) (by (with_reducible repeat (first | refine bkn ?_ _ | refine bkd ?_ | refine bka ?_ _)); exact BK104.out)) : gb104 ≠ gb113)); have n6_ := As0.mk ((by rw [hg]; exact Nat.ne_of_gt (blk_lt (g := gb104) (o := .cells #[.int .i64 a0_0, .int .i64 a0_1, .int .i64 a0_2, .int .i64 a0_3, .int .i64 a0_4, .slice A0_5 l0_5.length c0_5, .slice (some ad112) l0_6.length c0_6] 25 (0, 0)) (by (with_reducible repeat (first | refine bkn ?_ _ | refine bkd ?_ | refine bka ?_ _)); exact BK104.out)) : gb113 ≠ gb104)); clear BK104; clear HB; have BK104 := n0_; have HB := n1_; have BK113 := n2_; have GW113 := n3_; have GE113 := n4_; have NB104_113 := n5_; have NB113_104 := n6_; clear n0_ n1_ n2_ n3_ n4_ n5_ n6_; clear hb hbox hg; have hnb36 := NB113_104.out; have hnc36 := NB104_113.out; have hcz37_0 : w35.cell? ⟨gb113, 0, none⟩ = some (.int .i64 0) := (bkc BK113.out 0).trans rfl; have hcz37_1 : w35.cell? ⟨gb113, 1, none⟩ = some (.int .i64 0) := (bkc BK113.out 1).trans rfl; have hcz37_2 : w35.cell? ⟨gb113, 2, none⟩ = some (.int .u64 0) := (bkc BK113.out 2).trans rfl; have hfz37_0 := bkf BK113.out 0; have hfz37_1 := bkf BK113.out 1; have hfz37_2 := bkf BK113.out 2) | (go_at_call 16; (with_reducible refine (conf_in.calls ((rd_T41 l0_6 x48_2).f0) 1 255 true _ A29.out).mono ?_); rintro e w' ⟨rfl, ⟨nd, rfl⟩⟩; (try first | exact ⟨rfl, _, World.drewN_drewN _ _ _⟩ | exact ⟨rfl, _, Eq.trans (World.drewN_drewN _ _ _) (congrArg (World.drewN _) (Nat.add_assoc _ _ _))⟩)) | (go_at_call 16; (with_reducible refine (conf_in.calls ((rd_T41 l0_6 x48_2).f1) 1 64 true _ A31.out).mono ?_); rintro e w' ⟨rfl, ⟨nd, rfl⟩⟩; (try first | exact ⟨rfl, _, World.drewN_drewN _ _ _⟩ | exact ⟨rfl, _, Eq.trans (World.drewN_drewN _ _ _) (congrArg (World.drewN _) (Nat.add_assoc _ _ _))⟩); have hcz38_0 : w35.cell? ⟨gb104, 0, none⟩ = some (.int .i64 a0_0) := (bkc BK104.out 0).trans rfl; have hcz38_1 : w35.cell? ⟨gb104, 1, none⟩ = some (.int .i64 a0_1) := (bkc BK104.out 1).trans rfl; have hcz38_2 : w35.cell? ⟨gb104, 2, none⟩ = some (.int .i64 a0_2) := (bkc BK104.out 2).trans rfl; have hcz38_3 : w35.cell? ⟨gb104, 3, none⟩ = some (.int .i64 a0_3) := (bkc BK104.out 3).trans rfl; have hcz38_4 : w35.cell? ⟨gb104, 4, none⟩ = some (.int .i64 a0_4) := (bkc BK104.out 4).trans rfl; have hcz38_5 : w35.cell? ⟨gb104, 5, none⟩ = some (.slice A0_5 l0_5.length c0_5) := (bkc BK104.out 5).trans rfl; have hcz38_6 : w35.cell? ⟨gb104, 6, none⟩ = some (.slice (some ad112) l0_6.length c0_6) := (bkc BK104.out 6).trans rfl; have hfz38_0 := bkf BK104.out 0; have hfz38_1 := bkf BK104.out 1; have hfz38_2 := bkf BK104.out 2; have hfz38_3 := bkf BK104.out 3; have hfz38_4 := bkf BK104.out 4; have hfz38_5 := bkf BK104.out 5; have hfz38_6 := bkf BK104.out 6) | (go_at_call 18; (with_reducible refine (flock_Below.calls (l0_5.length : Int) t116 _ A33.out).mono ?_); rintro e w' ⟨rfl, ⟨nd, rfl⟩⟩; (try first | exact ⟨rfl, _, World.drewN_drewN _ _ _⟩ | exact ⟨rfl, _, Eq.trans (World.drewN_drewN _ _ _) (congrArg (World.drewN _) (Nat.add_assoc _ _ _))⟩))))
              go_roundg k2
              case measure => have := HJ1.out; have := HK2.out; omega
              case rel => exact ⟨(wrap64 (x48_2 + 1)), (by first | rfl | (simp; done) | (simp [*]; done)), H', ⟨by have := HJ1.out; have := HK2.out; omega⟩, ⟨by (with_reducible repeat (first | refine bkn ?_ _ | refine bkd ?_ | refine bka ?_ _)); refine blk_far ?_ NB104_113.out _; (with_reducible repeat (first | refine bkn ?_ _ | refine bkd ?_ | refine bka ?_ _)); refine blk_far ?_ NB104_113.out _; (with_reducible repeat (first | refine bkn ?_ _ | refine bkd ?_ | refine bka ?_ _)); refine blk_far ?_ NB104_113.out _; (with_reducible repeat (first | refine bkn ?_ _ | refine bkd ?_ | refine bka ?_ _)); exact BK104.out⟩, ⟨by repeat (first | (with_reducible first | exact HB.out | apply bla | apply bln | apply bld | refine bls ?_ GE104.out | refine bls ?_ GE113.out) | exact HB.out)⟩⟩
             ·
              rw [if_neg c34] at H
              have c34b0 : ((Go.bits .andNot .u64 ((rd_T41 l0_6 x48_2).f2) t116) == 0) = false := beq_eq_false_iff_ne.mpr c34
              have c34b1 : ((Go.bits .andNot .u64 ((rd_T41 l0_6 x48_2).f2) t116) != 0) = true := bne_iff_ne.mpr c34
              obtain rfl := Option.some.inj H
              have p112 : 0 ≤ (x48_2 : Int) := of_decide_eq_true (by first | (with_reducible assumption) | assumption)
              have q112 : x48_2 < (l0_6.length : Int) := of_decide_eq_true (by first | (with_reducible assumption) | assumption)
              obtain ⟨ad112, e112, hx112_0, hx112_1, hx112_2⟩ := at_T41 HR0_6.out x48_2 p112 q112
              cases e112
              replace hx112_0 := (HB.out.cell (World.block_lt_of_cell? w _ hx112_0)).trans hx112_0
              replace hx112_1 := (HB.out.cell (World.block_lt_of_cell? w _ hx112_1)).trans hx112_1
              replace hx112_2 := (HB.out.cell (World.block_lt_of_cell? w _ hx112_2)).trans hx112_2
              replace p112 := eq_true p112
              replace q112 := eq_true q112
              go_wp2_with (first | ((with_reducible refine gate_dst (N := 5) rfl ?_); (try (refine gate_guard (by rfl) ?_; dsimp only)); refine box_event ?hg (N := 5) ?hd (cs := #[.int .i64 0, .int .i64 0, .int .u64 0]) (t := 41) ?hr ?_; (case hd => rfl); (case hg => rfl); (case hr => first | (go_simp; done) | (go_simp; rfl)); intro gb113 hg w39 hbox hb; have n0_ := As0.mk (blk_below (g := gb104) (o := .cells #[.int .i64 a0_0, .int .i64 a0_1, .int .i64 a0_2, .int .i64 a0_3, .int .i64 a0_4, .slice A0_5 l0_5.length c0_5, .slice (some ad112) l0_6.length c0_6] 25 (0, 0)) (by (with_reducible repeat (first | refine bkn ?_ _ | refine bkd ?_ | refine bka ?_ _)); exact BK104.out) hb); have n1_ := As0.mk (below_step (by repeat (first | (with_reducible first | exact HB.out | apply bla | apply bln | apply bld | refine bls ?_ GE104.out) | exact HB.out)) hb); have n2_ := As0.mk (hbox); have n3_ := As0.mk ((by rw [hg]; exact (below_size (by repeat (first | (with_reducible first | exact HB.out | apply bla | apply bln | apply bld | refine bls ?_ GE104.out) | exact HB.out))) : w.heap.size ≤ gb113)); have n4_ := As0.mk ((by rw [hg]; exact (below_size (by repeat (first | (with_reducible first | exact HB.out | apply bla | apply bln | apply bld | refine bls ?_ GE104.out) | exact HB.out))) : w.heap.size ≤ gb113)); have n5_ := As0.mk ((by rw [hg]; exact Nat.ne_of_lt (blk_lt (g := gb104) (o := .cells #[.int .i64 a0_0, .int .i64 a0_1, .int .i64 a0_2, .int .i64 a0_3, .int .i64 a0_4, .slice A0_5 l0_5.length c0_5, .slice (some ad112) l0_6.length c0_6] 25 (0, 0)) (by (with_reducible repeat (first | refine bkn ?_ _ | refine bkd ?_ | refine bka ?_ _)); exact BK104.out)) : gb104 ≠ gb113)); have n6_ := As0.mk ((by rw [hg]; exact Nat.ne_of_gt (blk_lt (g := gb104) (o := .cells #[.int .i64 a0_0, .int .i64 a0_1, .int .i64 a0_2, .int .i64 a0_3, .int .i64 a0_4, .slice A0_5 l0_5.length c0_5, .slice (some ad112) l0_6.length c0_6] 25 (0, 0)) (by (with_reducible repeat (first | refine bkn ?_ _ | refine bkd ?_ | refine bka ?_ _)); exact BK104.out)) : gb113 ≠ gb104)); clear BK104; clear HB; have BK104 := n0_; have HB := n1_; have BK113 := n2_; have GW113 := n3_; have GE113 := n4_; have NB104_113 := n5_; have NB113_104 := n6_; clear n0_ n1_ n2_ n3_ n4_ n5_ n6_; clear hb hbox hg; have hnb40 := NB113_104.out; have hnc40 := NB104_113.out; have hcz41_0 : w39.cell? ⟨gb113, 0, none⟩ = some (.int .i64 0) := (bkc BK113.out 0).trans rfl; have hcz41_1 : w39.cell? ⟨gb113, 1, none⟩ = some (.int .i64 0) := (bkc BK113.out 1).trans rfl; have hcz41_2 : w39.cell? ⟨gb113, 2, none⟩ = some (.int .u64 0) := (bkc BK113.out 2).trans rfl; have hfz41_0 := bkf BK113.out 0; have hfz41_1 := bkf BK113.out 1; have hfz41_2 := bkf BK113.out 2) | (go_at_call 16; (with_reducible refine (conf_in.calls ((rd_T41 l0_6 x48_2).f0) 1 255 true _ A29.out).mono ?_); rintro e w' ⟨rfl, ⟨nd, rfl⟩⟩; (try first | exact ⟨rfl, _, World.drewN_drewN _ _ _⟩ | exact ⟨rfl, _, Eq.trans (World.drewN_drewN _ _ _) (congrArg (World.drewN _) (Nat.add_assoc _ _ _))⟩)) | (go_at_call 16; (with_reducible refine (conf_in.calls ((rd_T41 l0_6 x48_2).f1) 1 64 true _ A31.out).mono ?_); rintro e w' ⟨rfl, ⟨nd, rfl⟩⟩; (try first | exact ⟨rfl, _, World.drewN_drewN _ _ _⟩ | exact ⟨rfl, _, Eq.trans (World.drewN_drewN _ _ _) (congrArg (World.drewN _) (Nat.add_assoc _ _ _))⟩); have hcz42_0 : w39.cell? ⟨gb104, 0, none⟩ = some (.int .i64 a0_0) := (bkc BK104.out 0).trans rfl; have hcz42_1 : w39.cell? ⟨gb104, 1, none⟩ = some (.int .i64 a0_1) := (bkc BK104.out 1).trans rfl; have hcz42_2 : w39.cell? ⟨gb104, 2, none⟩ = some (.int .i64 a0_2) := (bkc BK104.out 2).trans rfl; have hcz42_3 : w39.cell? ⟨gb104, 3, none⟩ = some (.int .i64 a0_3) := (bkc BK104.out 3).trans rfl; have hcz42_4 : w39.cell? ⟨gb104, 4, none⟩ = some (.int .i64 a0_4) := (bkc BK104.out 4).trans rfl; have hcz42_5 : w39.cell? ⟨gb104, 5, none⟩ = some (.slice A0_5 l0_5.length c0_5) := (bkc BK104.out 5).trans rfl; have hcz42_6 : w39.cell? ⟨gb104, 6, none⟩ = some (.slice (some ad112) l0_6.length c0_6) := (bkc BK104.out 6).trans rfl; have hfz42_0 := bkf BK104.out 0; have hfz42_1 := bkf BK104.out 1; have hfz42_2 := bkf BK104.out 2; have hfz42_3 := bkf BK104.out 3; have hfz42_4 := bkf BK104.out 4; have hfz42_5 := bkf BK104.out 5; have hfz42_6 := bkf BK104.out 6) | (go_at_call 18; (with_reducible refine (flock_Below.calls (l0_5.length : Int) t116 _ A33.out).mono ?_); rintro e w' ⟨rfl, ⟨nd, rfl⟩⟩; (try first | exact ⟨rfl, _, World.drewN_drewN _ _ _⟩ | exact ⟨rfl, _, Eq.trans (World.drewN_drewN _ _ _) (congrArg (World.drewN _) (Nat.add_assoc _ _ _))⟩)))
              repeat (go_quiet (first | ((with_reducible refine gate_dst (N := 5) rfl ?_); (try (refine gate_guard (by rfl) ?_; dsimp only)); refine box_event ?hg (N := 5) ?hd (cs := #[.int .i64 0, .int .i64 0, .int .u64 0]) (t := 41) ?hr ?_; (case hd => rfl); (case hg => rfl); (case hr => first | (go_simp; done) | (go_simp; rfl)); intro gb113 hg w39 hbox hb; have n0_ := As0.mk (blk_below (g := gb104) (o := .cells #[.int .i64 a0_0, .int .i64 a0_1, .int .i64 a0_2, .int .i64 a0_3, .int .i64 a0_4, .slice A0_5 l0_5.length c0_5, .slice (some ad112) l0_6.length c0_6] 25 (0, 0)) (by (with_reducible repeat (first | refine bkn ?_ _ | refine bkd ?_ | refine bka ?_ _)); exact BK104.out) hb); have n1_ := As0.mk (below_step (by repeat (first | (with_reducible first | exact HB.out | apply bla | apply bln | apply bld | refine bls ?_ GE104.out) | exact HB.out)) hb); have n2_ := As0.mk (hbox); have n3_ := As0.mk ((by rw [hg]; exact (below_size (by repeat (first | (with_reducible first | exact HB.out | apply bla | apply bln | apply bld | refine bls ?_ GE104.out) | exact HB.out))) : w.heap.size ≤ gb113)); have n4_ := As0.mk ((by rw [hg]; exact (below_size (by repeat (first | (with_reducible first | exact HB.out | apply bla | apply bln | apply bld | refine bls ?_ GE104.out) | exact HB.out))) : w.heap.size ≤ gb113)); have n5_ := As0.mk ((by rw [hg]; exact Nat.ne_of_lt (blk_lt (g := gb104) (o := .cells #[.int .i64 a0_0, .int .i64 a0_1, .int .i64 a0_2, .int .i64 a0_3, .int .i64 a0_4, .slice A0_5 l0_5.length c0_5, .slice (some ad112) l0_6.length c0_6] 25 (0, 0)) (by (with_reducible repeat (first | refine bkn ?_ _ | refine bkd ?_ | refine bka ?_ _)); exact BK104.out)) : gb104 ≠ gb113)); have n6_ := As0.mk ((by rw [hg]; exact Nat.ne_of_gt (blk_lt (g := gb104) (o := .cells #[.int .i64 a0_0, .int .i64 a0_1, .int .i64 a0_2, .int .i64 a0_3, .int .i64 a0_4, .slice A0_5 l0_5.length c0_5, .slice (some ad112) l0_6.length c0_6] 25 (0, 0)) (by (with_reducible repeat (first | refine bkn ?_ _ | refine bkd ?_ | refine bka ?_ _)); exact BK104.out)) : gb113 ≠ gb104)); clear BK104; clear HB; have BK104 := n0_; have HB := n1_; have BK113 := n2_; have GW113 := n3_; have GE113 := n4_; have NB104_113 := n5_; have NB113_104 := n6_; clear n0_ n1_ n2_ n3_ n4_ n5_ n6_; clear hb hbox hg; have hnb40 := NB113_104.out; have hnc40 := NB104_113.out; have hcz41_0 : w39.cell? ⟨gb113, 0, none⟩ = some (.int .i64 0) := (bkc BK113.out 0).trans rfl; have hcz41_1 : w39.cell? ⟨gb113, 1, none⟩ = some (.int .i64 0) := (bkc BK113.out 1).trans rfl; have hcz41_2 : w39.cell? ⟨gb113, 2, none⟩ = some (.int .u64 0) := (bkc BK113.out 2).trans rfl; have hfz41_0 := bkf BK113.out 0; have hfz41_1 := bkf BK113.out 1; have hfz41_2 := bkf BK113.out 2) | (go_at_call 16; (with_reducible refine (conf_in.calls ((rd_T41 l0_6 x48_2).f0) 1 255 true _ A29.out).mono ?_); rintro e w' ⟨rfl, ⟨nd, rfl⟩⟩; (try first | exact ⟨rfl, _, World.drewN_drewN _ _ _⟩ | exact ⟨rfl, _, Eq.trans (World.drewN_drewN _ _ _) (congrArg (World.drewN _) (Nat.add_assoc _ _ _))⟩)) | (go_at_call 16; (with_reducible refine (conf_in.calls ((rd_T41 l0_6 x48_2).f1) 1 64 true _ A31.out).mono ?_); rintro e w' ⟨rfl, ⟨nd, rfl⟩⟩; (try first | exact ⟨rfl, _, World.drewN_drewN _ _ _⟩ | exact ⟨rfl, _, Eq.trans (World.drewN_drewN _ _ _) (congrArg (World.drewN _) (Nat.add_assoc _ _ _))⟩); have hcz42_0 : w39.cell? ⟨gb104, 0, none⟩ = some (.int .i64 a0_0) := (bkc BK104.out 0).trans rfl; have hcz42_1 : w39.cell? ⟨gb104, 1, none⟩ = some (.int .i64 a0_1) := (bkc BK104.out 1).trans rfl; have hcz42_2 : w39.cell? ⟨gb104, 2, none⟩ = some (.int .i64 a0_2) := (bkc BK104.out 2).trans rfl; have hcz42_3 : w39.cell? ⟨gb104, 3, none⟩ = some (.int .i64 a0_3) := (bkc BK104.out 3).trans rfl; have hcz42_4 : w39.cell? ⟨gb104, 4, none⟩ = some (.int .i64 a0_4) := (bkc BK104.out 4).trans rfl; have hcz42_5 : w39.cell? ⟨gb104, 5, none⟩ = some (.slice A0_5 l0_5.length c0_5) := (bkc BK104.out 5).trans rfl; have hcz42_6 : w39.cell? ⟨gb104, 6, none⟩ = some (.slice (some ad112) l0_6.length c0_6) := (bkc BK104.out 6).trans rfl; have hfz42_0 := bkf BK104.out 0; have hfz42_1 := bkf BK104.out 1; have hfz42_2 := bkf BK104.out 2; have hfz42_3 := bkf BK104.out 3; have hfz42_4 := bkf BK104.out 4; have hfz42_5 := bkf BK104.out 5; have hfz42_6 := bkf BK104.out 6) | (go_at_call 18; (with_reducible refine (flock_Below.calls (l0_5.length : Int) t116 _ A33.out).mono ?_); rintro e w' ⟨rfl, ⟨nd, rfl⟩⟩; (try first | exact ⟨rfl, _, World.drewN_drewN _ _ _⟩ | exact ⟨rfl, _, Eq.trans (World.drewN_drewN _ _ _) (congrArg (World.drewN _) (Nat.add_assoc _ _ _))⟩))); try go_wp2_with (first | ((with_reducible refine gate_dst (N := 5) rfl ?_); (try (refine gate_guard (by rfl) ?_; dsimp only)); refine box_event ?hg (N := 5) ?hd (cs := #[.int .i64 0, .int .i64 0, .int .u64 0]) (t := 41) ?hr ?_; (case hd => rfl); (case hg => rfl); (case hr => first | (go_simp; done) | (go_simp; rfl)); intro gb113 hg w39 hbox hb; have n0_ := As0.mk (blk_below (g := gb104) (o := .cells #[.int .i64 a0_0, .int .i64 a0_1, .int .i64 a0_2, .int .i64 a0_3, .int .i64 a0_4, .slice A0_5 l0_5.length c0_5, .slice (some ad112) l0_6.length c0_6] 25 (0, 0)) (by (with_reducible repeat (first | refine bkn ?_ _ | refine bkd ?_ | refine bka ?_ _)); exact BK104.out) hb); have n1_ := As0.mk (below_step (by repeat (first | (with_reducible first | exact HB.out | apply bla | apply bln | apply bld | refine bls ?_ GE104.out) | exact HB.out)) hb); have n2_ := As0.mk (hbox); have n3_ := As0.mk ((by rw [hg]; exact (below_size (by repeat (first | (with_reducible first | exact HB.out | apply bla | apply bln | apply bld | refine bls ?_ GE104.out) | exact HB.out))) : w.heap.size ≤ gb113)); have n4_ := As0.mk ((by rw [hg]; exact (below_size (by repeat (first | (with_reducible first | exact HB.out | apply bla | apply bln | apply bld | refine bls ?_ GE104.out) | exact HB.out))) : w.heap.size ≤ gb113)); have n5_ := As0.mk ((by rw [hg]; exact Nat.ne_of_lt (blk_lt (g := gb104) (o := .cells #[.int .i64 a0_0, .int .i64 a0_1, .int .i64 a0_2, .int .i64 a0_3, .int .i64 a0_4, .slice A0_5 l0_5.length c0_5, .slice (some ad112) l0_6.length c0_6] 25 (0, 0)) (by (with_reducible repeat (first | refine bkn ?_ _ | refine bkd ?_ | refine bka ?_ _)); exact BK104.out)) : gb104 ≠ gb113)); have n6_ := As0.mk ((by rw [hg]; exact Nat.ne_of_gt (blk_lt (g := gb104) (o := .cells #[.int .i64 a0_0, .int .i64 a0_1, .int .i64 a0_2, .int .i64 a0_3, .int .i64 a0_4, .slice A0_5 l0_5.length c0_5, .slice (some ad112) l0_6.length c0_6] 25 (0, 0)) (by (with_reducible repeat (first | refine bkn ?_ _ | refine bkd ?_ | refine bka ?_ _)); exact BK104.out)) : gb113 ≠ gb104)); clear BK104; clear HB; have BK104 := n0_; have HB := n1_; have BK113 := n2_; have GW113 := n3_; have GE113 := n4_; have NB104_113 := n5_; have NB113_104 := n6_; clear n0_ n1_ n2_ n3_ n4_ n5_ n6_; clear hb hbox hg; have hnb40 := NB113_104.out; have hnc40 := NB104_113.out; have hcz41_0 : w39.cell? ⟨gb113, 0, none⟩ = some (.int .i64 0) := (bkc BK113.out 0).trans rfl; have hcz41_1 : w39.cell? ⟨gb113, 1, none⟩ = some (.int .i64 0) := (bkc BK113.out 1).trans rfl; have hcz41_2 : w39.cell? ⟨gb113, 2, none⟩ = some (.int .u64 0) := (bkc BK113.out 2).trans rfl; have hfz41_0 := bkf BK113.out 0; have hfz41_1 := bkf BK113.out 1; have hfz41_2 := bkf BK113.out 2) | (go_at_call 16; (with_reducible refine (conf_in.calls ((rd_T41 l0_6 x48_2).f0) 1 255 true _ A29.out).mono ?_); rintro e w' ⟨rfl, ⟨nd, rfl⟩⟩; (try first | exact ⟨rfl, _, World.drewN_drewN _ _ _⟩ | exact ⟨rfl, _, Eq.trans (World.drewN_drewN _ _ _) (congrArg (World.drewN _) (Nat.add_assoc _ _ _))⟩)) | (go_at_call 16; (with_reducible refine (conf_in.calls ((rd_T41 l0_6 x48_2).f1) 1 64 true _ A31.out).mono ?_); rintro e w' ⟨rfl, ⟨nd, rfl⟩⟩; (try first | exact ⟨rfl, _, World.drewN_drewN _ _ _⟩ | exact ⟨rfl, _, Eq.trans (World.drewN_drewN _ _ _) (congrArg (World.drewN _) (Nat.add_assoc _ _ _))⟩); have hcz42_0 : w39.cell? ⟨gb104, 0, none⟩ = some (.int .i64 a0_0) := (bkc BK104.out 0).trans rfl; have hcz42_1 : w39.cell? ⟨gb104, 1, none⟩ = some (.int .i64 a0_1) := (bkc BK104.out 1).trans rfl; have hcz42_2 : w39.cell? ⟨gb104, 2, none⟩ = some (.int .i64 a0_2) := (bkc BK104.out 2).trans rfl; have hcz42_3 : w39.cell? ⟨gb104, 3, none⟩ = some (.int .i64 a0_3) := (bkc BK104.out 3).trans rfl; have hcz42_4 : w39.cell? ⟨gb104, 4, none⟩ = some (.int .i64 a0_4) := (bkc BK104.out 4).trans rfl; have hcz42_5 : w39.cell? ⟨gb104, 5, none⟩ = some (.slice A0_5 l0_5.length c0_5) := (bkc BK104.out 5).trans rfl; have hcz42_6 : w39.cell? ⟨gb104, 6, none⟩ = some (.slice (some ad112) l0_6.length c0_6) := (bkc BK104.out 6).trans rfl; have hfz42_0 := bkf BK104.out 0; have hfz42_1 := bkf BK104.out 1; have hfz42_2 := bkf BK104.out 2; have hfz42_3 := bkf BK104.out 3; have hfz42_4 := bkf BK104.out 4; have hfz42_5 := bkf BK104.out 5; have hfz42_6 := bkf BK104.out 6) | (go_at_call 18; (with_reducible refine (flock_Below.calls (l0_5.length : Int) t116 _ A33.out).mono ?_); rintro e w' ⟨rfl, ⟨nd, rfl⟩⟩; (try first | exact ⟨rfl, _, World.drewN_drewN _ _ _⟩ | exact ⟨rfl, _, Eq.trans (World.drewN_drewN _ _ _) (congrArg (World.drewN _) (Nat.add_assoc _ _ _))⟩))))
              go_ret
              exact ⟨by first | rfl | (simp [errW_none, errW_some] <;> rfl) | (simp [*, errW_none, errW_some] <;> rfl), by repeat (first | (with_reducible first | exact HB.out | apply bla | apply bln | apply bld | refine bls ?_ GE104.out | refine bls ?_ GE113.out) | exact HB.out)⟩
            ·
             replace c32 := Bool.eq_false_iff.mpr c32
             subst c32
             have H1 : (some 1) = some r := by rw [if_neg (show ¬ (false = true) by decide)] at H; exact H
             clear H
             have H := H1
             clear H1
             obtain rfl := Option.some.inj H
             have p112 : 0 ≤ (x48_2 : Int) := of_decide_eq_true (by first | (with_reducible assumption) | assumption)
             have q112 : x48_2 < (l0_6.length : Int) := of_decide_eq_true (by first | (with_reducible assumption) | assumption)
             obtain ⟨ad112, e112, hx112_0, hx112_1, hx112_2⟩ := at_T41 HR0_6.out x48_2 p112 q112
             cases e112
             replace hx112_0 := (HB.out.cell (World.block_lt_of_cell? w _ hx112_0)).trans hx112_0
             replace hx112_1 := (HB.out.cell (World.block_lt_of_cell? w _ hx112_1)).trans hx112_1
             replace hx112_2 := (HB.out.cell (World.block_lt_of_cell? w _ hx112_2)).trans hx112_2
             replace p112 := eq_true p112
             replace q112 := eq_true q112
             go_wp2_with (first | ((with_reducible refine gate_dst (N := 5) rfl ?_); (try (refine gate_guard (by rfl) ?_; dsimp only)); refine box_event ?hg (N := 5) ?hd (cs := #[.int .i64 0, .int .i64 0, .int .u64 0]) (t := 41) ?hr ?_; (case hd => rfl); (case hg => rfl); (case hr => first | (go_simp; done) | (go_simp; rfl)); intro gb113 hg w43 hbox hb; have n0_ := As0.mk (blk_below (g := gb104) (o := .cells #[.int .i64 a0_0, .int .i64 a0_1, .int .i64 a0_2, .int .i64 a0_3, .int .i64 a0_4, .slice A0_5 l0_5.length c0_5, .slice (some ad112) l0_6.length c0_6] 25 (0, 0)) (by (with_reducible repeat (first | refine bkn ?_ _ | refine bkd ?_ | refine bka ?_ _)); exact BK104.out) hb); have n1_ := As0.mk (below_step (by repeat (first | (with_reducible first | exact HB.out | apply bla | apply bln | apply bld | refine bls ?_ GE104.out) | exact HB.out)) hb); have n2_ := As0.mk (hbox); have n3_ := As0.mk ((by rw [hg]; exact (below_size (by repeat (first | (with_reducible first | exact HB.out | apply bla | apply bln | apply bld | refine bls ?_ GE104.out) | exact HB.out))) : w.heap.size ≤ gb113)); have n4_ := As0.mk ((by rw [hg]; exact (below_size (by repeat (first | (with_reducible first | exact HB.out | apply bla | apply bln | apply bld | refine bls ?_ GE104.out) | exact HB.out))) : w.heap.size ≤ gb113)); have n5_ := As0.mk ((by rw [hg]; exact Nat.ne_of_lt (blk_lt (g := gb104) (o := .cells #[.int .i64 a0_0, .int .i64 a0_1, .int .i64 a0_2, .int .i64 a0_3, .int .i64 a0_4, .slice A0_5 l0_5.length c0_5, .slice (some ad112) l0_6.length c0_6] 25 (0, 0)) (by (with_reducible repeat (first | refine bkn ?_ _ | refine bkd ?_ | refine bka ?_ _)); exact BK104.out)) : gb104 ≠ gb113)); have n6_ := As0.mk ((by rw [hg]; exact Nat.ne_of_gt (blk_lt (g := gb104) (o := .cells #[.int .i64 a0_0, .int .i64 a0_1, .int .i64 a0_2, .int .i64 a0_3, .int .i64 a0_4, .slice A0_5 l0_5.length c0_5, .slice (some ad112) l0_6.length c0_6] 25 (0, 0)) (by (with_reducible repeat (first | refine bkn ?_ _ | refine bkd ?_ | refine bka ?_ _)); exact BK104.out)) : gb113 ≠ gb104)); clear BK104; clear HB; have BK104 := n0_; have HB := n1_; have BK113 := n2_; have GW113 := n3_; have GE113 := n4_; have NB104_113 := n5_; have NB113_104 := n6_; clear n0_ n1_ n2_ n3_ n4_ n5_ n6_; clear hb hbox hg; have hnb44 := NB113_104.out; have hnc44 := NB104_113.out; have hcz45_0 : w43.cell? ⟨gb113, 0, none⟩ = some (.int .i64 0) := (bkc BK113.out 0).trans rfl; have hcz45_1 : w43.cell? ⟨gb113, 1, none⟩ = some (.int .i64 0) := (bkc BK113.out 1).trans rfl; have hcz45_2 : w43.cell? ⟨gb113, 2, none⟩ = some (.int .u64 0) := (bkc BK113.out 2).trans rfl; have hfz45_0 := bkf BK113.out 0; have hfz45_1 := bkf BK113.out 1; have hfz45_2 := bkf BK113.out 2) | (go_at_call 16; (with_reducible refine (conf_in.calls ((rd_T41 l0_6 x48_2).f0) 1 255 true _ A29.out).mono ?_); rintro e w' ⟨rfl, ⟨nd, rfl⟩⟩; (try first | exact ⟨rfl, _, World.drewN_drewN _ _ _⟩ | exact ⟨rfl, _, Eq.trans (World.drewN_drewN _ _ _) (congrArg (World.drewN _) (Nat.add_assoc _ _ _))⟩)) | (go_at_call 16; (with_reducible refine (conf_in.calls ((rd_T41 l0_6 x48_2).f1) 1 64 false _ A31.out).mono ?_); rintro e w' ⟨rfl, ⟨nd, rfl⟩⟩; (try first | exact ⟨rfl, _, World.drewN_drewN _ _ _⟩ | exact ⟨rfl, _, Eq.trans (World.drewN_drewN _ _ _) (congrArg (World.drewN _) (Nat.add_assoc _ _ _))⟩)))
             repeat (go_quiet (first | ((with_reducible refine gate_dst (N := 5) rfl ?_); (try (refine gate_guard (by rfl) ?_; dsimp only)); refine box_event ?hg (N := 5) ?hd (cs := #[.int .i64 0, .int .i64 0, .int .u64 0]) (t := 41) ?hr ?_; (case hd => rfl); (case hg => rfl); (case hr => first | (go_simp; done) | (go_simp; rfl)); intro gb113 hg w43 hbox hb; have n0_ := As0.mk (blk_below (g := gb104) (o := .cells #[.int .i64 a0_0, .int .i64 a0_1, .int .i64 a0_2, .int .i64 a0_3, .int .i64 a0_4, .slice A0_5 l0_5.length c0_5, .slice (some ad112) l0_6.length c0_6] 25 (0, 0)) (by (with_reducible repeat (first | refine bkn ?_ _ | refine bkd ?_ | refine bka ?_ _)); exact BK104.out) hb); have n1_ := As0.mk (below_step (by repeat (first | (with_reducible first | exact HB.out | apply bla | apply bln | apply bld | refine bls ?_ GE104.out) | exact HB.out)) hb); have n2_ := As0.mk (hbox); have n3_ := As0.mk ((by rw [hg]; exact (below_size (by repeat (first | (with_reducible first | exact HB.out | apply bla | apply bln | apply bld | refine bls ?_ GE104.out) | exact HB.out))) : w.heap.size ≤ gb113)); have n4_ := As0.mk ((by rw [hg]; exact (below_size (by repeat (first | (with_reducible first | exact HB.out | apply bla | apply bln | apply bld | refine bls ?_ GE104.out) | exact HB.out))) : w.heap.size ≤ gb113)); have n5_ := As0.mk ((by rw [hg]; exact Nat.ne_of_lt (blk_lt (g := gb104) (o := .cells #[.int .i64 a0_0, .int .i64 a0_1, .int .i64 a0_2, .int .i64 a0_3, .int .i64 a0_4, .slice A0_5 l0_5.length c0_5, .slice (some ad112) l0_6.length c0_6] 25 (0, 0)) (by (with_reducible repeat (first | refine bkn ?_ _ | refine bkd ?_ | refine bka ?_ _)); exact BK104.out)) : gb104 ≠ gb113)); have n6_ := As0.mk ((by rw [hg]; exact Nat.ne_of_gt (blk_lt (g := gb104) (o := .cells #[.int .i64 a0_0, .int .i64 a0_1, .int .i64 a0_2, .int .i64 a0_3, .int .i64 a0_4, .slice A0_5 l0_5.length c0_5, .slice (some ad112) l0_6.length c0_6] 25 (0, 0)) (by (with_reducible repeat (first | refine bkn ?_ _ | refine bkd ?_ | refine bka ?_ _)); exact BK104.out)) : gb113 ≠ gb104)); clear BK104; clear HB; have BK104 := n0_; have HB := n1_; have BK113 := n2_; have GW113 := n3_; have GE113 := n4_; have NB104_113 := n5_; have NB113_104 := n6_; clear n0_ n1_ n2_ n3_ n4_ n5_ n6_; clear hb hbox hg; have hnb44 := NB113_104.out; have hnc44 := NB104_113.out; have hcz45_0 : w43.cell? ⟨gb113, 0, none⟩ = some (.int .i64 0) := (bkc BK113.out 0).trans rfl; have hcz45_1 : w43.cell? ⟨gb113, 1, none⟩ = some (.int .i64 0) := (bkc BK113.out 1).trans rfl; have hcz45_2 : w43.cell? ⟨gb113, 2, none⟩ = some (.int .u64 0) := (bkc BK113.out 2).trans rfl; have hfz45_0 := bkf BK113.out 0; have hfz45_1 := bkf BK113.out 1; have hfz45_2 := bkf BK113.out 2) | (go_at_call 16; (with_reducible refine (conf_in.calls ((rd_T41 l0_6 x48_2).f0) 1 255 true _ A29.out).mono ?_); rintro e w' ⟨rfl, ⟨nd, rfl⟩⟩; (try first | exact ⟨rfl, _, World.drewN_drewN _ _ _⟩ | exact ⟨rfl, _, Eq.trans (World.drewN_drewN _ _ _) (congrArg (World.drewN _) (Nat.add_assoc _ _ _))⟩)) | (go_at_call 16; (with_reducible refine (conf_in.calls ((rd_T41 l0_6 x48_2).f1) 1 64 false _ A31.out).mono ?_); rintro e w' ⟨rfl, ⟨nd, rfl⟩⟩; (try first | exact ⟨rfl, _, World.drewN_drewN _ _ _⟩ | exact ⟨rfl, _, Eq.trans (World.drewN_drewN _ _ _) (congrArg (World.drewN _) (Nat.add_assoc _ _ _))⟩))); try go_wp2_with (first | ((with_reducible refine gate_dst (N := 5) rfl ?_); (try (refine gate_guard (by rfl) ?_; dsimp only)); refine box_event ?hg (N := 5) ?hd (cs := #[.int .i64 0, .int .i64 0, .int .u64 0]) (t := 41) ?hr ?_; (case hd => rfl); (case hg => rfl); (case hr => first | (go_simp; done) | (go_simp; rfl)); intro gb113 hg w43 hbox hb; have n0_ := As0.mk (blk_below (g := gb104) (o := .cells #[.int .i64 a0_0, .int .i64 a0_1, .int .i64 a0_2, .int .i64 a0_3, .int .i64 a0_4, .slice A0_5 l0_5.length c0_5, .slice (some ad112) l0_6.length c0_6] 25 (0, 0)) (by (with_reducible repeat (first | refine bkn ?_ _ | refine bkd ?_ | refine bka ?_ _)); exact BK104.out) hb); have n1_ := As0.mk (below_step (by repeat (first | (with_reducible first | exact HB.out | apply bla | apply bln | apply bld | refine bls ?_ GE104.out) | exact HB.out)) hb); have n2_ := As0.mk (hbox); have n3_ := As0.mk ((by rw [hg]; exact (below_size (by repeat (first | (with_reducible first | exact HB.out | apply bla | apply bln | apply bld | refine bls ?_ GE104.out) | exact HB.out))) : w.heap.size ≤ gb113)); have n4_ := As0.mk ((by rw [hg]; exact (below_size (by repeat (first | (with_reducible first | exact HB.out | apply bla | apply bln | apply bld | refine bls ?_ GE104.out) | exact HB.out))) : w.heap.size ≤ gb113)); have n5_ := As0.mk ((by rw [hg]; exact Nat.ne_of_lt (blk_lt (g := gb104) (o := .cells #[.int .i64 a0_0, .int .i64 a0_1, .int .i64 a0_2, .int .i64 a0_3, .int .i64 a0_4, .slice A0_5 l0_5.length c0_5, .slice (some ad112) l0_6.length c0_6] 25 (0, 0)) (by (with_reducible repeat (first | refine bkn ?_ _ | refine bkd ?_ | refine bka ?_ _)); exact BK104.out)) : gb104 ≠ gb113)); have n6_ := As0.mk ((by rw [hg]; exact Nat.ne_of_gt (blk_lt (g := gb104) (o := .cells #[.int .i64 a0_0, .int .i64 a0_1, .int .i64 a0_2, .int .i64 a0_3, .int .i64 a0_4, .slice A0_5 l0_5.length c0_5, .slice (some ad112) l0_6.length c0_6] 25 (0, 0)) (by (with_reducible repeat (first | refine bkn ?_ _ | refine bkd ?_ | refine bka ?_ _)); exact BK104.out)) : gb113 ≠ gb104)); clear BK104; clear HB; have BK104 := n0_; have HB := n1_; have BK113 := n2_; have GW113 := n3_; have GE113 := n4_; have NB104_113 := n5_; have NB113_104 := n6_; clear n0_ n1_ n2_ n3_ n4_ n5_ n6_; clear hb hbox hg; have hnb44 := NB113_104.out; have hnc44 := NB104_113.out; have hcz45_0 : w43.cell? ⟨gb113, 0, none⟩ = some (.int .i64 0) := (bkc BK113.out 0).trans rfl; have hcz45_1 : w43.cell? ⟨gb113, 1, none⟩ = some (.int .i64 0) := (bkc BK113.out 1).trans rfl; have hcz45_2 : w43.cell? ⟨gb113, 2, none⟩ = some (.int .u64 0) := (bkc BK113.out 2).trans rfl; have hfz45_0 := bkf BK113.out 0; have hfz45_1 := bkf BK113.out 1; have hfz45_2 := bkf BK113.out 2) | (go_at_call 16; (with_reducible refine (conf_in.calls ((rd_T41 l0_6 x48_2).f0) 1 255 true _ A29.out).mono ?_); rintro e w' ⟨rfl, ⟨nd, rfl⟩⟩; (try first | exact ⟨rfl, _, World.drewN_drewN _ _ _⟩ | exact ⟨rfl, _, Eq.trans (World.drewN_drewN _ _ _) (congrArg (World.drewN _) (Nat.add_assoc _ _ _))⟩)) | (go_at_call 16; (with_reducible refine (conf_in.calls ((rd_T41 l0_6 x48_2).f1) 1 64 false _ A31.out).mono ?_); rintro e w' ⟨rfl, ⟨nd, rfl⟩⟩; (try first | exact ⟨rfl, _, World.drewN_drewN _ _ _⟩ | exact ⟨rfl, _, Eq.trans (World.drewN_drewN _ _ _) (congrArg (World.drewN _) (Nat.add_assoc _ _ _))⟩))))
             go_ret
             exact ⟨by first | rfl | (simp [errW_none, errW_some] <;> rfl) | (simp [*, errW_none, errW_some] <;> rfl), by repeat (first | (with_reducible first | exact HB.out | apply bla | apply bln | apply bld | refine bls ?_ GE104.out | refine bls ?_ GE113.out) | exact HB.out)⟩
           ·
            replace c30 := Bool.eq_false_iff.mpr c30
            subst c30
            have H1 : (some 1) = some r := by rw [if_neg (show ¬ (false = true) by decide)] at H; exact H
            clear H
            have H := H1
            clear H1
            obtain rfl := Option.some.inj H
            have p112 : 0 ≤ (x48_2 : Int) := of_decide_eq_true (by first | (with_reducible assumption) | assumption)
            have q112 : x48_2 < (l0_6.length : Int) := of_decide_eq_true (by first | (with_reducible assumption) | assumption)
            obtain ⟨ad112, e112, hx112_0, hx112_1, hx112_2⟩ := at_T41 HR0_6.out x48_2 p112 q112
            cases e112
            replace hx112_0 := (HB.out.cell (World.block_lt_of_cell? w _ hx112_0)).trans hx112_0
            replace hx112_1 := (HB.out.cell (World.block_lt_of_cell? w _ hx112_1)).trans hx112_1
            replace hx112_2 := (HB.out.cell (World.block_lt_of_cell? w _ hx112_2)).trans hx112_2
            replace p112 := eq_true p112
            replace q112 := eq_true q112
            go_wp2_with (first | ((with_reducible refine gate_dst (N := 5) rfl ?_); (try (refine gate_guard (by rfl) ?_; dsimp only)); refine box_event ?hg (N := 5) ?hd (cs := #[.int .i64 0, .int .i64 0, .int .u64 0]) (t := 41) ?hr ?_; (case hd => rfl); (case hg => rfl); (case hr => first | (go_simp; done) | (go_simp; rfl)); intro gb113 hg w46 hbox hb; have n0_ := As0.mk (blk_below (g := gb104) (o := .cells #[.int .i64 a0_0, .int .i64 a0_1, .int .i64 a0_2, .int .i64 a0_3, .int .i64 a0_4, .slice A0_5 l0_5.length c0_5, .slice (some ad112) l0_6.length c0_6] 25 (0, 0)) (by (with_reducible repeat (first | refine bkn ?_ _ | refine bkd ?_ | refine bka ?_ _)); exact BK104.out) hb); have n1_ := As0.mk (below_step (by repeat (first | (with_reducible first | exact HB.out | apply bla | apply bln | apply bld | refine bls ?_ GE104.out) | exact HB.out)) hb); have n2_ := As0.mk (hbox); have n3_ := As0.mk ((by rw [hg]; exact (below_size (by repeat (first | (with_reducible first | exact HB.out | apply bla | apply bln | apply bld | refine bls ?_ GE104.out) | exact HB.out))) : w.heap.size ≤ gb113)); have n4_ := As0.mk ((by rw [hg]; exact (below_size (by repeat (first | (with_reducible first | exact HB.out | apply bla | apply bln | apply bld | refine bls ?_ GE104.out) | exact HB.out))) : w.heap.size ≤ gb113)); have n5_ := As0.mk ((by rw [hg]; exact Nat.ne_of_lt (blk_lt (g := gb104) (o := .cells #[.int .i64 a0_0, .int .i64 a0_1, .int .i64 a0_2, .int .i64 a0_3, .int .i64 a0_4, .slice A0_5 l0_5.length c0_5, .slice (some ad112) l0_6.length c0_6] 25 (0, 0)) (by (with_reducible repeat (first | refine bkn ?_ _ | refine bkd ?_ | refine bka ?_ _)); exact BK104.out)) : gb104 ≠ gb113)); have n6_ := As0.mk ((by rw [hg]; exact Nat.ne_of_gt (blk_lt (g := gb104) (o := .cells #[.int .i64 a0_0, .int .i64 a0_1, .int .i64 a0_2, .int .i64 a0_3, .int .i64 a0_4, .slice A0_5 l0_5.length c0_5, .slice (some ad112) l0_6.length c0_6] 25 (0, 0)) (by (with_reducible repeat (first | refine bkn ?_ _ | refine bkd ?_ | refine bka ?_ _)); exact BK104.out)) : gb113 ≠ gb104)); clear BK104; clear HB; have BK104 := n0_; have HB := n1_; have BK113 := n2_; have GW113 := n3_; have GE113 := n4_; have NB104_113 := n5_; have NB113_104 := n6_; clear n0_ n1_ n2_ n3_ n4_ n5_ n6_; clear hb hbox hg; have hnb47 := NB113_104.out; have hnc47 := NB104_113.out; have hcz48_0 : w46.cell? ⟨gb113, 0, none⟩ = some (.int .i64 0) := (bkc BK113.out 0).trans rfl; have hcz48_1 : w46.cell? ⟨gb113, 1, none⟩ = some (.int .i64 0) := (bkc BK113.out 1).trans rfl; have hcz48_2 : w46.cell? ⟨gb113, 2, none⟩ = some (.int .u64 0) := (bkc BK113.out 2).trans rfl; have hfz48_0 := bkf BK113.out 0; have hfz48_1 := bkf BK113.out 1; have hfz48_2 := bkf BK113.out 2) | (go_at_call 16; (with_reducible refine (conf_in.calls ((rd_T41 l0_6 x48_2).f0) 1 255 false _ A29.out).mono ?_); rintro e w' ⟨rfl, ⟨nd, rfl⟩⟩; (try first | exact ⟨rfl, _, World.drewN_drewN _ _ _⟩ | exact ⟨rfl, _, Eq.trans (World.drewN_drewN _ _ _) (congrArg (World.drewN _) (Nat.add_assoc _ _ _))⟩)))
            repeat (go_quiet (first | ((with_reducible refine gate_dst (N := 5) rfl ?_); (try (refine gate_guard (by rfl) ?_; dsimp only)); refine box_event ?hg (N := 5) ?hd (cs := #[.int .i64 0, .int .i64 0, .int .u64 0]) (t := 41) ?hr ?_; (case hd => rfl); (case hg => rfl); (case hr => first | (go_simp; done) | (go_simp; rfl)); intro gb113 hg w46 hbox hb; have n0_ := As0.mk (blk_below (g := gb104) (o := .cells #[.int .i64 a0_0, .int .i64 a0_1, .int .i64 a0_2, .int .i64 a0_3, .int .i64 a0_4, .slice A0_5 l0_5.length c0_5, .slice (some ad112) l0_6.length c0_6] 25 (0, 0)) (by (with_reducible repeat (first | refine bkn ?_ _ | refine bkd ?_ | refine bka ?_ _)); exact BK104.out) hb); have n1_ := As0.mk (below_step (by repeat (first | (with_reducible first | exact HB.out | apply bla | apply bln | apply bld | refine bls ?_ GE104.out) | exact HB.out)) hb); have n2_ := As0.mk (hbox); have n3_ := As0.mk ((by rw [hg]; exact (below_size (by repeat (first | (with_reducible first | exact HB.out | apply bla | apply bln | apply bld | refine bls ?_ GE104.out) | exact HB.out))) : w.heap.size ≤ gb113)); have n4_ := As0.mk ((by rw [hg]; exact (below_size (by repeat (first | (with_reducible first | exact HB.out | apply bla | apply bln | apply bld | refine bls ?_ GE104.out) | exact HB.out))) : w.heap.size ≤ gb113)); have n5_ := As0.mk ((by rw [hg]; exact Nat.ne_of_lt (blk_lt (g := gb104) (o := .cells #[.int .i64 a0_0, .int .i64 a0_1, .int .i64 a0_2, .int .i64 a0_3, .int .i64 a0_4, .slice A0_5 l0_5.length c0_5, .slice (some ad112) l0_6.length c0_6] 25 (0, 0)) (by (with_reducible repeat (first | refine bkn ?_ _ | refine bkd ?_ | refine bka ?_ _)); exact BK104.out)) : gb104 ≠ gb113)); have n6_ := As0.mk ((by rw [hg]; exact Nat.ne_of_gt (blk_lt (g := gb104) (o := .cells #[.int .i64 a0_0, .int .i64 a0_1, .int .i64 a0_2, .int .i64 a0_3, .int .i64 a0_4, .slice A0_5 l0_5.length c0_5, .slice (some ad112) l0_6.length c0_6] 25 (0, 0)) (by (with_reducible repeat (first | refine bkn ?_ _ | refine bkd ?_ | refine bka ?_ _)); exact BK104.out)) : gb113 ≠ gb104)); clear BK104; clear HB; have BK104 := n0_; have HB := n1_; have BK113 := n2_; have GW113 := n3_; have GE113 := n4_; have NB104_113 := n5_; have NB113_104 := n6_; clear n0_ n1_ n2_ n3_ n4_ n5_ n6_; clear hb hbox hg; have hnb47 := NB113_104.out; have hnc47 := NB104_113.out; have hcz48_0 : w46.cell? ⟨gb113, 0, none⟩ = some (.int .i64 0) := (bkc BK113.out 0).trans rfl; have hcz48_1 : w46.cell? ⟨gb113, 1, none⟩ = some (.int .i64 0) := (bkc BK113.out 1).trans rfl; have hcz48_2 : w46.cell? ⟨gb113, 2, none⟩ = some (.int .u64 0) := (bkc BK113.out 2).trans rfl; have hfz48_0 := bkf BK113.out 0; have hfz48_1 := bkf BK113.out 1; have hfz48_2 := bkf BK113.out 2) | (go_at_call 16; (with_reducible refine (conf_in.calls ((rd_T41 l0_6 x48_2).f0) 1 255 false _ A29.out).mono ?_); rintro e w' ⟨rfl, ⟨nd, rfl⟩⟩; (try first | exact ⟨rfl, _, World.drewN_drewN _ _ _⟩ | exact ⟨rfl, _, Eq.trans (World.drewN_drewN _ _ _) (congrArg (World.drewN _) (Nat.add_assoc _ _ _))⟩))); try go_wp2_with (first | ((with_reducible refine gate_dst (N := 5) rfl ?_); (try (refine gate_guard (by rfl) ?_; dsimp only)); refine box_event ?hg (N := 5) ?hd (cs := #[.int .i64 0, .int .i64 0, .int .u64 0]) (t := 41) ?hr ?_; (case hd => rfl); (case hg => rfl); (case hr => first | (go_simp; done) | (go_simp; rfl)); intro gb113 hg w46 hbox hb; have n0_ := As0.mk (blk_below (g := gb104) (o := .cells #[.int .i64 a0_0, .int .i64 a0_1, .int .i64 a0_2, .int .i64 a0_3, .int .i64 a0_4, .slice A0_5 l0_5.length c0_5, .slice (some ad112) l0_6.length c0_6] 25 (0, 0)) (by (with_reducible repeat (first | refine bkn ?_ _ | refine bkd ?_ | refine bka ?_ _)); exact BK104.out) hb); have n1_ := As0.mk (below_step (by repeat (first | (with_reducible first | exact HB.out | apply bla | apply bln | apply bld | refine bls ?_ GE104.out) | exact HB.out)) hb); have n2_ := As0.mk (hbox); have n3_ := As0.mk ((by rw [hg]; exact (below_size (by repeat (first | (with_reducible first | exact HB.out | apply bla | apply bln | apply bld | refine bls ?_ GE104.out) | exact HB.out))) : w.heap.size ≤ gb113)); have n4_ := As0.mk ((by rw [hg]; exact (below_size (by repeat (first | (with_reducible first | exact HB.out | apply bla | apply bln | apply bld | refine bls ?_ GE104.out) | exact HB.out))) : w.heap.size ≤ gb113)); have n5_ := As0.mk ((by rw [hg]; exact Nat.ne_of_lt (blk_lt (g := gb104) (o := .cells #[.int .i64 a0_0, .int .i64 a0_1, .int .i64 a0_2, .int .i64 a0_3, .int .i64 a0_4, .slice A0_5 l0_5.length c0_5, .slice (some ad112) l0_6.length c0_6] 25 (0, 0)) (by (with_reducible repeat (first | refine bkn ?_ _ | refine bkd ?_ | refine bka ?_ _)); exact BK104.out)) : gb104 ≠ gb113)); have n6_ := As0.mk ((by rw [hg]; exact Nat.ne_of_gt (blk_lt (g := gb104) (o := .cells #[.int .i64 a0_0, .int .i64 a0_1, .int .i64 a0_2, .int .i64 a0_3, .int .i64 a0_4, .slice A0_5 l0_5.length c0_5, .slice (some ad112) l0_6.length c0_6] 25 (0, 0)) (by (with_reducible repeat (first | refine bkn ?_ _ | refine bkd ?_ | refine bka ?_ _)); exact BK104.out)) : gb113 ≠ gb104)); clear BK104; clear HB; have BK104 := n0_; have HB := n1_; have BK113 := n2_; have GW113 := n3_; have GE113 := n4_; have NB104_113 := n5_; have NB113_104 := n6_; clear n0_ n1_ n2_ n3_ n4_ n5_ n6_; clear hb hbox hg; have hnb47 := NB113_104.out; have hnc47 := NB104_113.out; have hcz48_0 : w46.cell? ⟨gb113, 0, none⟩ = some (.int .i64 0) := (bkc BK113.out 0).trans rfl; have hcz48_1 : w46.cell? ⟨gb113, 1, none⟩ = some (.int .i64 0) := (bkc BK113.out 1).trans rfl; have hcz48_2 : w46.cell? ⟨gb113, 2, none⟩ = some (.int .u64 0) := (bkc BK113.out 2).trans rfl; have hfz48_0 := bkf BK113.out 0; have hfz48_1 := bkf BK113.out 1; have hfz48_2 := bkf BK113.out 2) | (go_at_call 16; (with_reducible refine (conf_in.calls ((rd_T41 l0_6 x48_2).f0) 1 255 false _ A29.out).mono ?_); rintro e w' ⟨rfl, ⟨nd, rfl⟩⟩; (try first | exact ⟨rfl, _, World.drewN_drewN _ _ _⟩ | exact ⟨rfl, _, Eq.trans (World.drewN_drewN _ _ _) (congrArg (World.drewN _) (Nat.add_assoc _ _ _))⟩))))
            go_ret
            exact ⟨by first | rfl | (simp [errW_none, errW_some] <;> rfl) | (simp [*, errW_none, errW_some] <;> rfl), by repeat (first | (with_reducible first | exact HB.out | apply bla | apply bln | apply bld | refine bls ?_ GE104.out | refine bls ?_ GE113.out) | exact HB.out)⟩
          ·
           rw [if_neg c28] at H
           exact absurd H (by simp)
         ·
          rw [if_neg c27] at H
          exact absurd H (by simp)
        ·
         rw [if_neg c26] at H
         have c26b0 : decide (x48_2 < (l0_6.length : Int)) = false := decide_eq_false c26
         clear c26
         obtain rfl := Option.some.inj H
         go_wp2
         repeat (go_quiet (fail); try go_wp2)
         go_ret
         exact ⟨by first | rfl | (simp [errW_none, errW_some] <;> rfl) | (simp [*, errW_none, errW_some] <;> rfl), by repeat (first | (with_reducible first | exact HB.out | apply bla | apply bln | apply bld | refine bls ?_ GE104.out) | exact HB.out)⟩
     ·
      replace c22 := Bool.eq_false_iff.mpr c22
      subst c22
      have H1 : (some 1) = some r := by rw [if_neg (show ¬ (false = true) by decide)] at H; exact H
      clear H
      have H := H1
      clear H1
      obtain rfl := Option.some.inj H
      have hcz49_0 : wc.cell? ⟨gb104, 0, none⟩ = some (.int .i64 a0_0) := (bkc BK104.out 0).trans rfl
      have hcz49_1 : wc.cell? ⟨gb104, 1, none⟩ = some (.int .i64 a0_1) := (bkc BK104.out 1).trans rfl
      have hcz49_2 : wc.cell? ⟨gb104, 2, none⟩ = some (.int .i64 a0_2) := (bkc BK104.out 2).trans rfl
      have hcz49_3 : wc.cell? ⟨gb104, 3, none⟩ = some (.int .i64 a0_3) := (bkc BK104.out 3).trans rfl
      have hcz49_4 : wc.cell? ⟨gb104, 4, none⟩ = some (.int .i64 a0_4) := (bkc BK104.out 4).trans rfl
      have hcz49_5 : wc.cell? ⟨gb104, 5, none⟩ = some (.slice A0_5 l0_5.length c0_5) := (bkc BK104.out 5).trans rfl
      have hcz49_6 : wc.cell? ⟨gb104, 6, none⟩ = some (.slice A0_6 l0_6.length c0_6) := (bkc BK104.out 6).trans rfl
      have hfz49_0 := bkf BK104.out 0
      have hfz49_1 := bkf BK104.out 1
      have hfz49_2 := bkf BK104.out 2
      have hfz49_3 := bkf BK104.out 3
      have hfz49_4 := bkf BK104.out 4
      have hfz49_5 := bkf BK104.out 5
      have hfz49_6 := bkf BK104.out 6
      go_wp2_with (first | (go_at_call 17; (with_reducible refine (names_Check.calls _ _ l0_5 t110 _ ?side1 ?side2 A19.out).mono ?_); (case side1 => repeat (first | exact (Kd.C_below HR0_5.out HB.out) | (with_reducible refine Kd.C_alloc ?_ _) | (with_reducible refine Kd.C_drewN ?_ _) | (with_reducible refine Kd.C_drew ?_))); (case side2 => exact HC0_5.out); rintro e w50 ⟨rfl, hb⟩; have n0_ := As0.mk (blk_below (g := gb104) (o := .cells #[.int .i64 a0_0, .int .i64 a0_1, .int .i64 a0_2, .int .i64 a0_3, .int .i64 a0_4, .slice A0_5 l0_5.length c0_5, .slice A0_6 l0_6.length c0_6] 25 (0, 0)) (by (with_reducible repeat (first | refine bkn ?_ _ | refine bkd ?_ | refine bka ?_ _)); exact BK104.out) hb); have n1_ := As0.mk (below_step (by repeat (first | (with_reducible first | exact HB.out | apply bla | apply bln | apply bld | refine bls ?_ GE104.out) | exact HB.out)) hb); clear BK104; clear HB; have BK104 := n0_; have HB := n1_; clear n0_ n1_; (try clear hb); (try clear hb2); (try clear hk); (try clear hi); have hcz51_0 : w50.cell? ⟨gb104, 0, none⟩ = some (.int .i64 a0_0) := (bkc BK104.out 0).trans rfl; have hcz51_1 : w50.cell? ⟨gb104, 1, none⟩ = some (.int .i64 a0_1) := (bkc BK104.out 1).trans rfl; have hcz51_2 : w50.cell? ⟨gb104, 2, none⟩ = some (.int .i64 a0_2) := (bkc BK104.out 2).trans rfl; have hcz51_3 : w50.cell? ⟨gb104, 3, none⟩ = some (.int .i64 a0_3) := (bkc BK104.out 3).trans rfl; have hcz51_4 : w50.cell? ⟨gb104, 4, none⟩ = some (.int .i64 a0_4) := (bkc BK104.out 4).trans rfl; have hcz51_5 : w50.cell? ⟨gb104, 5, none⟩ = some (.slice A0_5 l0_5.length c0_5) := (bkc BK104.out 5).trans rfl; have hcz51_6 : w50.cell? ⟨gb104, 6, none⟩ = some (.slice A0_6 l0_6.length c0_6) := (bkc BK104.out 6).trans rfl; have hfz51_0 := bkf BK104.out 0; have hfz51_1 := bkf BK104.out 1; have hfz51_2 := bkf BK104.out 2; have hfz51_3 := bkf BK104.out 3; have hfz51_4 := bkf BK104.out 4; have hfz51_5 := bkf BK104.out 5; have hfz51_6 := bkf BK104.out 6) | (go_at_call 16; (with_reducible refine (conf_in.calls (l0_6.length : Int) 1 64 false _ A21.out).mono ?_); rintro e w' ⟨rfl, ⟨nd, rfl⟩⟩; (try first | exact ⟨rfl, _, World.drewN_drewN _ _ _⟩ | exact ⟨rfl, _, Eq.trans (World.drewN_drewN _ _ _) (congrArg (World.drewN _) (Nat.add_assoc _ _ _))⟩)))
      repeat (go_quiet (first | (go_at_call 17; (with_reducible refine (names_Check.calls _ _ l0_5 t110 _ ?side1 ?side2 A19.out).mono ?_); (case side1 => repeat (first | exact (Kd.C_below HR0_5.out HB.out) | (with_reducible refine Kd.C_alloc ?_ _) | (with_reducible refine Kd.C_drewN ?_ _) | (with_reducible refine Kd.C_drew ?_))); (case side2 => exact HC0_5.out); rintro e w50 ⟨rfl, hb⟩; have n0_ := As0.mk (blk_below (g := gb104) (o := .cells #[.int .i64 a0_0, .int .i64 a0_1, .int .i64 a0_2, .int .i64 a0_3, .int .i64 a0_4, .slice A0_5 l0_5.length c0_5, .slice A0_6 l0_6.length c0_6] 25 (0, 0)) (by (with_reducible repeat (first | refine bkn ?_ _ | refine bkd ?_ | refine bka ?_ _)); exact BK104.out) hb); have n1_ := As0.mk (below_step (by repeat (first | (with_reducible first | exact HB.out | apply bla | apply bln | apply bld | refine bls ?_ GE104.out) | exact HB.out)) hb); clear BK104; clear HB; have BK104 := n0_; have HB := n1_; clear n0_ n1_; (try clear hb); (try clear hb2); (try clear hk); (try clear hi); have hcz51_0 : w50.cell? ⟨gb104, 0, none⟩ = some (.int .i64 a0_0) := (bkc BK104.out 0).trans rfl; have hcz51_1 : w50.cell? ⟨gb104, 1, none⟩ = some (.int .i64 a0_1) := (bkc BK104.out 1).trans rfl; have hcz51_2 : w50.cell? ⟨gb104, 2, none⟩ = some (.int .i64 a0_2) := (bkc BK104.out 2).trans rfl; have hcz51_3 : w50.cell? ⟨gb104, 3, none⟩ = some (.int .i64 a0_3) := (bkc BK104.out 3).trans rfl; have hcz51_4 : w50.cell? ⟨gb104, 4, none⟩ = some (.int .i64 a0_4) := (bkc BK104.out 4).trans rfl; have hcz51_5 : w50.cell? ⟨gb104, 5, none⟩ = some (.slice A0_5 l0_5.length c0_5) := (bkc BK104.out 5).trans rfl; have hcz51_6 : w50.cell? ⟨gb104, 6, none⟩ = some (.slice A0_6 l0_6.length c0_6) := (bkc BK104.out 6).trans rfl; have hfz51_0 := bkf BK104.out 0; have hfz51_1 := bkf BK104.out 1; have hfz51_2 := bkf BK104.out 2; have hfz51_3 := bkf BK104.out 3; have hfz51_4 := bkf BK104.out 4; have hfz51_5 := bkf BK104.out 5; have hfz51_6 := bkf BK104.out 6) | (go_at_call 16; (with_reducible refine (conf_in.calls (l0_6.length : Int) 1 64 false _ A21.out).mono ?_); rintro e w' ⟨rfl, ⟨nd, rfl⟩⟩; (try first | exact ⟨rfl, _, World.drewN_drewN _ _ _⟩ | exact ⟨rfl, _, Eq.trans (World.drewN_drewN _ _ _) (congrArg (World.drewN _) (Nat.add_assoc _ _ _))⟩))); try go_wp2_with (first | (go_at_call 17; (with_reducible refine (names_Check.calls _ _ l0_5 t110 _ ?side1 ?side2 A19.out).mono ?_); (case side1 => repeat (first | exact (Kd.C_below HR0_5.out HB.out) | (with_reducible refine Kd.C_alloc ?_ _) | (with_reducible refine Kd.C_drewN ?_ _) | (with_reducible refine Kd.C_drew ?_))); (case side2 => exact HC0_5.out); rintro e w50 ⟨rfl, hb⟩; have n0_ := As0.mk (blk_below (g := gb104) (o := .cells #[.int .i64 a0_0, .int .i64 a0_1, .int .i64 a0_2, .int .i64 a0_3, .int .i64 a0_4, .slice A0_5 l0_5.length c0_5, .slice A0_6 l0_6.length c0_6] 25 (0, 0)) (by (with_reducible repeat (first | refine bkn ?_ _ | refine bkd ?_ | refine bka ?_ _)); exact BK104.out) hb); have n1_ := As0.mk (below_step (by repeat (first | (with_reducible first | exact HB.out | apply bla | apply bln | apply bld | refine bls ?_ GE104.out) | exact HB.out)) hb); clear BK104; clear HB; have BK104 := n0_; have HB := n1_; clear n0_ n1_; (try clear hb); (try clear hb2); (try clear hk); (try clear hi); have hcz51_0 : w50.cell? ⟨gb104, 0, none⟩ = some (.int .i64 a0_0) := (bkc BK104.out 0).trans rfl; have hcz51_1 : w50.cell? ⟨gb104, 1, none⟩ = some (.int .i64 a0_1) := (bkc BK104.out 1).trans rfl; have hcz51_2 : w50.cell? ⟨gb104, 2, none⟩ = some (.int .i64 a0_2) := (bkc BK104.out 2).trans rfl; have hcz51_3 : w50.cell? ⟨gb104, 3, none⟩ = some (.int .i64 a0_3) := (bkc BK104.out 3).trans rfl; have hcz51_4 : w50.cell? ⟨gb104, 4, none⟩ = some (.int .i64 a0_4) := (bkc BK104.out 4).trans rfl; have hcz51_5 : w50.cell? ⟨gb104, 5, none⟩ = some (.slice A0_5 l0_5.length c0_5) := (bkc BK104.out 5).trans rfl; have hcz51_6 : w50.cell? ⟨gb104, 6, none⟩ = some (.slice A0_6 l0_6.length c0_6) := (bkc BK104.out 6).trans rfl; have hfz51_0 := bkf BK104.out 0; have hfz51_1 := bkf BK104.out 1; have hfz51_2 := bkf BK104.out 2; have hfz51_3 := bkf BK104.out 3; have hfz51_4 := bkf BK104.out 4; have hfz51_5 := bkf BK104.out 5; have hfz51_6 := bkf BK104.out 6) | (go_at_call 16; (with_reducible refine (conf_in.calls (l0_6.length : Int) 1 64 false _ A21.out).mono ?_); rintro e w' ⟨rfl, ⟨nd, rfl⟩⟩; (try first | exact ⟨rfl, _, World.drewN_drewN _ _ _⟩ | exact ⟨rfl, _, Eq.trans (World.drewN_drewN _ _ _) (congrArg (World.drewN _) (Nat.add_assoc _ _ _))⟩))))
      go_ret
      exact ⟨by first | rfl | (simp [errW_none, errW_some] <;> rfl) | (simp [*, errW_none, errW_some] <;> rfl), by repeat (first | (with_reducible first | exact HB.out | apply bla | apply bln | apply bld | refine bls ?_ GE104.out) | exact HB.out)⟩
    ·
     rw [if_neg c20] at H
     have c20b0 : (t110 == 0) = false := beq_eq_false_iff_ne.mpr c20
     have c20b1 : (t110 != 0) = true := bne_iff_ne.mpr c20
     obtain rfl := Option.some.inj H
     have hcz52_0 : wc.cell? ⟨gb104, 0, none⟩ = some (.int .i64 a0_0) := (bkc BK104.out 0).trans rfl
     have hcz52_1 : wc.cell? ⟨gb104, 1, none⟩ = some (.int .i64 a0_1) := (bkc BK104.out 1).trans rfl
     have hcz52_2 : wc.cell? ⟨gb104, 2, none⟩ = some (.int .i64 a0_2) := (bkc BK104.out 2).trans rfl
     have hcz52_3 : wc.cell? ⟨gb104, 3, none⟩ = some (.int .i64 a0_3) := (bkc BK104.out 3).trans rfl
     have hcz52_4 : wc.cell? ⟨gb104, 4, none⟩ = some (.int .i64 a0_4) := (bkc BK104.out 4).trans rfl
     have hcz52_5 : wc.cell? ⟨gb104, 5, none⟩ = some (.slice A0_5 l0_5.length c0_5) := (bkc BK104.out 5).trans rfl
     have hcz52_6 : wc.cell? ⟨gb104, 6, none⟩ = some (.slice A0_6 l0_6.length c0_6) := (bkc BK104.out 6).trans rfl
     have hfz52_0 := bkf BK104.out 0
     have hfz52_1 := bkf BK104.out 1
     have hfz52_2 := bkf BK104.out 2
     have hfz52_3 := bkf BK104.out 3
     have hfz52_4 := bkf BK104.out 4
     have hfz52_5 := bkf BK104.out 5
     have hfz52_6 := bkf BK104.out 6
     go_wp2_with (first | (go_at_call 17; (with_reducible refine (names_Check.calls _ _ l0_5 t110 _ ?side1 ?side2 A19.out).mono ?_); (case side1 => repeat (first | exact (Kd.C_below HR0_5.out HB.out) | (with_reducible refine Kd.C_alloc ?_ _) | (with_reducible refine Kd.C_drewN ?_ _) | (with_reducible refine Kd.C_drew ?_))); (case side2 => exact HC0_5.out); rintro e w53 ⟨rfl, hb⟩; have n0_ := As0.mk (blk_below (g := gb104) (o := .cells #[.int .i64 a0_0, .int .i64 a0_1, .int .i64 a0_2, .int .i64 a0_3, .int .i64 a0_4, .slice A0_5 l0_5.length c0_5, .slice A0_6 l0_6.length c0_6] 25 (0, 0)) (by (with_reducible repeat (first | refine bkn ?_ _ | refine bkd ?_ | refine bka ?_ _)); exact BK104.out) hb); have n1_ := As0.mk (below_step (by repeat (first | (with_reducible first | exact HB.out | apply bla | apply bln | apply bld | refine bls ?_ GE104.out) | exact HB.out)) hb); clear BK104; clear HB; have BK104 := n0_; have HB := n1_; clear n0_ n1_; (try clear hb); (try clear hb2); (try clear hk); (try clear hi)))
     repeat (go_quiet (first | (go_at_call 17; (with_reducible refine (names_Check.calls _ _ l0_5 t110 _ ?side1 ?side2 A19.out).mono ?_); (case side1 => repeat (first | exact (Kd.C_below HR0_5.out HB.out) | (with_reducible refine Kd.C_alloc ?_ _) | (with_reducible refine Kd.C_drewN ?_ _) | (with_reducible refine Kd.C_drew ?_))); (case side2 => exact HC0_5.out); rintro e w53 ⟨rfl, hb⟩; have n0_ := As0.mk (blk_below (g := gb104) (o := .cells #[.int .i64 a0_0, .int .i64 a0_1, .int .i64 a0_2, .int .i64 a0_3, .int .i64 a0_4, .slice A0_5 l0_5.length c0_5, .slice A0_6 l0_6.length c0_6] 25 (0, 0)) (by (with_reducible repeat (first | refine bkn ?_ _ | refine bkd ?_ | refine bka ?_ _)); exact BK104.out) hb); have n1_ := As0.mk (below_step (by repeat (first | (with_reducible first | exact HB.out | apply bla | apply bln | apply bld | refine bls ?_ GE104.out) | exact HB.out)) hb); clear BK104; clear HB; have BK104 := n0_; have HB := n1_; clear n0_ n1_; (try clear hb); (try clear hb2); (try clear hk); (try clear hi))); try go_wp2_with (first | (go_at_call 17; (with_reducible refine (names_Check.calls _ _ l0_5 t110 _ ?side1 ?side2 A19.out).mono ?_); (case side1 => repeat (first | exact (Kd.C_below HR0_5.out HB.out) | (with_reducible refine Kd.C_alloc ?_ _) | (with_reducible refine Kd.C_drewN ?_ _) | (with_reducible refine Kd.C_drew ?_))); (case side2 => exact HC0_5.out); rintro e w53 ⟨rfl, hb⟩; have n0_ := As0.mk (blk_below (g := gb104) (o := .cells #[.int .i64 a0_0, .int .i64 a0_1, .int .i64 a0_2, .int .i64 a0_3, .int .i64 a0_4, .slice A0_5 l0_5.length c0_5, .slice A0_6 l0_6.length c0_6] 25 (0, 0)) (by (with_reducible repeat (first | refine bkn ?_ _ | refine bkd ?_ | refine bka ?_ _)); exact BK104.out) hb); have n1_ := As0.mk (below_step (by repeat (first | (with_reducible first | exact HB.out | apply bla | apply bln | apply bld | refine bls ?_ GE104.out) | exact HB.out)) hb); clear BK104; clear HB; have BK104 := n0_; have HB := n1_; clear n0_ n1_; (try clear hb); (try clear hb2); (try clear hk); (try clear hi))))
     go_ret
     exact ⟨by first | rfl | (simp [errW_none, errW_some] <;> rfl) | (simp [*, errW_none, errW_some] <;> rfl), by repeat (first | (with_reducible first | exact HB.out | apply bla | apply bln | apply bld | refine bls ?_ GE104.out) | exact HB.out)⟩
end Go.Proofs.YtmppkcdphgelcaaGreatDoor.PConf
namespace Go.Proofs.YtmppkcdphgelcaaGreatDoor.PConf
open Go.RowKit Go.Proofs.YtmppkcdphgelcaaGreatDoor.W.PrintWords Go.Proofs.YtmppkcdphgelcaaGreatDoor.W.PrintLast Go.Proofs.YtmppkcdphgelcaaGreatDoor.W.PrintMore
attribute [local go_sem] max2_int min2_int max_two min_two max_three min_three max_four min_four   -- for this text's walks alone
set_option linter.unusedVariables false
set_option linter.unusedSimpArgs false
def strings_Join.f (l0 : List ByteArray) (a1 : ByteArray) : Option (ByteArray) :=
 if l0.length ≤ 140737488355328 ∧ (Lib.join (l0.map (·.data.toList)) a1.data.toList).length ≤ 140737488355328 then some ⟨(Lib.join (l0.map (·.data.toList)) a1.data.toList).toArray⟩ else none
theorem spot_none {w : World} {p : Addr} {v : Value} (h : w.cell? p = some v) : p = ⟨p.block, p.off, none⟩ := by
 obtain ⟨b, o, s⟩ := p
 cases s with
 | none => rfl
 | some s => exfalso; unfold World.cell? at h; split at h <;> simp at h
theorem strings_Join.calls (A0 : Option Addr) (c0 : Nat) (l0 : List ByteArray) (a1 : ByteArray) (r : ByteArray) (w : World) (hr0 : Kd.C Kd.string w A0 l0.length l0) (hc0 : l0.length ≤ c0) (h : strings_Join.f l0 a1 = some r) :
  Calls Tryz.prog 37 #[.slice A0 l0.length c0, .string a1] w fun e w' => e = .returned (.string r) ∧ Below w.heap.size w w' := by
 unfold strings_Join.f at h
 by_cases hs : l0.length ≤ 140737488355328 ∧ (Lib.join (l0.map (·.data.toList)) a1.data.toList).length ≤ 140737488355328
 ·
  rw [if_pos hs] at h
  obtain rfl := Option.some.inj h
  by_cases h0 : l0 = []
  ·
   subst h0
   refine (Tryz.strings_Join_none A0 c0 a1 w).mono ?_
   rintro e w' ⟨rfl, rfl⟩
   exact ⟨rfl, Below.refl _ _⟩
  ·
   have hpos : 0 < l0.length := List.length_pos_iff.mpr h0
   obtain ⟨ad, rfl, hx⟩ := Kd.at_string hr0 0 (by omega) (by omega)
   have hx' : w.cell? ad = some (.string (rdOf ByteArray.empty l0 0)) := by
    have : ad.add (0 : Int).toNat = ad := by unfold Addr.add; simp
    rwa [this] at hx
   obtain ⟨bk, o, rfl⟩ : ∃ bk o, ad = ⟨bk, o, none⟩ := ⟨_, _, spot_none hx'⟩
   have hlt := World.block_lt_of_cell? w _ hx'
   refine (Tryz.strings_Join bk o c0 l0 a1 w (fun j x hj => ?_) hlt hs.1 hc0 hs.2).mono ?_
   ·
    obtain ⟨hjl, hje⟩ := List.getElem?_eq_some_iff.mp hj
    obtain ⟨ad', e', hz⟩ := Kd.at_string hr0 j (by omega) (by omega)
    obtain rfl : (⟨bk, o, none⟩ : Addr) = ad' := by injection e'
    rw [show ((j : Int)).toNat = j from rfl, show (⟨bk, o, none⟩ : Addr).add j = ⟨bk, o + j, none⟩ by unfold Addr.add; split <;> simp_all] at hz
    rw [hz]
    have : rdOf ByteArray.empty l0 (j : Int) = x := by
     show l0.getD j ByteArray.empty = x
     rw [List.getD_eq_getElem?_getD, hj]; rfl
    rw [this]
   ·
    rintro e w' ⟨rfl, hb⟩
    exact ⟨rfl, hb⟩
 ·
  rw [if_neg hs] at h
  cases h
end Go.Proofs.YtmppkcdphgelcaaGreatDoor.PConf
namespace Go.Proofs.YtmppkcdphgelcaaGreatDoor.PConf
open Go.RowKit Go.Proofs.YtmppkcdphgelcaaGreatDoor.W.PrintWords Go.Proofs.YtmppkcdphgelcaaGreatDoor.W.PrintLast Go.Proofs.YtmppkcdphgelcaaGreatDoor.W.PrintMore
attribute [local go_sem] max2_int min2_int max_two min_two max_three min_three max_four min_four   -- for this text's walks alone
set_option linter.unusedVariables false
set_option linter.unusedSimpArgs false
def conf_line.f (l0 : List ByteArray) : Option (ByteArray) := (strings_Join.f l0 (⟨#[32]⟩ : ByteArray)).bind fun t117 => (if t117.size + 1 ≤ 9223372036854775807 then (some (t117 ++ (⟨#[10]⟩ : ByteArray))) else (none))
set_option maxHeartbeats 8000000 in
set_option maxRecDepth 100000 in
theorem conf_line.calls (A0 : Option Addr) (c0 : Nat) (l0 : List ByteArray) (r : ByteArray) (w : World) (hr0 : Kd.C Kd.string w A0 l0.length l0) (hc0 : l0.length ≤ c0) (h : conf_line.f l0 = some r) :
  Calls Tryz.prog 21 #[.slice A0 l0.length c0] w fun e w' => e = .returned (.string r) ∧ Below w.heap.size w w' := by
 have HR0 := As0.mk hr0
 have HC0 := As0.mk hc0
 clear hr0 hc0
 have HB := As0.mk (Below.refl w.heap.size w)
 have H : ((strings_Join.f l0 (⟨#[32]⟩ : ByteArray)).bind fun t117 => (if t117.size + 1 ≤ 9223372036854775807 then (some (t117 ++ (⟨#[10]⟩ : ByteArray))) else (none))) = some r := h
 clear h
 replace H := Option.bind_eq_some_iff.mp H
 obtain ⟨t117, A20, H⟩ := H
 replace H : (if t117.size + 1 ≤ 9223372036854775807 then (some (t117 ++ (⟨#[10]⟩ : ByteArray))) else (none)) = some r := H
 have A2 := As0.mk A20
 clear A20
 by_cases c3 : t117.size + 1 ≤ 9223372036854775807
 ·
  rw [if_pos c3] at H
  have c3b0 := eq_true c3
  have c3b1 : decide (t117.size + 1 ≤ 9223372036854775807) = true := decide_eq_true c3
  try have c3b2 : (9223372036854775807 < t117.size + 1) = False := eq_false (Nat.not_lt.2 c3)
  obtain rfl := Option.some.inj H
  go_enter Tryz.func21, Tryz.ntmps21
  go_wp2_with (first | ((with_reducible refine gate_callee (f := 37) rfl ?_); refine goesL_ (some 4) rfl rfl Tryz.func37 (by kernel_rfl) rfl #[.slice A0 l0.length c0, .string (⟨#[32]⟩ : ByteArray)] rfl (by (try simp only [List.map_toArray, List.map_cons, List.map_nil]); first | done | rfl | (simp only [List.length_drop, List.length_take]; rfl)) ?_; (with_reducible refine (strings_Join.calls _ _ l0 (⟨#[32]⟩ : ByteArray) t117 _ ?side1 ?side2 A2.out).mono ?_); (case side1 => repeat (first | exact HR0.out | (with_reducible refine Kd.C_alloc ?_ _) | (with_reducible refine Kd.C_drewN ?_ _) | (with_reducible refine Kd.C_drew ?_))); (case side2 => exact HC0.out); rintro e w4 ⟨rfl, hb⟩; refine ⟨_, rfl, ?_⟩; have n0_ := As0.mk (below_step (by repeat (first | (with_reducible first | exact HB.out | apply bla | apply bln | apply bld) | exact HB.out)) hb); clear HB; have HB := n0_; clear n0_; (try clear hb); (try clear hb2); (try clear hk); (try clear hi)))
  go_ret
  exact ⟨by first | rfl | (simp [errW_none, errW_some] <;> rfl) | (simp [*, errW_none, errW_some] <;> rfl), by repeat (first | (with_reducible first | exact HB.out | apply bla | apply bln | apply bld) | exact HB.out)⟩
 ·
  rw [if_neg c3] at H
  exact absurd H (by simp)
end Go.Proofs.YtmppkcdphgelcaaGreatDoor.PConf
namespace Go.Proofs.YtmppkcdphgelcaaGreatDoor.PConf
open Go.RowKit Go.Proofs.YtmppkcdphgelcaaGreatDoor.W.PrintWords Go.Proofs.YtmppkcdphgelcaaGreatDoor.W.PrintLast Go.Proofs.YtmppkcdphgelcaaGreatDoor.W.PrintMore
attribute [local go_sem] max2_int min2_int max_two min_two max_three min_three max_four min_four   -- for this text's walks alone
set_option linter.unusedVariables false
set_option linter.unusedSimpArgs false
def conf_Number.f (a0 : Int) : Option (ByteArray) :=
 if -9223372036854775808 ≤ a0 ∧ a0 ≤ 9223372036854775807 then some ⟨(Lib.itoa a0).toArray⟩ else none
theorem conf_Number.grow_below {w : World} (k : Nat) (os : Array Obj) : Below w.heap.size w (Go.Sort.grow (w.drewN k) os) :=
 ⟨rfl, rfl, rfl, by show w.heap.size ≤ (w.heap ++ os).size; rw [Array.size_append]; omega, fun j hj => by show (w.heap ++ os)[j]? = w.heap[j]?; rw [Array.getElem?_append_left hj]⟩
theorem conf_Number.calls (a0 : Int) (r : ByteArray) (w : World) (hL_ : Laid w) (h : conf_Number.f a0 = some r) :
  Calls Tryz.prog 22 #[.int .i64 a0] w fun e w' => e = .returned (.string r) ∧ Below w.heap.size w w' := by
 unfold conf_Number.f at h
 by_cases hs : -9223372036854775808 ≤ a0 ∧ a0 ≤ 9223372036854775807
 ·
  rw [if_pos hs] at h
  simp only [Option.some.injEq] at h
  have H := As0.mk h
  clear h
  have htab := hL_.tab
  have HC := As0.mk (Tryz.strconv_Itoa a0 hs.1 hs.2 w htab)
  clear htab hL_ hs
  go_enter Tryz.func22, Tryz.ntmps22
  go_wp2_with (go_at_call 38; refine HC.out.mono ?_; rintro e w' ⟨rfl, k, os, rfl⟩)
  go_ret
  exact ⟨by rw [← H.out]; rfl, conf_Number.grow_below k os⟩
 ·
  rw [if_neg hs] at h
  cases h
end Go.Proofs.YtmppkcdphgelcaaGreatDoor.PConf
namespace Go.Proofs.YtmppkcdphgelcaaGreatDoor.PConf
open Go.RowKit Go.Proofs.YtmppkcdphgelcaaGreatDoor.W.PrintWords Go.Proofs.YtmppkcdphgelcaaGreatDoor.W.PrintLast Go.Proofs.YtmppkcdphgelcaaGreatDoor.W.PrintMore
attribute [local go_sem] max2_int min2_int max_two min_two max_three min_three max_four min_four   -- for this text's walks alone
set_option linter.unusedVariables false
set_option linter.unusedSimpArgs false
def names_Tell.bit (set : Int) (i : Nat) : Bool := Go.bits .and .u64 (set / 2 ^ i) 1 == 1
def names_Tell.upto (l : List ByteArray) (set : Int) : Nat → List ByteArray
 | 0 => []
 | i + 1 => names_Tell.upto l set i ++ (if names_Tell.bit set i then [l.getD i ByteArray.empty] else [])
def names_Tell.f (l0 : List ByteArray) (a1 : Int) : Option (List ByteArray) := some (names_Tell.upto l0 a1 (min l0.length 64))
theorem names_Tell.len (l : List ByteArray) (set : Int) (i : Nat) : (names_Tell.upto l set i).length ≤ i := by
 induction i with
 | zero => simp [names_Tell.upto]
 | succ i ih => rw [names_Tell.upto, List.length_append]; split <;> simp <;> omega
set_option maxHeartbeats 3200000 in
set_option maxRecDepth 100000 in
theorem names_Tell.calls (A0 : Option Addr) (c0 : Nat) (l0 : List ByteArray) (a1 : Int) (r : List ByteArray) (w : World) (hr0 : Kd.C Kd.string w A0 l0.length l0) (hc0 : l0.length ≤ c0) (h : names_Tell.f l0 a1 = some r) :
  Calls Tryz.prog 39 #[.slice A0 l0.length c0, .int .u64 a1] w fun e w' => ∃ v0_ : Value, e = .returned (v0_) ∧ Kd.R Kd.string 9 w' w.heap.size (fun _ => True) v0_ r ∧ Below w.heap.size w w' := by
 have H := As0.mk (Option.some.inj h)
 clear h
 obtain ⟨i0, hi0, hz0, hz1, hz2⟩ := info_parts info9
 obtain ⟨m, hm⟩ : ∃ m, m = min l0.length 64 := ⟨_, rfl⟩
 rw [← hm] at H
 have hml : m ≤ l0.length := by omega
 have hm64 : m ≤ 64 := by omega
 have hmin : (if (64 : Int) < (l0.length : Int) then (64 : Int) else (l0.length : Int)) = (m : Int) := by split <;> omega
 have hcut := cut_to (P := Tryz.prog) 22 9 .i64 Tryz.underlying22 hi0 A0 l0.length c0 (m : Int) (by omega) (by omega) hc0
 have hcut' : ∀ W : World, (Instr.slice 22 (.slice A0 l0.length c0) none (some (.int .i64 (m : Int))) none).run Tryz.prog W = .ok (.slice A0 m c0) W := hcut
 have HR := As0.mk hr0
 have HB := As0.mk (Below.refl w.heap.size w)
 clear hcut hm hr0
 go_enter Tryz.func39, Tryz.ntmps39
 go_wp2
 go_loopw [5, 14] (fun v i wr => ∃ j : Nat, i = .int .i64 j ∧ j ≤ m ∧ As0 (Kd.R Kd.string 9 wr w.heap.size (fun _ => True) v (names_Tell.upto l0 a1 j)) ∧ As0 (Below w.heap.size w wr)) (fun _ i _ => m - (intOf i).toNat)
 case atStart => exact ⟨0, rfl, Nat.zero_le _, ⟨Kd.R_nil _ _ _ _ _⟩, HB⟩
 case round =>
  obtain ⟨j, rfl, hj, HO, HBw⟩ := hrel
  have HRw := As0.mk (Kd.C_below HR.out HBw.out)
  by_cases hlt : j < m
  ·
   obtain ⟨ad, hA, hx⟩ := Kd.at_string HRw.out j (by omega) (by omega)
   subst hA
   rw [show ((j : Int)).toNat = j from rfl, show rdOf ByteArray.empty l0 (j : Int) = l0.getD j ByteArray.empty from rfl] at hx
   obtain ⟨x, hx0⟩ : ∃ x, x = l0.getD j ByteArray.empty := ⟨_, rfl⟩
   rw [← hx0] at hx
   have hup := As0.mk (show names_Tell.upto l0 a1 (j + 1) = names_Tell.upto l0 a1 j ++ (if names_Tell.bit a1 j then [x] else []) by rw [names_Tell.upto, hx0])
   have hll := names_Tell.len l0 a1 j
   have h0 : 0 ≤ (j : Int) := by omega
   have h64 : (j : Int) < 64 := by omega
   have h1 : min j 64 = j := by omega
   obtain ⟨s, hs⟩ : ∃ s, a1 / 2 ^ j = s := ⟨_, rfl⟩
   clear hx0
   cases hb : names_Tell.bit a1 j with
   | true =>
    have hup' := As0.mk (hup.out.trans (by rw [hb, if_pos rfl]))
    unfold names_Tell.bit at hb
    rw [hs] at hb
    clear hup
    obtain ⟨y, hy⟩ : ∃ y, y = names_Tell.upto l0 a1 j := ⟨_, rfl⟩
    rw [← hy] at HO hup' hll
    clear hy
    go_wp2_with (at_builtin; refine Kd.R_append Kd.string w.heap.size rfl _ _ 22 9 (.string ⟨#[]⟩) 16 rfl Tryz.underlying22 info9 rfl (by decide) (by omega) _ y x [.string x] (fun _ => True) (fun _ => False) (by rfl) (by rfl) rfl (fun _ h => h.elim) (fun _ _ => trivial) (HO.out) HBw.out (by exact HBw.out.size) (by omega) ?_; intro v1 w1 HO1' hb1 hg1 hat1; have HO1 := As0.mk HO1'; have HB1 := As0.mk hb1; clear HO1' hb1 hg1 hat1)
    go_roundw
    case rel => exact ⟨j + 1, by go_num, by omega, ⟨by rw [hup'.out]; exact HO1.out⟩, HB1⟩
    case measure => simp [intOf]; omega
   | false =>
    have hup' := As0.mk (hup.out.trans (by rw [hb, if_neg (by decide), List.append_nil]))
    unfold names_Tell.bit at hb
    rw [hs] at hb
    clear hup
    go_wp2
    go_roundw
    case rel => exact ⟨j + 1, by go_num, by omega, ⟨by rw [hup'.out]; exact HO.out⟩, HBw⟩
    case measure => simp [intOf]; omega
  ·
   have hje : j = m := by omega
   subst hje
   rw [H.out] at HO
   clear H
   go_wp2
   go_ret
   exact ⟨_, rfl, HO.out, HBw.out⟩
end Go.Proofs.YtmppkcdphgelcaaGreatDoor.PConf
