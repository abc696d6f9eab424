/- Contracts of functions and plain laws. -/
import Derived.Test.YtalafpigfeiaiaaGreatDoorKV2
import Derived.Test.YtalafpigfeiaiaaGreatDoorProg
import Derived.Shelf.Strings.SlTrimAscii
import Derived.Shelf.Strings.Builder1
import Derived.Shelf.Strings.Builder2
import Derived.Shelf.Strings.OnBuilder
import Derived.Shelf.Strings.Trim
import Derived.Shelf.Small.Utf8
import Derived.Shelf.Small.Bits
import Derived.Shelf.Small.Strs
import Derived.Shelf.Small.Wraps
import Derived.Shelf.Strings.BuilderF
import Derived.Shelf.Strings.BuilderK
import Derived.Shelf.Strconv.Itoa0
import Derived.Shelf.Strings.Search1
import Derived.Shelf.Strings.Search2
import Derived.Shelf.Strings.Search3
import Derived.Shelf.Strings.Cut
import Derived.Shelf.Strings.Count
import Derived.Shelf.LaysM
import Derived.Shelf.Strings.Shaped
import Derived.Shelf.Strings.Prefix
import Derived.Shelf.Strings.Runes
import Derived.Shelf.Strings.AsciiSet
import Derived.Shelf.Unicode.DecodeSlow
import Derived.Shelf.Slices.Turned
import Derived.Ground.SlgmProg
import Derived.Shelf.SortM.Plain
import Derived.Shelf.SortM.SortNone
import Derived.Shelf.Abstract
import Derived.WalkKit
import Derived.OwnWalkIn
import Derived.TacticsInMore
import Derived.LoopNIn
import Derived.LoopIn
import Derived.Lib.Hide
import Derived.Maps.AppendAt
import Derived.RangeFuncBox
import Derived.Deep.RegionHeld3
import Derived.IntWalk
section
namespace Go.Proofs
open Go.Shelf
def Tryz.lays169_ren : Go.Shelf.Ren := ⟨fun | 169 => 60 | n => n, fun | 70 => 94 | 9 => 9 | 0 => 0 | 72 => 96 | 37 => 22 | 127 => 123 | 3 => 3 | 5 => 5 | n => n, fun | n => n⟩
theorem Tryz.lays169 : Go.Proofs.Lays.n169 Tryz.prog Tryz.lays169_ren := {
  mixed := by kernel_rfl
  f169 := Tryz.func60.trans (congrArg some (by kernel_rfl))
  t0 := Tryz.underlying0
  a0 := Tryz.isAgg0
  z0 := Tryz.sizeOf0
  v0 := Tryz.zeroValue0
  t3 := Tryz.underlying3
  a3 := Tryz.isAgg3
  z3 := Tryz.sizeOf3
  v3 := Tryz.zeroValue3
  t9 := Tryz.underlying9
  a9 := Tryz.isAgg9
  z9 := Tryz.sizeOf9
  v9 := Tryz.zeroValue9
  t37 := Tryz.underlying22
  a37 := Tryz.isAgg22
  z37 := Tryz.sizeOf22
  v37 := Tryz.zeroValue22
  t70 := Tryz.underlying94
  a70 := Tryz.isAgg94
  z70 := Tryz.sizeOf94
  v70 := Tryz.zeroValue94
  t72 := Tryz.underlying96
  a72 := Tryz.isAgg96
  z72 := Tryz.sizeOf96
  v72 := Tryz.zeroValue96
  t127 := Tryz.underlying123
  a127 := Tryz.isAgg123
  z127 := Tryz.sizeOf123
  v127 := Tryz.zeroValue123 }
theorem Tryz.Builder_Extra_169 : Builder.Extra Tryz.prog Tryz.lays169_ren := {
  sizeBuilder := by kernel_rfl
  liesBuilder := by kernel_rfl
  t5 := Tryz.underlying5
  a5 := Tryz.isAgg5
  z5 := Tryz.sizeOf5
  v5 := Tryz.zeroValue5
  infoByte := by kernel_rfl
  cellsByte := by kernel_rfl
  sizeByte := by kernel_rfl
  neB5 := by decide }
def Tryz.lays156_ren : Go.Shelf.Ren := ⟨fun | 156 => 62 | 165 => 93 | 166 => 58 | 169 => 60 | 240 => 86 | 241 => 130 | 276 => 122 | 277 => 171 | n => n, fun | 31 => 29 | 9 => 9 | 3 => 3 | 4 => 4 | 0 => 0 | 20 => 20 | 72 => 96 | 76 => 99 | 70 => 94 | 37 => 22 | 75 => 98 | 127 => 123 | 164 => 146 | 5 => 5 | 80 => 101 | n => n, fun | n => n⟩
theorem Tryz.lays156 : Go.Proofs.Lays.n156 Tryz.prog Tryz.lays156_ren := {
  mixed := by kernel_rfl
  f156 := Tryz.func62.trans (congrArg some (by kernel_rfl))
  f165 := Tryz.func93.trans (congrArg some (by kernel_rfl))
  f166 := Tryz.func58.trans (congrArg some (by kernel_rfl))
  f169 := Tryz.func60.trans (congrArg some (by kernel_rfl))
  f240 := Tryz.func86.trans (congrArg some (by kernel_rfl))
  f241 := Tryz.func130.trans (congrArg some (by kernel_rfl))
  f276 := Tryz.func122.trans (congrArg some (by kernel_rfl))
  f277 := Tryz.func171.trans (congrArg some (by kernel_rfl))
  t0 := Tryz.underlying0
  a0 := Tryz.isAgg0
  z0 := Tryz.sizeOf0
  v0 := Tryz.zeroValue0
  t3 := Tryz.underlying3
  a3 := Tryz.isAgg3
  z3 := Tryz.sizeOf3
  v3 := Tryz.zeroValue3
  t4 := Tryz.underlying4
  a4 := Tryz.isAgg4
  z4 := Tryz.sizeOf4
  v4 := Tryz.zeroValue4
  t9 := Tryz.underlying9
  a9 := Tryz.isAgg9
  z9 := Tryz.sizeOf9
  v9 := Tryz.zeroValue9
  t20 := Tryz.underlying20
  a20 := Tryz.isAgg20
  z20 := Tryz.sizeOf20
  v20 := Tryz.zeroValue20
  t31 := Tryz.underlying29
  a31 := Tryz.isAgg29
  z31 := Tryz.sizeOf29
  v31 := Tryz.zeroValue29
  t37 := Tryz.underlying22
  a37 := Tryz.isAgg22
  z37 := Tryz.sizeOf22
  v37 := Tryz.zeroValue22
  t70 := Tryz.underlying94
  a70 := Tryz.isAgg94
  z70 := Tryz.sizeOf94
  v70 := Tryz.zeroValue94
  t72 := Tryz.underlying96
  a72 := Tryz.isAgg96
  z72 := Tryz.sizeOf96
  v72 := Tryz.zeroValue96
  t75 := Tryz.underlying98
  a75 := Tryz.isAgg98
  z75 := Tryz.sizeOf98
  v75 := Tryz.zeroValue98
  t76 := Tryz.underlying99
  a76 := Tryz.isAgg99
  z76 := Tryz.sizeOf99
  v76 := Tryz.zeroValue99
  t127 := Tryz.underlying123
  a127 := Tryz.isAgg123
  z127 := Tryz.sizeOf123
  v127 := Tryz.zeroValue123
  t164 := Tryz.underlying146
  a164 := Tryz.isAgg146
  z164 := Tryz.sizeOf146
  v164 := Tryz.zeroValue146 }
theorem Tryz.Builder_Extra_156 : Builder.Extra Tryz.prog Tryz.lays156_ren := {
  sizeBuilder := by kernel_rfl
  liesBuilder := by kernel_rfl
  t5 := Tryz.underlying5
  a5 := Tryz.isAgg5
  z5 := Tryz.sizeOf5
  v5 := Tryz.zeroValue5
  infoByte := by kernel_rfl
  cellsByte := by kernel_rfl
  sizeByte := by kernel_rfl
  neB5 := by decide }
open Go.RowKit in
theorem Tryz.strings_Join_none (a : Option Addr) (c : Nat) (sep : ByteArray) (w : World) :
    Calls Tryz.prog 62 #[.slice a 0 c, .string sep] w fun e w' => e = .returned (.string ⟨#[]⟩) ∧ w' = w := Any.strings_Join_none Tryz.lays156 Tryz.Builder_Extra_156 a c sep w
open Go.RowKit in
theorem Tryz.strings_Join (bk o c : Nat) (xs : List ByteArray) (sep : ByteArray) (w : World) (hcells : ∀ (j : Nat) x, xs[j]? = some x → w.cell? ⟨bk, o + j, none⟩ = some (.string x)) (hbk : bk < w.heap.size) (hN : xs.length ≤ 140737488355328) (hcap : xs.length ≤ c) (hlen : (Lib.join (xs.map (·.data.toList)) sep.data.toList).length ≤ 140737488355328) :
    Calls Tryz.prog 62 #[.slice (some ⟨bk, o, none⟩) xs.length c, .string sep] w fun e w' => e = .returned (.string ⟨(Lib.join (xs.map (·.data.toList)) sep.data.toList).toArray⟩) ∧ Below w.heap.size w w' := Any.strings_Join Tryz.lays156 Tryz.Builder_Extra_156 bk o c xs sep w hcells hbk hN hcap hlen
def Tryz.lays160_ren : Go.Shelf.Ren := ⟨fun | 160 => 198 | 232 => 229 | 231 => 228 | 227 => 230 | 234 => 232 | 233 => 231 | 236 => 234 | 235 => 233 | 228 => 250 | 271 => 252 | 151 => 251 | 197 => 208 | 120 => 258 | 152 => 257 | 260 => 239 | 137 => 88 | 119 => 262 | 224 => 237 | 225 => 236 | 217 => 123 | 266 => 167 | n => n, fun | 9 => 9 | 4 => 4 | 3 => 3 | 5 => 5 | 117 => 226 | 116 => 225 | 0 => 0 | 124 => 229 | 21 => 21 | 105 => 207 | 46 => 145 | 119 => 238 | 139 => 241 | 138 => 240 | n => n, fun | 3 => 2 | 4 => 3 | n => n⟩
theorem Tryz.lays160 : Go.Proofs.Lays.n160 Tryz.prog Tryz.lays160_ren := {
  mixed := by kernel_rfl
  f119 := Tryz.func262.trans (congrArg some (by kernel_rfl))
  f120 := Tryz.func258.trans (congrArg some (by kernel_rfl))
  f137 := Tryz.func88.trans (congrArg some (by kernel_rfl))
  f151 := Tryz.func251.trans (congrArg some (by kernel_rfl))
  f152 := Tryz.func257.trans (congrArg some (by kernel_rfl))
  f160 := Tryz.func198.trans (congrArg some (by kernel_rfl))
  f197 := Tryz.func208.trans (congrArg some (by kernel_rfl))
  f217 := Tryz.func123.trans (congrArg some (by kernel_rfl))
  f224 := Tryz.func237.trans (congrArg some (by kernel_rfl))
  f225 := Tryz.func236.trans (congrArg some (by kernel_rfl))
  f227 := Tryz.func230.trans (congrArg some (by kernel_rfl))
  f228 := Tryz.func250.trans (congrArg some (by kernel_rfl))
  f231 := Tryz.func228.trans (congrArg some (by kernel_rfl))
  f232 := Tryz.func229.trans (congrArg some (by kernel_rfl))
  f233 := Tryz.func231.trans (congrArg some (by kernel_rfl))
  f234 := Tryz.func232.trans (congrArg some (by kernel_rfl))
  f235 := Tryz.func233.trans (congrArg some (by kernel_rfl))
  f236 := Tryz.func234.trans (congrArg some (by kernel_rfl))
  f260 := Tryz.func239.trans (congrArg some (by kernel_rfl))
  f266 := Tryz.func167.trans (congrArg some (by kernel_rfl))
  f271 := Tryz.func252.trans (congrArg some (by kernel_rfl))
  t0 := Tryz.underlying0
  a0 := Tryz.isAgg0
  z0 := Tryz.sizeOf0
  v0 := Tryz.zeroValue0
  t3 := Tryz.underlying3
  a3 := Tryz.isAgg3
  z3 := Tryz.sizeOf3
  v3 := Tryz.zeroValue3
  t4 := Tryz.underlying4
  a4 := Tryz.isAgg4
  z4 := Tryz.sizeOf4
  v4 := Tryz.zeroValue4
  t5 := Tryz.underlying5
  a5 := Tryz.isAgg5
  z5 := Tryz.sizeOf5
  v5 := Tryz.zeroValue5
  t9 := Tryz.underlying9
  a9 := Tryz.isAgg9
  z9 := Tryz.sizeOf9
  v9 := Tryz.zeroValue9
  t21 := Tryz.underlying21
  a21 := Tryz.isAgg21
  z21 := Tryz.sizeOf21
  v21 := Tryz.zeroValue21
  t46 := Tryz.underlying145
  a46 := Tryz.isAgg145
  z46 := Tryz.sizeOf145
  v46 := Tryz.zeroValue145
  t105 := Tryz.underlying207
  a105 := Tryz.isAgg207
  z105 := Tryz.sizeOf207
  v105 := Tryz.zeroValue207
  t116 := Tryz.underlying225
  a116 := Tryz.isAgg225
  z116 := Tryz.sizeOf225
  t117 := Tryz.underlying226
  a117 := Tryz.isAgg226
  z117 := Tryz.sizeOf226
  v117 := Tryz.zeroValue226
  t119 := Tryz.underlying238
  a119 := Tryz.isAgg238
  z119 := Tryz.sizeOf238
  t124 := Tryz.underlying229
  a124 := Tryz.isAgg229
  z124 := Tryz.sizeOf229
  v124 := Tryz.zeroValue229
  t138 := Tryz.underlying240
  a138 := Tryz.isAgg240
  z138 := Tryz.sizeOf240
  v138 := Tryz.zeroValue240
  t139 := Tryz.underlying241
  a139 := Tryz.isAgg241
  z139 := Tryz.sizeOf241
  v139 := Tryz.zeroValue241
  g3 := by kernel_rfl
  g4 := by kernel_rfl }
def Tryz.lays137_ren : Go.Shelf.Ren := ⟨fun | 137 => 88 | 217 => 123 | 266 => 167 | n => n, fun | 9 => 9 | 5 => 5 | 3 => 3 | n => n, fun | n => n⟩
theorem Tryz.lays137 : Go.Proofs.Lays.n137 Tryz.prog Tryz.lays137_ren := {
  mixed := by kernel_rfl
  f137 := Tryz.func88.trans (congrArg some (by kernel_rfl))
  f217 := Tryz.func123.trans (congrArg some (by kernel_rfl))
  f266 := Tryz.func167.trans (congrArg some (by kernel_rfl))
  t3 := Tryz.underlying3
  a3 := Tryz.isAgg3
  z3 := Tryz.sizeOf3
  v3 := Tryz.zeroValue3
  t5 := Tryz.underlying5
  a5 := Tryz.isAgg5
  z5 := Tryz.sizeOf5
  v5 := Tryz.zeroValue5
  t9 := Tryz.underlying9
  a9 := Tryz.isAgg9
  z9 := Tryz.sizeOf9
  v9 := Tryz.zeroValue9 }
open Go.RowKit in
theorem Tryz.strings_IndexByte (s : ByteArray) (c : Int) (w : World) :
    Calls Tryz.prog 88 #[.string s, .int .u8 c] w fun e w' => e = .returned (.int .i64 (Lib.indexByte s.data.toList c.toNat.toUInt8)) ∧ w' = w := Any.strings_IndexByte Tryz.lays137 s c w
open Go.RowKit in
theorem Tryz.Builder_String_any_k (B b : Nat) (l : List UInt8) (w : World) (h : Lib.IsBuilderF 96 5 B b (Lib.byteCells l) w) (hBw : B ≤ w.heap.size) :
    Calls Tryz.prog 60 #[.pointer (some ⟨b, 0, none⟩)] w fun e w' => e = .returned (.string ⟨l.toArray⟩) ∧ (Lib.IsBuilderF 96 5 B b (Lib.byteCells l) w' ∧ Below B w w' ∧ Lib.OthersKept 5 (some b) w w') := Any.Builder_String_any_k Tryz.lays169 Tryz.Builder_Extra_169 B b l w h hBw
def Tryz.lays219_ren : Go.Shelf.Ren := ⟨fun | 219 => 205 | 217 => 123 | 225 => 236 | 224 => 237 | 267 => 238 | 266 => 167 | 314 => 253 | n => n, fun | 9 => 9 | 3 => 3 | 4 => 4 | 5 => 5 | 46 => 145 | 146 => 236 | 51 => 176 | n => n, fun | 1 => 0 | n => n⟩
theorem Tryz.lays219 : Go.Proofs.Lays.n219 Tryz.prog Tryz.lays219_ren := {
  mixed := by kernel_rfl
  f217 := Tryz.func123.trans (congrArg some (by kernel_rfl))
  f219 := Tryz.func205.trans (congrArg some (by kernel_rfl))
  f224 := Tryz.func237.trans (congrArg some (by kernel_rfl))
  f225 := Tryz.func236.trans (congrArg some (by kernel_rfl))
  f266 := Tryz.func167.trans (congrArg some (by kernel_rfl))
  f267 := Tryz.func238.trans (congrArg some (by kernel_rfl))
  f314 := Tryz.func253.trans (congrArg some (by kernel_rfl))
  t3 := Tryz.underlying3
  a3 := Tryz.isAgg3
  z3 := Tryz.sizeOf3
  v3 := Tryz.zeroValue3
  t4 := Tryz.underlying4
  a4 := Tryz.isAgg4
  z4 := Tryz.sizeOf4
  v4 := Tryz.zeroValue4
  t5 := Tryz.underlying5
  a5 := Tryz.isAgg5
  z5 := Tryz.sizeOf5
  v5 := Tryz.zeroValue5
  t9 := Tryz.underlying9
  a9 := Tryz.isAgg9
  z9 := Tryz.sizeOf9
  v9 := Tryz.zeroValue9
  t46 := Tryz.underlying145
  a46 := Tryz.isAgg145
  z46 := Tryz.sizeOf145
  v46 := Tryz.zeroValue145
  t51 := Tryz.underlying176
  a51 := Tryz.isAgg176
  z51 := Tryz.sizeOf176
  v51 := Tryz.zeroValue176
  t146 := Tryz.underlying236
  a146 := Tryz.isAgg236
  z146 := Tryz.sizeOf236
  v146 := Tryz.zeroValue236
  g1 := by kernel_rfl }
open Go.RowKit Go.Lib in
theorem Tryz.stringslite_Index_one (s : ByteArray) (c : UInt8) (w : World) :
    Calls Tryz.prog 205 #[.string s, .string ⟨#[c]⟩] w fun e w' => e = .returned (.int .i64 (Lib.indexByte s.data.toList c)) ∧ w' = w := Any.stringslite_Index_one Tryz.lays219 s c w
def Tryz.lays143_ren : Go.Shelf.Ren := ⟨fun | 143 => 209 | 219 => 205 | 217 => 123 | 225 => 236 | 224 => 237 | 267 => 238 | 266 => 167 | 314 => 253 | n => n, fun | 9 => 9 | 3 => 3 | 4 => 4 | 5 => 5 | 46 => 145 | 146 => 236 | 51 => 176 | n => n, fun | 1 => 0 | n => n⟩
theorem Tryz.lays143 : Go.Proofs.Lays.n143 Tryz.prog Tryz.lays143_ren := {
  mixed := by kernel_rfl
  f143 := Tryz.func209.trans (congrArg some (by kernel_rfl))
  f217 := Tryz.func123.trans (congrArg some (by kernel_rfl))
  f219 := Tryz.func205.trans (congrArg some (by kernel_rfl))
  f224 := Tryz.func237.trans (congrArg some (by kernel_rfl))
  f225 := Tryz.func236.trans (congrArg some (by kernel_rfl))
  f266 := Tryz.func167.trans (congrArg some (by kernel_rfl))
  f267 := Tryz.func238.trans (congrArg some (by kernel_rfl))
  f314 := Tryz.func253.trans (congrArg some (by kernel_rfl))
  t3 := Tryz.underlying3
  a3 := Tryz.isAgg3
  z3 := Tryz.sizeOf3
  v3 := Tryz.zeroValue3
  t4 := Tryz.underlying4
  a4 := Tryz.isAgg4
  z4 := Tryz.sizeOf4
  v4 := Tryz.zeroValue4
  t5 := Tryz.underlying5
  a5 := Tryz.isAgg5
  z5 := Tryz.sizeOf5
  v5 := Tryz.zeroValue5
  t9 := Tryz.underlying9
  a9 := Tryz.isAgg9
  z9 := Tryz.sizeOf9
  v9 := Tryz.zeroValue9
  t46 := Tryz.underlying145
  a46 := Tryz.isAgg145
  z46 := Tryz.sizeOf145
  v46 := Tryz.zeroValue145
  t51 := Tryz.underlying176
  a51 := Tryz.isAgg176
  z51 := Tryz.sizeOf176
  v51 := Tryz.zeroValue176
  t146 := Tryz.underlying236
  a146 := Tryz.isAgg236
  z146 := Tryz.sizeOf236
  v146 := Tryz.zeroValue236
  g1 := by kernel_rfl }
open Go.RowKit Go.Lib in
theorem Tryz.strings_Index_one (s : ByteArray) (c : UInt8) (w : World) :
    Calls Tryz.prog 209 #[.string s, .string ⟨#[c]⟩] w fun e w' => e = .returned (.int .i64 (Lib.indexByte s.data.toList c)) ∧ w' = w := Any.strings_Index_one Tryz.lays143 s c w
def Tryz.lays206_ren : Go.Shelf.Ren := ⟨fun | 206 => 128 | n => n, fun | 9 => 9 | 4 => 4 | 3 => 3 | n => n, fun | n => n⟩
theorem Tryz.lays206 : Go.Proofs.Lays.n206 Tryz.prog Tryz.lays206_ren := {
  mixed := by kernel_rfl
  f206 := Tryz.func128.trans (congrArg some (by kernel_rfl))
  t3 := Tryz.underlying3
  a3 := Tryz.isAgg3
  z3 := Tryz.sizeOf3
  v3 := Tryz.zeroValue3
  t4 := Tryz.underlying4
  a4 := Tryz.isAgg4
  z4 := Tryz.sizeOf4
  v4 := Tryz.zeroValue4
  t9 := Tryz.underlying9
  a9 := Tryz.isAgg9
  z9 := Tryz.sizeOf9
  v9 := Tryz.zeroValue9 }
open Go.RowKit Go.Lib in
theorem Tryz.stringslite_HasPrefix (s p : ByteArray) (w : World) :
    Calls Tryz.prog 128 #[.string s, .string p] w fun e w' => e = .returned (.bool (Lib.hasPrefix s.data.toList p.data.toList)) ∧ w' = w := Any.stringslite_HasPrefix Tryz.lays206 s p w
def Tryz.lays99_ren : Go.Shelf.Ren := ⟨fun | 99 => 90 | 206 => 128 | n => n, fun | 9 => 9 | 4 => 4 | 3 => 3 | n => n, fun | n => n⟩
theorem Tryz.lays99 : Go.Proofs.Lays.n99 Tryz.prog Tryz.lays99_ren := {
  mixed := by kernel_rfl
  f99 := Tryz.func90.trans (congrArg some (by kernel_rfl))
  f206 := Tryz.func128.trans (congrArg some (by kernel_rfl))
  t3 := Tryz.underlying3
  a3 := Tryz.isAgg3
  z3 := Tryz.sizeOf3
  v3 := Tryz.zeroValue3
  t4 := Tryz.underlying4
  a4 := Tryz.isAgg4
  z4 := Tryz.sizeOf4
  v4 := Tryz.zeroValue4
  t9 := Tryz.underlying9
  a9 := Tryz.isAgg9
  z9 := Tryz.sizeOf9
  v9 := Tryz.zeroValue9 }
open Go.RowKit Go.Lib in
theorem Tryz.strings_HasPrefix (s p : ByteArray) (w : World) :
    Calls Tryz.prog 90 #[.string s, .string p] w fun e w' => e = .returned (.bool (Lib.hasPrefix s.data.toList p.data.toList)) ∧ w' = w := Any.strings_HasPrefix Tryz.lays99 s p w
def Tryz.lays110_ren : Go.Shelf.Ren := ⟨fun | 110 => 80 | 109 => 117 | n => n, fun | 31 => 29 | 9 => 9 | 4 => 4 | 3 => 3 | 0 => 0 | n => n, fun | n => n⟩
theorem Tryz.lays110 : Go.Proofs.Lays.n110 Tryz.prog Tryz.lays110_ren := {
  mixed := by kernel_rfl
  f109 := Tryz.func117.trans (congrArg some (by kernel_rfl))
  f110 := Tryz.func80.trans (congrArg some (by kernel_rfl))
  t0 := Tryz.underlying0
  a0 := Tryz.isAgg0
  z0 := Tryz.sizeOf0
  v0 := Tryz.zeroValue0
  t3 := Tryz.underlying3
  a3 := Tryz.isAgg3
  z3 := Tryz.sizeOf3
  v3 := Tryz.zeroValue3
  t4 := Tryz.underlying4
  a4 := Tryz.isAgg4
  z4 := Tryz.sizeOf4
  v4 := Tryz.zeroValue4
  t9 := Tryz.underlying9
  a9 := Tryz.isAgg9
  z9 := Tryz.sizeOf9
  v9 := Tryz.zeroValue9
  t31 := Tryz.underlying29
  a31 := Tryz.isAgg29
  z31 := Tryz.sizeOf29
  v31 := Tryz.zeroValue29 }
open Go.Lib in
theorem Tryz.slices_Contains_string (b off n c : Nat) (zs : List ByteArray) (x : ByteArray) (w : World) (hz : n ≤ zs.length) (hbig : n ≤ 9223372036854775807) (hc : ∀ j, j < zs.length → w.cell? ⟨b, off + j, none⟩ = some (.string (zs.getD j ByteArray.empty))) :
    Calls Tryz.prog 80 #[.slice (some ⟨b, off, none⟩) n c, .string x] w fun e w' => e = .returned (.bool (Lib.containsS (zs.take n) x)) ∧ w' = w := Any.slices_Contains_string Tryz.lays110 b off n c zs x w hz hbig hc
open Go.Lib in
theorem Tryz.slices_Contains_string_empty (a : Option Addr) (c : Nat) (x : ByteArray) (w : World) :
    Calls Tryz.prog 80 #[.slice a 0 c, .string x] w fun e w' => e = .returned (.bool false) ∧ w' = w := Any.slices_Contains_string_empty Tryz.lays110 a c x w
def Tryz.laysSlM6_f84_ren : Go.Shelf.Ren := ⟨fun | 6 => 84 | 8 => 121 | 9 => 120 | 19 => 165 | 20 => 166 | 21 => 156 | 22 => 157 | 23 => 158 | 24 => 159 | 25 => 160 | 26 => 161 | 27 => 162 | 28 => 163 | 29 => 164 | 36 => 199 | 31 => 200 | 32 => 201 | 37 => 202 | 38 => 203 | 39 => 204 | 41 => 235 | n => n, fun | 27 => 29 | 29 => 9 | 3 => 3 | 32 => 145 | 26 => 29 | 0 => 0 | 44 => 176 | 46 => 178 | 4 => 4 | 36 => 169 | 35 => 168 | 41 => 173 | 5 => 5 | 9 => 9 | 53 => 200 | 57 => 204 | 63 => 230 | 64 => 231 | n => n, fun | n => n⟩
theorem Tryz.laysSlM6_f84 : Go.Proofs.SlLaysM.n6 Tryz.prog Tryz.laysSlM6_f84_ren := {
  mixed := by kernel_rfl
  f6 := ⟨Tryz.f84.name, by decide, Tryz.func84.trans (congrArg some (by kernel_rfl))⟩
  f8 := Tryz.func121.trans (congrArg some (by kernel_rfl))
  f9 := ⟨Tryz.f120.name, by decide, Tryz.func120.trans (congrArg some (by kernel_rfl))⟩
  f19 := Tryz.func165.trans (congrArg some (by kernel_rfl))
  f20 := Tryz.func166.trans (congrArg some (by kernel_rfl))
  f21 := ⟨Tryz.f156.name, by decide, Tryz.func156.trans (congrArg some (by kernel_rfl))⟩
  f22 := ⟨Tryz.f157.name, by decide, Tryz.func157.trans (congrArg some (by kernel_rfl))⟩
  f23 := ⟨Tryz.f158.name, by decide, Tryz.func158.trans (congrArg some (by kernel_rfl))⟩
  f24 := ⟨Tryz.f159.name, by decide, Tryz.func159.trans (congrArg some (by kernel_rfl))⟩
  f25 := ⟨Tryz.f160.name, by decide, Tryz.func160.trans (congrArg some (by kernel_rfl))⟩
  f26 := ⟨Tryz.f161.name, by decide, Tryz.func161.trans (congrArg some (by kernel_rfl))⟩
  f27 := ⟨Tryz.f162.name, by decide, Tryz.func162.trans (congrArg some (by kernel_rfl))⟩
  f28 := ⟨Tryz.f163.name, by decide, Tryz.func163.trans (congrArg some (by kernel_rfl))⟩
  f29 := ⟨Tryz.f164.name, by decide, Tryz.func164.trans (congrArg some (by kernel_rfl))⟩
  f31 := Tryz.func200.trans (congrArg some (by kernel_rfl))
  f32 := Tryz.func201.trans (congrArg some (by kernel_rfl))
  f36 := ⟨Tryz.f199.name, by decide, Tryz.func199.trans (congrArg some (by kernel_rfl))⟩
  f37 := ⟨Tryz.f202.name, by decide, Tryz.func202.trans (congrArg some (by kernel_rfl))⟩
  f38 := ⟨Tryz.f203.name, by decide, Tryz.func203.trans (congrArg some (by kernel_rfl))⟩
  f39 := ⟨Tryz.f204.name, by decide, Tryz.func204.trans (congrArg some (by kernel_rfl))⟩
  f41 := ⟨Tryz.f235.name, by decide, Tryz.func235.trans (congrArg some (by kernel_rfl))⟩
  t0 := Tryz.underlying0
  a0 := Tryz.isAgg0
  z0 := Tryz.sizeOf0
  v0 := Tryz.zeroValue0
  t3 := Tryz.underlying3
  a3 := Tryz.isAgg3
  z3 := Tryz.sizeOf3
  v3 := Tryz.zeroValue3
  t4 := Tryz.underlying4
  a4 := Tryz.isAgg4
  z4 := Tryz.sizeOf4
  v4 := Tryz.zeroValue4
  t5 := Tryz.underlying5
  a5 := Tryz.isAgg5
  z5 := Tryz.sizeOf5
  v5 := Tryz.zeroValue5
  t9 := Tryz.underlying9
  a9 := Tryz.isAgg9
  z9 := Tryz.sizeOf9
  v9 := Tryz.zeroValue9
  t26 := Tryz.underlying29
  a26 := Tryz.isAgg29
  z26 := Tryz.sizeOf29
  v26 := Tryz.zeroValue29
  t27 := Tryz.underlying29
  a27 := Tryz.isAgg29
  z27 := Tryz.sizeOf29
  v27 := Tryz.zeroValue29
  t29 := Tryz.underlying9
  a29 := Tryz.isAgg9
  z29 := Tryz.sizeOf9
  v29 := Tryz.zeroValue9
  t32 := Tryz.underlying145
  a32 := Tryz.isAgg145
  z32 := Tryz.sizeOf145
  v32 := Tryz.zeroValue145
  t35 := Tryz.underlying168
  a35 := Tryz.isAgg168
  z35 := Tryz.sizeOf168
  v35 := Tryz.zeroValue168
  t36 := Tryz.underlying169
  a36 := Tryz.isAgg169
  z36 := Tryz.sizeOf169
  v36 := Tryz.zeroValue169
  t41 := Tryz.underlying173
  a41 := Tryz.isAgg173
  z41 := Tryz.sizeOf173
  v41 := Tryz.zeroValue173
  t44 := Tryz.underlying176
  a44 := Tryz.isAgg176
  z44 := Tryz.sizeOf176
  v44 := Tryz.zeroValue176
  t46 := Tryz.underlying178
  a46 := Tryz.isAgg178
  z46 := Tryz.sizeOf178
  v46 := Tryz.zeroValue178
  t53 := Tryz.underlying200
  a53 := Tryz.isAgg200
  z53 := Tryz.sizeOf200
  v53 := Tryz.zeroValue200
  t57 := Tryz.underlying204
  a57 := Tryz.isAgg204
  z57 := Tryz.sizeOf204
  v57 := Tryz.zeroValue204
  t63 := Tryz.underlying230
  a63 := Tryz.isAgg230
  z63 := Tryz.sizeOf230
  v63 := Tryz.zeroValue230
  t64 := Tryz.underlying231
  a64 := Tryz.isAgg231
  z64 := Tryz.sizeOf231
  v64 := Tryz.zeroValue231 }
open Go.Sort Go.RowKit in
theorem Tryz.slices_Sort_string (blk off cap : Nat) (ss : List (List UInt8)) (w : World) (hH : Holds encStr w blk off ss.toArray) (hblk : blk < w.heap.size) (hsz : ss.length < 4611686018427387904) :
    Calls Tryz.prog 84 #[.slice (some ⟨blk, off, none⟩) ss.length cap] w fun e w' =>
      e = .returned (.tuple #[]) ∧ ∃ n os, w' = grow (putRow encStr (Sort.ahead w n) blk off (ss.mergeSort fun x y => decide (x ≤ y)).toArray) os := AnyM.slices_Sort_string Tryz.laysSlM6_f84 blk off cap ss w hH hblk hsz
open Go.RowKit Go.Sort in
theorem Tryz.slices_Sort_string_none (p : Option Addr) (cap : Nat) (w : World) :
    Calls Tryz.prog 84 #[.slice p 0 cap] w fun e w' => e = .returned (.tuple #[]) ∧ w' = w := AnyM.slices_Sort_string_none Tryz.laysSlM6_f84 p cap w
open Go.RowKit Go.Lib in
theorem Tryz.strings_Trim_laid (s cutset : ByteArray) (w : World) (hs : s.size ≤ 9223372036854775807) (hcs : cutset.size < 4294967281)
    (hascii : ∀ (j : Nat) b, cutset.data.toList[j]? = some b → b.toNat < 128) :
    Calls Tryz.prog 198 #[.string s, .string cutset] w fun e w' => e = .returned (.string ⟨(Lib.trimS s.data.toList cutset.data.toList).toArray⟩) ∧ Below w.heap.size w w' := Any.strings_Trim_laid Tryz.lays160 (by kernel_rfl) s cutset w hs hcs hascii
end Go.Proofs
end
section
namespace Go.Proofs.YtalafpigfeiaiaaGreatDoor.H
open Go.RowKit Go.Shelf
attribute [local go_sem] Oper.semAt_some
def boxLen (b : Nat) (w : World) : Nat := match w.cell? ⟨b, 0, none⟩ with
  | some (.string s) => s.size
  | _ => 0
theorem block_cell {W : World} {b : Nat} {t : TypeId} {v : Value} (h : W.heap[b]? = some (.cells #[v] t (0, 0))) : W.cell? ⟨b, 0, none⟩ = some v ∧ W.frozen? ⟨b, 0, none⟩ = false := by
  constructor
  · simp [World.cell?, h]
  · simp [World.frozen?, h]
theorem block_set {W : World} {b : Nat} {t : TypeId} {v : Value} (u : Value) (h : W.heap[b]? = some (.cells #[v] t (0, 0))) : (W.setCell ⟨b, 0, none⟩ u).heap[b]? = some (.cells #[u] t (0, 0)) := by
  obtain ⟨hlt, hk⟩ := Array.getElem?_eq_some_iff.1 h
  show (W.heap.modify b _)[b]? = _
  rw [Array.getElem?_eq_getElem (by rw [Array.size_modify]; exact hlt), Array.getElem_modify_self, hk]
  rfl
def SeqBoxes (b1 b2 b3 : Nat) (c : UInt8) (cur : Str) (W : World) : Prop :=
  W.heap[b1]? = some (.cells #[.string ⟨#[c]⟩] 9 (0, 0)) ∧ W.heap[b2]? = some (.cells #[.string (bs cur)] 9 (0, 0)) ∧ W.heap[b3]? = some (.cells #[.int .i64 0] 3 (0, 0))
set_option maxRecDepth 100000 in
set_option maxHeartbeats 2000000 in
theorem splitSeq1 (n : Nat) (hn : 5 ≤ n) (b1 b2 b3 : Nat) (c : UInt8) (s : Str) (hs : s.length ≤ 140737488351232) (h12 : b1 ≠ b2) (h32 : b3 ≠ b2) (w : World) (hw : SeqBoxes b1 b2 b3 c s w) :
    Iter n Tryz.prog 207 #[.pointer (some ⟨b1, 0, none⟩), .pointer (some ⟨b2, 0, none⟩), .pointer (some ⟨b3, 0, none⟩)] Value.string (fun x => x.size ≤ s.length) (fun k => k = b1 ∨ k = b2 ∨ k = b3)
      (fun xs => xs = (splitB c s).map bs) (fun _ => True) (s.length + 1) w := by
  intro l J Jx W hW h0 hJ hJx hY
  have hlt : b1 < w.heap.size ∧ b2 < w.heap.size ∧ b3 < w.heap.size := ⟨(Array.getElem?_eq_some_iff.1 hw.1).1, (Array.getElem?_eq_some_iff.1 hw.2.1).1, (Array.getElem?_eq_some_iff.1 hw.2.2).1⟩
  have hwW : SeqBoxes b1 b2 b3 c s W := ⟨(hW.block _ hlt.1).trans hw.1, (hW.block _ hlt.2.1).trans hw.2.1, (hW.block _ hlt.2.2).trans hw.2.2⟩
  obtain ⟨T, hT⟩ : ∃ T : Nat → Prop, T = fun k => k = b1 ∨ k = b2 ∨ k = b3 := ⟨_, rfl⟩
  have hj0 : J T [] W := h0 T W (Below.refl _ _) (fun k hk => by rw [hT]; exact hk) (fun k hk => .inl (by rw [hT] at hk; exact hk))
  have hT1 : T b1 := by rw [hT]; exact .inl rfl
  have hT2 : T b2 := by rw [hT]; exact .inr (.inl rfl)
  have hT3 : T b3 := by rw [hT]; exact .inr (.inr rfl)
  have hTT : ∀ k, T k → (k = b1 ∨ k = b2 ∨ k = b3) ∨ W.heap.size ≤ k := fun k hk => .inl (by rw [hT] at hk; exact hk)
  clear hT h0 hW hw
  have Hsp := Lib.hid (show s.length ≤ 140737488351232 from hs)
  refine callsIn_of_wp Tryz.func207 rfl trivial ?_ rfl
  simp only [Tryz.ntmps207, List.size_toArray, List.length_cons, List.length_nil, Nat.reduceAdd, Nat.reduceSub, Array.replicate_succ, Array.replicate_zero, List.push_toArray, List.append_toArray, List.nil_append, List.cons_append]
  have hc1 := (block_cell hwW.1).1
  have hf209 : Fence.wide.fn 209 := trivial
  have hn1 : 1 ≤ n := by omega
  have hn2 : 1 ≤ n - 1 := by omega
  gi_wp2
  gi_loopw [7, 8] (fun _ _ wr => ∃ (pre : List ByteArray) (cur : Str), (splitB c s).map bs = pre ++ (splitB c cur).map bs ∧ pre.length + cur.length ≤ s.length ∧ SeqBoxes b1 b2 b3 c cur wr ∧ J T pre wr)
    (fun _ _ wr => boxLen b2 wr)
  case atStart => exact ⟨[], s, rfl, by simp, hwW, hj0⟩
  case round =>
    obtain ⟨pre, cur, hx, hlen, hb, hJs⟩ := hrel
    have Hx := Lib.hid hx
    clear hx hc1
    have hc1 := (block_cell hb.1).1
    have hc2 := (block_cell hb.2.1).1
    have hf2 := (block_cell hb.2.1).2
    have hc3 := (block_cell hb.2.2).1
    by_cases hi : Lib.indexByte cur c = -1
    · have Hi := Lib.hid hi
      clear hi
      obtain ⟨fn, tmps, assign, body, hy, hR⟩ := hY T pre (bs cur) wr (by rw [bs_size]; omega) hJs (by omega)
      gi_wp2_with (gi_at_call 209; refine (callsIn_wide.2 (Tryz.strings_Index_one (bs cur) c _)).mono ?_; rintro e w' ⟨rfl, rfl⟩; rw [show Lib.indexByte (bs cur).data.toList c = -1 from Hi.out])
      refine hR.mono ?_
      rintro e W3 (⟨rfl, hJ3, hk3⟩ | ⟨rfl, hJx3, hk3⟩)
      · gi_wp2
        go_end0
        exact ⟨⟨_, rfl⟩, T, hTT, .inl ⟨_, by rw [Hx.out, splitB_none Hi.out]; rfl, hJ3⟩⟩
      · gi_wp2
        go_end0
        exact ⟨⟨_, rfl⟩, T, hTT, .inr ⟨_, trivial, hJx3⟩⟩
    · obtain ⟨i, hi0⟩ : ∃ i : Nat, Lib.indexByte cur c = i := ⟨(Lib.indexByte cur c).toNat, by have := Lib.indexByte_ge cur c; omega⟩
      obtain ⟨hsp, hil⟩ := splitB_some hi0
      have Hi := Lib.hid hi0
      have Hs := Lib.hid hsp
      have hsz := Hsp.out
      have hib : i ≤ 140737488351232 := by omega
      clear hi hi0 hsp
      obtain ⟨fn, tmps, assign, body, hy, hR⟩ := hY T pre ((bs cur).extract 0 i) wr (by rw [bs_extract, bs_size]; simp; omega) hJs (by omega)
      gi_wp2_with (gi_at_call 209; refine (callsIn_wide.2 (Tryz.strings_Index_one (bs cur) c _)).mono ?_; rintro e w' ⟨rfl, rfl⟩; rw [show Lib.indexByte (bs cur).data.toList c = i from Hi.out])
      refine hR.mono ?_
      rintro e W3 (⟨rfl, hJ3, hk3⟩ | ⟨rfl, hJx3, hk3⟩)
      · have hb3 : SeqBoxes b1 b2 b3 c cur W3 := ⟨(hk3.same _ hT1).trans hb.1, (hk3.same _ hT2).trans hb.2.1, (hk3.same _ hT3).trans hb.2.2⟩
        have hd1 := (block_cell hb3.1).1
        have hd2 := (block_cell hb3.2.1).1
        have he2 := (block_cell hb3.2.1).2
        clear hc1 hc2 hc3 hf2 hk3 hR hy
        gi_wp2
        have hx1 : (bs cur).extract 0 i = bs (cur.take i) := by rw [bs_extract]; simp
        have hx2 : (bs cur).extract (i + 1) cur.length = bs (cur.drop (i + 1)) := by rw [bs_extract, List.take_of_length_le (by simp)]
        rw [hx2]
        rw [hx1] at hJ3
        refine ⟨⟨pre ++ [bs (cur.take i)], cur.drop (i + 1), ?_, by simp; omega, ⟨?_, block_set _ hb3.2.1, ?_⟩, hJ _ _ _ _ hJ3 (Off.setCell W3 _ hT2)⟩, ?_⟩
        · rw [Hx.out, Hs.out]; simp
        · exact (Below.heap_setCell _ _ _ _ h12).trans hb3.1
        · exact (Below.heap_setCell _ _ _ _ h32).trans hb3.2.2
        · have e1 : boxLen b2 w' = cur.length := by unfold boxLen; rw [(block_cell hb.2.1).1]; exact bs_size _
          have e2 : boxLen b2 (W3.setCell ⟨b2, 0, none⟩ (.string (bs (cur.drop (i + 1))))) = (cur.drop (i + 1)).length := by unfold boxLen; rw [(block_cell (block_set _ hb3.2.1)).1]; exact bs_size _
          rw [e1, e2]; simp; omega
      · gi_wp2
        refine bodyPost_ret (results_none rfl _ _ _) rfl ?_
        exact ⟨⟨_, rfl⟩, T, hTT, .inr ⟨_, trivial, hJx3⟩⟩
end Go.Proofs.YtalafpigfeiaiaaGreatDoor.H
end
section
namespace Go.Proofs.YtalafpigfeiaiaaGreatDoor.H
open Go.RowKit Go.Shelf
attribute [local go_sem] Oper.semAt_some
set_option linter.unusedVariables false
set_option linter.unusedSimpArgs false
theorem trimS_eq (l : Str) : Lib.trimS l [32, 9] = trimL l := by
  have e : (fun x => List.contains [(32 : UInt8), 9] x) = blankC := by
    funext c
    simp only [blankC, List.contains_cons, List.contains_nil, Bool.or_false]
  simp only [Lib.trimS, Lib.trimLeftS, Lib.trimRightS, e, trimL]
theorem trim_calls (s : ByteArray) (hs : s.size ≤ 140737488351232) (w : World) :
    Calls Tryz.prog 155 #[.string s] w fun e w' => e = .returned (.string (bs (trimL (ul s)))) ∧ Below w.heap.size w w' := by
  go_enter Tryz.func155, Tryz.ntmps155
  go_wp2_with (go_at_call 198; refine (Tryz.strings_Trim_laid s ⟨#[32, 9]⟩ _ (by omega) (by decide) (ascii_of_all (by decide))).mono ?_; rintro e w' ⟨rfl, hb⟩)
  go_ret
  exact ⟨by rw [trimS_eq]; rfl, hb⟩
def seqWorld (s : ByteArray) (c : UInt8) (w : World) : World := ((w.alloc (.cells #[.string s] 9)).alloc (.cells #[.string ⟨#[c]⟩] 9)).alloc (.cells #[.int .i64 0] 3)
set_option maxRecDepth 100000 in
theorem splitSeq_calls (s : ByteArray) (c : UInt8) (w : World) :
    Calls Tryz.prog 129 #[.string s, .string ⟨#[c]⟩] w fun e w' => e = .returned (.func (.func 207) #[] #[.pointer (some ⟨w.heap.size + 1, 0, none⟩), .pointer (some ⟨w.heap.size, 0, none⟩), .pointer (some ⟨w.heap.size + 2, 0, none⟩)]) ∧ w' = seqWorld s c w := by
  have h170 : Calls Tryz.prog 170 #[.string s, .string ⟨#[c]⟩, .int .i64 0] w fun e w' => e = .returned (.func (.func 207) #[] #[.pointer (some ⟨w.heap.size + 1, 0, none⟩), .pointer (some ⟨w.heap.size, 0, none⟩), .pointer (some ⟨w.heap.size + 2, 0, none⟩)]) ∧ w' = seqWorld s c w := by
    go_enter Tryz.func170, Tryz.ntmps170
    go_wp2
    go_ret
    exact ⟨by simp, rfl⟩
  go_enter Tryz.func129, Tryz.ntmps129
  go_wp2_with (go_at_call 170; refine h170.mono ?_; rintro e w' ⟨rfl, rfl⟩)
  go_ret
  exact ⟨rfl, rfl⟩
theorem seqWorld_boxes (s : ByteArray) (c : UInt8) (w : World) : SeqBoxes (w.heap.size + 1) w.heap.size (w.heap.size + 2) c (ul s) (seqWorld s c w) := by
  unfold SeqBoxes seqWorld
  refine ⟨?_, ?_, ?_⟩
  · rw [Below.heap_alloc _ _ _ (by simp)]
    have := heap_alloc_new (w.alloc (.cells #[.string s] 9)) (.cells #[.string ⟨#[c]⟩] 9)
    simpa using this
  · rw [Below.heap_alloc _ _ _ (by simp; omega), Below.heap_alloc _ _ _ (by simp)]
    exact heap_alloc_new w _
  · have := heap_alloc_new ((w.alloc (.cells #[.string s] 9)).alloc (.cells #[.string ⟨#[c]⟩] 9)) (.cells #[.int .i64 0] 3)
    simpa using this
theorem seqWorld_below (s : ByteArray) (c : UInt8) (w : World) : Below w.heap.size w (seqWorld s c w) :=
  (((Below.refl _ w).alloc (Nat.le_refl _) _).alloc (by simp) _).alloc (by simp; omega) _
theorem roundIn_any {m m' l l' : Nat} {P : Program} {f : FuncId} {tmps : Array Value} {assign body : Code} {w : World} {R : Ending → World → Prop} (h : RoundIn Fence.wide m P l f tmps assign body w R) : RoundIn (Fence.wide.inRound l') m' P l f tmps assign body w R :=
  ⟨h.1, fun c cs _ => h.2 c cs (room_wide _)⟩
theorem seqWorld_size (s : ByteArray) (c : UInt8) (w : World) : (seqWorld s c w).heap.size = w.heap.size + 3 := by simp [seqWorld]
def conv (pre : List ByteArray) : List ByteArray := ((pre.map fun p => lowL (trimL (ul p))).filter fun x => x ≠ []).map bs
theorem conv_snoc_nil (pre : List ByteArray) (x : ByteArray) (h : lowL (trimL (ul x)) = []) : conv (pre ++ [x]) = conv pre := by simp [conv, h]
theorem conv_snoc (pre : List ByteArray) (x : ByteArray) (h : lowL (trimL (ul x)) ≠ []) : conv (pre ++ [x]) = conv pre ++ [bs (lowL (trimL (ul x)))] := by simp [conv, h]
theorem conv_items (s : ByteArray) : conv ((splitB 44 (ul s)).map bs) = items s := by simp [conv, items, itemsL, Function.comp_def]
theorem conv_length (pre : List ByteArray) : (conv pre).length ≤ pre.length := by
  simp only [conv, List.length_map]
  exact Nat.le_trans (List.length_filter_le _ _) (by simp)
set_option maxRecDepth 100000 in
set_option maxHeartbeats 2000000 in
theorem pieces1 (n : Nat) (hn : 20 ≤ n) (b : Nat) (s : ByteArray) (hs : s.size ≤ 140737488351232) (w : World) (hw : w.heap[b]? = some (.cells #[.string s] 9 (0, 0))) :
    Iter n Tryz.prog 154 #[.pointer (some ⟨b, 0, none⟩)] Value.string (fun x => x.size ≤ s.size) (fun k => k = b) (fun xs => xs = items s) (fun _ => True) (s.size + 1) w := by
  intro l J Jx W hW h0 hJ hJx hY
  have hlt : b < w.heap.size := (Array.getElem?_eq_some_iff.1 hw).1
  have hwW := (hW.block _ hlt).trans hw
  have hltW : b < W.heap.size := (Array.getElem?_eq_some_iff.1 hwW).1
  have hn1 : 1 ≤ n := by omega
  have hn2 : 1 ≤ n - 1 := by omega
  have hn3 : 1 ≤ n - 1 - 1 := by omega
  have hf129 : Fence.wide.fn 129 := trivial
  have hf155 : Fence.wide.fn 155 := trivial
  have hf59 : Fence.wide.fn 59 := trivial
  refine callsIn_of_wp_marks Tryz.func154 rfl trivial ?_ rfl
  simp only [Tryz.ntmps154, List.size_toArray, List.length_cons, List.length_nil, Nat.reduceAdd, Nat.reduceSub, Array.replicate_succ, Array.replicate_zero, List.push_toArray, List.append_toArray, List.nil_append, List.cons_append]
  have hcs := (block_cell (Boxed.alloc (o := .cells #[.func (.yield l) #[] #[]] 83) hwW)).1
  gi_wp2_with (gi_at_call 129; refine (callsIn_wide.2 (splitSeq_calls s 44 _)).mono ?_; rintro e w' ⟨rfl, rfl⟩)
  clear hcs
  obtain ⟨W3, hW3⟩ : ∃ W3, seqWorld s 44 (W.alloc (.cells #[.func (.yield l) #[] #[]] 83)) = W3 := ⟨_, rfl⟩
  have hb3 : Below W.heap.size W W3 := by rw [← hW3]; exact ((Below.refl _ W).alloc (Nat.le_refl _) _).trans ((seqWorld_below s 44 _).mono (by simp))
  have hs3 : W3.heap.size = W.heap.size + 4 := by rw [← hW3, seqWorld_size]; simp
  have hz3 : W3.heap[W.heap.size]? = some (.cells #[.func (.yield l) #[] #[]] 83 (0, 0)) := by
    rw [← hW3, (seqWorld_below s 44 _).block _ (by simp)]; exact heap_alloc_new W _
  have hbox := seqWorld_boxes s 44 (W.alloc (.cells #[.func (.yield l) #[] #[]] 83))
  rw [hW3, World.size_alloc] at hbox
  rw [hW3]
  clear hW3
  obtain ⟨z, hz⟩ : ∃ z, W.heap.size = z := ⟨_, rfl⟩
  rw [hz] at hs3 hz3 hbox hb3 hltW h0 ⊢
  let V : (Nat → Prop) → Nat → Prop := fun T k => T k ∨ k = b ∨ k = z
  have hVT : ∀ T k, T k → V T k := fun _ _ h => .inl h
  refine range_law (P := Tryz.prog) (gf := 207) (lb := #[.pointer (some ⟨z + 1 + 1, 0, none⟩), .pointer (some ⟨z + 1, 0, none⟩), .pointer (some ⟨z + 1 + 2, 0, none⟩)]) rfl (enters_of Tryz.func207 (by kernel_rfl) rfl)
    (splitSeq1 (n - 1) (by omega) (z + 1 + 1) (z + 1) (z + 1 + 2) 44 (ul s) (by rw [ul_length]; exact hs) (by omega) (by omega) W3 hbox) (Below.refl _ _) (by rw [hs3]; omega) rfl
    (fun T pre W' => J (V T) (conv pre) W' ∧ (∀ k, T k → z < k ∧ k < W'.heap.size) ∧ W'.heap[z]? = some (.cells #[.func (.yield l) #[] #[]] 83 (0, 0)) ∧ z < W'.heap.size)
    (fun T c pre W' => c = .ret ∧ (∃ pre', Jx (V T) pre' W') ∧ ∀ k, T k → z < k)
    ?_ ?_ ?_ (fun x => { tmps := #[.func (.yield l) #[] #[], .pointer (some ⟨b, 0, none⟩), .pointer (some ⟨z, 0, none⟩), .string x, undef, .string s, .func (.func 207) #[] #[.pointer (some ⟨z + 1 + 1, 0, none⟩), .pointer (some ⟨z + 1, 0, none⟩), .pointer (some ⟨z + 1 + 2, 0, none⟩)], .string x, undef, undef, undef, undef, undef, undef, undef, undef, undef, undef, undef], defers := [] }) ?assign ?body ?done ?stop
  · rintro T s' A B ⟨hj, hT, hzb, hlz⟩ ho
    exact ⟨hJ _ _ _ _ hj (ho.mono (hVT T)), fun k hk => ⟨(hT k hk).1, Nat.lt_of_lt_of_le (hT k hk).2 ho.size⟩, (ho.block z hlz (fun h => by have := hT z h; omega)).trans hzb, by have := ho.size; omega⟩
  · rintro T c s' A B ⟨hc, ⟨pre', hj⟩, hT⟩ ho
    exact ⟨hc, ⟨pre', hJx _ _ _ _ hj (ho.mono (hVT T))⟩, hT⟩
  · intro T W1 hW1 hT0T hT
    have hT' : ∀ k, T k → z < k ∧ k < W1.heap.size := fun k hk => by have := hW1.size; rcases hT k hk with h | h <;> omega
    refine ⟨h0 (V T) W1 (hb3.trans (hW1.mono (by omega))) (fun k hk => .inr (.inl hk)) ?_, hT', (hW1.block _ (by omega)).trans hz3, by have := hW1.size; omega⟩
    rintro k (hk | rfl | rfl)
    · rcases hT k hk with h | h
      · exact .inr ⟨by omega, by have := hW1.size; omega⟩
      · exact .inr ⟨by omega, h.2⟩
    · exact .inl rfl
    · exact .inr ⟨Nat.le_refl _, by have := hW1.size; omega⟩
  case assign =>
    intro l' x W' K hK
    gi_wp2
    exact hK
  case body =>
    rintro T l' pre x W' hxs ⟨hj, hT, hzb, hlz⟩ hlen
    rw [ul_length] at hxs
    have hcz := (block_cell hzb).1
    obtain ⟨y, hy⟩ : ∃ y, lower (bs (trimL (ul x))) = y := ⟨_, rfl⟩
    have hyl : ul y = lowL (trimL (ul x)) := by rw [← hy]; rfl
    have Hy := Lib.hid hy
    have Hyl := Lib.hid hyl
    have htl : (bs (trimL (ul x))).size ≤ 140737488351232 := by rw [bs_size]; have := trimL_length (ul x); rw [ul_length] at this; omega
    clear hy hyl
    by_cases hx : lowL (trimL (ul x)) = []
    · have Hx := Lib.hid hx
      have he : y.toList.isEmpty = true := by rw [toList_ul, Hyl.out, hx]; rfl
      have he2 : y.toList = [] := by rw [toList_ul, Hyl.out, hx]
      clear hx
      gi_wp2_with (first
        | (gi_at_call 155; refine (CallsIn.inRound l' (callsIn_wide.2 (trim_calls x (by omega) _))).mono ?_; rintro e w1 ⟨rfl, hb1⟩)
        | (gi_at_call 59; refine (CallsIn.inRound l' (callsIn_wide.2 (Q.lower_calls _ htl _))).mono ?_; rintro e w2 ⟨rfl, hb2⟩; rw [Hy.out]))
      refine ⟨fun _ h => (by cases h), ?_⟩
      gi_wp2
      have hb12 := hb1.trans (hb2.mono hb1.size)
      refine ⟨Keep.of_below hb12 (fun k hk => (hT k hk).2), ?_, fun k hk => ⟨(hT k hk).1, Nat.lt_of_lt_of_le (hT k hk).2 hb12.size⟩, (hb12.block z hlz).trans hzb, by have := hb12.size; omega⟩
      rw [conv_snoc_nil _ _ Hx.out]
      exact hJ _ _ _ _ hj (Off.of_below hb12)
    · have Hx := Lib.hid hx
      have he : y.toList.isEmpty = false := by rw [toList_ul, Hyl.out]; simpa using hx
      have Hcl := Lib.hid (conv_length pre)
      have hps : y.size ≤ s.size := by rw [← ul_length, Hyl.out]; have := trimL_length (ul x); rw [ul_length] at this; simp only [lowL, List.length_map]; omega
      clear hx
      gi_wp2_with (first
        | (gi_at_call 155; refine (CallsIn.inRound l' (callsIn_wide.2 (trim_calls x (by omega) _))).mono ?_; rintro e w1 ⟨rfl, hb1⟩)
        | (gi_at_call 59; refine (CallsIn.inRound l' (callsIn_wide.2 (Q.lower_calls _ htl _))).mono ?_; rintro e w2 ⟨rfl, hb2⟩; rw [Hy.out];
           have hb12 := hb1.trans (hb2.mono hb1.size); have hcz2 := (block_cell ((hb12.block z hlz).trans hzb)).1;
           obtain ⟨fn, tmps, assign, body, hyy, hR⟩ := hY (V T) (conv pre) y w2 hps (hJ _ _ _ _ hj (Off.of_below hb12)) (by have := Hcl.out; rw [ul_length] at hlen; omega)))
      refine (roundIn_any hR).mono ?_
      rintro e W5 (⟨rfl, hJ5, hk5⟩ | ⟨rfl, hJx5, hk5⟩)
      · gi_wp2
        have hzV : V T z := .inr (.inr rfl)
        refine ⟨(Keep.of_below hb12 (fun k hk => (hT k hk).2)).trans (hk5.mono (hVT T)), ?_, fun k hk => ⟨(hT k hk).1, Nat.lt_of_lt_of_le (hT k hk).2 (Nat.le_trans hb12.size hk5.size)⟩, (hk5.same z hzV).trans ((hb12.block z hlz).trans hzb), by have := hb12.size; have := hk5.size; omega⟩
        rw [conv_snoc _ _ Hx.out, ← Hyl.out]
        exact hJ5
      · gi_wp2
        exact ⟨(Keep.of_below hb12 (fun k hk => (hT k hk).2)).trans (hk5.mono (hVT T)), rfl, ⟨_, hJx5⟩, fun k hk => (hT k hk).1⟩
  case done =>
    rintro T D xs W' hS ⟨hj, hT, hzb, hlz⟩ hTD hD hK
    gi_wp2
    refine ⟨by simp, .inl ⟨_, _, rfl, run_takeDeferred hK, ?_⟩⟩
    refine ⟨_, results_none rfl _ _ _, ⟨_, rfl⟩, V T, ?_, .inl ⟨_, rfl, ?_⟩⟩
    · rintro k (hk | rfl | rfl)
      · exact .inr (by have := hT k hk; omega)
      · exact .inl rfl
      · exact .inr (by omega)
    · rw [← conv_items, ← hS]
      exact hJ _ _ _ _ hj (Off.putObj W' _ (hVT T D hTD))
  case stop =>
    rintro T D c pre W' _ ⟨rfl, ⟨pre', hj⟩, hT⟩ hTD hD hK
    gi_wp2
    refine ⟨by simp, .inl ⟨_, _, rfl, run_takeDeferred hK, ?_⟩⟩
    refine ⟨_, results_none rfl _ _ _, ⟨_, rfl⟩, V T, ?_, .inr ⟨_, trivial, hJx _ _ _ _ hj (Off.putObj W' _ (hVT T D hTD))⟩⟩
    rintro k (hk | rfl | rfl)
    · exact .inr (by have := hT k hk; omega)
    · exact .inl rfl
    · exact .inr (by omega)
end Go.Proofs.YtalafpigfeiaiaaGreatDoor.H
end
section
namespace Go.Proofs.YtalafpigfeiaiaaGreatDoor.H
open Go.RowKit Go.Shelf Go.Proofs.YtalafpigfeiaiaaGreatDoorW.PrintWords
attribute [local go_sem] Oper.semAt_some
set_option linter.unusedVariables false
set_option linter.unusedSimpArgs false
theorem append_one_in {F : Fence} {n : Nat} {P : Program} {W : World} {ops : Array Oper} {rest : List Oper} {o : Oper} {a : Act} {Q : Exit → Act → World → Prop}
    (hg : o.guard = none) (s x : Operand) (t e : TypeId) (hop : o.op = Op.call { callee := Callee.builtin Builtin.append, args := #[s, x], argTypes := #[t, t] })
    (z : Value) (bytes : Nat) (ht : P.underlying t = some (.slice e)) (hinfo : (P.info? e).map (fun i => (i.zero, i.size, i.bytes)) = some (some z, 1, bytes)) (hz : z.cells.size = 1) (hb0 : 0 < bytes)
    (base : Nat) (v : Value) (xs : List Value) (y : Value) (hs : a.eval s = v) (hx : a.eval x = .slice (some ⟨W.heap.size, 0, none⟩) 1 1) (h1 : y.oneCell' = true)
    (hown : W.ownsRow base e 1 v xs.length xs) (hl : (xs.length + 1) * bytes ≤ 140737488355328) (hbase : base ≤ W.heap.size)
    (hK : ∀ v' w1, w1.ownsRow base e 1 v' (xs.length + 1) (xs ++ [y]) → (W.alloc (.cells #[y] e)).grownBy w1 v.ownBlock → (v'.ownBlock = v.ownBlock ∨ ∃ b, v'.ownBlock = some b ∧ W.heap.size ≤ b) → wpListIn F n P ops Q rest (a.put o.dst v') w1) :
    wpListIn F n P ops Q (o :: rest) a (W.alloc (.cells #[y] e)) := by
  obtain ⟨i0, hi, hzz⟩ := Option.map_eq_some_iff.1 hinfo
  simp only [Prod.mk.injEq] at hzz
  obtain ⟨hz0, hz1, hz2⟩ := hzz
  have hlen : xs.length + 1 ≤ 140737488355328 := Nat.le_trans (Nat.le_mul_of_pos_right _ hb0) hl
  obtain ⟨v', w', hrun, r1, r2, r3, r4⟩ := run_append_own_at (P := P) (W.alloc (.cells #[y] e)) base t o.type e i0 z 1 bytes ht hi hz0 hz1 hz2 hz (by omega) v xs.length xs (hown.alloc _) ⟨W.heap.size, 0, none⟩ 1 1 [y] rfl
    (World.news_of_block (cs := #[y]) (t := e) (fr := (0, 0)) (heap_alloc_new W _)) (by simpa using h1) (by simp only [maxLen]; omega) hl (by simp; omega)
  refine wpListIn_plain hg fun K hK' => ?_
  unfold Oper.wpIn
  refine ⟨?_, ?_⟩
  · simp [Oper.about, hop, resolve, Target.leads, Sem.run_pure]
  · rw [Oper.semAt_plain F _ _ (by rw [hop]; intro c hc'; cases hc')]
    simp [execOp, hop, resolve, invoke, builtin, hs, hx, hrun, Result.andThen]
    refine hK' _ _ (hK v' w' r1 r2 ?_)
    rcases r4 with h | h
    · exact .inl h
    · exact .inr ⟨_, h, by simp⟩
theorem grownBy_setCell_row (W : World) (b : Nat) (v : Value) : W.grownBy (W.setCell ⟨b, 0, none⟩ v) (some b) := Go.grownBy_setCell' W b v
theorem info9 : (Tryz.prog.info? 9).map (fun i => (i.zero, i.size, i.bytes)) = some (some (.string ⟨#[]⟩), 1, 16) := by kernel_rfl
set_option maxRecDepth 100000 in
theorem pieces_calls (s : ByteArray) (w : World) :
    Calls Tryz.prog 118 #[.string s] w fun e w' => e = .returned (.func (.func 154) #[] #[.pointer (some ⟨w.heap.size, 0, none⟩)]) ∧ w' = w.alloc (.cells #[.string s] 9) := by
  go_enter Tryz.func118, Tryz.ntmps118
  go_wp2
  go_ret
  exact ⟨rfl, rfl⟩
set_option maxRecDepth 100000 in
set_option maxHeartbeats 2000000 in
theorem items_in (s : ByteArray) (hs : s.size ≤ 8796093022000) (w : World) :
    CallsIn Fence.wide 40 Tryz.prog 82 #[.string s] w fun e w' => ∃ v : Value, e = .returned v ∧ Kd.R Kd.string 9 w' w.heap.size (fun _ => True) v (items s) ∧ Below w.heap.size w w' := by
  have hn1 : 1 ≤ (40 : Nat) := by omega
  have hf118 : Fence.wide.fn 118 := trivial
  refine callsIn_of_wp_marks Tryz.func82 rfl trivial ?_ rfl
  simp only [Tryz.ntmps82, List.size_toArray, List.length_cons, List.length_nil, Nat.reduceAdd, Nat.reduceSub, Array.replicate_succ, Array.replicate_zero, List.push_toArray, List.append_toArray, List.nil_append, List.cons_append]
  gi_wp2_with (gi_at_call 118; refine (callsIn_wide.2 (pieces_calls s _)).mono ?_; rintro e w' ⟨rfl, rfl⟩)
  obtain ⟨W2, hW2⟩ : ∃ W2, (w.alloc (.cells #[.slice none 0 0] 29)).alloc (.cells #[.string s] 9) = W2 := ⟨_, rfl⟩
  have hb2 : Below w.heap.size w W2 := by rw [← hW2]; exact ((Below.refl _ w).alloc (Nat.le_refl _) _).alloc (by simp) _
  have hs2 : W2.heap.size = w.heap.size + 2 := by rw [← hW2]; simp
  have hz2 : W2.heap[w.heap.size]? = some (.cells #[.slice none 0 0] 29 (0, 0)) := by
    rw [← hW2, Below.heap_alloc _ _ _ (by simp)]; exact heap_alloc_new w _
  have hy2 : W2.heap[w.heap.size + 1]? = some (.cells #[.string s] 9 (0, 0)) := by
    rw [← hW2]; have := heap_alloc_new (w.alloc (.cells #[.slice none 0 0] 29)) (.cells #[.string s] 9); simpa using this
  rw [hW2]
  clear hW2
  obtain ⟨z, hz⟩ : ∃ z, w.heap.size = z := ⟨_, rfl⟩
  rw [hz] at hs2 hz2 hy2 hb2 ⊢
  refine range_law (P := Tryz.prog) (gf := 154) (lb := #[.pointer (some ⟨z + 1, 0, none⟩)]) rfl (enters_of Tryz.func154 (by kernel_rfl) rfl)
    (pieces1 (40 - 1) (by omega) (z + 1) s (by omega) W2 hy2) (Below.refl _ _) (by rw [hs2]; omega) rfl
    (fun T pre W' => (∃ v, W'.heap[z]? = some (.cells #[v] 29 (0, 0)) ∧ W'.ownsRow z 9 1 v pre.length (pre.map Value.string) ∧ ∀ k, v.ownBlock = some k → k ≠ z ∧ ¬ T k) ∧ (∀ k, T k → z < k ∧ k < W'.heap.size) ∧ z < W'.heap.size ∧ Below z w W')
    (fun T c pre W' => False)
    ?_ (fun _ _ _ _ _ h _ => h) ?_ (fun x => { tmps := #[.string s, undef, .pointer (some ⟨z, 0, none⟩), .string x, .string s, .func (.func 154) #[] #[.pointer (some ⟨z + 1, 0, none⟩)], .string x, undef, undef, undef, undef, undef], defers := [] }) ?assign ?body ?done ?stop
  · rintro T s' A B ⟨⟨v, hv, hrow, hno⟩, hT, hlz, hbel⟩ ho
    refine ⟨⟨v, (ho.block z hlz (fun h => by have := hT z h; omega)).trans hv, ?_, hno⟩, fun k hk => ⟨(hT k hk).1, Nat.lt_of_lt_of_le (hT k hk).2 ho.size⟩, by have := ho.size; omega, ho.below hbel (by omega) (fun k hk => by have := hT k hk; omega)⟩
    exact own_move hrow (fun k hk => ho.block k (own_lt hrow k hk) (hno k hk).2)
  · intro T W1 hW1 hT0T hT
    have hT' : ∀ k, T k → z < k ∧ k < W1.heap.size := fun k hk => by have := hW1.size; rcases hT k hk with h | h <;> omega
    exact ⟨⟨_, (hW1.block _ (by omega)).trans hz2, own_nil _ _ _ _, fun k hk => by simp [Value.ownBlock] at hk⟩, hT', by have := hW1.size; omega, hb2.trans (hW1.mono (by omega))⟩
  case assign =>
    intro l' x W' K hK
    gi_wp2
    exact hK
  case body =>
    rintro T l' pre x W' hxs ⟨⟨v, hv, hrow, hno⟩, hT, hlz, hbel⟩ hlen
    have hcz := (block_cell hv).1
    have hlen2 : pre.length ≤ 8796093022000 := by omega
    gi_wp2_with (gi_at_builtin; refine append_one_in rfl _ _ 29 9 rfl (.string ⟨#[]⟩) 16 Tryz.underlying29 info9 rfl (by decide) z v (pre.map Value.string) (.string x) rfl rfl rfl (by simpa using hrow) (by simp; omega) (by omega) ?_; intro v' w1 hown' hgrow hat; obtain ⟨g', cap', rfl⟩ := ownsRow_succ hown'; have hv1 := (hgrow.block z (by simp; omega) (fun e => (hno z e.symm).1 rfl)).trans ((Below.heap_alloc W' (.cells #[.string x] 9) z hlz).trans hv); have hcz1 := (block_cell hv1).1; have hfz1 := (block_cell hv1).2)
    have hgs := hgrow.size
    rw [World.size_alloc] at hgs
    have hno' : ∀ k, (Value.slice (some ⟨g', 0, none⟩) ((pre.map Value.string).length + 1) cap').ownBlock = some k → k ≠ z ∧ ¬ T k := by
      intro k hk
      rcases hat with h | ⟨b, h, hb⟩
      · exact hno k (h ▸ hk)
      · rw [h] at hk
        obtain rfl : b = k := by simpa using hk
        exact ⟨by omega, fun hq => by have := hT b hq; omega⟩
    refine ⟨?_, ⟨_, block_set _ hv1, ?_, hno'⟩, fun k hk => ⟨(hT k hk).1, ?_⟩, ?_, ?_⟩
    · refine ((Keep.of_below ((Below.refl _ W').alloc (Nat.le_refl _) (.cells #[.string x] 9)) (fun k hk => (hT k hk).2)).trans (Keep.of_grown hgrow (fun k hk => by have := hT k hk; simp; omega) (fun k hk => (hno k hk).2))).trans (Keep.setCell _ _ (fun hq => by have := hT z hq; omega))
    · have hm := own_other hown' (grownBy_setCell_row w1 z (.slice (some ⟨g', 0, none⟩) (pre.length + 1) cap')) (.inr (fun e => (hno' z e).1 rfl))
      simpa using hm
    · have := hT k hk; simp [World.setCell]; omega
    · simp [World.setCell]; omega
    · exact (((hbel.alloc (by omega) _).grown hgrow (by simp; omega) (fun k hk => own_base hrow k hk))).setCell (p := ⟨z, 0, none⟩) (Nat.le_refl _) _
  case done =>
    rintro T D xs W' hS ⟨⟨v, hv, hrow, hno⟩, hT, hlz, hbel⟩ hTD hD hK
    have HS := Lib.hid hS
    clear hS
    obtain ⟨A, c, rfl⟩ := own_slice hrow
    have hcz := (block_cell hv).1
    have hfz := (block_cell hv).2
    gi_wp2
    have hv3 := block_set (.slice A xs.length c) hv
    have hK3 : (W'.setCell ⟨z, 0, none⟩ (.slice A xs.length c)).heap[D]? = some (.deferred (some [])) := (Below.heap_setCell _ _ _ _ (by show D ≠ z; omega)).trans hK
    have hm := own_other hrow (grownBy_setCell_row W' z (.slice A xs.length c)) (.inr (fun e => (hno z e).1 rfl))
    have hB3 := hbel.setCell (p := ⟨z, 0, none⟩) (Nat.le_refl _) (.slice A xs.length c)
    refine ⟨by simp, .inl ⟨_, _, rfl, run_takeDeferred hK3, ?_⟩⟩
    generalize W'.setCell ⟨z, 0, none⟩ (.slice A xs.length c) = W5 at *
    have hv5 : (W5.putObj D (.deferred none)).heap[z]? = some (.cells #[.slice A xs.length c] 29 (0, 0)) := (World.putObj_heap_other (show z ≠ D by omega)).trans hv3
    have hc5 := (block_cell hv5).1
    refine ⟨.slice A xs.length c, by simp [results, Tryz.results82, go_sem, hc5], ?_⟩
    rw [hz]
    refine ⟨_, rfl, ?_, ?_⟩
    · rw [← HS.out]
      refine Kd.R_of_own (enc := Value.string) ?_ (fun _ _ => trivial)
      have hr5 := own_other hm (grownBy_putObj' W5 D (.deferred none)) (.inr (fun e => (hno D e).2 hTD))
      simpa [encs] using hr5
    · exact hB3.trans (Off.below (Off.putObj W5 _ (T := fun k => k = D) rfl) (Below.refl z W5) (by have := hB3.size; omega) (fun k hk => by omega))
  case stop =>
    rintro T D c pre W' _ h
    exact h.elim
end Go.Proofs.YtalafpigfeiaiaaGreatDoor.H
namespace Go.Proofs.YtalafpigfeiaiaaGreatDoor.Q
open Go.RowKit Go.Proofs.YtalafpigfeiaiaaGreatDoor.H Go.Proofs.YtalafpigfeiaiaaGreatDoorW.PrintWords
def field_Items.f (a0 : ByteArray) : Option (List ByteArray) := if a0.size ≤ 8796093022000 then some (items a0) else none
theorem field_Items.calls (a0 : ByteArray) (r : List ByteArray) (w : World) (h : field_Items.f a0 = some r) :
    Calls Tryz.prog 82 #[.string a0] w fun e w' => ∃ v0_ : Value, e = .returned (v0_) ∧ Kd.R Kd.string 9 w' w.heap.size (fun _ => True) v0_ r ∧ Below w.heap.size w w' := by
  unfold field_Items.f at h
  split at h
  · cases h
    exact callsIn_wide.1 (items_in a0 ‹_› w)
  · cases h
end Go.Proofs.YtalafpigfeiaiaaGreatDoor.Q
end
section
namespace Go.Proofs.YtalafpigfeiaiaaGreatDoor.Q
open Go.RowKit Go.Proofs.YtalafpigfeiaiaaGreatDoor.H Go.Proofs.YtalafpigfeiaiaaGreatDoorW.PrintWords
set_option linter.unusedVariables false
theorem strs_cells {w : World} {A : Option Addr} {n : Nat} {xs : List ByteArray} (h : Kd.C Kd.string w A n xs) (h0 : 0 < n) :
    ∃ b o, A = some ⟨b, o, none⟩ ∧ b < w.heap.size ∧ ∀ (j : Nat) x, xs[j]? = some x → w.cell? ⟨b, o + j, none⟩ = some (.string x) := by
  obtain ⟨hl, _, hc⟩ := h
  obtain ⟨ad, rfl, hd⟩ := hc h0
  have hcell : ∀ (j : Nat) x, xs[j]? = some x → w.cell? (ad.add j) = some (.string x) := by
    intro j x hj
    obtain ⟨c, _, hr, hu⟩ := hd j x hj
    obtain rfl : c = [.string x] := hr
    have := hu 0 (.string x) rfl
    simpa [Kd.string, Kd.scalar] using this
  have h1 := hcell 0 xs[0] (List.getElem?_eq_getElem (by omega))
  have hs : ad.spot = none := by
    have e : ad.add 0 = ad := by simp [Addr.add]
    rw [e] at h1
    unfold World.cell? at h1
    split at h1
    · split at h1
      · cases h1
      · rename_i hq; cases hz : ad.spot with
        | none => rfl
        | some q => rw [hz] at hq; exact absurd rfl hq
    · cases h1
  obtain ⟨b, o, sp⟩ := ad
  obtain rfl : sp = none := hs
  refine ⟨b, o, rfl, World.block_lt_of_cell? w ⟨b, o, none⟩ (u := .string xs[0]) (by simpa [Addr.add] using h1), fun j x hj => ?_⟩
  have := hcell j x hj
  have e : (⟨b, o, none⟩ : Addr).add j = ⟨b, o + j, none⟩ := by unfold Addr.add; split <;> simp_all
  rwa [e] at this
def strings_IndexByte.f (a0 : ByteArray) (a1 : Int) : Option Int := some (Lib.indexByte (ul a0) a1.toNat.toUInt8)
theorem strings_IndexByte.calls (a0 : ByteArray) (a1 : Int) (r : Int) (w : World) (h : strings_IndexByte.f a0 a1 = some r) :
    Calls Tryz.prog 88 #[.string a0, .int .u8 a1] w fun e w' => e = .returned (.int .i64 r) ∧ Drawn0 w w' := by
  cases h
  refine (Tryz.strings_IndexByte a0 a1 w).mono ?_
  rintro e w' ⟨rfl, rfl⟩
  exact ⟨rfl, Drawn0.refl _⟩
def strings_Join.f (l0 : List ByteArray) (a1 : ByteArray) : Option ByteArray :=
  if l0.length ≤ 140737488355328 ∧ (Lib.join (l0.map ul) (ul a1)).length ≤ 140737488355328 then some (bs (Lib.join (l0.map ul) (ul a1))) else none
theorem strings_Join.calls (A0 : Option Addr) (c0 : Nat) (l0 : List ByteArray) (a1 : ByteArray) (r : ByteArray) (w : World) (hr0 : Kd.C Kd.string w A0 l0.length l0) (hc0 : l0.length ≤ c0) (h : strings_Join.f l0 a1 = some r) :
    Calls Tryz.prog 62 #[.slice A0 l0.length c0, .string a1] w fun e w' => e = .returned (.string r) ∧ Below w.heap.size w w' := by
  unfold strings_Join.f at h
  split at h
  · rename_i hb
    cases h
    cases l0 with
    | nil =>
      refine (Tryz.strings_Join_none A0 c0 a1 w).mono ?_
      rintro e w' ⟨rfl, rfl⟩
      exact ⟨rfl, Below.refl _ _⟩
    | cons x l =>
      obtain ⟨b, o, rfl, hlt, hc⟩ := strs_cells hr0 (by simp)
      exact Tryz.strings_Join b o c0 (x :: l) a1 w hc hlt hb.1 hc0 hb.2
  · cases h
end Go.Proofs.YtalafpigfeiaiaaGreatDoor.Q
end
section
namespace Go.Proofs.YtalafpigfeiaiaaGreatDoor.Q
open Go.RowKit Go.Proofs.YtalafpigfeiaiaaGreatDoorW.PrintWords Go.Proofs.YtalafpigfeiaiaaGreatDoorW.PrintLast Go.Proofs.YtalafpigfeiaiaaGreatDoorW.PrintMore
attribute [local go_sem] max2_int min2_int max_two min_two max_three min_three max_four min_four
set_option linter.unusedVariables false
set_option linter.unusedSimpArgs false
def target_free.f (a0 : Int) : Option (Bool) := if a0 ≥ 97 then (if a0 ≤ 122 then (some true) else (if a0 ≥ 65 then (if a0 ≤ 90 then (some true) else (if a0 ≥ 48 then (if a0 ≤ 57 then (some true) else ((strings_IndexByte.f (⟨#[45, 46, 95, 126]⟩ : ByteArray) a0).bind fun t537 => (some (decide (t537 ≥ 0))))) else ((strings_IndexByte.f (⟨#[45, 46, 95, 126]⟩ : ByteArray) a0).bind fun t538 => (some (decide (t538 ≥ 0)))))) else (if a0 ≥ 48 then (if a0 ≤ 57 then (some true) else ((strings_IndexByte.f (⟨#[45, 46, 95, 126]⟩ : ByteArray) a0).bind fun t539 => (some (decide (t539 ≥ 0))))) else ((strings_IndexByte.f (⟨#[45, 46, 95, 126]⟩ : ByteArray) a0).bind fun t540 => (some (decide (t540 ≥ 0))))))) else (if a0 ≥ 65 then (if a0 ≤ 90 then (some true) else (if a0 ≥ 48 then (if a0 ≤ 57 then (some true) else ((strings_IndexByte.f (⟨#[45, 46, 95, 126]⟩ : ByteArray) a0).bind fun t541 => (some (decide (t541 ≥ 0))))) else ((strings_IndexByte.f (⟨#[45, 46, 95, 126]⟩ : ByteArray) a0).bind fun t542 => (some (decide (t542 ≥ 0)))))) else (if a0 ≥ 48 then (if a0 ≤ 57 then (some true) else ((strings_IndexByte.f (⟨#[45, 46, 95, 126]⟩ : ByteArray) a0).bind fun t543 => (some (decide (t543 ≥ 0))))) else ((strings_IndexByte.f (⟨#[45, 46, 95, 126]⟩ : ByteArray) a0).bind fun t544 => (some (decide (t544 ≥ 0))))))
set_option maxHeartbeats 8000000 in
set_option maxRecDepth 100000 in
theorem target_free.calls (a0 : Int) (r : Bool) (w : World) (h : target_free.f a0 = some r) :
    Calls Tryz.prog 126 #[.int .u8 a0] w fun e w' => e = .returned (.bool r) ∧ Drawn0 w w' := by
  have H : (if a0 ≥ 97 then (if a0 ≤ 122 then (some true) else (if a0 ≥ 65 then (if a0 ≤ 90 then (some true) else (if a0 ≥ 48 then (if a0 ≤ 57 then (some true) else ((strings_IndexByte.f (⟨#[45, 46, 95, 126]⟩ : ByteArray) a0).bind fun t537 => (some (decide (t537 ≥ 0))))) else ((strings_IndexByte.f (⟨#[45, 46, 95, 126]⟩ : ByteArray) a0).bind fun t538 => (some (decide (t538 ≥ 0)))))) else (if a0 ≥ 48 then (if a0 ≤ 57 then (some true) else ((strings_IndexByte.f (⟨#[45, 46, 95, 126]⟩ : ByteArray) a0).bind fun t539 => (some (decide (t539 ≥ 0))))) else ((strings_IndexByte.f (⟨#[45, 46, 95, 126]⟩ : ByteArray) a0).bind fun t540 => (some (decide (t540 ≥ 0))))))) else (if a0 ≥ 65 then (if a0 ≤ 90 then (some true) else (if a0 ≥ 48 then (if a0 ≤ 57 then (some true) else ((strings_IndexByte.f (⟨#[45, 46, 95, 126]⟩ : ByteArray) a0).bind fun t541 => (some (decide (t541 ≥ 0))))) else ((strings_IndexByte.f (⟨#[45, 46, 95, 126]⟩ : ByteArray) a0).bind fun t542 => (some (decide (t542 ≥ 0)))))) else (if a0 ≥ 48 then (if a0 ≤ 57 then (some true) else ((strings_IndexByte.f (⟨#[45, 46, 95, 126]⟩ : ByteArray) a0).bind fun t543 => (some (decide (t543 ≥ 0))))) else ((strings_IndexByte.f (⟨#[45, 46, 95, 126]⟩ : ByteArray) a0).bind fun t544 => (some (decide (t544 ≥ 0))))))) = some r := h
  clear h
  by_cases c2 : a0 ≥ 97
  · rw [if_pos c2] at H
    have c2b0 : decide (97 ≤ a0) = true := decide_eq_true c2
    clear c2
    by_cases c3 : a0 ≤ 122
    · rw [if_pos c3] at H
      have c3b0 : decide (a0 ≤ 122) = true := decide_eq_true c3
      clear c3
      obtain rfl := Option.some.inj H
      go_enter Tryz.func126, Tryz.ntmps126
      go_wp2
      go_ret
      exact ⟨by first | rfl | (simp; done) | (simp [*]; done), by repeat (first | exact Drawn0.refl _ | apply Drawn0.step)⟩
    · rw [if_neg c3] at H
      have c3b0 : decide (a0 ≤ 122) = false := decide_eq_false c3
      clear c3
      by_cases c4 : a0 ≥ 65
      · rw [if_pos c4] at H
        have c4b0 : decide (65 ≤ a0) = true := decide_eq_true c4
        clear c4
        by_cases c5 : a0 ≤ 90
        · rw [if_pos c5] at H
          have c5b0 : decide (a0 ≤ 90) = true := decide_eq_true c5
          clear c5
          obtain rfl := Option.some.inj H
          go_enter Tryz.func126, Tryz.ntmps126
          go_wp2
          go_ret
          exact ⟨by first | rfl | (simp; done) | (simp [*]; done), by repeat (first | exact Drawn0.refl _ | apply Drawn0.step)⟩
        · rw [if_neg c5] at H
          have c5b0 : decide (a0 ≤ 90) = false := decide_eq_false c5
          clear c5
          by_cases c6 : a0 ≥ 48
          · rw [if_pos c6] at H
            have c6b0 : decide (48 ≤ a0) = true := decide_eq_true c6
            clear c6
            by_cases c7 : a0 ≤ 57
            · rw [if_pos c7] at H
              have c7b0 : decide (a0 ≤ 57) = true := decide_eq_true c7
              clear c7
              obtain rfl := Option.some.inj H
              go_enter Tryz.func126, Tryz.ntmps126
              go_wp2
              go_ret
              exact ⟨by first | rfl | (simp; done) | (simp [*]; done), by repeat (first | exact Drawn0.refl _ | apply Drawn0.step)⟩
            · rw [if_neg c7] at H
              have c7b0 : decide (a0 ≤ 57) = false := decide_eq_false c7
              clear c7
              replace H := Option.bind_eq_some_iff.mp H
              obtain ⟨t537, A80, H⟩ := H
              replace H : (some (decide (t537 ≥ 0))) = some r := H
              have A8 := Aside0.mk A80
              clear A80
              obtain rfl := Option.some.inj H
              go_enter Tryz.func126, Tryz.ntmps126
              go_wp2_with (first | (go_at_call 88; (with_reducible refine (strings_IndexByte.calls (⟨#[45, 46, 95, 126]⟩ : ByteArray) a0 t537 _ A8.out).mono ?_); rintro e w' ⟨rfl, ⟨nd, rfl⟩⟩))
              go_ret
              exact ⟨by first | rfl | (simp; done) | (simp [*]; done), by repeat (first | exact Drawn0.refl _ | apply Drawn0.step)⟩
          · rw [if_neg c6] at H
            have c6b0 : decide (48 ≤ a0) = false := decide_eq_false c6
            clear c6
            replace H := Option.bind_eq_some_iff.mp H
            obtain ⟨t538, A90, H⟩ := H
            replace H : (some (decide (t538 ≥ 0))) = some r := H
            have A9 := Aside0.mk A90
            clear A90
            obtain rfl := Option.some.inj H
            go_enter Tryz.func126, Tryz.ntmps126
            go_wp2_with (first | (go_at_call 88; (with_reducible refine (strings_IndexByte.calls (⟨#[45, 46, 95, 126]⟩ : ByteArray) a0 t538 _ A9.out).mono ?_); rintro e w' ⟨rfl, ⟨nd, rfl⟩⟩))
            go_ret
            exact ⟨by first | rfl | (simp; done) | (simp [*]; done), by repeat (first | exact Drawn0.refl _ | apply Drawn0.step)⟩
      · rw [if_neg c4] at H
        have c4b0 : decide (65 ≤ a0) = false := decide_eq_false c4
        clear c4
        by_cases c10 : a0 ≥ 48
        · rw [if_pos c10] at H
          have c10b0 : decide (48 ≤ a0) = true := decide_eq_true c10
          clear c10
          by_cases c11 : a0 ≤ 57
          · rw [if_pos c11] at H
            have c11b0 : decide (a0 ≤ 57) = true := decide_eq_true c11
            clear c11
            obtain rfl := Option.some.inj H
            go_enter Tryz.func126, Tryz.ntmps126
            go_wp2
            go_ret
            exact ⟨by first | rfl | (simp; done) | (simp [*]; done), by repeat (first | exact Drawn0.refl _ | apply Drawn0.step)⟩
          · rw [if_neg c11] at H
            have c11b0 : decide (a0 ≤ 57) = false := decide_eq_false c11
            clear c11
            replace H := Option.bind_eq_some_iff.mp H
            obtain ⟨t539, A120, H⟩ := H
            replace H : (some (decide (t539 ≥ 0))) = some r := H
            have A12 := Aside0.mk A120
            clear A120
            obtain rfl := Option.some.inj H
            go_enter Tryz.func126, Tryz.ntmps126
            go_wp2_with (first | (go_at_call 88; (with_reducible refine (strings_IndexByte.calls (⟨#[45, 46, 95, 126]⟩ : ByteArray) a0 t539 _ A12.out).mono ?_); rintro e w' ⟨rfl, ⟨nd, rfl⟩⟩))
            go_ret
            exact ⟨by first | rfl | (simp; done) | (simp [*]; done), by repeat (first | exact Drawn0.refl _ | apply Drawn0.step)⟩
        · rw [if_neg c10] at H
          have c10b0 : decide (48 ≤ a0) = false := decide_eq_false c10
          clear c10
          replace H := Option.bind_eq_some_iff.mp H
          obtain ⟨t540, A130, H⟩ := H
          replace H : (some (decide (t540 ≥ 0))) = some r := H
          have A13 := Aside0.mk A130
          clear A130
          obtain rfl := Option.some.inj H
          go_enter Tryz.func126, Tryz.ntmps126
          go_wp2_with (first | (go_at_call 88; (with_reducible refine (strings_IndexByte.calls (⟨#[45, 46, 95, 126]⟩ : ByteArray) a0 t540 _ A13.out).mono ?_); rintro e w' ⟨rfl, ⟨nd, rfl⟩⟩))
          go_ret
          exact ⟨by first | rfl | (simp; done) | (simp [*]; done), by repeat (first | exact Drawn0.refl _ | apply Drawn0.step)⟩
  · rw [if_neg c2] at H
    have c2b0 : decide (97 ≤ a0) = false := decide_eq_false c2
    clear c2
    by_cases c14 : a0 ≥ 65
    · rw [if_pos c14] at H
      have c14b0 : decide (65 ≤ a0) = true := decide_eq_true c14
      clear c14
      by_cases c15 : a0 ≤ 90
      · rw [if_pos c15] at H
        have c15b0 : decide (a0 ≤ 90) = true := decide_eq_true c15
        clear c15
        obtain rfl := Option.some.inj H
        go_enter Tryz.func126, Tryz.ntmps126
        go_wp2
        go_ret
        exact ⟨by first | rfl | (simp; done) | (simp [*]; done), by repeat (first | exact Drawn0.refl _ | apply Drawn0.step)⟩
      · rw [if_neg c15] at H
        have c15b0 : decide (a0 ≤ 90) = false := decide_eq_false c15
        clear c15
        by_cases c16 : a0 ≥ 48
        · rw [if_pos c16] at H
          have c16b0 : decide (48 ≤ a0) = true := decide_eq_true c16
          clear c16
          by_cases c17 : a0 ≤ 57
          · rw [if_pos c17] at H
            have c17b0 : decide (a0 ≤ 57) = true := decide_eq_true c17
            clear c17
            obtain rfl := Option.some.inj H
            go_enter Tryz.func126, Tryz.ntmps126
            go_wp2
            go_ret
            exact ⟨by first | rfl | (simp; done) | (simp [*]; done), by repeat (first | exact Drawn0.refl _ | apply Drawn0.step)⟩
          · rw [if_neg c17] at H
            have c17b0 : decide (a0 ≤ 57) = false := decide_eq_false c17
            clear c17
            replace H := Option.bind_eq_some_iff.mp H
            obtain ⟨t541, A180, H⟩ := H
            replace H : (some (decide (t541 ≥ 0))) = some r := H
            have A18 := Aside0.mk A180
            clear A180
            obtain rfl := Option.some.inj H
            go_enter Tryz.func126, Tryz.ntmps126
            go_wp2_with (first | (go_at_call 88; (with_reducible refine (strings_IndexByte.calls (⟨#[45, 46, 95, 126]⟩ : ByteArray) a0 t541 _ A18.out).mono ?_); rintro e w' ⟨rfl, ⟨nd, rfl⟩⟩))
            go_ret
            exact ⟨by first | rfl | (simp; done) | (simp [*]; done), by repeat (first | exact Drawn0.refl _ | apply Drawn0.step)⟩
        · rw [if_neg c16] at H
          have c16b0 : decide (48 ≤ a0) = false := decide_eq_false c16
          clear c16
          replace H := Option.bind_eq_some_iff.mp H
          obtain ⟨t542, A190, H⟩ := H
          replace H : (some (decide (t542 ≥ 0))) = some r := H
          have A19 := Aside0.mk A190
          clear A190
          obtain rfl := Option.some.inj H
          go_enter Tryz.func126, Tryz.ntmps126
          go_wp2_with (first | (go_at_call 88; (with_reducible refine (strings_IndexByte.calls (⟨#[45, 46, 95, 126]⟩ : ByteArray) a0 t542 _ A19.out).mono ?_); rintro e w' ⟨rfl, ⟨nd, rfl⟩⟩))
          go_ret
          exact ⟨by first | rfl | (simp; done) | (simp [*]; done), by repeat (first | exact Drawn0.refl _ | apply Drawn0.step)⟩
    · rw [if_neg c14] at H
      have c14b0 : decide (65 ≤ a0) = false := decide_eq_false c14
      clear c14
      by_cases c20 : a0 ≥ 48
      · rw [if_pos c20] at H
        have c20b0 : decide (48 ≤ a0) = true := decide_eq_true c20
        clear c20
        by_cases c21 : a0 ≤ 57
        · rw [if_pos c21] at H
          have c21b0 : decide (a0 ≤ 57) = true := decide_eq_true c21
          clear c21
          obtain rfl := Option.some.inj H
          go_enter Tryz.func126, Tryz.ntmps126
          go_wp2
          go_ret
          exact ⟨by first | rfl | (simp; done) | (simp [*]; done), by repeat (first | exact Drawn0.refl _ | apply Drawn0.step)⟩
        · rw [if_neg c21] at H
          have c21b0 : decide (a0 ≤ 57) = false := decide_eq_false c21
          clear c21
          replace H := Option.bind_eq_some_iff.mp H
          obtain ⟨t543, A220, H⟩ := H
          replace H : (some (decide (t543 ≥ 0))) = some r := H
          have A22 := Aside0.mk A220
          clear A220
          obtain rfl := Option.some.inj H
          go_enter Tryz.func126, Tryz.ntmps126
          go_wp2_with (first | (go_at_call 88; (with_reducible refine (strings_IndexByte.calls (⟨#[45, 46, 95, 126]⟩ : ByteArray) a0 t543 _ A22.out).mono ?_); rintro e w' ⟨rfl, ⟨nd, rfl⟩⟩))
          go_ret
          exact ⟨by first | rfl | (simp; done) | (simp [*]; done), by repeat (first | exact Drawn0.refl _ | apply Drawn0.step)⟩
      · rw [if_neg c20] at H
        have c20b0 : decide (48 ≤ a0) = false := decide_eq_false c20
        clear c20
        replace H := Option.bind_eq_some_iff.mp H
        obtain ⟨t544, A230, H⟩ := H
        replace H : (some (decide (t544 ≥ 0))) = some r := H
        have A23 := Aside0.mk A230
        clear A230
        obtain rfl := Option.some.inj H
        go_enter Tryz.func126, Tryz.ntmps126
        go_wp2_with (first | (go_at_call 88; (with_reducible refine (strings_IndexByte.calls (⟨#[45, 46, 95, 126]⟩ : ByteArray) a0 t544 _ A23.out).mono ?_); rintro e w' ⟨rfl, ⟨nd, rfl⟩⟩))
        go_ret
        exact ⟨by first | rfl | (simp; done) | (simp [*]; done), by repeat (first | exact Drawn0.refl _ | apply Drawn0.step)⟩
end Go.Proofs.YtalafpigfeiaiaaGreatDoor.Q
end
section
namespace Go.Proofs.YtalafpigfeiaiaaGreatDoor.Q
open Go.RowKit Go.Proofs.YtalafpigfeiaiaaGreatDoor.H Go.Proofs.YtalafpigfeiaiaaGreatDoorW.PrintWords
set_option linter.unusedVariables false
set_option linter.unusedSimpArgs false
def okC (c : UInt8) : Bool := decide (33 ≤ c.toNat) && decide (c.toNat ≤ 126) && decide (c.toNat ≠ 35)
def hexI (n : Nat) : Int := if 48 ≤ n ∧ n ≤ 57 then (n : Int) - 48 else if 97 ≤ n ∧ n ≤ 102 then (n : Int) - 87 else if 65 ≤ n ∧ n ≤ 70 then (n : Int) - 55 else -1
def freeN (n : Nat) : Bool := (decide (97 ≤ n) && decide (n ≤ 122)) || (decide (65 ≤ n) && decide (n ≤ 90)) || (decide (48 ≤ n) && decide (n ≤ 57)) || decide (n = 45) || decide (n = 46) || decide (n = 95) || decide (n = 126)
def capN (n : Nat) : UInt8 := if n < 10 then UInt8.ofNat (48 + n) else UInt8.ofNat (55 + n)
def outL (n : Nat) : Str := if freeN n then [UInt8.ofNat n] else [37, capN (n / 16), capN (n % 16)]
def escV (a b : UInt8) : Nat := if hexI a.toNat = -1 ∨ hexI b.toNat = -1 then 0 else (hexI a.toNat * 16 + hexI b.toNat).toNat
def plainG : Str → Option (Option UInt8) → Option Str
  | [], none => some []
  | [], some _ => none
  | c :: l, none => if c = 37 then plainG l (some none) else if okC c then (plainG l none).map (c :: ·) else none
  | c :: l, some none => plainG l (some (some c))
  | c :: l, some (some a) => if escV a c = 0 then none else (plainG l none).map (outL (escV a c) ++ ·)
theorem hexI_range (n : Nat) : hexI n = -1 ∨ (0 ≤ hexI n ∧ hexI n < 16) := by
  unfold hexI
  split
  · right; omega
  · split
    · right; omega
    · split
      · right; omega
      · exact .inl rfl
theorem escV_lt (a b : UInt8) : escV a b < 256 := by
  unfold escV
  split
  · omega
  · have := hexI_range a.toNat; have := hexI_range b.toNat; omega
theorem digit_tab : ∀ n : Fin 256, num_digit.f 5 ((n.val : Nat) : Int) 16 = some (hexI n.val) := by decide +kernel
theorem value_tab : ∀ n : Fin 256, lockageref03_value.f 5 ((n.val : Nat) : Int) 16 = some (hexI n.val) := by decide +kernel
theorem free_tab : ∀ n : Fin 256, target_free.f ((n.val : Nat) : Int) = some (freeN n.val) := by decide +kernel
theorem refFree_tab : ∀ n : Fin 256, lockageref13_free.f ((n.val : Nat) : Int) = some (freeN n.val) := by decide +kernel
theorem out_tab : ∀ n : Fin 256, (outL n.val).all okC = true ∧ (outL n.val).length ≤ 3 := by decide +kernel
theorem digit_ev (c : UInt8) : Ev (fun k => num_digit.f k (c.toNat : Int) 16) (hexI c.toNat) := Ev.of (num_digit.mono _ _) (digit_tab ⟨c.toNat, c.toNat_lt⟩)
theorem value_ev (c : UInt8) : Ev (fun k => lockageref03_value.f k (c.toNat : Int) 16) (hexI c.toNat) := Ev.of (lockageref03_value.mono _ _) (value_tab ⟨c.toNat, c.toNat_lt⟩)
theorem free_some {n : Nat} (h : n < 256) : target_free.f (n : Int) = some (freeN n) := free_tab ⟨n, h⟩
theorem refFree_some {n : Nat} (h : n < 256) : lockageref13_free.f (n : Int) = some (freeN n) := refFree_tab ⟨n, h⟩
theorem may_loop (s : ByteArray) (hs : s.size ≤ 1000000000) (d : Nat) : ∀ i : Nat, i ≤ s.size → s.size - i = d → Ev (fun k => target_may.l0 k s (s.size : Int) (i : Int)) (((ul s).drop i).all okC) := by
  induction d with
  | zero =>
    intro i hi hd
    rw [List.drop_eq_nil_of_le (by rw [ul_length]; omega)]
    exact Ev.step (f := fun _ => some true) (fun k => by simp only [target_may.l0]; rw [if_neg (by omega)]) (Ev.now true)
  | succ d ih =>
    intro i hi hd
    have hil : i < (ul s).length := by rw [ul_length]; omega
    have hbt := bt_ul s i hil
    rw [drop_cons _ _ hil, List.all_cons]
    have hih := ih (i + 1) (by omega) (by omega)
    generalize (ul s)[i] = c at *
    have hst : ∀ k, target_may.l0 (k + 1) s (s.size : Int) (i : Int) = if (c.toNat : Int) < 33 then some false else if (c.toNat : Int) > 126 then some false else if (c.toNat : Int) = 35 then some false else target_may.l0 k s (s.size : Int) ((i + 1 : Nat) : Int) := by
      intro k
      simp only [target_may.l0]
      rw [if_pos (by omega), if_pos (by omega), if_pos (by omega), hbt, wrap_succ (by omega)]
    by_cases h1 : (c.toNat : Int) < 33
    · have e : okC c = false := by unfold okC; simp; omega
      rw [e]; exact Ev.step (f := fun _ => some false) (fun k => by rw [hst, if_pos h1]) (by simpa using Ev.now false)
    · by_cases h2 : (c.toNat : Int) > 126
      · have e : okC c = false := by unfold okC; simp; omega
        rw [e]; exact Ev.step (f := fun _ => some false) (fun k => by rw [hst, if_neg h1, if_pos h2]) (by simpa using Ev.now false)
      · by_cases h3 : (c.toNat : Int) = 35
        · have e : okC c = false := by unfold okC; simp; omega
          rw [e]; exact Ev.step (f := fun _ => some false) (fun k => by rw [hst, if_neg h1, if_neg h2, if_pos h3]) (by simpa using Ev.now false)
        · have e : okC c = true := by unfold okC; simp; omega
          rw [e, Bool.true_and]; exact Ev.step (fun k => by rw [hst, if_neg h1, if_neg h2, if_neg h3]) hih
theorem may_ev (s : ByteArray) (hs : s.size ≤ 1000000000) : Ev (fun k => target_may.f k s) ((ul s).all okC) := by
  have := may_loop s hs s.size 0 (by omega) (by omega)
  rw [List.drop_zero] at this
  exact this
theorem wrap01 : wrap64 ((0 : Int) + 1) = 1 := by unfold wrap64; omega
theorem wrap12 : wrap64 ((1 : Int) + 1) = 2 := by unfold wrap64; omega
theorem bt2 (a b : UInt8) : bt (bs [a, b]) 0 = (a.toNat : Int) ∧ bt (bs [a, b]) 1 = (b.toNat : Int) := ⟨bt_ul (bs [a, b]) 0 (by simp), bt_ul (bs [a, b]) 1 (by simp)⟩
theorem parse2_ev (a b : UInt8) : Ev (fun k => num_Parse.f k (bs [a, b]) 16) (if hexI a.toNat = -1 ∨ hexI b.toNat = -1 then (0, 1) else (hexI a.toNat * 16 + hexI b.toNat, 0)) := by
  have ha := hexI_range a.toNat
  have hb := hexI_range b.toNat
  have ea := digit_ev a
  have eb := digit_ev b
  obtain ⟨e0, e1⟩ := bt2 a b
  have hsz : ((bs [a, b]).size : Int) = 2 := rfl
  generalize hx : hexI a.toNat = x at *
  generalize hy : hexI b.toNat = y at *
  refine Ev.congr (f := fun k => num_Parse.j0 k (bs [a, b]) 16 0 0 false) (fun k => by unfold num_Parse.f; rw [if_neg (by rw [toList_ul]; simp), if_neg (by decide)]; rfl) ?_
  refine Ev.step (f := fun k => num_Parse.l0 k (bs [a, b]) 16 0 0 2 0) (fun k => by simp only [num_Parse.j0]; rw [if_neg (by simp), hsz]) ?_
  have fits : ∀ t : Int, 0 ≤ t → t < 256 → num_Fits.f t = some true := fun t h1 h2 => by unfold num_Fits.f; rw [if_pos h1]; simp; omega
  refine Ev.step (f := fun k => (num_digit.f k (a.toNat : Int) 16).bind fun t => if t = -1 then some (0, 1) else (num_Fits.f (wrap64 ((wrap64 (0 * 16)) + t))).bind fun u => if u = true then num_Parse.l0 k (bs [a, b]) 16 (wrap64 ((wrap64 (0 * 16)) + t)) 0 2 1 else num_Parse.l0 k (bs [a, b]) 16 0 3 2 1) (fun k => ?_) (Ev.bind ea ?_)
  · simp only [num_Parse.l0]
    rw [if_pos (by decide), if_pos (by decide), hsz, if_pos (by decide), e0, wrap01]
    simp only [if_true]
  by_cases h1 : x = -1
  · rw [if_pos (.inl h1)]
    exact Ev.congr (fun k => if_pos h1) (Ev.now _)
  have hw : wrap64 ((wrap64 (0 * 16)) + x) = x := by unfold wrap64; omega
  refine Ev.congr (f := fun k => num_Parse.l0 k (bs [a, b]) 16 x 0 2 1) (fun k => by rw [if_neg h1, hw, fits x (by omega) (by omega)]; rfl) ?_
  refine Ev.step (f := fun k => (num_digit.f k (b.toNat : Int) 16).bind fun t => if t = -1 then some (0, 1) else (num_Fits.f (wrap64 ((wrap64 (x * 16)) + t))).bind fun u => if u = true then num_Parse.l0 k (bs [a, b]) 16 (wrap64 ((wrap64 (x * 16)) + t)) 0 2 2 else num_Parse.l0 k (bs [a, b]) 16 0 3 2 2) (fun k => ?_) (Ev.bind eb ?_)
  · simp only [num_Parse.l0]
    rw [if_pos (by decide), if_pos (by decide), hsz, if_pos (by decide), e1, wrap12]
    simp only [if_true]
  by_cases h2 : y = -1
  · rw [if_pos (.inr h2)]
    exact Ev.congr (fun k => if_pos h2) (Ev.now _)
  have hw2 : wrap64 ((wrap64 (x * 16)) + y) = x * 16 + y := by unfold wrap64; omega
  refine Ev.congr (f := fun k => num_Parse.l0 k (bs [a, b]) 16 (x * 16 + y) 0 2 2) (fun k => by rw [if_neg h2, hw2, fits _ (by omega) (by omega)]; rfl) ?_
  rw [if_neg (by simp [h1, h2])]
  exact Ev.step (f := fun _ => some (x * 16 + y, 0)) (fun k => by simp only [num_Parse.l0]; rw [if_neg (by decide)]) (Ev.now _)
def escI : Str → Nat
  | a :: b :: _ => escV a b
  | _ => 0
theorem escape_ev (s : ByteArray) : Ev (fun k => target_escape.f k s) (escI (ul s) : Int) := by
  obtain ⟨l, rfl⟩ : ∃ l, s = bs l := ⟨ul s, rfl⟩
  rw [ul_bs]
  match l with
  | [] => exact Ev.congr (f := fun _ => some 0) (fun k => by unfold target_escape.f; rw [if_pos (by decide)]) (Ev.now _)
  | [a] => exact Ev.congr (f := fun _ => some 0) (fun k => by unfold target_escape.f; rw [if_pos (by rw [bs_size]; simp)]) (Ev.now _)
  | a :: b :: l =>
    have hx : (bs (a :: b :: l)).extract 0 2 = bs [a, b] := by rw [bs_extract]; rfl
    have hsz : (bs (a :: b :: l)).size = l.length + 2 := bs_size _
    refine Ev.congr (f := fun k => (num_Parse.f k (bs [a, b]) 16).bind fun r => if r.2 = 0 then some (r.1 % 256) else some 0) (fun k => ?_) (Ev.bind (parse2_ev a b) ?_)
    · unfold target_escape.f
      rw [if_neg (by omega), if_pos (by decide), if_pos (by omega), hx]
    · have ha := hexI_range a.toNat
      have hb := hexI_range b.toNat
      simp only [escI]
      unfold escV
      by_cases h : hexI a.toNat = -1 ∨ hexI b.toNat = -1
      · rw [if_pos h, if_pos h]; exact Ev.congr (fun k => if_neg (by decide)) (Ev.now _)
      · rw [if_neg h, if_neg h]
        refine Ev.congr (f := fun _ => some ((((hexI a.toNat * 16 + hexI b.toNat).toNat : Nat)) : Int)) (fun k => ?_) (Ev.now _)
        simp only [if_true]
        congr 1
        omega
theorem mul_ev (x : Int) (h0 : 0 ≤ x) (h1 : x < 16) : Ev (fun k => lockageref03_Mul.f k x 16) (x * 16, 0) := by
  have hf : lockageref03_Fits.f x = some true := by unfold lockageref03_Fits.f; rw [if_pos h0]; simp; omega
  refine Ev.congr (f := fun k => lockageref03_Mul.j0 k x 16 false) (fun k => by unfold lockageref03_Mul.f; rw [hf, show lockageref03_Fits.f 16 = some true from rfl]; rfl) ?_
  refine Ev.step (f := fun _ => some (x * 16, 0)) (fun k => ?_) (Ev.now _)
  simp only [lockageref03_Mul.j0]
  rw [if_neg (by simp), if_pos (by decide), if_neg (by decide), if_neg (by rw [show wrap64 ((9007199254740992 : Int) / 16) = 562949953421312 by unfold wrap64; omega]; omega), show wrap64 (x * 16) = x * 16 by unfold wrap64; omega]
theorem add_ev (x y : Int) (h0 : 0 ≤ x) (h1 : x < 256) (h2 : 0 ≤ y) (h3 : y < 256) : Ev (fun k => lockageref03_Add.f k x y) (x + y, 0) := by
  have hf : lockageref03_Fits.f x = some true := by unfold lockageref03_Fits.f; rw [if_pos h0]; simp; omega
  have hg : lockageref03_Fits.f y = some true := by unfold lockageref03_Fits.f; rw [if_pos h2]; simp; omega
  refine Ev.congr (f := fun k => lockageref03_Add.j0 k x y false) (fun k => by unfold lockageref03_Add.f; rw [hf, hg]; rfl) ?_
  refine Ev.step (f := fun _ => some (x + y, 0)) (fun k => ?_) (Ev.now _)
  simp only [lockageref03_Add.j0]
  rw [if_neg (by simp), if_neg (by rw [show wrap64 ((9007199254740992 : Int) - y) = 9007199254740992 - y by unfold wrap64; omega]; omega), show wrap64 (x + y) = x + y by unfold wrap64; omega]
theorem refParse2_ev (a b : UInt8) : Ev (fun k => lockageref03_Parse.f k (bs [a, b]) 16) (if hexI a.toNat = -1 ∨ hexI b.toNat = -1 then (0, 1) else (hexI a.toNat * 16 + hexI b.toNat, 0)) := by
  have ha := hexI_range a.toNat
  have hb := hexI_range b.toNat
  have ea := value_ev a
  have eb := value_ev b
  obtain ⟨e0, e1⟩ := bt2 a b
  have hsz : ((bs [a, b]).size : Int) = 2 := rfl
  generalize hx : hexI a.toNat = x at *
  generalize hy : hexI b.toNat = y at *
  refine Ev.congr (f := fun k => lockageref03_Parse.j0 k (bs [a, b]) 16 false) (fun k => by unfold lockageref03_Parse.f; rw [if_neg (by rw [toList_ul]; simp), if_neg (by decide)]; rfl) ?_
  refine Ev.step (f := fun k => lockageref03_Parse.l0 k (bs [a, b]) 16 0) (fun k => by simp only [lockageref03_Parse.j0]; rw [if_neg (by simp)]) ?_
  refine Ev.step (f := fun k => (lockageref03_value.f k (a.toNat : Int) 16).bind fun t => if t < 0 then some (0, 1) else lockageref03_Parse.l0 k (bs [a, b]) 16 1) (fun k => ?_) (Ev.bind ea ?_)
  · simp only [lockageref03_Parse.l0]
    rw [hsz, if_pos (by decide), if_pos (by decide), e0, wrap01]
  by_cases h1 : x = -1
  · rw [if_pos (.inl h1)]
    exact Ev.congr (fun k => if_pos (by omega)) (Ev.now _)
  refine Ev.congr (f := fun k => lockageref03_Parse.l0 k (bs [a, b]) 16 1) (fun k => if_neg (by omega)) ?_
  refine Ev.step (f := fun k => (lockageref03_value.f k (b.toNat : Int) 16).bind fun t => if t < 0 then some (0, 1) else lockageref03_Parse.l0 k (bs [a, b]) 16 2) (fun k => ?_) (Ev.bind eb ?_)
  · simp only [lockageref03_Parse.l0]
    rw [hsz, if_pos (by decide), if_pos (by decide), e1, wrap12]
  by_cases h2 : y = -1
  · rw [if_pos (.inr h2)]
    exact Ev.congr (fun k => if_pos (by omega)) (Ev.now _)
  refine Ev.congr (f := fun k => lockageref03_Parse.l0 k (bs [a, b]) 16 2) (fun k => if_neg (by omega)) ?_
  rw [if_neg (by simp [h1, h2])]
  refine Ev.step (f := fun k => lockageref03_Parse.l1 k (bs [a, b]) 16 0 0) (fun k => by simp only [lockageref03_Parse.l0]; rw [hsz, if_neg (by decide)]) ?_
  refine Ev.step (f := fun k => (lockageref03_Mul.f k 0 16).bind fun m => (lockageref03_value.f k (a.toNat : Int) 16).bind fun t => (lockageref03_Add.f k m.1 t).bind fun s => if m.2 = 0 then (if s.2 = 0 then lockageref03_Parse.l1 k (bs [a, b]) 16 s.1 1 else some (0, 3)) else some (0, 3)) (fun k => ?_) (Ev.bind (mul_ev 0 (by decide) (by decide)) (Ev.bind ea (Ev.bind (add_ev (0 * 16) x (by omega) (by omega) (by omega) (by omega)) ?_)))
  · simp only [lockageref03_Parse.l1]
    rw [hsz, if_pos (by decide), e0, wrap01]
    simp only [if_pos (show (0 : Int) ≤ 0 from by decide)]
  refine Ev.congr (f := fun k => lockageref03_Parse.l1 k (bs [a, b]) 16 x 1) (fun k => by rw [if_pos rfl, if_pos rfl, show (0 : Int) * 16 + x = x by omega]) ?_
  refine Ev.step (f := fun k => (lockageref03_Mul.f k x 16).bind fun m => (lockageref03_value.f k (b.toNat : Int) 16).bind fun t => (lockageref03_Add.f k m.1 t).bind fun s => if m.2 = 0 then (if s.2 = 0 then lockageref03_Parse.l1 k (bs [a, b]) 16 s.1 2 else some (0, 3)) else some (0, 3)) (fun k => ?_) (Ev.bind (mul_ev x (by omega) (by omega)) (Ev.bind eb (Ev.bind (add_ev (x * 16) y (by omega) (by omega) (by omega) (by omega)) ?_)))
  · simp only [lockageref03_Parse.l1]
    rw [hsz, if_pos (by decide), e1, wrap12]
    simp only [if_pos (show (0 : Int) ≤ 1 from by decide)]
  refine Ev.congr (f := fun k => lockageref03_Parse.l1 k (bs [a, b]) 16 (x * 16 + y) 2) (fun k => by rw [if_pos rfl, if_pos rfl]) ?_
  exact Ev.step (f := fun _ => some (x * 16 + y, 0)) (fun k => by simp only [lockageref03_Parse.l1]; rw [hsz, if_neg (by decide)]) (Ev.now _)
end Go.Proofs.YtalafpigfeiaiaaGreatDoor.Q
end
section
namespace Go.Proofs.YtalafpigfeiaiaaGreatDoor.Q
open Go.RowKit Go.Proofs.YtalafpigfeiaiaaGreatDoor.H Go.Proofs.YtalafpigfeiaiaaGreatDoorW.PrintWords
set_option linter.unusedVariables false
set_option linter.unusedSimpArgs false
theorem hexText_tab : ∀ k : Fin 16, ((([48, 49, 50, 51, 52, 53, 54, 55, 56, 57, 65, 66, 67, 68, 69, 70] : Str).drop k.val).take 1) = [capN k.val] := by decide +kernel
theorem hexText_at {k : Nat} (h : k < 16) : (⟨#[48, 49, 50, 51, 52, 53, 54, 55, 56, 57, 65, 66, 67, 68, 69, 70]⟩ : ByteArray).extract k (k + 1) = bs [capN k] := by
  have := bs_extract [48, 49, 50, 51, 52, 53, 54, 55, 56, 57, 65, 66, 67, 68, 69, 70] k (k + 1)
  rw [show k + 1 - k = 1 by omega, hexText_tab ⟨k, h⟩] at this
  exact this
def plainR (acc : ByteArray) : Option Str → ByteArray × Bool
  | some r => (acc ++ bs r, true)
  | none => (⟨#[]⟩, false)
theorem plainR_map (acc : ByteArray) (p : Str) (o : Option Str) : plainR acc (o.map (p ++ ·)) = plainR (acc ++ bs p) o := by
  cases o with
  | none => rfl
  | some r => simp [plainR, app_bs]
theorem wrap_add2 {i : Nat} (h : i < 1000000) : wrap64 ((i : Int) + 2) = ((i + 2 : Nat) : Int) := by unfold wrap64; omega
theorem wrap_add3 {i : Nat} (h : i < 1000000) : wrap64 ((i : Int) + 3) = ((i + 3 : Nat) : Int) := by unfold wrap64; omega
theorem wrap_tdiv {n : Nat} (h : n < 256) : wrap64 (Int.tdiv (n : Int) 16) = ((n / 16 : Nat) : Int) := by rw [Int.tdiv_eq_ediv_of_nonneg (by omega)]; unfold wrap64; omega
theorem tmod_16 (n : Nat) : Int.tmod (n : Int) 16 = ((n % 16 : Nat) : Int) := by rw [Int.tmod_eq_emod_of_nonneg (by omega)]; omega
theorem plainG_nil : plainG [] none = some [] := rfl
theorem plainG_c {c : UInt8} {l : Str} : plainG (c :: l) none = if c = 37 then plainG l (some none) else if okC c then (plainG l none).map (c :: ·) else none := rfl
theorem plainG_one {l : Str} (h : l.length ≤ 1) : plainG l (some none) = none := by
  match l, h with
  | [], _ => rfl
  | [x], _ => rfl
theorem plainG_two {a b : UInt8} {l : Str} : plainG (a :: b :: l) (some none) = if escV a b = 0 then none else (plainG l none).map (outL (escV a b) ++ ·) := rfl
theorem j2_step (s : ByteArray) (hs : s.size ≤ 1000) (i : Nat) (hi : i ≤ s.size) (acc : ByteArray) (ha : acc.size ≤ 3000) (n : Nat) (hn : n < 256) (h0 : n ≠ 0) (r : ByteArray × Bool)
    (h : Ev (fun k => lockageref13_plain.l0 k s (acc ++ bs (outL n)) ((i + 3 : Nat) : Int)) r) : Ev (fun k => lockageref13_plain.j2 k s acc (i : Int) (n : Int) false) r := by
  have hm : (n : Int) % 256 = n := by omega
  have hq : n / 16 < 16 := by omega
  have hr : n % 16 < 16 := by omega
  have c1 : acc.size + 1 ≤ 9223372036854775807 := by omega
  have c2 : (0 : Int) ≤ ((n / 16 : Nat) : Int) := by omega
  have c3 : ((n / 16 : Nat) : Int) ≤ ((n / 16 + 1 : Nat) : Int) := by omega
  have c4 : ((n / 16 + 1 : Nat) : Int) ≤ 16 := by omega
  have c6 : (0 : Int) ≤ ((n % 16 : Nat) : Int) := by omega
  have c7 : ((n % 16 : Nat) : Int) ≤ ((n % 16 + 1 : Nat) : Int) := by omega
  have c8 : ((n % 16 + 1 : Nat) : Int) ≤ 16 := by omega
  have c5 : (acc ++ (⟨#[37]⟩ : ByteArray)).size + (bs [capN (n / 16)]).size ≤ 9223372036854775807 := by rw [ByteArray.size_append, bs_size [capN (n / 16)], show (⟨#[37]⟩ : ByteArray).size = 1 from rfl, List.length_cons, List.length_nil]; omega
  have c9 : (acc ++ (⟨#[37]⟩ : ByteArray) ++ bs [capN (n / 16)]).size + (bs [capN (n % 16)]).size ≤ 9223372036854775807 := by rw [ByteArray.size_append, ByteArray.size_append, bs_size [capN (n / 16)], bs_size [capN (n % 16)], show (⟨#[37]⟩ : ByteArray).size = 1 from rfl, List.length_cons, List.length_nil, List.length_cons, List.length_nil]; omega
  have c0 : acc.size + (bs [UInt8.ofNat n]).size ≤ 9223372036854775807 := by rw [bs_size [UInt8.ofNat n], List.length_cons, List.length_nil]; omega
  refine Ev.step (f := fun k => lockageref13_plain.l0 k s (acc ++ bs (outL n)) ((i + 3 : Nat) : Int)) (fun k => ?_) h
  simp only [lockageref13_plain.j2]
  rw [if_neg (by simp), hm, refFree_some hn, wrap_add2 (by omega), wrap_succ (show i + 2 < 4611686018427387904 by omega)]
  simp only [Option.bind_some]
  cases hf : freeN n with
  | true =>
    have ho : outL n = [UInt8.ofNat n] := by unfold outL; rw [hf]; rfl
    rw [if_pos rfl, strOfNums_one, ho, Int.toNat_natCast, if_pos c0]
  | false =>
    have ho : outL n = [37] ++ [capN (n / 16)] ++ [capN (n % 16)] := by unfold outL; rw [hf]; rfl
    rw [if_neg (by simp), wrap_tdiv hn, tmod_16, wrap_succ (show n / 16 < 4611686018427387904 by omega), wrap_succ (show n % 16 < 4611686018427387904 by omega)]
    simp only [Int.toNat_natCast]
    rw [hexText_at hq, hexText_at hr]
    rw [if_pos c1, if_pos c2, if_pos c3, if_pos c4, if_pos c5, if_pos c6, if_pos c7, if_pos c8, if_pos c9]
    have e9 : acc ++ (⟨#[37]⟩ : ByteArray) ++ bs [capN (n / 16)] ++ bs [capN (n % 16)] = acc ++ bs (outL n) := by
      rw [ho, show (⟨#[37]⟩ : ByteArray) = bs [37] from rfl, app_bs acc, app_bs (bs _) [capN (n / 16)], app_bs (bs _) [capN (n % 16)], app_bs acc, ul_bs, ul_bs]
      simp
    rw [e9]
theorem refPlain_loop (s : ByteArray) (hs : s.size ≤ 1000) (d : Nat) : ∀ (i : Nat) (acc : ByteArray), i ≤ s.size → s.size - i ≤ d → acc.size ≤ 3 * i →
    Ev (fun k => lockageref13_plain.l0 k s acc (i : Int)) (plainR acc (plainG ((ul s).drop i) none)) := by
  induction d with
  | zero =>
    intro i acc hi hd ha
    rw [List.drop_eq_nil_of_le (by rw [ul_length]; omega)]
    have e : plainR acc (plainG [] none) = (acc, true) := by rw [plainG_nil]; simp only [plainR]; rw [app_bs]; simp
    rw [e]
    exact Ev.step (f := fun _ => some (acc, true)) (fun k => by simp only [lockageref13_plain.l0]; rw [if_neg (by omega)]) (Ev.now _)
  | succ d ih =>
    intro i acc hi hd ha
    by_cases hie : i = s.size
    · exact ih i acc hi (by omega) ha
    have hil : i < (ul s).length := by rw [ul_length]; omega
    have hbt := bt_ul s i hil
    rw [drop_cons _ _ hil]
    have hx1 : s.extract i (i + 1) = bs [(ul s)[i]] := by
      refine ul_inj ?_
      rw [ul_extract, drop_cons _ _ hil, show i + 1 - i = 1 by omega]; simp
    generalize hc : (ul s)[i] = c at *
    refine Ev.step (f := fun k => lockageref13_plain.j1 k s acc (i : Int) (c.toNat : Int) (!okC c)) (fun k => ?_) ?_
    · simp only [lockageref13_plain.l0]
      rw [if_pos (by omega), if_pos (by omega), hbt]
      unfold okC
      by_cases h1 : (c.toNat : Int) < 33
      · rw [if_pos h1]; congr 1; simp; omega
      · by_cases h2 : (c.toNat : Int) > 126
        · rw [if_neg h1, if_pos h2]; congr 1; simp; omega
        · rw [if_neg h1, if_neg h2]; congr 1
          by_cases h3 : c.toNat = 35
          · simp [h3]
          · have : ((c.toNat : Int) == 35) = false := by rw [beq_eq_false_iff_ne]; omega
            rw [this]; simp; omega
    cases hok : okC c with
    | false =>
      have hne : c ≠ 37 := fun e => by rw [e] at hok; revert hok; decide
      have e : plainG (c :: (ul s).drop (i + 1)) none = none := by rw [plainG_c, if_neg hne, hok]; rfl
      rw [e]
      exact Ev.step (f := fun _ => some (⟨#[]⟩, false)) (fun k => by simp only [lockageref13_plain.j1]; rw [if_pos (by rfl)]) (Ev.now _)
    | true =>
      by_cases h37 : c = 37
      · subst h37
        have e37 : ((37 : UInt8).toNat : Int) = 37 := rfl
        by_cases hl : i + 2 ≥ s.size
        · have e : plainG (37 :: (ul s).drop (i + 1)) none = none := by
            rw [plainG_c, if_pos rfl]
            exact plainG_one (by rw [List.length_drop, ul_length]; omega)
          rw [e]
          exact Ev.step (f := fun _ => some (⟨#[]⟩, false)) (fun k => by simp only [lockageref13_plain.j1]; rw [if_neg (by simp), if_pos e37, wrap_add2 (by omega), if_pos (by omega)]) (Ev.now _)
        · have hi1 : i + 1 < (ul s).length := by rw [ul_length]; omega
          have hi2 : i + 2 < (ul s).length := by rw [ul_length]; omega
          have hx : s.extract (i + 1) (i + 3) = bs [(ul s)[i + 1], (ul s)[i + 2]] := by
            refine ul_inj ?_
            rw [ul_extract, drop_cons _ _ hi1, drop_cons _ _ hi2, show i + 3 - (i + 1) = 2 by omega]; simp
          rw [drop_cons _ _ hi1, drop_cons _ _ hi2]
          generalize (ul s)[i + 1] = a at *
          generalize (ul s)[i + 2] = b at *
          have e : plainG (37 :: a :: b :: (ul s).drop (i + 2 + 1)) none = if escV a b = 0 then none else (plainG ((ul s).drop (i + 3)) none).map (outL (escV a b) ++ ·) := by rw [plainG_c, if_pos rfl, plainG_two]
          rw [e]
          refine Ev.step (f := fun k => (lockageref03_Parse.f k (bs [a, b]) 16).bind fun t => if t.2 = 0 then lockageref13_plain.j2 k s acc (i : Int) t.1 (t.1 == 0) else lockageref13_plain.j2 k s acc (i : Int) t.1 true) (fun k => ?_) (Ev.bind (refParse2_ev a b) ?_)
          · simp only [lockageref13_plain.j1]
            rw [if_neg (by simp), if_pos e37, wrap_add2 (by omega), wrap_succ (show i < 4611686018427387904 by omega), wrap_add3 (by omega), if_neg (by omega), if_pos (by omega), if_pos (by omega), if_pos (by omega)]
            simp only [Int.toNat_natCast, hx]
          · have bad : ∀ t : Int, Ev (fun k => lockageref13_plain.j2 k s acc (i : Int) t true) (plainR acc none) := fun t =>
              Ev.step (f := fun _ => some (⟨#[]⟩, false)) (fun k => by simp only [lockageref13_plain.j2]; rw [if_pos trivial]) (Ev.now _)
            have ha' := hexI_range a.toNat
            have hb' := hexI_range b.toNat
            by_cases hq : hexI a.toNat = -1 ∨ hexI b.toNat = -1
            · have e0 : escV a b = 0 := by unfold escV; rw [if_pos hq]
              rw [if_pos e0, if_pos hq]
              exact Ev.congr (fun k => if_neg (by decide)) (bad 0)
            · have e0 : ((escV a b : Nat) : Int) = hexI a.toNat * 16 + hexI b.toNat := by unfold escV; rw [if_neg hq]; omega
              rw [if_neg hq]
              simp only [← e0]
              have hlt := escV_lt a b
              generalize escV a b = n at *
              refine Ev.congr (f := fun k => lockageref13_plain.j2 k s acc (i : Int) (n : Int) ((n : Int) == 0)) (fun k => if_pos trivial) ?_
              by_cases hn : n = 0
              · subst hn
                rw [if_pos rfl]
                exact bad _
              · have en : ((n : Int) == 0) = false := by rw [beq_eq_false_iff_ne]; omega
                rw [if_neg hn, en, plainR_map]
                have ho := (out_tab ⟨n, hlt⟩).2
                refine j2_step s hs i (by omega) acc (by omega) n hlt hn _ (ih (i + 3) (acc ++ bs (outL n)) (by omega) (by omega) ?_)
                rw [← ul_length, app_bs, ul_bs, List.length_append, ul_length]; simp only at ho; omega
      · have e : plainG (c :: (ul s).drop (i + 1)) none = (plainG ((ul s).drop (i + 1)) none).map ([c] ++ ·) := by rw [plainG_c, if_neg h37, hok]; rfl
        have h37' : ¬ ((c.toNat : Int) = 37) := fun q => h37 (UInt8.toNat_inj.1 (show c.toNat = 37 by omega))
        rw [e, plainR_map]
        refine Ev.step (fun k => ?_) (ih (i + 1) (acc ++ bs [c]) (by omega) (by omega) ?_)
        · simp only [lockageref13_plain.j1]
          rw [if_neg (by simp), if_neg h37', wrap_succ (by omega), if_pos (by omega), if_pos (by omega), if_pos (by omega)]
          simp only [Int.toNat_natCast, hx1]
          rw [if_pos (by rw [bs_size [c]]; simp; omega)]
        · rw [← ul_length, app_bs, ul_bs, List.length_append, ul_length]; simp; omega
theorem refPlain_ev (s : ByteArray) (hs : s.size ≤ 1000) : Ev (fun k => lockageref13_plain.f k s) (plainR ⟨#[]⟩ (plainG (ul s) none)) := by
  have := refPlain_loop s hs s.size 0 ⟨#[]⟩ (by omega) (by omega) (by decide)
  rw [List.drop_zero] at this
  exact this
end Go.Proofs.YtalafpigfeiaiaaGreatDoor.Q
end
section
namespace Go.Proofs.YtalafpigfeiaiaaGreatDoor.Q
open Go.RowKit Go.Proofs.YtalafpigfeiaiaaGreatDoor.H Go.Proofs.YtalafpigfeiaiaaGreatDoorW.PrintWords
set_option linter.unusedVariables false
set_option linter.unusedSimpArgs false
theorem segs_loop (s : ByteArray) (hs : s.size ≤ 100000000) (d : Nat) : ∀ (from' i : Nat) (acc : List ByteArray), from' ≤ i → i ≤ s.size → s.size - i = d → acc.length ≤ i → (∀ x ∈ ((ul s).drop from').take (i - from'), x ≠ 47) →
    Ev (fun k => lockageref13_Segments.l0 k s acc (from' : Int) (i : Int)) (acc ++ (splitB 47 ((ul s).drop from')).map bs) := by
  induction d with
  | zero =>
    intro from' i acc hf hi hd ha hno
    have hie : i = s.size := by omega
    have et : ((ul s).drop from').take (i - from') = (ul s).drop from' := List.take_of_length_le (by simp [ul_length]; omega)
    have hx : s.extract from' i = bs ((ul s).drop from') := ul_inj (by rw [ul_extract, et])
    rw [et] at hno
    rw [splitB_end hno]
    refine Ev.step (f := fun k => lockageref13_Segments.l0 k s (acc ++ [bs ((ul s).drop from')]) ((i + 1 : Nat) : Int) ((i + 1 : Nat) : Int)) (fun k => ?_) ?_
    · simp only [lockageref13_Segments.l0]
      rw [if_pos (by omega), if_pos (by omega), if_pos (by omega), if_pos (by omega), if_pos (by omega : acc.length < 8796093022208), wrap_succ (by omega)]
      simp only [Int.toNat_natCast, hx]
    · exact Ev.step (f := fun _ => some (acc ++ [bs ((ul s).drop from')])) (fun k => by simp only [lockageref13_Segments.l0]; rw [if_neg (by omega)]) (Ev.now _)
  | succ d ih =>
    intro from' i acc hf hi hd ha hno
    have hil : i < (ul s).length := by rw [ul_length]; omega
    have hbt := bt_ul s i hil
    by_cases hc : (ul s)[i] = 47
    · have eb : bt s (i : Int) = 47 := by rw [hbt, hc]; rfl
      have hx : s.extract from' i = bs (((ul s).drop from').take (i - from')) := ul_inj (by rw [ul_extract])
      have es : (ul s).drop from' = ((ul s).drop from').take (i - from') ++ 47 :: (ul s).drop (i + 1) := by
        conv => lhs; rw [← List.take_append_drop (i - from') ((ul s).drop from')]
        rw [List.drop_drop, show from' + (i - from') = i by omega, drop_cons _ _ hil, hc]
      have e2 : splitB 47 ((ul s).drop from') = ((ul s).drop from').take (i - from') :: splitB 47 ((ul s).drop (i + 1)) := by
        conv => lhs; rw [es]
        exact splitB_at hno
      clear hbt hc
      rw [e2, List.map_cons]
      have hih := ih (i + 1) (i + 1) (acc ++ [bs (((ul s).drop from').take (i - from'))]) (Nat.le_refl _) (by omega) (by omega) (by simp; omega) (by simp)
      refine Ev.step (fun k => ?_) (by simpa only [List.append_assoc, List.cons_append, List.nil_append] using hih)
      simp only [lockageref13_Segments.l0]
      rw [if_pos (by omega), if_neg (by omega), if_pos (by omega), if_pos (by omega), if_pos eb, if_pos (by omega), if_pos (by omega), if_pos (by omega : acc.length < 8796093022208), wrap_succ (by omega)]
      simp only [Int.toNat_natCast, hx]
    · have eb : ¬ bt s (i : Int) = 47 := by
        rw [hbt]
        intro h
        exact hc (UInt8.toNat_inj.1 (show _ = 47 by omega))
      clear hbt
      refine Ev.step (fun k => ?_) (ih from' (i + 1) acc (by omega) (by omega) (by omega) (by omega) ?_)
      · simp only [lockageref13_Segments.l0]
        rw [if_pos (by omega), if_neg (by omega), if_pos (by omega), if_pos (by omega), if_neg eb, wrap_succ (by omega)]
      intro x hx
      have e : ((ul s).drop from').take (i + 1 - from') = ((ul s).drop from').take (i - from') ++ [(ul s)[i]] := by
        rw [show i + 1 - from' = (i - from') + 1 by omega, List.take_succ_eq_append_getElem (by simp; omega)]
        simp [List.getElem_drop, show from' + (i - from') = i by omega]
      rw [e, List.mem_append] at hx
      rcases hx with hx | hx
      · exact hno x hx
      · simp at hx; rw [hx]; exact hc
def segsS (p : Str) : List ByteArray := (splitB 47 (p.drop 1)).map bs
theorem segs_ev (s : ByteArray) (hs : s.size ≤ 100000000) (h1 : 1 ≤ s.size) : Ev (fun k => lockageref13_Segments.f k s) (segsS (ul s)) := by
  have := segs_loop s hs (s.size - 1) 1 1 [] (Nat.le_refl _) h1 rfl (by simp) (by simp)
  rw [List.nil_append] at this
  exact this
def stepK (out : List ByteArray) (x : ByteArray) : List ByteArray := if ul x = [46, 46] then out.dropLast else if ul x = [46] then out else out ++ [x]
def dotB (x : ByteArray) : Bool := decide (ul x = [46]) || decide (ul x = [46, 46])
def stepAll : List ByteArray → List ByteArray → List ByteArray
  | out, [] => out
  | out, [x] => if dotB x then stepK out x ++ [⟨#[]⟩] else stepK out x
  | out, x :: y :: r => stepAll (stepK out x) (y :: r)
def slashL (xs : List ByteArray) : Str := xs.flatMap fun x => 47 :: ul x
theorem stepK_length (out : List ByteArray) (x : ByteArray) : (stepK out x).length ≤ out.length + 1 := by
  unfold stepK; split
  · simp; omega
  · split <;> simp
theorem stepK_mem {out : List ByteArray} {x y : ByteArray} (h : y ∈ stepK out x) : y ∈ out ∨ y = x := by
  unfold stepK at h
  split at h
  · exact .inl (List.dropLast_subset _ h)
  · split at h
    · exact .inl h
    · simpa using h
theorem stepAll_few (m : Nat) : ∀ (xs out : List ByteArray), (∀ x ∈ xs, x.size ≤ m) → (∀ x ∈ out, x.size ≤ m) → (stepAll out xs).length ≤ out.length + xs.length + 1 ∧ ∀ x ∈ stepAll out xs, x.size ≤ m
  | [], out, _, h2 => by simp only [stepAll]; exact ⟨by simp, h2⟩
  | [x], out, h1, h2 => by
    have hl := stepK_length out x
    have hm : ∀ y ∈ stepK out x, y.size ≤ m := fun y hy => by
      rcases stepK_mem hy with h | rfl
      · exact h2 y h
      · exact h1 _ (by simp)
    simp only [stepAll]
    split
    · refine ⟨by simp; omega, fun y hy => ?_⟩
      rcases List.mem_append.1 hy with h | h
      · exact hm y h
      · simp at h; subst h; show 0 ≤ m; omega
    · exact ⟨by simp; omega, hm⟩
  | x :: y :: r, out, h1, h2 => by
    have hl := stepK_length out x
    simp only [stepAll]
    have := stepAll_few m (y :: r) (stepK out x) (fun z hz => h1 z (by simp at hz ⊢; exact .inr hz)) (fun z hz => by
      rcases stepK_mem hz with h | rfl
      · exact h2 z h
      · exact h1 _ (by simp))
    exact ⟨by simp at *; omega, this.2⟩
theorem slashL_length (m : Nat) : ∀ xs : List ByteArray, (∀ x ∈ xs, x.size ≤ m) → (slashL xs).length ≤ xs.length * (m + 1)
  | [], _ => by simp [slashL]
  | x :: xs, h => by
    have h1 := h x (by simp)
    have ih := slashL_length m xs (fun y hy => h y (by simp [hy]))
    unfold slashL at ih ⊢
    rw [List.flatMap_cons, List.length_append, List.length_cons, ul_length, List.length_cons, Nat.succ_mul]
    omega
theorem dots_write (xs : List ByteArray) (hx : xs.length ≤ 100000 ∧ ∀ x ∈ xs, x.size ≤ 100000) (d : Nat) : ∀ (i : Nat) (acc : ByteArray), i ≤ xs.length → xs.length - i = d → acc.size ≤ i * 100001 →
    Ev (fun k => lockageref13_dots.l1 k xs acc (i : Int)) (acc ++ bs (slashL (xs.drop i))) := by
  have hxl := hx.1
  induction d with
  | zero =>
    intro i acc hi hd ha
    rw [List.drop_eq_nil_of_le (by omega)]
    exact Ev.step (f := fun _ => some acc) (fun k => by simp only [lockageref13_dots.l1]; rw [if_neg (by omega)]) (by rw [show acc ++ bs (slashL []) = acc by rw [app_bs]; simp [slashL]]; exact Ev.now _)
  | succ d ih =>
    intro i acc hi hd ha
    have hil : i < xs.length := by omega
    have hm := hx.2 xs[i] (List.getElem_mem hil)
    have e : xs.drop i = xs[i] :: xs.drop (i + 1) := (List.getElem_cons_drop (h := hil)).symm
    have e2 : acc ++ bs (slashL (xs.drop i)) = (acc ++ (⟨#[47]⟩ : ByteArray) ++ xs[i]) ++ bs (slashL (xs.drop (i + 1))) := by
      rw [e]
      generalize xs.drop (i + 1) = R
      refine ul_inj ?_
      simp [ul, ByteArray.data_append, slashL]
    have hsz : (acc ++ (⟨#[47]⟩ : ByteArray)).size = acc.size + 1 := by rw [ByteArray.size_append]; rfl
    rw [e2]
    refine Ev.step (fun k => ?_) (ih (i + 1) (acc ++ (⟨#[47]⟩ : ByteArray) ++ xs[i]) (by omega) (by omega) (by rw [ByteArray.size_append, hsz]; omega))
    simp only [lockageref13_dots.l1]
    rw [if_pos (by omega), if_pos (by omega), if_pos (by omega), rdOf_get xs i hil, if_pos (by rw [hsz]; omega), wrap_succ (by omega)]
theorem dots_loop (xs : List ByteArray) (hx : xs.length ≤ 10000 ∧ ∀ x ∈ xs, x.size ≤ 100000) (d : Nat) : ∀ (i : Nat) (out : List ByteArray), i ≤ xs.length → xs.length - i = d → out.length ≤ i → (∀ x ∈ out, x.size ≤ 100000) →
    Ev (fun k => lockageref13_dots.l0 k xs out (i : Int)) (bs (slashL (stepAll out (xs.drop i)))) := by
  have hxl := hx.1
  have fin : ∀ out : List ByteArray, out.length ≤ 100000 → (∀ x ∈ out, x.size ≤ 100000) → Ev (fun k => lockageref13_dots.l0 k xs out (xs.length : Int)) (bs (slashL out)) := by
    intro out h1 h2
    refine Ev.step (f := fun k => lockageref13_dots.l1 k out ⟨#[]⟩ 0) (fun k => by simp only [lockageref13_dots.l0]; rw [if_neg (by omega)]) ?_
    have := dots_write out ⟨h1, h2⟩ out.length 0 ⟨#[]⟩ (by omega) (by omega) (by decide)
    rw [List.drop_zero, app_bs] at this
    exact this
  induction d with
  | zero =>
    intro i out hi hd ho hm
    obtain rfl : i = xs.length := by omega
    rw [List.drop_eq_nil_of_le (Nat.le_refl _)]
    exact fin out (by omega) hm
  | succ d ih =>
    intro i out hi hd ho hm
    have hil : i < xs.length := by omega
    have hxm := hx.2 xs[i] (List.getElem_mem hil)
    have e : xs.drop i = xs[i] :: xs.drop (i + 1) := (List.getElem_cons_drop (h := hil)).symm
    rw [e]
    have hrd := rdOf_get xs i hil
    have hw : wrap64 ((xs.length : Int) - 1) = ((xs.length - 1 : Nat) : Int) := wrap_pred (by omega) (by omega)
    have nxt : ∀ out', out'.length ≤ i + 1 → (∀ x ∈ out', x.size ≤ 100000) → out' = stepK out xs[i] → Ev (fun k => lockageref13_dots.l0 k xs (if dotB xs[i] ∧ i = xs.length - 1 then out' ++ [⟨#[]⟩] else out') ((i + 1 : Nat) : Int)) (bs (slashL (stepAll out (xs[i] :: xs.drop (i + 1))))) := by
      intro out' h1 h2 h3
      by_cases hlast : i = xs.length - 1
      · have hn : i + 1 = xs.length := by omega
        have hd0 : xs.drop (i + 1) = [] := List.drop_eq_nil_of_le (by omega)
        rw [hd0, hn]
        simp only [stepAll]
        rw [← h3]
        by_cases hb : dotB xs[i] = true
        · rw [if_pos ⟨hb, hlast⟩, if_pos hb]
          exact fin _ (by simp; omega) (fun x hx => by
            rcases List.mem_append.1 hx with h | h
            · exact h2 x h
            · simp at h; subst h; show 0 ≤ 100000; omega)
        · rw [if_neg (fun q => hb q.1), if_neg hb]
          exact fin _ (by omega) h2
      · rw [if_neg (fun q => hlast q.2)]
        have hi1 : i + 1 < xs.length := by omega
        have e1 : xs.drop (i + 1) = xs[i + 1] :: xs.drop (i + 1 + 1) := (List.getElem_cons_drop (h := hi1)).symm
        have hih := ih (i + 1) out' (by omega) (by omega) h1 h2
        rw [e1] at hih ⊢
        simp only [stepAll]
        rw [← h3]
        exact hih
    have hlasteq : ((i : Int) == ((xs.length - 1 : Nat) : Int)) = decide (i = xs.length - 1) := by
      by_cases h : i = xs.length - 1
      · rw [decide_eq_true h, beq_iff_eq]; omega
      · rw [decide_eq_false h, beq_eq_false_iff_ne]; omega
    have hl0 : ∀ k, lockageref13_dots.l0 (k + 1) xs out (i : Int) = lockageref13_dots.j1 k xs out (i : Int) (decide (i = xs.length - 1)) (dotB xs[i]) := by
      intro k
      simp only [lockageref13_dots.l0]
      rw [if_pos (by omega), if_pos (by omega), hrd, hw, hlasteq, toList_ul]
      unfold dotB
      by_cases h : ul xs[i] = [46]
      · rw [if_pos h, decide_eq_true h, Bool.true_or]
      · rw [if_neg h, decide_eq_false h, Bool.false_or]; congr 1; exact Bool.eq_iff_iff.2 (by simp)
    refine Ev.step hl0 ?_
    cases hb : dotB xs[i] with
    | false =>
      have h1 : ¬ ul xs[i] = [46] := fun h => by unfold dotB at hb; rw [decide_eq_true h] at hb; cases hb
      have h2 : ¬ ul xs[i] = [46, 46] := fun h => by unfold dotB at hb; rw [decide_eq_true h, Bool.or_true] at hb; cases hb
      have hs : out ++ [xs[i]] = stepK out xs[i] := by unfold stepK; rw [if_neg h2, if_neg h1]
      have hn := nxt (out ++ [xs[i]]) (by simp; omega) (fun x hx => by
        rcases List.mem_append.1 hx with h | h
        · exact hm x h
        · simp at h; subst h; exact hxm) hs
      rw [if_neg (fun q => by rw [hb] at q; cases q.1)] at hn
      refine Ev.step (fun k => ?_) hn
      simp only [lockageref13_dots.j1]
      rw [if_neg (by simp), if_pos (by omega), if_pos (by omega), if_pos (by omega : out.length < 8796093022208), hrd, wrap_succ (by omega)]
    | true =>
      have fj : ∀ (out' : List ByteArray) (k : Nat), out'.length ≤ 100000 → (if (decide (i = xs.length - 1)) = true then (if out'.length < 8796093022208 then (lockageref13_dots.l0 k xs (out' ++ [(⟨#[]⟩ : ByteArray)]) ((i + 1 : Nat) : Int)) else none) else lockageref13_dots.l0 k xs out' ((i + 1 : Nat) : Int)) = lockageref13_dots.l0 k xs (if dotB xs[i] ∧ i = xs.length - 1 then out' ++ [⟨#[]⟩] else out') ((i + 1 : Nat) : Int) := by
        intro out' k h
        by_cases hl : i = xs.length - 1
        · rw [if_pos (decide_eq_true hl), if_pos (by omega : out'.length < 8796093022208), if_pos ⟨hb, hl⟩]
        · rw [if_neg (by simpa using hl), if_neg (fun q => hl q.2)]
      by_cases h2 : ul xs[i] = [46, 46]
      · refine Ev.step (f := fun k => lockageref13_dots.j2 k xs out (i : Int) (decide (i = xs.length - 1)) (decide ((out.length : Int) > 0))) (fun k => by simp only [lockageref13_dots.j1]; rw [if_pos trivial, if_pos (by omega), if_pos (by omega), hrd, toList_ul, if_pos h2]) ?_
        have hs : out.dropLast = stepK out xs[i] := by unfold stepK; rw [if_pos h2]
        have hn := nxt out.dropLast (by simp; omega) (fun x hx => hm x (List.dropLast_subset _ hx)) hs
        by_cases hp : (out.length : Int) > 0
        · have hwp : wrap64 ((out.length : Int) - 1) = ((out.length - 1 : Nat) : Int) := wrap_pred (by omega) (by omega)
          rw [decide_eq_true hp]
          refine Ev.step (fun k => ?_) hn
          simp only [lockageref13_dots.j2]
          rw [if_pos trivial, hwp, if_pos (by omega), if_pos (by omega), wrap_succ (by omega)]
          simp only [Int.toNat_natCast, Option.bind_some]
          rw [← List.dropLast_eq_take]
          exact fj _ k (by simp; omega)
        · have h0 : out = [] := List.eq_nil_of_length_eq_zero (by omega)
          rw [decide_eq_false hp]
          subst h0
          refine Ev.step (fun k => ?_) hn
          simp only [lockageref13_dots.j2]
          rw [if_neg (by simp), wrap_succ (by omega)]
          exact fj [] k (by simp)
      · have h1 : ul xs[i] = [46] := by
          unfold dotB at hb
          simpa [h2] using hb
        have hs : out = stepK out xs[i] := by unfold stepK; rw [if_neg h2, if_pos h1]
        have hn := nxt out (by omega) hm hs
        refine Ev.step (f := fun k => lockageref13_dots.j2 k xs out (i : Int) (decide (i = xs.length - 1)) false) (fun k => by simp only [lockageref13_dots.j1]; rw [if_pos trivial, if_pos (by omega), if_pos (by omega), hrd, toList_ul, if_neg h2]) ?_
        refine Ev.step (fun k => ?_) hn
        simp only [lockageref13_dots.j2]
        rw [if_neg (by simp), wrap_succ (by omega)]
        exact fj out k (by omega)
theorem dots_ev (xs : List ByteArray) (hx : xs.length ≤ 10000 ∧ ∀ x ∈ xs, x.size ≤ 100000) : Ev (fun k => lockageref13_dots.f k xs) (bs (slashL (stepAll [] xs))) := by
  have := dots_loop xs hx xs.length 0 [] (by omega) (by omega) (by simp) (by simp)
  rw [List.drop_zero] at this
  exact this
end Go.Proofs.YtalafpigfeiaiaaGreatDoor.Q
end
section
namespace Go.Proofs.YtalafpigfeiaiaaGreatDoor.Q
open Go.RowKit Go.Proofs.YtalafpigfeiaiaaGreatDoor.H Go.Proofs.YtalafpigfeiaiaaGreatDoorW.PrintWords
set_option linter.unusedVariables false
set_option linter.unusedSimpArgs false
def cutV (s : ByteArray) (c : UInt8) : Array Value :=
  if Lib.indexByte (ul s) c = -1 then #[.string s, .string ⟨#[]⟩, .bool false]
  else #[.string (bs ((ul s).take (Lib.indexByte (ul s) c).toNat)), .string (bs ((ul s).drop ((Lib.indexByte (ul s) c).toNat + 1))), .bool true]
set_option maxRecDepth 100000 in
theorem liteCut_calls (s : ByteArray) (hs : s.size ≤ 1000000000) (c : UInt8) (w : World) : Calls Tryz.prog 168 #[.string s, .string ⟨#[c]⟩] w fun e w' => e = .returned (.tuple (cutV s c)) ∧ Drawn0 w w' := by
  have HI := Aside0.mk (fun (W : World) => Tryz.stringslite_Index_one s c W)
  by_cases hi : Lib.indexByte (ul s) c = -1
  · have HV := Aside0.mk (show cutV s c = #[.string s, .string ⟨#[]⟩, .bool false] by unfold cutV; rw [if_pos hi])
    have HN := Aside0.mk (show Lib.indexByte s.data.toList c = -1 from hi)
    clear hi
    go_enter Tryz.func168, Tryz.ntmps168
    go_wp2_with (go_at_call 205; refine (HI.out _).mono ?_; rintro e w1 ⟨rfl, rfl⟩; rw [HN.out])
    go_ret3
    exact ⟨by rw [HV.out]; rfl, Drawn0.refl _⟩
  · obtain ⟨i, hi0⟩ : ∃ i : Nat, Lib.indexByte (ul s) c = i := ⟨(Lib.indexByte (ul s) c).toNat, by have := Lib.indexByte_ge (ul s) c; omega⟩
    obtain ⟨hsp, hil⟩ := splitB_some hi0
    rw [ul_length] at hil
    have HV := Aside0.mk (show cutV s c = #[.string (s.extract 0 i), .string (s.extract (i + 1) s.size), .bool true] by
      unfold cutV
      rw [if_neg hi, hi0, Int.toNat_natCast]
      rw [show bs ((ul s).take i) = s.extract 0 i from ul_inj (by rw [ul_extract]; simp), show bs ((ul s).drop (i + 1)) = s.extract (i + 1) s.size from ul_inj (by rw [ul_extract, List.take_of_length_le (by rw [List.length_drop, ul_length]; omega)])])
    have HN := Aside0.mk (show Lib.indexByte s.data.toList c = (i : Int) from hi0)
    clear hi hi0 hsp
    have hone : (⟨#[c]⟩ : ByteArray).size = 1 := rfl
    have hw : IntKind.i64.wrap ((i : Int) + 1) = ((i + 1 : Nat) : Int) := IntWalk.i64_in _ (by omega)
    go_enter Tryz.func168, Tryz.ntmps168
    go_wp2_with (go_at_call 205; refine (HI.out _).mono ?_; rintro e w1 ⟨rfl, rfl⟩; rw [HN.out])
    go_quiet (fail)
    go_wp2
    go_ret3
    exact ⟨by rw [HV.out]; rfl, by repeat (first | exact Drawn0.refl _ | apply Drawn0.step)⟩
set_option maxRecDepth 100000 in
theorem cut_calls (s : ByteArray) (hs : s.size ≤ 1000000000) (c : UInt8) (w : World) : Calls Tryz.prog 124 #[.string s, .string ⟨#[c]⟩] w fun e w' => e = .returned (.tuple (cutV s c)) ∧ Drawn0 w w' := by
  have HC := Aside0.mk (fun (W : World) => liteCut_calls s hs c W)
  clear hs
  have HV : ∃ a b d, cutV s c = #[a, b, d] := by unfold cutV; split <;> exact ⟨_, _, _, rfl⟩
  obtain ⟨a, b, d, hv⟩ := HV
  rw [hv] at HC ⊢
  clear hv
  go_enter Tryz.func124, Tryz.ntmps124
  go_wp2_with (go_at_call 168; refine (HC.out _).mono ?_; rintro e w1 ⟨rfl, hd⟩)
  go_ret3
  exact ⟨rfl, hd⟩
end Go.Proofs.YtalafpigfeiaiaaGreatDoor.Q
end
section
namespace Go.Proofs.YtalafpigfeiaiaaGreatDoor.Q
open Go.RowKit Go.Proofs.YtalafpigfeiaiaaGreatDoor.H Go.Proofs.YtalafpigfeiaiaaGreatDoorW.PrintWords Go.Proofs.YtalafpigfeiaiaaGreatDoorW.PrintLast Go.Proofs.YtalafpigfeiaiaaGreatDoorW.PrintMore
set_option linter.unusedVariables false
set_option linter.unusedSimpArgs false
theorem indexByte_no {c : UInt8} : ∀ {l : Str}, Lib.indexByte l c = -1 → ∀ x ∈ l, x ≠ c
  | [], _ => by simp
  | y :: l, h => by
    unfold Lib.indexByte at h
    by_cases hy : y = c
    · subst hy; simp at h
    · have hy' : (y == c) = false := by simpa using hy
      rw [hy'] at h
      have hl : Lib.indexByte l c = -1 := by
        by_cases h1 : Lib.indexByte l c = -1
        · exact h1
        · have h2 : (Lib.indexByte l c == -1) = false := by simpa using h1
          have := Lib.indexByte_ge l c
          simp [h2] at h; omega
      intro x hx
      rcases List.mem_cons.1 hx with rfl | hx
      · exact hy
      · exact indexByte_no hl x hx
theorem indexByte_at {c : UInt8} : ∀ {l : Str} {i : Nat}, Lib.indexByte l c = i → (∀ x ∈ l.take i, x ≠ c) ∧ l = l.take i ++ c :: l.drop (i + 1)
  | [], i, h => by simp [Lib.indexByte] at h
  | x :: l, i, h => by
    unfold Lib.indexByte at h
    by_cases hx : x = c
    · subst hx
      simp at h
      obtain rfl : i = 0 := by omega
      simp
    · have hx' : (x == c) = false := by simpa using hx
      rw [hx'] at h
      have hge := Lib.indexByte_ge l c
      by_cases h1 : Lib.indexByte l c = -1
      · simp [h1] at h
      · have h2 : (Lib.indexByte l c == -1) = false := by simpa using h1
        simp [h2] at h
        obtain ⟨j, rfl⟩ : ∃ j, i = j + 1 := ⟨i - 1, by omega⟩
        obtain ⟨h3, h4⟩ := indexByte_at (c := c) (l := l) (i := j) (by omega)
        constructor
        · intro y hy
          rw [List.take_succ_cons] at hy
          rcases List.mem_cons.1 hy with rfl | hy
          · exact hx
          · exact h3 y hy
        · rw [List.take_succ_cons, List.drop_succ_cons, List.cons_append, ← h4]
theorem plainG_pre : ∀ (p l : Str), (∀ x ∈ p, x ≠ 37) → plainG (p ++ l) none = if p.all okC then (plainG l none).map (p ++ ·) else none
  | [], l, _ => by cases h : plainG l none <;> simp [h]
  | c :: p, l, h => by
    have hc : c ≠ 37 := h c (by simp)
    have ih := plainG_pre p l (fun x hx => h x (by simp [hx]))
    rw [List.cons_append, plainG_c, if_neg hc, ih, List.all_cons]
    cases okC c <;> cases p.all okC <;> cases plainG l none <;> simp
def goodS (acc cur : Str) : Option Str := if acc.all okC then (plainG cur none).map (acc ++ ·) else none
theorem goodS_end {acc cur : Str} (h : ∀ x ∈ cur, x ≠ 37) : goodS acc cur = if (acc ++ cur).all okC then some (acc ++ cur) else none := by
  have := plainG_pre cur [] h
  rw [List.append_nil, plainG_nil] at this
  unfold goodS
  rw [this, List.all_append]
  cases acc.all okC <;> cases cur.all okC <;> simp
theorem goodS_step {acc p rest : Str} (h : ∀ x ∈ p, x ≠ 37) : goodS acc (p ++ 37 :: rest) = if escI rest = 0 then none else goodS (acc ++ p ++ outL (escI rest)) (rest.drop 2) := by
  have e : plainG (37 :: rest) none = if escI rest = 0 then none else (plainG (rest.drop 2) none).map (outL (escI rest) ++ ·) := by
    rw [plainG_c, if_pos rfl]
    match rest with
    | [] => rfl
    | [x] => rfl
    | a :: b :: r => rw [plainG_two]; rfl
  have hout : escI rest = 0 ∨ (outL (escI rest)).all okC = true := by
    match rest with
    | [] => exact .inl rfl
    | [x] => exact .inl rfl
    | a :: b :: r => exact .inr (out_tab ⟨escV a b, escV_lt a b⟩).1
  unfold goodS
  rw [plainG_pre p _ h, e]
  by_cases h0 : escI rest = 0
  · rw [if_pos h0, if_pos h0]; simp
  · have ho := hout.resolve_left h0
    rw [if_neg h0, if_neg h0, List.all_append, List.all_append, ho]
    generalize outL (escI rest) = o
    cases acc.all okC <;> cases p.all okC <;> cases plainG (rest.drop 2) none <;> simp
theorem escI_lt (l : Str) : escI l < 256 := by
  match l with
  | [] => simp [escI]
  | [x] => simp [escI]
  | a :: b :: r => exact escV_lt a b
theorem escI_two {l : Str} (h : escI l ≠ 0) : 2 ≤ l.length := by
  match l with
  | [] => simp [escI] at h
  | [x] => simp [escI] at h
  | a :: b :: r => simp
theorem may_calls (s : ByteArray) (hs : s.size ≤ 1000000000) (w : World) : Calls Tryz.prog 91 #[.string s] w fun e w' => e = .returned (.bool ((ul s).all okC)) ∧ Drawn0 w w' := by
  obtain ⟨k, hk⟩ := (may_ev s hs).rounds
  exact target_may.calls k s _ w hk
theorem escape_calls (s : ByteArray) (w : World) : Calls Tryz.prog 125 #[.string s] w fun e w' => e = .returned (.int .u8 (escI (ul s) : Int)) ∧ Drawn0 w w' := by
  obtain ⟨k, hk⟩ := (escape_ev s).rounds
  exact target_escape.calls k s _ w hk
theorem free_calls (n : Nat) (h : n < 256) (w : World) : Calls Tryz.prog 126 #[.int .u8 (n : Int)] w fun e w' => e = .returned (.bool (freeN n)) ∧ Drawn0 w w' := target_free.calls _ _ w (free_some h)
theorem bits_15 (n : Nat) (hn : n < 256) : Go.bits .and .u8 (n : Int) 15 = ((n % 16 : Nat) : Int) := by
  have h : ∀ m : Fin 256, Go.bits .and .u8 (m.val : Int) 15 = ((m.val % 16 : Nat) : Int) := by decide +kernel
  exact h ⟨n, hn⟩
theorem hexAt : ∀ (q : Nat) (h : q < (⟨#[48, 49, 50, 51, 52, 53, 54, 55, 56, 57, 65, 66, 67, 68, 69, 70]⟩ : ByteArray).size), (⟨#[48, 49, 50, 51, 52, 53, 54, 55, 56, 57, 65, 66, 67, 68, 69, 70]⟩ : ByteArray)[q] = capN q := by
  have h : ∀ q : Fin 16, (⟨#[48, 49, 50, 51, 52, 53, 54, 55, 56, 57, 65, 66, 67, 68, 69, 70]⟩ : ByteArray)[q.val] = capN q.val := by decide +kernel
  intro q hq
  exact h ⟨q, hq⟩
theorem builderString (B b : Nat) (l : Str) (t : ByteArray) (ht : bs l = t) (w : World) (h : HoldsB B b l w) (hBw : B ≤ w.heap.size) :
    Calls Tryz.prog 60 #[.pointer (some ⟨b, 0, none⟩)] w fun e w' => e = .returned (.string t) ∧ HoldsB B b l w' ∧ Below B w w' ∧ Lib.OthersKept 5 (some b) w w' := by
  subst ht
  exact Tryz.Builder_String_any_k B b l w h hBw
set_option maxHeartbeats 1000000 in
set_option maxRecDepth 100000 in
theorem plain_calls (s : ByteArray) (hs : s.size ≤ 1000) (w : World) :
    Calls Tryz.prog 89 #[.string s] w fun e w' => ∃ t, e = .returned (.tuple #[.string t, .bool (plainG (ul s) none).isSome]) ∧ (∀ r, plainG (ul s) none = some r → t = bs r) ∧ Below w.heap.size w w' := by
  have hmade := HoldsB.made w
  have hbw := (Below.refl w.heap.size w).alloc (Nat.le_refl _) (.cells #[.pointer none, .slice none 0 0] 96)
  have hsz0 : w.heap.size < (w.alloc (.cells #[.pointer none, .slice none 0 0] 96)).heap.size := by simp
  obtain ⟨res, hres⟩ : ∃ res, plainG (ul s) none = res := ⟨_, rfl⟩
  have HR := Aside0.mk hres
  rw [hres]
  clear hres
  go_enter Tryz.func89, Tryz.ntmps89
  go_wp2
  go_loopw [0] (fun v0 wr => ∃ (acc : Str) (cur : ByteArray), v0 = .string cur ∧ goodS acc (ul cur) = res ∧ acc.length + cur.size ≤ s.size ∧ HoldsB w.heap.size w.heap.size acc wr ∧ Below w.heap.size w wr ∧ w.heap.size < wr.heap.size) (fun v0 _ => match v0 with | .string c => c.size | _ => 0)
  case atStart => exact ⟨[], s, rfl, by rw [← HR.out]; unfold goodS; cases h : plainG (ul s) none <;> simp [h], by simp, hmade, hbw, hsz0⟩
  case round =>
    clear hmade hbw hsz0
    obtain ⟨acc, cur, rfl, hg, hlen, hB, hb, hsz⟩ := hrel
    have HG := Aside0.mk hg
    have HB0 := Aside0.mk hB
    have HC := Aside0.mk (fun (W : World) => cut_calls cur (by omega) 37 W)
    clear hg hB
    by_cases hi : Lib.indexByte (ul cur) 37 = -1
    · have HV := Aside0.mk (show cutV cur 37 = #[.string cur, .string ⟨#[]⟩, .bool false] by unfold cutV; rw [if_pos hi])
      have HN := Aside0.mk (indexByte_no hi)
      clear hi
      have hsz2 : (bs (acc ++ ul cur)).size ≤ 1000000000 := by rw [bs_size (acc ++ ul cur), List.length_append, ul_length]; omega
      obtain ⟨t, ht⟩ : ∃ t, bs (acc ++ ul cur) = t := ⟨_, rfl⟩
      obtain ⟨ok, hok⟩ : ∃ ok, (ul t).all okC = ok := ⟨_, rfl⟩
      have HM := Aside0.mk (fun (W : World) => may_calls t (by rw [← ht]; exact hsz2) W)
      rw [hok] at HM
      have HT := Aside0.mk ht
      have HK := Aside0.mk hok
      clear hsz2 ht hok
      go_wp2_with (first
        | (go_at_call 124; refine (HC.out _).mono ?_; rintro e w1 ⟨rfl, hd1⟩; rw [HV.out]; have hb1 := hd1.below; have hs1 := hb1.size; clear hd1)
        | (go_at_call 58; refine (writeString' w.heap.size w.heap.size acc cur _ (HB0.out.below hb1) (by omega) (by omega)).mono ?_; rintro e w2 ⟨rfl, hB2, hb2, hk2⟩; have hs2 := hb2.size; have HB2 := Aside0.mk hB2; clear hB2 hk2)
        | (go_at_call 60; refine (builderString w.heap.size w.heap.size (acc ++ ul cur) t HT.out _ HB2.out (by omega)).mono ?_; rintro e w3 ⟨rfl, hB3, hb3, hk3⟩; have hs3 := hb3.size; have HB3 := Aside0.mk hB3; clear hB3 hk3 HB2)
        | (go_at_call 60; refine (builderString w.heap.size w.heap.size (acc ++ ul cur) t HT.out _ HB3.out (by omega)).mono ?_; rintro e w4 ⟨rfl, hB4, hb4, hk4⟩; have hs4 := hb4.size; clear hB4 hk4)
        | (go_at_call 91; refine (HM.out _).mono ?_; rintro e w5 ⟨rfl, hd5⟩; have hb5 := hd5.below; clear hd5))
      go_ret2
      have hgd := goodS_end (acc := acc) HN.out
      rw [HG.out] at hgd
      have hbb := ((((hb.trans (hb1.mono hb.size)).trans hb2).trans hb3).trans hb4).trans (hb5.mono (by omega))
      have hal : (acc ++ ul cur).all okC = ok := by rw [← HK.out, ← HT.out]
      rw [hal] at hgd
      refine ⟨t, ?_, fun r hr => ?_, hbb⟩
      · rw [hgd]; cases ok <;> rfl
      · rw [hgd] at hr
        cases ok with
        | true => rw [if_pos rfl] at hr; injection hr with hr; rw [← hr, HT.out]
        | false => rw [if_neg (by simp)] at hr; cases hr
    · obtain ⟨i, hi0⟩ : ∃ i : Nat, Lib.indexByte (ul cur) 37 = i := ⟨(Lib.indexByte (ul cur) 37).toNat, by have := Lib.indexByte_ge (ul cur) 37; omega⟩
      obtain ⟨hpre, hcat⟩ := indexByte_at hi0
      have hil : i + 1 ≤ cur.size := by
        have := congrArg List.length hcat
        rw [List.length_append, List.length_cons, List.length_take, List.length_drop, ul_length] at this
        omega
      have HV := Aside0.mk (show cutV cur 37 = #[.string (bs ((ul cur).take i)), .string (bs ((ul cur).drop (i + 1))), .bool true] by unfold cutV; rw [if_neg hi, hi0, Int.toNat_natCast])
      have hst := goodS_step (acc := acc) (rest := (ul cur).drop (i + 1)) hpre
      rw [← hcat, HG.out] at hst
      have HST := Aside0.mk hst
      clear hst hi hi0 hpre hcat
      have hal : ((ul cur).take i).length = i := by rw [List.length_take, ul_length]; omega
      have hrl : ((ul cur).drop (i + 1)).length = cur.size - (i + 1) := by rw [List.length_drop, ul_length]
      generalize (ul cur).take i = ahead at *
      generalize (ul cur).drop (i + 1) = rest at *
      have hn := escI_lt rest
      have h2r : escI rest ≠ 0 → 2 ≤ rest.length := escI_two
      have HE := Aside0.mk (fun (W : World) => escape_calls (bs rest) W)
      rw [ul_bs] at HE
      have hahs : (bs ahead).size = i := by rw [bs_size ahead]; exact hal
      have hrs : (bs rest).size = rest.length := bs_size rest
      generalize hnn : escI rest = n at *
      clear hnn
      by_cases h0 : n = 0
      · have hgd := HST.out
        rw [if_pos h0] at hgd
        have HGD := Aside0.mk hgd
        clear hgd
        subst h0
        go_wp2_with (first
          | (go_at_call 124; refine (HC.out _).mono ?_; rintro e w1 ⟨rfl, hd1⟩; rw [HV.out]; have hb1 := hd1.below; have hs1 := hb1.size; clear hd1)
          | (go_at_call 58; refine (writeString' w.heap.size w.heap.size acc (bs ahead) _ (HB0.out.below hb1) (by omega) (by omega)).mono ?_; rintro e w2 ⟨rfl, hB2, hb2, hk2⟩; have hs2 := hb2.size; clear hB2 hk2)
          | (go_at_call 125; refine (HE.out _).mono ?_; rintro e w3 ⟨rfl, hd3⟩; have hb3 := hd3.below; clear hd3))
        go_ret2
        have hbb := ((hb.trans (hb1.mono hb.size)).trans hb2).trans (hb3.mono (by omega))
        have hgd := HGD.out
        exact ⟨_, by rw [hgd]; rfl, fun r hr => by (rw [hgd] at hr; cases hr), hbb⟩
      · have h2 := h2r h0
        have hgd := HST.out
        rw [if_neg h0] at hgd
        have HGD := Aside0.mk hgd
        have HF := Aside0.mk (fun (W : World) => free_calls n hn W)
        have hn0 : ((n : Int) == 0) = false := by rw [beq_eq_false_iff_ne]; omega
        have hn0' : ¬ ((n : Int) = 0) := by omega
        have hrd : ul ((bs rest).extract 2 (cur.size - (i + 1))) = rest.drop 2 := by rw [ul_extract, ul_bs, List.take_of_length_le (by rw [List.length_drop]; omega)]
        have HRD := Aside0.mk hrd
        have hcz : ((bs rest).extract 2 (cur.size - (i + 1))).size = cur.size - (i + 1) - 2 := by rw [← ul_length, hrd, List.length_drop, hrl]
        have HCZ := Aside0.mk hcz
        clear hcz
        have hol := (out_tab ⟨n, hn⟩).2
        simp only at hol
        clear hgd hrd h2r
        cases hf : freeN n with
        | true =>
          have ho : outL n = [UInt8.ofNat n] := by unfold outL; rw [hf]; rfl
          have hc8 : ((UInt8.ofNat n).toNat : Int) = (n : Int) := by rw [UInt8.toNat_ofNat']; omega
          rw [hf] at HF
          rw [ho] at HGD
          have HW := Aside0.mk (fun (W : World) (hW : HoldsB w.heap.size w.heap.size (acc ++ ahead) W) (hle : w.heap.size ≤ W.heap.size) => writeByte' w.heap.size w.heap.size (acc ++ ahead) (UInt8.ofNat n) W hW (by rw [List.length_append]; omega) hle)
          rw [hc8] at HW
          clear ho hc8
          go_wp2_with (first
            | (go_at_call 124; refine (HC.out _).mono ?_; rintro e w1 ⟨rfl, hd1⟩; rw [HV.out]; have hb1 := hd1.below; have hs1 := hb1.size; clear hd1)
            | (go_at_call 58; refine (writeString' w.heap.size w.heap.size acc (bs ahead) _ (HB0.out.below hb1) (by omega) (by omega)).mono ?_; rintro e w2 ⟨rfl, hB2, hb2, hk2⟩; have hs2 := hb2.size; have HB2 := Aside0.mk hB2; clear hB2 hk2)
            | (go_at_call 125; refine (HE.out _).mono ?_; rintro e w3 ⟨rfl, hd3⟩; have hb3 := hd3.below; have hs3 := hb3.size; clear hd3)
            | (go_at_call 126; refine (HF.out _).mono ?_; rintro e w4 ⟨rfl, hd4⟩; have hb4 := hd4.below; have hs4 := hb4.size; clear hd4)
            | (go_at_call 127; refine (HW.out _ ((HB2.out.below hb3).below hb4) (by omega)).mono ?_; rintro e w5 ⟨rfl, hB5, hb5, hk5⟩; have hs5 := hb5.size; have HB5 := Aside0.mk hB5; clear hB5 hk5))
          have hbb := (((hb.trans (hb1.mono hb.size)).trans hb2).trans (hb3.mono (by omega))).trans (hb4.mono (by omega))
          refine ⟨⟨acc ++ ahead ++ [UInt8.ofNat n], _, rfl, ?_, ?_, HB5.out, hbb.trans hb5, by omega⟩, ?_⟩
          · rw [HGD.out]
            congr 1
            exact HRD.out
          · rw [HCZ.out, List.length_append, List.length_append]; simp; omega
          · show (((bs rest).extract 2 (cur.size - (i + 1))).size) < cur.size
            rw [HCZ.out]; omega
        | false =>
          have ho : outL n = [37] ++ [capN (n / 16)] ++ [capN (n % 16)] := by unfold outL; rw [hf]; rfl
          rw [hf] at HF
          rw [ho] at HGD
          have hq : n / 16 < 16 := by omega
          have hr : n % 16 < 16 := by omega
          have hdiv : (n : Int) / 16 = ((n / 16 : Nat) : Int) := by omega
          have hbits := bits_15 n hn
          have hxq := hexAt (n / 16) hq
          have hxr := hexAt (n % 16) hr
          generalize n / 16 = q at *
          generalize n % 16 = r at *
          have hq0 : (0 : Int) ≤ (q : Int) := by omega
          have hq1 : (q : Int) < 16 := by omega
          have hr0 : (0 : Int) ≤ (r : Int) := by omega
          have hr1 : (r : Int) < 16 := by omega
          generalize capN q = cq at *
          generalize capN r = cr at *
          have HW := Aside0.mk (fun (W : World) (hW : HoldsB w.heap.size w.heap.size (acc ++ ahead) W) (hle : w.heap.size ≤ W.heap.size) => writeString' w.heap.size w.heap.size (acc ++ ahead) (bs ([37] ++ [cq] ++ [cr])) W hW (by rw [bs_size ([37] ++ [cq] ++ [cr]), List.length_append]; simp; omega) hle)
          clear ho
          go_wp2_with (first
            | (go_at_call 124; refine (HC.out _).mono ?_; rintro e w1 ⟨rfl, hd1⟩; rw [HV.out]; have hb1 := hd1.below; have hs1 := hb1.size; clear hd1)
            | (go_at_call 58; refine (writeString' w.heap.size w.heap.size acc (bs ahead) _ (HB0.out.below hb1) (by omega) (by omega)).mono ?_; rintro e w2 ⟨rfl, hB2, hb2, hk2⟩; have hs2 := hb2.size; have HB2 := Aside0.mk hB2; clear hB2 hk2)
            | (go_at_call 125; refine (HE.out _).mono ?_; rintro e w3 ⟨rfl, hd3⟩; have hb3 := hd3.below; have hs3 := hb3.size; clear hd3)
            | (go_at_call 126; refine (HF.out _).mono ?_; rintro e w4 ⟨rfl, hd4⟩; have hb4 := hd4.below; have hs4 := hb4.size; clear hd4))
          have hB4 := (((HB2.out.below hb3).below hb4).alloc (.cells #[.int .u8 37, .int .u8 (cq.toNat : Int), .int .u8 (cr.toNat : Int)] 5)).below ((Below.refl (w4.alloc (.cells #[.int .u8 37, .int .u8 (cq.toNat : Int), .int .u8 (cr.toNat : Int)] 5)).heap.size (w4.alloc (.cells #[.int .u8 37, .int .u8 (cq.toNat : Int), .int .u8 (cr.toNat : Int)] 5))).drew)
          have HB4 := Aside0.mk hB4
          have hb44 := (((hb.trans (hb1.mono hb.size)).trans hb2).trans (hb3.mono (by omega))).trans (hb4.mono (by omega))
          have hs44 : w.heap.size < w4.heap.size := by omega
          have hb45 := (hb44.alloc (by omega) (.cells #[.int .u8 37, .int .u8 (cq.toNat : Int), .int .u8 (cr.toNat : Int)] 5)).drew
          clear hB4 hb1 hb2 hb3 hb4 hs1 hs2 hs3 hs4 HB2
          have kc := run_convert_bytes_arg (P := Tryz.prog) (w := (w4.alloc (.cells #[.int .u8 37, .int .u8 (cq.toNat : Int), .int .u8 (cr.toNat : Int)] 5)).drew) 22 5 Tryz.underlying22 Tryz.underlying5 w4.heap.size 0 3 3 [37, (cq.toNat : Int), (cr.toNat : Int)] rfl
            (fun i hi => by
              have h : (w4.alloc (.cells #[.int .u8 37, .int .u8 (cq.toNat : Int), .int .u8 (cr.toNat : Int)] 5)).drew.heap[w4.heap.size]? = some (.cells #[.int .u8 37, .int .u8 (cq.toNat : Int), .int .u8 (cr.toNat : Int)] 5 (0, 0)) := heap_alloc_new w4 _
              simp only [World.cell?, h]
              match i, hi with
              | 0, _ => rfl
              | 1, _ => rfl
              | 2, _ => rfl)
            9 Tryz.underlying9
          have hstr : strOfNums [37, (cq.toNat : Int), (cr.toNat : Int)] = bs ([37] ++ [cq] ++ [cr]) := by simp [strOfNums]
          rw [hstr] at kc
          refine start_ (n := 9) (S := (fun _ => True)) (ds := []) #[false, false, false, false, false, false, false, false, false] (by kernel_rfl) rfl rfl (trivial) (fun hHeld => ?_)
          refine pure_ (i := 0) (N := (some 24)) (v := ?_) (a' := ?_) #[true, false, false, false, false, false, false, false, false] rfl rfl (by kernel_rfl) (fun _ _ _ h => h) (Or.inl ⟨by rfl, ?_⟩) ?_ ?_
          rotate_left
          · intro w'
            go_simp
            with_reducible rfl
          rotate_left
          · simp only [Act.put, List.setIfInBounds_toArray, List.set_cons_zero, List.set_cons_succ, i64_w, i32_w]
            rfl
          refine pure_ (i := 1) (N := (some 25)) (v := ?_) (a' := ?_) #[true, true, false, false, false, false, false, false, false] rfl rfl (by kernel_rfl) (fun _ _ _ h => h) (Or.inl ⟨by rfl, ?_⟩) ?_ ?_
          rotate_left
          · intro w'
            go_simp
            with_reducible rfl
          rotate_left
          · simp only [Act.put, List.setIfInBounds_toArray, List.set_cons_zero, List.set_cons_succ, i64_w, i32_w]
            rfl
          refine pure_ (i := 2) (N := (some 26)) (v := ?_) (a' := ?_) #[true, true, true, false, false, false, false, false, false] rfl rfl (by kernel_rfl) (fun _ _ _ h => h) (Or.inl ⟨by rfl, ?_⟩) ?_ ?_
          rotate_left
          · intro w'
            go_simp
            with_reducible rfl
          rotate_left
          · simp only [Act.put, List.setIfInBounds_toArray, List.set_cons_zero, List.set_cons_succ, i64_w, i32_w]
            rfl
          refine pure_ (i := 3) (N := (some 27)) (v := ?_) (a' := ?_) #[true, true, true, true, false, false, false, false, false] rfl rfl (by kernel_rfl) (fun _ _ _ h => h) (Or.inl ⟨by rfl, ?_⟩) ?_ ?_
          rotate_left
          · intro w'
            go_simp
            with_reducible rfl
          rotate_left
          · simp only [Act.put, List.setIfInBounds_toArray, List.set_cons_zero, List.set_cons_succ, i64_w, i32_w]
            rfl
          refine pure_ (i := 4) (N := (some 28)) (v := ?_) (a' := ?_) #[true, true, true, true, true, false, false, false, false] rfl rfl (by kernel_rfl) (fun _ _ _ h => h) (Or.inl ⟨by rfl, ?_⟩) ?_ ?_
          rotate_left
          · intro w'
            go_simp
            with_reducible rfl
          rotate_left
          · simp only [Act.put, List.setIfInBounds_toArray, List.set_cons_zero, List.set_cons_succ, i64_w, i32_w]
            rfl
          refine pure_ (i := 5) (N := (some 29)) (v := ?_) (a' := ?_) #[true, true, true, true, true, true, false, false, false] rfl rfl (by kernel_rfl) (fun _ _ _ h => h) (Or.inl ⟨by rfl, ?_⟩) ?_ ?_
          rotate_left
          · intro w'
            go_simp
            with_reducible rfl
          rotate_left
          · simp only [Act.put, List.setIfInBounds_toArray, List.set_cons_zero, List.set_cons_succ, i64_w, i32_w]
            rfl
          refine one_ (i := 6) (N := (some 30)) #[true, true, true, true, true, true, true, false, false] rfl rfl (by kernel_rfl) (by decide) (fun K hK => ?_)
          go_simp
          refine hK.out _ _ hHeld (fun _ => ?_)
          clear hK K
          try simp only [Act.put, List.setIfInBounds_toArray, List.set_cons_zero, List.set_cons_succ, i64_w, i32_w]
          refine one_ (i := 7) (N := (some 31)) #[true, true, true, true, true, true, true, true, false] rfl rfl (by kernel_rfl) (by decide) (fun K hK => ?_)
          go_simp
          refine hK.out _ _ hHeld (fun _ => ?_)
          clear hK K
          try simp only [Act.put, List.setIfInBounds_toArray, List.set_cons_zero, List.set_cons_succ, i64_w, i32_w]
          refine one_ (i := 8) (N := (some 32)) #[true, true, true, true, true, true, true, true, true] rfl rfl (by kernel_rfl) (by decide) (fun K hK => ?_)
          refine goes_ Tryz.func58 (by kernel_rfl) rfl #[.pointer (some ⟨w.heap.size, 0, none⟩), .string (bs ([37] ++ [cq] ++ [cr]))] (by rfl) rfl rfl (by (try simp only [List.map_toArray, List.map_cons, List.map_nil]); first | done | rfl) ?_
          refine (HW.out _ HB4.out (by simp; omega)).mono ?_
          rintro e w5 ⟨rfl, hB5, hb5, hk5⟩
          have hs5 := hb5.size
          have HB5 := Aside0.mk hB5
          clear hB5 hk5
          refine ⟨_, rfl, ?_⟩
          refine hK.out _ _ hHeld (fun _ => ?_)
          clear hK K
          refine norm_ (a' := ?_) ?_ ?_
          rotate_left
          · show Act.put _ (some 32) _ = _
            simp only [Act.put, List.setIfInBounds_toArray, List.set_cons_zero, List.set_cons_succ, i64_w, i32_w]
            rfl
          refine done_ (by kernel_rfl) ?_
          go_wp2
          refine ⟨⟨acc ++ ahead ++ ([37] ++ [cq] ++ [cr]), _, rfl, ?_, ?_, HB5.out, hb45.trans hb5, ?_⟩, ?_⟩
          · rw [HGD.out]
            congr 1
            exact HRD.out
          · rw [HCZ.out, List.length_append, List.length_append]; simp; omega
          · simp at hs5; omega
          · show (((bs rest).extract 2 (cur.size - (i + 1))).size) < cur.size
            rw [HCZ.out]; omega
end Go.Proofs.YtalafpigfeiaiaaGreatDoor.Q
end
