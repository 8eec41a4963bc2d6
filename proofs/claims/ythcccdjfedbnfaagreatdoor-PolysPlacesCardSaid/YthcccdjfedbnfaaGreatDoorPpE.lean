/-
  The walk of Parse of limbs, where the text is a number's.
-/
import Derived.Test.YthcccdjfedbnfaaGreatDoorPpD
import Derived.Test.YthcccdjfedbnfaaGreatDoorProg
import Derived.Shelf.Strings.Builder1
import Derived.Shelf.Strings.Builder2
import Derived.Shelf.Small.Wraps
import Derived.Shelf.Strconv.Itoa0
import Derived.Shelf.Strconv.Itoa1
import Derived.Shelf.LaysM
import Derived.Shelf.Strconv.Itoa2
import Derived.Shelf.Strconv.Itoa3
import Derived.Ground.MpProg
import Derived.Shelf.Pu.ParseUintPublic10
import Derived.Shelf.Bits.Mul64
import Derived.Shelf.Strings.Repeat
import Derived.Shelf.Strings.SlTrimAscii
import Derived.Shelf.Strings.Search2
import Derived.Ground.SlsfProg
import Derived.Shelf.SlSortCmp.WholeK
import Derived.Shelf.SlSortCmp.NoneTotal
import Derived.Shelf.Small.Bits
import Derived.Ground.NamesProg
import Derived.Ground.Names8Prog
import Derived.Shelf.Spec.SlicesGrow
import Derived.Lib.AppendIntMem
import Derived.Lib.Repeat
import Derived.Lib.Strings
import Derived.Lib.SlTrimSet
import Derived.Lib.AtoiAll
import Derived.Lib.UnsafeStr
import Derived.Lib.ConvBytes
import Derived.Lib.ParseIntB
set_option linter.unusedSimpArgs false
set_option linter.unusedVariables false
namespace Go.Proofs
open Go.Shelf
def Tryz.lays170_ren : Go.Shelf.Ren := ⟨fun | 170 => 116 | n => n, fun | 70 => 146 | 3 => 3 | 0 => 0 | 72 => 149 | 37 => 147 | 5 => 5 | n => n, fun | n => n⟩
theorem Tryz.lays170 : Go.Proofs.Lays.n170 Tryz.prog Tryz.lays170_ren := {
 mixed := by kernel_rfl
 f170 := Tryz.func116.trans (congrArg some (by kernel_rfl))
 t0 := Tryz.underlying0
 a0 := Tryz.isAgg0
 z0 := Tryz.sizeOf0
 v0 := Tryz.zeroValue0
 t3 := Tryz.underlying3
 a3 := Tryz.isAgg3
 z3 := Tryz.sizeOf3
 v3 := Tryz.zeroValue3
 t37 := Tryz.underlying147
 a37 := Tryz.isAgg147
 z37 := Tryz.sizeOf147
 v37 := Tryz.zeroValue147
 t70 := Tryz.underlying146
 a70 := Tryz.isAgg146
 z70 := Tryz.sizeOf146
 v70 := Tryz.zeroValue146
 t72 := Tryz.underlying149
 a72 := Tryz.isAgg149
 z72 := Tryz.sizeOf149
 v72 := Tryz.zeroValue149 }
open Go.RowKit in
theorem Tryz.Builder_Len (B b : Nat) (bs : List Value) (w : World) (h : Lib.IsBuilder 149 5 B b bs w) :
  Calls Tryz.prog 116 #[.pointer (some ⟨b, 0, none⟩)] w fun e w' => e = .returned (.int .i64 bs.length) ∧ w' = w := Any.Builder_Len Tryz.lays170 B b bs w h
def Tryz.lays169_ren : Go.Shelf.Ren := ⟨fun | 169 => 117 | n => n, fun | 70 => 146 | 9 => 9 | 0 => 0 | 72 => 149 | 37 => 147 | 127 => 179 | 3 => 3 | 5 => 5 | n => n, fun | n => n⟩
theorem Tryz.lays169 : Go.Proofs.Lays.n169 Tryz.prog Tryz.lays169_ren := {
 mixed := by kernel_rfl
 f169 := Tryz.func117.trans (congrArg some (by kernel_rfl))
 t0 := Tryz.underlying0
 a0 := Tryz.isAgg0
 z0 := Tryz.sizeOf0
 v0 := Tryz.zeroValue0
 t3 := Tryz.underlying3
 a3 := Tryz.isAgg3
 z3 := Tryz.sizeOf3
 v3 := Tryz.zeroValue3
 t9 := Tryz.underlying9
 a9 := Tryz.isAgg9
 z9 := Tryz.sizeOf9
 v9 := Tryz.zeroValue9
 t37 := Tryz.underlying147
 a37 := Tryz.isAgg147
 z37 := Tryz.sizeOf147
 v37 := Tryz.zeroValue147
 t70 := Tryz.underlying146
 a70 := Tryz.isAgg146
 z70 := Tryz.sizeOf146
 v70 := Tryz.zeroValue146
 t72 := Tryz.underlying149
 a72 := Tryz.isAgg149
 z72 := Tryz.sizeOf149
 v72 := Tryz.zeroValue149
 t127 := Tryz.underlying179
 a127 := Tryz.isAgg179
 z127 := Tryz.sizeOf179
 v127 := Tryz.zeroValue179 }
theorem Tryz.Builder_Extra_169 : Builder.Extra Tryz.prog Tryz.lays169_ren := {
 sizeBuilder := by kernel_rfl
 liesBuilder := by kernel_rfl
 t5 := Tryz.underlying5
 a5 := Tryz.isAgg5
 z5 := Tryz.sizeOf5
 v5 := Tryz.zeroValue5
 infoByte := by kernel_rfl
 cellsByte := by kernel_rfl
 sizeByte := by kernel_rfl
 neB5 := by decide }
open Go.RowKit in
theorem Tryz.Builder_String_any (B b : Nat) (l : List UInt8) (w : World) (h : Lib.IsBuilder 149 5 B b (Lib.byteCells l) w) (hBw : B ≤ w.heap.size) :
  Calls Tryz.prog 117 #[.pointer (some ⟨b, 0, none⟩)] w fun e w' => e = .returned (.string ⟨l.toArray⟩) ∧ Below B w w' := Any.Builder_String_any Tryz.lays169 Tryz.Builder_Extra_169 B b l w h hBw
def Tryz.lays160_ren : Go.Shelf.Ren := ⟨fun | 160 => 134 | 232 => 161 | 231 => 160 | 227 => 162 | 234 => 164 | 233 => 163 | 236 => 166 | 235 => 165 | 228 => 188 | 271 => 191 | 151 => 190 | 197 => 189 | 120 => 208 | 152 => 207 | 260 => 206 | 137 => 214 | 119 => 215 | 224 => 186 | 225 => 185 | 217 => 184 | 266 => 204 | n => n, fun | 9 => 9 | 4 => 4 | 3 => 3 | 5 => 5 | 117 => 199 | 116 => 198 | 0 => 0 | 124 => 202 | 21 => 21 | 105 => 225 | 46 => 141 | 119 => 247 | 139 => 250 | 138 => 249 | n => n, fun | 3 => 4 | 4 => 5 | n => n⟩
theorem Tryz.lays160 : Go.Proofs.Lays.n160 Tryz.prog Tryz.lays160_ren := {
 mixed := by kernel_rfl
 f119 := Tryz.func215.trans (congrArg some (by kernel_rfl))
 f120 := Tryz.func208.trans (congrArg some (by kernel_rfl))
 f137 := Tryz.func214.trans (congrArg some (by kernel_rfl))
 f151 := Tryz.func190.trans (congrArg some (by kernel_rfl))
 f152 := Tryz.func207.trans (congrArg some (by kernel_rfl))
 f160 := Tryz.func134.trans (congrArg some (by kernel_rfl))
 f197 := Tryz.func189.trans (congrArg some (by kernel_rfl))
 f217 := Tryz.func184.trans (congrArg some (by kernel_rfl))
 f224 := Tryz.func186.trans (congrArg some (by kernel_rfl))
 f225 := Tryz.func185.trans (congrArg some (by kernel_rfl))
 f227 := Tryz.func162.trans (congrArg some (by kernel_rfl))
 f228 := Tryz.func188.trans (congrArg some (by kernel_rfl))
 f231 := Tryz.func160.trans (congrArg some (by kernel_rfl))
 f232 := Tryz.func161.trans (congrArg some (by kernel_rfl))
 f233 := Tryz.func163.trans (congrArg some (by kernel_rfl))
 f234 := Tryz.func164.trans (congrArg some (by kernel_rfl))
 f235 := Tryz.func165.trans (congrArg some (by kernel_rfl))
 f236 := Tryz.func166.trans (congrArg some (by kernel_rfl))
 f260 := Tryz.func206.trans (congrArg some (by kernel_rfl))
 f266 := Tryz.func204.trans (congrArg some (by kernel_rfl))
 f271 := Tryz.func191.trans (congrArg some (by kernel_rfl))
 t0 := Tryz.underlying0
 a0 := Tryz.isAgg0
 z0 := Tryz.sizeOf0
 v0 := Tryz.zeroValue0
 t3 := Tryz.underlying3
 a3 := Tryz.isAgg3
 z3 := Tryz.sizeOf3
 v3 := Tryz.zeroValue3
 t4 := Tryz.underlying4
 a4 := Tryz.isAgg4
 z4 := Tryz.sizeOf4
 v4 := Tryz.zeroValue4
 t5 := Tryz.underlying5
 a5 := Tryz.isAgg5
 z5 := Tryz.sizeOf5
 v5 := Tryz.zeroValue5
 t9 := Tryz.underlying9
 a9 := Tryz.isAgg9
 z9 := Tryz.sizeOf9
 v9 := Tryz.zeroValue9
 t21 := Tryz.underlying21
 a21 := Tryz.isAgg21
 z21 := Tryz.sizeOf21
 v21 := Tryz.zeroValue21
 t46 := Tryz.underlying141
 a46 := Tryz.isAgg141
 z46 := Tryz.sizeOf141
 v46 := Tryz.zeroValue141
 t105 := Tryz.underlying225
 a105 := Tryz.isAgg225
 z105 := Tryz.sizeOf225
 v105 := Tryz.zeroValue225
 t116 := Tryz.underlying198
 a116 := Tryz.isAgg198
 z116 := Tryz.sizeOf198
 t117 := Tryz.underlying199
 a117 := Tryz.isAgg199
 z117 := Tryz.sizeOf199
 v117 := Tryz.zeroValue199
 t119 := Tryz.underlying247
 a119 := Tryz.isAgg247
 z119 := Tryz.sizeOf247
 t124 := Tryz.underlying202
 a124 := Tryz.isAgg202
 z124 := Tryz.sizeOf202
 v124 := Tryz.zeroValue202
 t138 := Tryz.underlying249
 a138 := Tryz.isAgg249
 z138 := Tryz.sizeOf249
 v138 := Tryz.zeroValue249
 t139 := Tryz.underlying250
 a139 := Tryz.isAgg250
 z139 := Tryz.sizeOf250
 v139 := Tryz.zeroValue250
 g3 := by kernel_rfl
 g4 := by kernel_rfl }
def Tryz.lays103_ren : Go.Shelf.Ren := ⟨fun | 103 => 133 | 210 => 159 | 206 => 176 | n => n, fun | 9 => 9 | 4 => 4 | 24 => 170 | 3 => 3 | n => n, fun | n => n⟩
theorem Tryz.lays103 : Go.Proofs.Lays.n103 Tryz.prog Tryz.lays103_ren := {
 mixed := by kernel_rfl
 f103 := Tryz.func133.trans (congrArg some (by kernel_rfl))
 f206 := Tryz.func176.trans (congrArg some (by kernel_rfl))
 f210 := Tryz.func159.trans (congrArg some (by kernel_rfl))
 t3 := Tryz.underlying3
 a3 := Tryz.isAgg3
 z3 := Tryz.sizeOf3
 v3 := Tryz.zeroValue3
 t4 := Tryz.underlying4
 a4 := Tryz.isAgg4
 z4 := Tryz.sizeOf4
 v4 := Tryz.zeroValue4
 t9 := Tryz.underlying9
 a9 := Tryz.isAgg9
 z9 := Tryz.sizeOf9
 v9 := Tryz.zeroValue9
 t24 := Tryz.underlying170
 a24 := Tryz.isAgg170
 z24 := Tryz.sizeOf170
 v24 := Tryz.zeroValue170 }
open Go.RowKit in
theorem Tryz.strings_CutPrefix (s p : ByteArray) (w : World) :
  Calls Tryz.prog 133 #[.string s, .string p] w fun e w' => e = .returned (.tuple #[.string ⟨(Lib.trimPrefix s.data.toList p.data.toList).toArray⟩, .bool (Lib.hasPrefix s.data.toList p.data.toList)]) ∧ w' = w := Any.strings_CutPrefix Tryz.lays103 s p w
def Tryz.lays283_ren : Go.Shelf.Ren := ⟨fun | 283 => 170 | n => n, fun | 3 => 3 | 9 => 9 | 4 => 4 | n => n, fun | n => n⟩
theorem Tryz.lays283 : Go.Proofs.Lays.n283 Tryz.prog Tryz.lays283_ren := {
 mixed := by kernel_rfl
 f283 := Tryz.func170.trans (congrArg some (by kernel_rfl))
 t3 := Tryz.underlying3
 a3 := Tryz.isAgg3
 z3 := Tryz.sizeOf3
 v3 := Tryz.zeroValue3
 t4 := Tryz.underlying4
 a4 := Tryz.isAgg4
 z4 := Tryz.sizeOf4
 v4 := Tryz.zeroValue4
 t9 := Tryz.underlying9
 a9 := Tryz.isAgg9
 z9 := Tryz.sizeOf9
 v9 := Tryz.zeroValue9 }
open Go.Lib in
theorem Tryz.internal_strconv_small (i : Nat) (h : i < 100) (w : World) :
  Calls Tryz.prog 170 #[.int .i64 i] w fun e w' => e = .returned (.string ⟨(Lib.decDigits i).toArray⟩) ∧ w' = w := Any.internal_strconv_small Tryz.lays283 i h w
def Tryz.laysM284_ren : Go.Shelf.Ren := ⟨fun | 284 => 171 | 129 => 154 | 317 => 198 | 318 => 199 | n => n, fun | 53 => 118 | 3 => 3 | 212 => 235 | 0 => 0 | 4 => 4 | 46 => 141 | 5 => 5 | 9 => 9 | n => n, fun | 17 => 1 | n => n⟩
theorem Tryz.laysM284 : Go.Proofs.LaysM.n284 Tryz.prog Tryz.laysM284_ren := {
 mixed := by kernel_rfl
 f129 := Tryz.func154.trans (congrArg some (by kernel_rfl))
 f284 := Tryz.func171.trans (congrArg some (by kernel_rfl))
 f317 := Tryz.func198.trans (congrArg some (by kernel_rfl))
 f318 := Tryz.func199.trans (congrArg some (by kernel_rfl))
 t0 := Tryz.underlying0
 a0 := Tryz.isAgg0
 z0 := Tryz.sizeOf0
 v0 := Tryz.zeroValue0
 t3 := Tryz.underlying3
 a3 := Tryz.isAgg3
 z3 := Tryz.sizeOf3
 v3 := Tryz.zeroValue3
 t4 := Tryz.underlying4
 a4 := Tryz.isAgg4
 z4 := Tryz.sizeOf4
 v4 := Tryz.zeroValue4
 t5 := Tryz.underlying5
 a5 := Tryz.isAgg5
 z5 := Tryz.sizeOf5
 v5 := Tryz.zeroValue5
 t9 := Tryz.underlying9
 a9 := Tryz.isAgg9
 z9 := Tryz.sizeOf9
 v9 := Tryz.zeroValue9
 t46 := Tryz.underlying141
 a46 := Tryz.isAgg141
 z46 := Tryz.sizeOf141
 v46 := Tryz.zeroValue141
 t53 := Tryz.underlying118
 a53 := Tryz.isAgg118
 z53 := Tryz.sizeOf118
 v53 := Tryz.zeroValue118
 t212 := Tryz.underlying235
 a212 := Tryz.isAgg235
 z212 := Tryz.sizeOf235
 v212 := Tryz.zeroValue235
 g17 := by kernel_rfl
 i0 := by kernel_rfl
 i3 := by kernel_rfl
 i4 := by kernel_rfl
 i5 := by kernel_rfl
 i9 := by kernel_rfl
 i46 := by kernel_rfl
 i53 := by kernel_rfl
 i212 := by kernel_rfl
 m17 := by kernel_rfl }
open Go.Lib in
theorem Tryz.internal_strconv_numDigits (u : Nat) (h1 : 1 ≤ u) (h2 : u < 18446744073709551616) (w : World) (htab : Lib.TabIs Tryz.prog w "internal/strconv.uint64pow10" .u64 Lib.pow10Tab) :
  Calls Tryz.prog 171 #[.int .u64 u] w fun e w' => e = .returned (.int .i64 (Lib.nDigits u)) ∧ w' = w := Any.internal_strconv_numDigits Tryz.laysM284 u h1 h2 w htab
def Tryz.lays285_ren : Go.Shelf.Ren := ⟨fun | 285 => 172 | n => n, fun | 37 => 147 | 53 => 118 | 3 => 3 | 4 => 4 | 51 => 110 | 9 => 9 | 5 => 5 | 0 => 0 | n => n, fun | n => n⟩
theorem Tryz.lays285 : Go.Proofs.Lays.n285 Tryz.prog Tryz.lays285_ren := {
 mixed := by kernel_rfl
 f285 := Tryz.func172.trans (congrArg some (by kernel_rfl))
 t0 := Tryz.underlying0
 a0 := Tryz.isAgg0
 z0 := Tryz.sizeOf0
 v0 := Tryz.zeroValue0
 t3 := Tryz.underlying3
 a3 := Tryz.isAgg3
 z3 := Tryz.sizeOf3
 v3 := Tryz.zeroValue3
 t4 := Tryz.underlying4
 a4 := Tryz.isAgg4
 z4 := Tryz.sizeOf4
 v4 := Tryz.zeroValue4
 t5 := Tryz.underlying5
 a5 := Tryz.isAgg5
 z5 := Tryz.sizeOf5
 v5 := Tryz.zeroValue5
 t9 := Tryz.underlying9
 a9 := Tryz.isAgg9
 z9 := Tryz.sizeOf9
 v9 := Tryz.zeroValue9
 t37 := Tryz.underlying147
 a37 := Tryz.isAgg147
 z37 := Tryz.sizeOf147
 v37 := Tryz.zeroValue147
 t51 := Tryz.underlying110
 a51 := Tryz.isAgg110
 z51 := Tryz.sizeOf110
 v51 := Tryz.zeroValue110
 t53 := Tryz.underlying118
 a53 := Tryz.isAgg118
 z53 := Tryz.sizeOf118
 v53 := Tryz.zeroValue118 }
open Go.RowKit Go.Sort Go.Lib in
theorem Tryz.internal_strconv_formatBase10 (blk off cap : Nat) (u : Nat) (d : Array UInt8) (w : World) (hH : Holds (fun (b : UInt8) => Value.int .u8 (b.toNat : Int)) w blk off d) (hu : u < 10 ^ d.size) (hu64 : u < 18446744073709551616) (hsz : d.size < 4611686018427387904) :
  Calls Tryz.prog 172 #[.slice (some ⟨blk, off, none⟩) d.size cap, .int .u64 u] w fun e w' =>
   e = .returned (.tuple #[]) ∧ ∃ (n v' : Nat) (dk : Array UInt8), w' = (putRow (fun (b : UInt8) => Value.int .u8 (b.toNat : Int)) w blk off dk).drewN n ∧ FmtInv d.size u 0 v' dk := Any.internal_strconv_formatBase10 Tryz.lays285 blk off cap u d w hH hu hu64 hsz
def Tryz.laysPu14_ren : Go.Shelf.Ren := ⟨fun | 14 => 135 | 16 => 167 | 17 => 168 | 19 => 192 | 20 => 193 | 21 => 194 | 22 => 195 | 23 => 196 | 24 => 197 | 25 => 209 | 27 => 211 | 26 => 210 | 28 => 216 | 29 => 217 | 30 => 170 | 31 => 171 | 32 => 172 | 33 => 173 | 35 => 154 | 34 => 198 | 36 => 199 | 37 => 200 | 38 => 201 | 39 => 212 | 40 => 213 | n => n, fun | 9 => 9 | 3 => 3 | 22 => 118 | 24 => 151 | 25 => 173 | 4 => 4 | 34 => 228 | 5 => 5 | 36 => 141 | 37 => 147 | 0 => 0 | 39 => 231 | 21 => 21 | 44 => 245 | 47 => 179 | 50 => 254 | 48 => 252 | 2 => 2 | 52 => 207 | 55 => 209 | 59 => 235 | 60 => 110 | 20 => 20 | 61 => 236 | 65 => 255 | 66 => 256 | 67 => 158 | n => n, fun | 0 => 2 | 1 => 3 | 2 => 1 | 3 => 6 | 4 => 7 | n => n⟩
theorem Tryz.laysPu14 : Go.Proofs.LaysPu.n14 Tryz.prog Tryz.laysPu14_ren := {
 mixed := by kernel_rfl
 f14 := Tryz.func135.trans (congrArg some (by kernel_rfl))
 f16 := Tryz.func167.trans (congrArg some (by kernel_rfl))
 f17 := Tryz.func168.trans (congrArg some (by kernel_rfl))
 f19 := Tryz.func192.trans (congrArg some (by kernel_rfl))
 f20 := Tryz.func193.trans (congrArg some (by kernel_rfl))
 f21 := Tryz.func194.trans (congrArg some (by kernel_rfl))
 f22 := Tryz.func195.trans (congrArg some (by kernel_rfl))
 f23 := Tryz.func196.trans (congrArg some (by kernel_rfl))
 f24 := Tryz.func197.trans (congrArg some (by kernel_rfl))
 f25 := Tryz.func209.trans (congrArg some (by kernel_rfl))
 f26 := Tryz.func210.trans (congrArg some (by kernel_rfl))
 f27 := Tryz.func211.trans (congrArg some (by kernel_rfl))
 f28 := Tryz.func216.trans (congrArg some (by kernel_rfl))
 f29 := Tryz.func217.trans (congrArg some (by kernel_rfl))
 f30 := Tryz.func170.trans (congrArg some (by kernel_rfl))
 f31 := Tryz.func171.trans (congrArg some (by kernel_rfl))
 f32 := Tryz.func172.trans (congrArg some (by kernel_rfl))
 f33 := Tryz.func173.trans (congrArg some (by kernel_rfl))
 f34 := Tryz.func198.trans (congrArg some (by kernel_rfl))
 f35 := Tryz.func154.trans (congrArg some (by kernel_rfl))
 f36 := Tryz.func199.trans (congrArg some (by kernel_rfl))
 f37 := Tryz.func200.trans (congrArg some (by kernel_rfl))
 f38 := Tryz.func201.trans (congrArg some (by kernel_rfl))
 f39 := Tryz.func212.trans (congrArg some (by kernel_rfl))
 f40 := Tryz.func213.trans (congrArg some (by kernel_rfl))
 t0 := Tryz.underlying0
 a0 := Tryz.isAgg0
 z0 := Tryz.sizeOf0
 v0 := Tryz.zeroValue0
 i0 := by kernel_rfl
 t2 := Tryz.underlying2
 a2 := Tryz.isAgg2
 z2 := Tryz.sizeOf2
 v2 := Tryz.zeroValue2
 i2 := by kernel_rfl
 t3 := Tryz.underlying3
 a3 := Tryz.isAgg3
 z3 := Tryz.sizeOf3
 v3 := Tryz.zeroValue3
 i3 := by kernel_rfl
 t4 := Tryz.underlying4
 a4 := Tryz.isAgg4
 z4 := Tryz.sizeOf4
 v4 := Tryz.zeroValue4
 i4 := by kernel_rfl
 t5 := Tryz.underlying5
 a5 := Tryz.isAgg5
 z5 := Tryz.sizeOf5
 v5 := Tryz.zeroValue5
 i5 := by kernel_rfl
 t9 := Tryz.underlying9
 a9 := Tryz.isAgg9
 z9 := Tryz.sizeOf9
 v9 := Tryz.zeroValue9
 i9 := by kernel_rfl
 t20 := Tryz.underlying20
 a20 := Tryz.isAgg20
 z20 := Tryz.sizeOf20
 v20 := Tryz.zeroValue20
 i20 := by kernel_rfl
 t21 := Tryz.underlying21
 a21 := Tryz.isAgg21
 z21 := Tryz.sizeOf21
 v21 := Tryz.zeroValue21
 i21 := by kernel_rfl
 t22 := Tryz.underlying118
 a22 := Tryz.isAgg118
 z22 := Tryz.sizeOf118
 v22 := Tryz.zeroValue118
 i22 := by kernel_rfl
 t24 := Tryz.underlying151
 a24 := Tryz.isAgg151
 z24 := Tryz.sizeOf151
 v24 := Tryz.zeroValue151
 i24 := by kernel_rfl
 t25 := Tryz.underlying173
 a25 := Tryz.isAgg173
 z25 := Tryz.sizeOf173
 v25 := Tryz.zeroValue173
 i25 := by kernel_rfl
 t34 := Tryz.underlying228
 a34 := Tryz.isAgg228
 z34 := Tryz.sizeOf228
 v34 := Tryz.zeroValue228
 i34 := by kernel_rfl
 c34 := by kernel_rfl
 t36 := Tryz.underlying141
 a36 := Tryz.isAgg141
 z36 := Tryz.sizeOf141
 v36 := Tryz.zeroValue141
 i36 := by kernel_rfl
 t37 := Tryz.underlying147
 a37 := Tryz.isAgg147
 z37 := Tryz.sizeOf147
 v37 := Tryz.zeroValue147
 i37 := by kernel_rfl
 t39 := Tryz.underlying231
 a39 := Tryz.isAgg231
 z39 := Tryz.sizeOf231
 v39 := Tryz.zeroValue231
 i39 := by kernel_rfl
 t44 := Tryz.underlying245
 a44 := Tryz.isAgg245
 z44 := Tryz.sizeOf245
 v44 := Tryz.zeroValue245
 i44 := by kernel_rfl
 t47 := Tryz.underlying179
 a47 := Tryz.isAgg179
 z47 := Tryz.sizeOf179
 v47 := Tryz.zeroValue179
 i47 := by kernel_rfl
 t48 := Tryz.underlying252
 a48 := Tryz.isAgg252
 z48 := Tryz.sizeOf252
 v48 := Tryz.zeroValue252
 i48 := by kernel_rfl
 t50 := Tryz.underlying254
 a50 := Tryz.isAgg254
 z50 := Tryz.sizeOf254
 v50 := Tryz.zeroValue254
 i50 := by kernel_rfl
 t52 := Tryz.underlying207
 a52 := Tryz.isAgg207
 z52 := Tryz.sizeOf207
 v52 := Tryz.zeroValue207
 i52 := by kernel_rfl
 t55 := Tryz.underlying209
 a55 := Tryz.isAgg209
 z55 := Tryz.sizeOf209
 v55 := Tryz.zeroValue209
 i55 := by kernel_rfl
 t59 := Tryz.underlying235
 a59 := Tryz.isAgg235
 z59 := Tryz.sizeOf235
 v59 := Tryz.zeroValue235
 i59 := by kernel_rfl
 t60 := Tryz.underlying110
 a60 := Tryz.isAgg110
 z60 := Tryz.sizeOf110
 v60 := Tryz.zeroValue110
 i60 := by kernel_rfl
 t61 := Tryz.underlying236
 a61 := Tryz.isAgg236
 z61 := Tryz.sizeOf236
 t65 := Tryz.underlying255
 a65 := Tryz.isAgg255
 z65 := Tryz.sizeOf255
 v65 := Tryz.zeroValue255
 i65 := by kernel_rfl
 t66 := Tryz.underlying256
 a66 := Tryz.isAgg256
 z66 := Tryz.sizeOf256
 v66 := Tryz.zeroValue256
 i66 := by kernel_rfl
 t67 := Tryz.underlying158
 a67 := Tryz.isAgg158
 z67 := Tryz.sizeOf158
 v67 := Tryz.zeroValue158
 i67 := by kernel_rfl
 g0 := by kernel_rfl
 m0 := by kernel_rfl
 g1 := by kernel_rfl
 m1 := by kernel_rfl
 g2 := by kernel_rfl
 m2 := by kernel_rfl
 g3 := by kernel_rfl
 m3 := by kernel_rfl
 g4 := by kernel_rfl
 m4 := by kernel_rfl }
open Go.RowKit in
theorem Tryz.strconv_ParseUint_10_at32_ok (s : ByteArray) (hmax : s.size ≤ 9223372036854775806) (u : Nat) (h : Lib.parseUintB 32 s.data.toList = .ok u) (w : World) :
  Calls Tryz.prog 135 #[.string s, .int .i64 10, .int .i64 32] w fun e w' => e = .returned (.tuple #[.int .u64 u, .nilIface]) ∧ (w' = w ∨ w' = Lib.bytesWorld w 5 s) := Any.strconv_ParseUint_10_at32_ok Tryz.laysPu14 s hmax u h w
def Tryz.lays105_ren : Go.Shelf.Ren := ⟨fun | 105 => 114 | 212 => 138 | 99 => 139 | 165 => 140 | 166 => 115 | 170 => 116 | 169 => 117 | 263 => 174 | 264 => 175 | 206 => 176 | 240 => 136 | 241 => 177 | 276 => 169 | 277 => 202 | n => n, fun | 9 => 9 | 3 => 3 | 4 => 4 | 20 => 20 | 0 => 0 | 46 => 141 | 109 => 175 | 5 => 5 | 72 => 149 | 76 => 155 | 51 => 110 | 146 => 211 | 53 => 118 | 148 => 213 | 70 => 146 | 37 => 147 | 75 => 151 | 127 => 179 | 164 => 204 | 80 => 158 | n => n, fun | n => n⟩
theorem Tryz.lays105 : Go.Proofs.Lays.n105 Tryz.prog Tryz.lays105_ren := {
 mixed := by kernel_rfl
 f99 := Tryz.func139.trans (congrArg some (by kernel_rfl))
 f105 := Tryz.func114.trans (congrArg some (by kernel_rfl))
 f165 := Tryz.func140.trans (congrArg some (by kernel_rfl))
 f166 := Tryz.func115.trans (congrArg some (by kernel_rfl))
 f169 := Tryz.func117.trans (congrArg some (by kernel_rfl))
 f170 := Tryz.func116.trans (congrArg some (by kernel_rfl))
 f206 := Tryz.func176.trans (congrArg some (by kernel_rfl))
 f212 := Tryz.func138.trans (congrArg some (by kernel_rfl))
 f240 := Tryz.func136.trans (congrArg some (by kernel_rfl))
 f241 := Tryz.func177.trans (congrArg some (by kernel_rfl))
 f263 := Tryz.func174.trans (congrArg some (by kernel_rfl))
 f264 := Tryz.func175.trans (congrArg some (by kernel_rfl))
 f276 := Tryz.func169.trans (congrArg some (by kernel_rfl))
 f277 := Tryz.func202.trans (congrArg some (by kernel_rfl))
 t0 := Tryz.underlying0
 a0 := Tryz.isAgg0
 z0 := Tryz.sizeOf0
 v0 := Tryz.zeroValue0
 t3 := Tryz.underlying3
 a3 := Tryz.isAgg3
 z3 := Tryz.sizeOf3
 v3 := Tryz.zeroValue3
 t4 := Tryz.underlying4
 a4 := Tryz.isAgg4
 z4 := Tryz.sizeOf4
 v4 := Tryz.zeroValue4
 t5 := Tryz.underlying5
 a5 := Tryz.isAgg5
 z5 := Tryz.sizeOf5
 v5 := Tryz.zeroValue5
 t9 := Tryz.underlying9
 a9 := Tryz.isAgg9
 z9 := Tryz.sizeOf9
 v9 := Tryz.zeroValue9
 t20 := Tryz.underlying20
 a20 := Tryz.isAgg20
 z20 := Tryz.sizeOf20
 v20 := Tryz.zeroValue20
 t37 := Tryz.underlying147
 a37 := Tryz.isAgg147
 z37 := Tryz.sizeOf147
 v37 := Tryz.zeroValue147
 t46 := Tryz.underlying141
 a46 := Tryz.isAgg141
 z46 := Tryz.sizeOf141
 v46 := Tryz.zeroValue141
 t51 := Tryz.underlying110
 a51 := Tryz.isAgg110
 z51 := Tryz.sizeOf110
 v51 := Tryz.zeroValue110
 t53 := Tryz.underlying118
 a53 := Tryz.isAgg118
 z53 := Tryz.sizeOf118
 v53 := Tryz.zeroValue118
 t70 := Tryz.underlying146
 a70 := Tryz.isAgg146
 z70 := Tryz.sizeOf146
 v70 := Tryz.zeroValue146
 t72 := Tryz.underlying149
 a72 := Tryz.isAgg149
 z72 := Tryz.sizeOf149
 v72 := Tryz.zeroValue149
 t75 := Tryz.underlying151
 a75 := Tryz.isAgg151
 z75 := Tryz.sizeOf151
 v75 := Tryz.zeroValue151
 t76 := Tryz.underlying155
 a76 := Tryz.isAgg155
 z76 := Tryz.sizeOf155
 v76 := Tryz.zeroValue155
 t109 := Tryz.underlying175
 a109 := Tryz.isAgg175
 z109 := Tryz.sizeOf175
 v109 := Tryz.zeroValue175
 t127 := Tryz.underlying179
 a127 := Tryz.isAgg179
 z127 := Tryz.sizeOf179
 v127 := Tryz.zeroValue179
 t146 := Tryz.underlying211
 a146 := Tryz.isAgg211
 z146 := Tryz.sizeOf211
 v146 := Tryz.zeroValue211
 t148 := Tryz.underlying213
 a148 := Tryz.isAgg213
 z148 := Tryz.sizeOf213
 v148 := Tryz.zeroValue213
 t164 := Tryz.underlying204
 a164 := Tryz.isAgg204
 z164 := Tryz.sizeOf204
 v164 := Tryz.zeroValue204 }
theorem Tryz.Builder_Extra_105 : Builder.Extra Tryz.prog Tryz.lays105_ren := {
 sizeBuilder := by kernel_rfl
 liesBuilder := by kernel_rfl
 t5 := Tryz.underlying5
 a5 := Tryz.isAgg5
 z5 := Tryz.sizeOf5
 v5 := Tryz.zeroValue5
 infoByte := by kernel_rfl
 cellsByte := by kernel_rfl
 sizeByte := by kernel_rfl
 neB5 := by decide }
open Go.RowKit Go.Lib in
theorem Tryz.strings_Repeat (s : ByteArray) (c : Nat) (w : World) (hc : c ≤ 9223372036854775807) (hlen : s.size * c ≤ 140737488355328) :
  Calls Tryz.prog 114 #[.string s, .int .i64 c] w fun e w' => e = .returned (.string ⟨(Lib.repeatL s.data.toList c).toArray⟩) ∧ Below w.heap.size w w' := Any.strings_Repeat Tryz.lays105 Tryz.Builder_Extra_105 s c w hc hlen
open Go.RowKit Go.Lib in
theorem Tryz.strings_Trim_laid (s cutset : ByteArray) (w : World) (hs : s.size ≤ 9223372036854775807) (hcs : cutset.size < 4294967281) (hascii : ∀ (j : Nat) b, cutset.data.toList[j]? = some b → b.toNat < 128) :
  Calls Tryz.prog 134 #[.string s, .string cutset] w fun e w' => e = .returned (.string ⟨(Lib.trimS s.data.toList cutset.data.toList).toArray⟩) ∧ Below w.heap.size w w' := Any.strings_Trim_laid Tryz.lays160 (by kernel_rfl) s cutset w hs hcs hascii
end Go.Proofs
namespace Go.Proofs
open Go.Shelf
def Tryz.lays219_ren : Go.Shelf.Ren := ⟨fun | 219 => 158 | 217 => 184 | 225 => 185 | 224 => 186 | 267 => 187 | 266 => 204 | 314 => 205 | n => n, fun | 9 => 9 | 3 => 3 | 4 => 4 | 5 => 5 | 46 => 141 | 146 => 211 | 51 => 110 | n => n, fun | 1 => 0 | n => n⟩
theorem Tryz.lays219 : Go.Proofs.Lays.n219 Tryz.prog Tryz.lays219_ren := {
 mixed := by kernel_rfl
 f217 := Tryz.func184.trans (congrArg some (by kernel_rfl))
 f219 := Tryz.func158.trans (congrArg some (by kernel_rfl))
 f224 := Tryz.func186.trans (congrArg some (by kernel_rfl))
 f225 := Tryz.func185.trans (congrArg some (by kernel_rfl))
 f266 := Tryz.func204.trans (congrArg some (by kernel_rfl))
 f267 := Tryz.func187.trans (congrArg some (by kernel_rfl))
 f314 := Tryz.func205.trans (congrArg some (by kernel_rfl))
 t3 := Tryz.underlying3
 a3 := Tryz.isAgg3
 z3 := Tryz.sizeOf3
 v3 := Tryz.zeroValue3
 t4 := Tryz.underlying4
 a4 := Tryz.isAgg4
 z4 := Tryz.sizeOf4
 v4 := Tryz.zeroValue4
 t5 := Tryz.underlying5
 a5 := Tryz.isAgg5
 z5 := Tryz.sizeOf5
 v5 := Tryz.zeroValue5
 t9 := Tryz.underlying9
 a9 := Tryz.isAgg9
 z9 := Tryz.sizeOf9
 v9 := Tryz.zeroValue9
 t46 := Tryz.underlying141
 a46 := Tryz.isAgg141
 z46 := Tryz.sizeOf141
 v46 := Tryz.zeroValue141
 t51 := Tryz.underlying110
 a51 := Tryz.isAgg110
 z51 := Tryz.sizeOf110
 v51 := Tryz.zeroValue110
 t146 := Tryz.underlying211
 a146 := Tryz.isAgg211
 z146 := Tryz.sizeOf211
 v146 := Tryz.zeroValue211
 g1 := by kernel_rfl }
open Go.RowKit Go.Lib in
theorem Tryz.stringslite_Index_one (s : ByteArray) (c : UInt8) (w : World) :
  Calls Tryz.prog 158 #[.string s, .string ⟨#[c]⟩] w fun e w' => e = .returned (.int .i64 (Lib.indexByte s.data.toList c)) ∧ w' = w := Any.stringslite_Index_one Tryz.lays219 s c w
end Go.Proofs
namespace Go.Proofs
open Go.Shelf
def Tryz.sortT_ren : Go.Shelf.Ren := ⟨fun | 14 => 127 | 20 => 145 | 21 => 146 | 22 => 147 | 23 => 148 | 24 => 149 | 25 => 150 | 26 => 151 | 27 => 152 | 46 => 178 | 47 => 179 | 48 => 180 | 49 => 181 | 50 => 182 | 15 => 128 | 57 => 203 | 28 => 153 | 29 => 154 | n => n, fun | 24 => 50 | 22 => 22 | 3 => 3 | 25 => 93 | 4 => 4 | 0 => 0 | 46 => 184 | 45 => 183 | 50 => 188 | 66 => 215 | 39 => 141 | 55 => 118 | 70 => 219 | 76 => 238 | 77 => 239 | 53 => 110 | 5 => 5 | 9 => 9 | n => n, fun | n => n⟩
theorem Tryz.sortT : Go.Proofs.SlLaysF0.n14 Tryz.prog Tryz.sortT_ren := {
 mixed := by kernel_rfl
 f14 := ⟨Tryz.f127.name, by decide, Tryz.func127.trans (congrArg some (by kernel_rfl))⟩
 f15 := Tryz.func128.trans (congrArg some (by kernel_rfl))
 f20 := ⟨Tryz.f145.name, by decide, Tryz.func145.trans (congrArg some (by kernel_rfl))⟩
 f21 := ⟨Tryz.f146.name, by decide, Tryz.func146.trans (congrArg some (by kernel_rfl))⟩
 f22 := ⟨Tryz.f147.name, by decide, Tryz.func147.trans (congrArg some (by kernel_rfl))⟩
 f23 := ⟨Tryz.f148.name, by decide, Tryz.func148.trans (congrArg some (by kernel_rfl))⟩
 f24 := ⟨Tryz.f149.name, by decide, Tryz.func149.trans (congrArg some (by kernel_rfl))⟩
 f25 := ⟨Tryz.f150.name, by decide, Tryz.func150.trans (congrArg some (by kernel_rfl))⟩
 f26 := ⟨Tryz.f151.name, by decide, Tryz.func151.trans (congrArg some (by kernel_rfl))⟩
 f27 := ⟨Tryz.f152.name, by decide, Tryz.func152.trans (congrArg some (by kernel_rfl))⟩
 f28 := Tryz.func153.trans (congrArg some (by kernel_rfl))
 f29 := Tryz.func154.trans (congrArg some (by kernel_rfl))
 f46 := ⟨Tryz.f178.name, by decide, Tryz.func178.trans (congrArg some (by kernel_rfl))⟩
 f47 := Tryz.func179.trans (congrArg some (by kernel_rfl))
 f48 := Tryz.func180.trans (congrArg some (by kernel_rfl))
 f49 := ⟨Tryz.f181.name, by decide, Tryz.func181.trans (congrArg some (by kernel_rfl))⟩
 f50 := ⟨Tryz.f182.name, by decide, Tryz.func182.trans (congrArg some (by kernel_rfl))⟩
 f57 := ⟨Tryz.f203.name, by decide, Tryz.func203.trans (congrArg some (by kernel_rfl))⟩
 t0 := Tryz.underlying0
 a0 := Tryz.isAgg0
 z0 := Tryz.sizeOf0
 v0 := Tryz.zeroValue0
 t3 := Tryz.underlying3
 a3 := Tryz.isAgg3
 z3 := Tryz.sizeOf3
 v3 := Tryz.zeroValue3
 t4 := Tryz.underlying4
 a4 := Tryz.isAgg4
 z4 := Tryz.sizeOf4
 v4 := Tryz.zeroValue4
 t5 := Tryz.underlying5
 a5 := Tryz.isAgg5
 z5 := Tryz.sizeOf5
 v5 := Tryz.zeroValue5
 t9 := Tryz.underlying9
 a9 := Tryz.isAgg9
 z9 := Tryz.sizeOf9
 v9 := Tryz.zeroValue9
 t22 := Tryz.underlying22
 a22 := Tryz.isAgg22
 z22 := Tryz.sizeOf22
 v22 := Tryz.zeroValue22
 t25 := Tryz.underlying93
 a25 := Tryz.isAgg93
 z25 := Tryz.sizeOf93
 v25 := Tryz.zeroValue93
 t39 := Tryz.underlying141
 a39 := Tryz.isAgg141
 z39 := Tryz.sizeOf141
 v39 := Tryz.zeroValue141
 t45 := Tryz.underlying183
 a45 := Tryz.isAgg183
 z45 := Tryz.sizeOf183
 v45 := Tryz.zeroValue183
 t46 := Tryz.underlying184
 a46 := Tryz.isAgg184
 z46 := Tryz.sizeOf184
 v46 := Tryz.zeroValue184
 t50 := Tryz.underlying188
 a50 := Tryz.isAgg188
 z50 := Tryz.sizeOf188
 v50 := Tryz.zeroValue188
 t53 := Tryz.underlying110
 a53 := Tryz.isAgg110
 z53 := Tryz.sizeOf110
 v53 := Tryz.zeroValue110
 t55 := Tryz.underlying118
 a55 := Tryz.isAgg118
 z55 := Tryz.sizeOf118
 v55 := Tryz.zeroValue118
 t66 := Tryz.underlying215
 a66 := Tryz.isAgg215
 z66 := Tryz.sizeOf215
 v66 := Tryz.zeroValue215
 t70 := Tryz.underlying219
 a70 := Tryz.isAgg219
 z70 := Tryz.sizeOf219
 v70 := Tryz.zeroValue219
 t76 := Tryz.underlying238
 a76 := Tryz.isAgg238
 z76 := Tryz.sizeOf238
 v76 := Tryz.zeroValue238
 t77 := Tryz.underlying239
 a77 := Tryz.isAgg239
 z77 := Tryz.sizeOf239
 v77 := Tryz.zeroValue239 }
def Tryz.growT_ren : Go.Shelf.Ren := ⟨fun | 4 => 108 | n => n, fun | 22 => 23 | 25 => 50 | 3 => 3 | 4 => 4 | 9 => 9 | 20 => 20 | 0 => 0 | n => n, fun | n => n⟩
theorem Tryz.growT : Go.Proofs.Lays8.n4 Tryz.prog Tryz.growT_ren := {
 mixed := by kernel_rfl
 f4 := ⟨Tryz.f108.name, by decide, Tryz.func108.trans (congrArg some (by kernel_rfl))⟩
 t0 := Tryz.underlying0
 a0 := Tryz.isAgg0
 z0 := Tryz.sizeOf0
 v0 := Tryz.zeroValue0
 t3 := Tryz.underlying3
 a3 := Tryz.isAgg3
 z3 := Tryz.sizeOf3
 v3 := Tryz.zeroValue3
 t4 := Tryz.underlying4
 a4 := Tryz.isAgg4
 z4 := Tryz.sizeOf4
 v4 := Tryz.zeroValue4
 t9 := Tryz.underlying9
 a9 := Tryz.isAgg9
 z9 := Tryz.sizeOf9
 v9 := Tryz.zeroValue9
 t20 := Tryz.underlying20
 a20 := Tryz.isAgg20
 z20 := Tryz.sizeOf20
 v20 := Tryz.zeroValue20
 t22 := Tryz.underlying23
 a22 := Tryz.isAgg23
 z22 := Tryz.sizeOf23
 v22 := Tryz.zeroValue23 }
def Tryz.lays125_ren : Go.Shelf.Ren := ⟨fun | 125 => 128 | 128 => 153 | 129 => 154 | n => n, fun | 46 => 141 | 3 => 3 | 51 => 110 | 53 => 118 | 4 => 4 | 5 => 5 | 9 => 9 | n => n, fun | n => n⟩
theorem Tryz.lays125 : Go.Proofs.Lays.n125 Tryz.prog Tryz.lays125_ren := {
 mixed := by kernel_rfl
 f125 := Tryz.func128.trans (congrArg some (by kernel_rfl))
 f128 := Tryz.func153.trans (congrArg some (by kernel_rfl))
 f129 := Tryz.func154.trans (congrArg some (by kernel_rfl))
 t3 := Tryz.underlying3
 a3 := Tryz.isAgg3
 z3 := Tryz.sizeOf3
 v3 := Tryz.zeroValue3
 t4 := Tryz.underlying4
 a4 := Tryz.isAgg4
 z4 := Tryz.sizeOf4
 v4 := Tryz.zeroValue4
 t5 := Tryz.underlying5
 a5 := Tryz.isAgg5
 z5 := Tryz.sizeOf5
 v5 := Tryz.zeroValue5
 t9 := Tryz.underlying9
 a9 := Tryz.isAgg9
 z9 := Tryz.sizeOf9
 v9 := Tryz.zeroValue9
 t46 := Tryz.underlying141
 a46 := Tryz.isAgg141
 z46 := Tryz.sizeOf141
 v46 := Tryz.zeroValue141
 t51 := Tryz.underlying110
 a51 := Tryz.isAgg110
 z51 := Tryz.sizeOf110
 v51 := Tryz.zeroValue110
 t53 := Tryz.underlying118
 a53 := Tryz.isAgg118
 z53 := Tryz.sizeOf118
 v53 := Tryz.zeroValue118 }
theorem Tryz.bits_Len (x : Int) (w : World) (h0 : 0 ≤ x) (h1 : x ≤ 18446744073709551615) :
  Calls Tryz.prog 128 #[.int .u64 x] w fun e w' => e = .returned (.int .i64 (Lib.bitLen x.toNat)) ∧ w' = w := Any.bits_Len Tryz.lays125 x w h0 h1
end Go.Proofs
namespace Go.Proofs.YthcccdjfedbnfaaGreatDoor.Limb
open Go.RowKit Go.Sort Go.Lib
theorem below_grow (w : World) (k : Nat) (os : Array Obj) : Below w.heap.size w (grow (w.drewN k) os) := by
 refine ⟨rfl, rfl, rfl, ?_, fun g hg => heap_grow_old w k os g hg⟩
 simp [grow]
set_option maxRecDepth 100000 in
theorem fmtUint_any (u : Nat) (hu64 : u < 18446744073709551616) (w : World) (htab : Lib.TabIs Tryz.prog w "internal/strconv.uint64pow10" .u64 Lib.pow10Tab) :
  Calls Tryz.prog 137 #[.int .u64 u, .int .i64 10] w fun e w' => e = .returned (.string ⟨(Lib.decDigits u).toArray⟩) ∧ Below w.heap.size w w' := by
 have ts := Tryz.underlying207
 by_cases hs : u < 100
 ·have c1 : (u : Int) < 100 := by omega
  have w1 := IntWalk.i64_in (u : Int) (by omega)
  have SM := Lib.hid (fun (w : World) => Tryz.internal_strconv_small u hs w)
  go_enter Tryz.func137, Tryz.ntmps137
  go_wp2_with fail
  refine (SM.out _).mono ?_
  rintro e w' ⟨rfl, rfl⟩
  go_wp2_with fail
  go_ret
  exact ⟨rfl, Below.refl _ _⟩
 ·have c1 : ¬ (u : Int) < 100 := by omega
  have hu1 : 1 ≤ u := by omega
  have hnd20 : Lib.nDigits u ≤ 20 := by have := Lib.numDigits_eq u hu1 hu64; split at this <;> omega
  have hal : Tryz.prog.arrayLen 207 = 24 := by kernel_rfl
  have hsl1 : ∀ W : World, (Instr.sliceAt 207 (.pointer (some ⟨w.heap.size, 0, none⟩)) none (some (.int .i64 (Lib.nDigits u : Int))) none).run Tryz.prog W = .ok (.slice (some ⟨w.heap.size, 0, none⟩) (Lib.nDigits u) 24) W := fun W => by
   rw [run_sliceAt_array_h W 207 ⟨w.heap.size, 0, none⟩ (by simp [Program.arrayLen, Program.elem, Tryz.underlying207]) .i64 (Lib.nDigits u : Int) (by omega) (by rw [hal]; omega)]
   go_simp
  have hH0 := Lib.holds_zero0 w 207 (Lib.nDigits u) (by omega)
  have hfmt := Tryz.internal_strconv_formatBase10 w.heap.size 0 24 u (Array.replicate (Lib.nDigits u) 0) (w.alloc (.cells Lib.zeros24 207)) hH0 (by rw [Array.size_replicate]; exact Lib.lt_pow_nDigits u) hu64 (by rw [Array.size_replicate]; omega)
  rw [Array.size_replicate] at hfmt
  have HFM := Lib.hid hfmt
  have HH0 := Lib.hid hH0
  have ND := Lib.hid (fun (w' : World) (h : Lib.TabIs Tryz.prog w' "internal/strconv.uint64pow10" .u64 Lib.pow10Tab) => Tryz.internal_strconv_numDigits u hu1 hu64 w' h)
  have HT := Lib.hid (Lib.tabIs_alloc htab (.cells Lib.zeros24 207))
  clear hH0 hfmt hal htab
  go_enter Tryz.func137, Tryz.ntmps137
  go_wp2_with fail
  refine (ND.out _ HT.out).mono ?_
  rintro e w' ⟨rfl, rfl⟩
  go_wp2_with fail
  refine HFM.out.mono ?_
  rintro e w' ⟨rfl, k, v', dk, rfl, hF⟩
  have hcv : (convert 147 9 (.slice (some ⟨w.heap.size, 0, none⟩) (Lib.nDigits u) 24)).run Tryz.prog ((putRow (fun (b : UInt8) => Value.int .u8 (b.toNat : Int)) (w.alloc (.cells Lib.zeros24 207)) w.heap.size 0 dk).drewN k) = .ok (.string ⟨(Lib.decDigits u).toArray⟩) ((putRow (fun (b : UInt8) => Value.int .u8 (b.toNat : Int)) (w.alloc (.cells Lib.zeros24 207)) w.heap.size 0 dk).drewN k) := by
   have h := run_convert_bytes_back (P := Tryz.prog) ((putRow (fun (b : UInt8) => Value.int .u8 (b.toNat : Int)) (w.alloc (.cells Lib.zeros24 207)) w.heap.size 0 dk).drewN k) 147 9 5 ⟨w.heap.size, 0, none⟩ 24 (Lib.decDigits u) Tryz.underlying147 Tryz.underlying5 Tryz.underlying9 (fun j hj => by
    rw [Lib.row_is_numeral hF j hj, Lib.add_plain, World.cell?_drewN]
    exact cell?_putRow (fun (b : UInt8) => Value.int .u8 (b.toNat : Int)) _ w.heap.size 0 _ dk HH0.out (by rw [hF.size, Array.size_replicate]) j (by rw [hF.size]; rw [Lib.decDigits_length] at hj; exact hj))
   rw [Lib.decDigits_length] at h
   exact h
  obtain ⟨os, eo⟩ := Lib.fin_at w (.cells Lib.zeros24 207) dk k 0
  have HB := Lib.hid (show Below w.heap.size w ((putRow (fun (b : UInt8) => Value.int .u8 (b.toNat : Int)) (w.alloc (.cells Lib.zeros24 207)) w.heap.size 0 dk).drewN k) by rw [eo]; exact below_grow w k os)
  clear eo hF
  go_wp2_with fail
  go_ret
  exact ⟨rfl, HB.out⟩
theorem format_any (u : Nat) (hu64 : u < 18446744073709551616) (w : World) (htab : Lib.TabIs Tryz.prog w "internal/strconv.uint64pow10" .u64 Lib.pow10Tab) :
  Calls Tryz.prog 113 #[.int .u64 u, .int .i64 10] w fun e w' => e = .returned (.string ⟨(Lib.decDigits u).toArray⟩) ∧ Below w.heap.size w w' := by
 have FM := Lib.hid (fmtUint_any u hu64 w htab)
 clear htab
 go_enter Tryz.func113, Tryz.ntmps113
 go_wp2_with fail
 refine FM.out.mono ?_
 rintro e w' ⟨rfl, hb⟩
 have HB := Lib.hid hb
 clear hb FM
 go_wp2_with fail
 go_ret
 exact ⟨rfl, HB.out⟩
theorem bldSize : (Tryz.prog.info? 149).map (·.size) = some 2 := by kernel_rfl
theorem bldLies : liesAt Tryz.prog Tryz.prog.depth 149 (2 / Tryz.prog.cellsOf 149) 0 149 1 = true := by kernel_rfl
theorem infoByte : (Tryz.prog.info? 5).map (fun i => (i.zero, i.size, i.bytes)) = some (some (.int .u8 0), 1, 1) := by kernel_rfl
theorem _root_.Go.Lib.BuilderAt.below {T e : TypeId} {B b : Nat} {p : Value} {bs : List Value} {w w' : World} (h : Lib.BuilderAt T e B b p bs w) (hb : Below w.heap.size w w') : Lib.BuilderAt T e B b p bs w' := by
 have hlt := h.lt
 obtain ⟨hB, v, hv, ho, hn⟩ := h
 refine ⟨hB, v, (hb.block b hlt).trans hv, ?_, hn⟩
 refine ⟨ho.1, ?_⟩
 rcases ho.2 with h0 | ⟨g, cap, cur, e1, h1, h2, h3⟩
 ·exact Or.inl h0
 ·have hg : g < w.heap.size := (Array.getElem?_eq_some_iff.1 h2).1
  exact Or.inr ⟨g, cap, cur, e1, h1, (hb.block g hg).trans h2, h3⟩
theorem _root_.Go.Lib.IsBuilder.below {T e : TypeId} {B b : Nat} {bs : List Value} {w w' : World} (h : Lib.IsBuilder T e B b bs w) (hb : Below w.heap.size w w') : Lib.IsBuilder T e B b bs w' := h.imp (fun h => h.below hb) (fun h => h.below hb)
theorem _root_.Go.Lib.IsBuilder.lt {T e : TypeId} {B b : Nat} {bs : List Value} {w : World} (h : Lib.IsBuilder T e B b bs w) : b < w.heap.size := h.elim (fun h => h.lt) (fun h => h.lt)
set_option maxHeartbeats 1000000 in
set_option maxRecDepth 100000 in
theorem copyCheck_used (b : Nat) (w : World) (h0 : w.cell? ⟨b, 0, none⟩ = some (.pointer (some ⟨b, 0, none⟩))) :
  Calls Tryz.prog 136 #[.pointer (some ⟨b, 0, none⟩)] w fun e w' => e = .returned (.tuple #[]) ∧ w' = w := by
 obtain ⟨j, hj, _⟩ := Option.map_eq_some_iff.1 bldSize
 go_enter Tryz.func136, Tryz.ntmps136
 go_wp2_with fail
 rw [Lib.run_neq_ptr_same w _ Tryz.underlying146 hj]
 go_wp2_with fail
 go_end0
 exact ⟨rfl, rfl⟩
set_option maxHeartbeats 1000000 in
set_option maxRecDepth 100000 in
theorem copyCheck_fresh (b : Nat) (w : World) (h0 : w.cell? ⟨b, 0, none⟩ = some (.pointer none)) (hsh : w.shape? b = some (149, 2)) (hfz : w.frozen? ⟨b, 0, none⟩ = false) :
  Calls Tryz.prog 136 #[.pointer (some ⟨b, 0, none⟩)] w fun e w' => e = .returned (.tuple #[]) ∧ w' = w.setCell ⟨b, 0, none⟩ (.pointer (some ⟨b, 0, none⟩)) := by
 obtain ⟨j, hj, hjs⟩ := Option.map_eq_some_iff.1 bldSize
 go_enter Tryz.func136, Tryz.ntmps136
 go_wp2_with fail
 rw [Lib.run_to_unsafe w ⟨b, 0, none⟩ Tryz.underlying146 Tryz.underlying204 hj (by rw [hjs]; decide) hsh (Nat.zero_lt_succ 1)]
 simp only [Result.andThen]
 rw [Oper.upon_value]
 go_wp2_with fail
 rw [run_callFunc_extern Tryz.func169 (by kernel_rfl) (by kernel_rfl) (by kernel_rfl) (e := Extern.AbiNoEscape.same) (by kernel_rfl)]
 rw [Lib.run_noEscape]
 simp only [Result.andThen]
 rw [Oper.upon_value]
 go_wp2_with fail
 rw [Lib.run_from_unsafe w ⟨b, 0, none⟩ Tryz.underlying204 Tryz.underlying146 hj hsh bldLies]
 simp only [Result.andThen]
 rw [Oper.upon_value]
 go_wp2_with fail
 go_end0
 exact ⟨rfl, rfl⟩
theorem copyCheck_any (B b : Nat) (bs : List Value) (w : World) (h : Lib.IsBuilder 149 5 B b bs w) :
  Calls Tryz.prog 136 #[.pointer (some ⟨b, 0, none⟩)] w fun e w' => e = .returned (.tuple #[]) ∧ (Lib.BuilderAt 149 5 B b (.pointer (some ⟨b, 0, none⟩)) bs w' ∧ Below B w w') := by
 rcases h with h | h
 ·refine (copyCheck_fresh b w h.cell0 h.shape h.frozen0).mono ?_
  rintro e w' ⟨rfl, rfl⟩
  exact ⟨rfl, h.used _, (Below.refl B w).setCell (p := ⟨b, 0, none⟩) h.1 _⟩
 ·refine (copyCheck_used b w h.cell0).mono ?_
  rintro e w' ⟨rfl, rfl⟩
  exact ⟨rfl, h, Below.refl B _⟩
set_option maxHeartbeats 1000000 in
set_option maxRecDepth 100000 in
theorem writeByte_any (B b : Nat) (bs : List Value) (c : Int) (w : World) (h : Lib.IsBuilder 149 5 B b bs w) (hlen : bs.length + 1 ≤ 140737488355328) (hBw : B ≤ w.heap.size) :
  Calls Tryz.prog 112 #[.pointer (some ⟨b, 0, none⟩), .int .u8 c] w fun e w' => e = .returned .nilIface ∧ Lib.IsBuilder 149 5 B b (bs ++ [.int .u8 c]) w' ∧ Below B w w' := by
 obtain ⟨i0, hi, hz0, hz1, hz2⟩ := info_parts infoByte
 have CC := Lib.hid (copyCheck_any B b bs w h)
 go_enter Tryz.func112, Tryz.ntmps112
 go_wp2_with fail
 refine CC.out.mono ?_
 rintro e w1 ⟨rfl, h1, hb1⟩
 obtain ⟨hB, v, hbk, hown, hne⟩ := h1
 have c0 : w1.cell? ⟨b, 0, none⟩ = some (.pointer (some ⟨b, 0, none⟩)) := by rw [Lib.cell_of_heap hbk]; rfl
 have c1 : w1.cell? ⟨b, 1, none⟩ = some v := by rw [Lib.cell_of_heap hbk]; rfl
 go_wp2_with (at_builtin; refine wpList_append_own _ rfl _ _ 147 rfl B 5 i0 (.int .u8 0) 1 1 Tryz.underlying147 hi hz0 hz1 hz2 rfl (by decide) _ _ _ rfl (hown.alloc _) ⟨w1.heap.size, 0, none⟩ 1 1 [.int .u8 c] rfl rfl ?c1 ?c2 ?c3 ?c4 ?c5 ?_)
 case c1 =>
  intro j u hj
  match j, hj with
  | 0, hj => simp at hj; subst hj; simp [Addr.add]
 case c2 => intro u hu; simp at hu; subst hu; rfl
 case c3 => unfold maxLen; omega
 case c4 => omega
 case c5 => have := hb1.size; simp; omega
 intro v' w2 hown' hgrow _
 have hlt : b < w1.heap.size := by
  rcases Nat.lt_or_ge b w1.heap.size with h' | h'
  ·exact h'
  ·simp [Array.getElem?_eq_none h'] at hbk
 have hb2 : w2.heap[b]? = some (.cells #[.pointer (some ⟨b, 0, none⟩), v] 149 (0, 0)) := by
  rw [hgrow.block b (by simp; omega) (fun e => hne e.symm), Lib.alloc_old w1 _ b hlt]
  exact hbk
 have d0 : w2.cell? ⟨b, 0, none⟩ = some (.pointer (some ⟨b, 0, none⟩)) := by rw [Lib.cell_of_heap hb2]; rfl
 have d1 : w2.cell? ⟨b, 1, none⟩ = some v := by rw [Lib.cell_of_heap hb2]; rfl
 have f1 : w2.frozen? ⟨b, 1, none⟩ = false := Lib.frozen_of_heap hb2 1
 obtain ⟨g, cap, rfl⟩ : ∃ g cap, v' = .slice (some ⟨g, 0, none⟩) (bs.length + 1) cap := by
  rcases hown'.2 with ⟨_, h0⟩ | ⟨g, cap, cur, hv, _⟩
  ·omega
  ·exact ⟨g, cap, hv⟩
 go_wp2_with fail
 go_ret
 refine ⟨rfl, Or.inr ?_, ?_⟩
 ·exact Lib.BuilderAt.put (T := 149) (e := 5) hB hb2 (bs' := bs ++ [.int .u8 c]) (by simpa using hown') (by decide)
 ·exact ((hb1.alloc (by have := hb1.size; omega) _).grown hgrow (by have := hb1.size; simp; omega) (fun k hk => (hown.lt k hk).1)).setCell (p := ⟨b, 1, none⟩) hB _
set_option maxHeartbeats 2000000 in
set_option maxRecDepth 100000 in
theorem writeString_any (B b : Nat) (bs : List Value) (s : ByteArray) (w : World) (h : Lib.IsBuilder 149 5 B b bs w) (hlen : bs.length + s.size ≤ 140737488355328) (hBw : B ≤ w.heap.size) :
  Calls Tryz.prog 115 #[.pointer (some ⟨b, 0, none⟩), .string s] w fun e w' => e = .returned (.tuple #[.int .i64 s.size, .nilIface]) ∧ Lib.IsBuilder 149 5 B b (bs ++ Lib.strCells s) w' ∧ Below B w w' := by
 obtain ⟨i0, hi, hz0, hz1, hz2⟩ := info_parts infoByte
 have CC := Lib.hid (copyCheck_any B b bs w h)
 go_enter Tryz.func115, Tryz.ntmps115
 go_wp2_with fail
 refine CC.out.mono ?_
 rintro e w1 ⟨rfl, h1, hb1⟩
 obtain ⟨hB, v, hbk, hown, hne⟩ := h1
 have c0 : w1.cell? ⟨b, 0, none⟩ = some (.pointer (some ⟨b, 0, none⟩)) := by rw [Lib.cell_of_heap hbk]; rfl
 have c1 : w1.cell? ⟨b, 1, none⟩ = some v := by rw [Lib.cell_of_heap hbk]; rfl
 go_wp2_with (at_builtin; refine Lib.wpList_append_own_string _ rfl _ _ 147 9 rfl B 5 i0 Tryz.underlying147 Tryz.underlying9 hi hz0 hz1 hz2 _ _ _ rfl hown s rfl ?c3 ?c4 ?c5 ?_)
 case c3 => unfold maxLen; omega
 case c4 => omega
 case c5 => have := hb1.size; omega
 intro v' w2 hown' hgrow _
 have hlt : b < w1.heap.size := by
  rcases Nat.lt_or_ge b w1.heap.size with h' | h'
  ·exact h'
  ·simp [Array.getElem?_eq_none h'] at hbk
 have hb2 : w2.heap[b]? = some (.cells #[.pointer (some ⟨b, 0, none⟩), v] 149 (0, 0)) := by
  rw [hgrow.block b hlt (fun e => hne e.symm)]
  exact hbk
 have d0 : w2.cell? ⟨b, 0, none⟩ = some (.pointer (some ⟨b, 0, none⟩)) := by rw [Lib.cell_of_heap hb2]; rfl
 have d1 : w2.cell? ⟨b, 1, none⟩ = some v := by rw [Lib.cell_of_heap hb2]; rfl
 have f1 : w2.frozen? ⟨b, 1, none⟩ = false := Lib.frozen_of_heap hb2 1
 obtain ⟨ao, n', cap, rfl⟩ : ∃ ao n' cap, v' = .slice ao n' cap := by
  rcases hown'.2 with ⟨hv, _⟩ | ⟨g, cap, cur, hv, _⟩
  ·exact ⟨_, _, _, hv⟩
  ·exact ⟨_, _, _, hv⟩
 go_wp2_with fail
 go_ret2
 refine ⟨rfl, Or.inr ?_, ?_⟩
 ·exact Lib.BuilderAt.put (T := 149) (e := 5) hB hb2 (bs' := bs ++ Lib.strCells s) (by simpa [Lib.strCells_length] using hown') (by decide)
 ·exact (hb1.grown hgrow (by have := hb1.size; omega) (fun k hk => (hown.lt k hk).1)).setCell (p := ⟨b, 1, none⟩) hB _
end Go.Proofs.YthcccdjfedbnfaaGreatDoor.Limb
namespace Go.Proofs.YthcccdjfedbnfaaGreatDoor.Limb
open Go.RowKit Go.Sort
theorem nDigits_le (k u : Nat) (h : u < 10 ^ (k + 1)) : Lib.nDigits u ≤ k + 1 := by
 induction k generalizing u with
 | zero => rw [Lib.nDigits_small (by simpa using h)]; omega
 | succ k ih =>
  by_cases h1 : u < 10
  ·rw [Lib.nDigits_small h1]; omega
  ·rw [Lib.nDigits_big h1]
   have := ih (u / 10) (by rw [Nat.pow_succ] at h; omega)
   omega
def txt (m L k : Nat) : List UInt8 := if k = 0 then [] else Lib.decDigits (m / pw (L - k))
theorem txt_one (m : Nat) (h : 0 < lenB m) : txt m (lenB m) 1 = Lib.decDigits (dg m (lenB m - 1)) := by
 unfold txt dg
 rw [if_neg (by omega), Nat.mod_eq_of_lt]
 have h1 := lt_pw_lenB m
 obtain ⟨j, hj⟩ : ∃ j, lenB m = j + 1 := ⟨lenB m - 1, by omega⟩
 rw [hj] at h1 ⊢
 rw [pw_succ] at h1
 exact Nat.div_lt_of_lt_mul (by rw [show j + 1 - 1 = j from rfl]; exact h1)
theorem txt_more (m k : Nat) (hk : 0 < k) (hkL : k < lenB m) : txt m (lenB m) (k + 1) = txt m (lenB m) k ++ padD 9 (dg m (lenB m - 1 - k)) := by
 unfold txt dg
 rw [if_neg (by omega), if_neg (by omega)]
 obtain ⟨j, hj⟩ : ∃ j, lenB m - 1 - k = j := ⟨_, rfl⟩
 rw [show lenB m - (k + 1) = j by omega, hj, show lenB m - k = j + 1 by omega]
 have e1 : m / pw (j + 1) = m / pw j / 1000000000 := by rw [pw_succ, Nat.div_div_eq_div_mul]
 have hq : 0 < m / pw (j + 1) := by
  have h2 : pw (j + 1) ≤ m := by
   rcases Nat.lt_or_ge m (pw (j + 1)) with h | h
   ·have := lenB_le h; omega
   ·exact h
  exact Nat.div_pos h2 (pw_pos _)
 have h := decD_pad 9 (m / pw (j + 1)) (m / pw j % 1000000000) hq (Nat.lt_of_lt_of_eq (Nat.mod_lt _ (by omega)) (by decide))
 rw [← h, e1]
 congr 1
 have := Nat.div_add_mod (m / pw j) 1000000000
 rw [show (10 : Nat) ^ 9 = 1000000000 from rfl]
 omega
theorem txt_len (m k : Nat) (hk : k ≤ lenB m) : (txt m (lenB m) k).length ≤ 9 * k := by
 induction k with
 | zero => simp [txt]
 | succ k ih =>
  rcases Nat.eq_zero_or_pos k with h | h
  ·subst h
   rw [txt_one m (by omega), Lib.decDigits_length]
   exact nDigits_le 8 _ (Nat.lt_of_lt_of_eq (dg_lt _ _) (by decide))
  ·rw [txt_more m k h (by omega), List.length_append, padD_length]
   have := ih (by omega)
   omega
theorem repeat_one (c : Nat) : Lib.repeatL [48] c = List.replicate c 48 := by
 induction c with
 | zero => rfl
 | succ c ih => show [48] ++ Lib.repeatL [48] c = _; rw [ih, List.replicate_succ]; rfl
theorem itoa_txt (z : Int) (hz : z ≠ 0) : (if z < 0 then [45] else []) ++ txt z.natAbs (lenB z.natAbs) (lenB z.natAbs) = Lib.itoa z := by
 have h0 : 0 < lenB z.natAbs := by
  rcases Nat.eq_zero_or_pos (lenB z.natAbs) with h | h
  ·have := lenB_eq_zero.1 h; omega
  ·exact h
 have e : txt z.natAbs (lenB z.natAbs) (lenB z.natAbs) = Lib.decDigits z.natAbs := by
  unfold txt
  rw [if_neg (by omega), Nat.sub_self, pw_zero, Nat.div_one]
 rw [e]
 unfold Lib.itoa
 by_cases h : z < 0
 ·rw [if_pos h, if_pos h]; rfl
 ·rw [if_neg h, if_neg h, show z.toNat = z.natAbs by omega]; rfl
theorem bytes_append (a b : ByteArray) : (a ++ b).data.toList = a.data.toList ++ b.data.toList := by simp [ByteArray.data_append]
theorem strCells_byte (s : ByteArray) : Lib.strCells s = Lib.byteCells s.data.toList := rfl
theorem byteCells_append (l r : List UInt8) : Lib.byteCells (l ++ r) = Lib.byteCells l ++ Lib.byteCells r := List.map_append ..
theorem byteCells_length (l : List UInt8) : (Lib.byteCells l).length = l.length := List.length_map ..
abbrev TABN : String := "internal/strconv.uint64pow10"
abbrev Tab (w : World) : Prop := Lib.TabIs Tryz.prog w TABN .u64 Lib.pow10Tab
theorem Tab.on {w w' : World} (h : Tab w) (hb : Below w.heap.size w w') : Tab w' := (Lib.tabBelow_of_tabIs h).on hb |>.here
set_option maxRecDepth 100000 in
set_option maxHeartbeats 4000000 in
theorem text_any (s1 : Bool) (a1 : Option Addr) (n1 c1 : Nat) (o1 : Nat → Int) (w : World) (h1 : Rd w a1 n1 o1) (hn1 : n1 ≤ 100000000) (hc1 : n1 ≤ c1) (htab : Tab w) :
  Calls Tryz.prog 82 #[numV s1 a1 n1 c1] w fun e w' => e = .returned (.string ⟨(Lib.itoa (valN s1 n1 o1)).toArray⟩) ∧ Below w.heap.size w w' := by
 obtain ⟨a, c, r1, l1, m1, OF⟩ := of_any s1 a1 n1 c1 o1 w h1 (by omega) hc1
 generalize valN s1 n1 o1 = z at r1 l1 m1 OF ⊢
 obtain ⟨m, hm⟩ : ∃ m, m = z.natAbs := ⟨_, rfl⟩
 obtain ⟨L, hL⟩ : ∃ L, L = lenB m := ⟨_, rfl⟩
 rw [← hm] at r1 l1 m1 OF
 rw [← hL] at r1 l1 m1 OF
 have HOF := Lib.hid OF
 have HR := Lib.hid r1
 have HTAB := Lib.hid htab
 have HLE := Lib.hid hL
 have HME := Lib.hid hm
 have HLN := Lib.hid (show L ≤ 100000000 by omega)
 have HB1 := Lib.hid (Bx.new w 26 (.bool s1) (.slice a1 n1 c1))
 obtain ⟨W, hW⟩ : ∃ W, W = w.alloc (.cells #[.bool s1, .slice a1 n1 c1] 26) := ⟨_, rfl⟩
 have KG := Lib.hid (show Below w.heap.size w W by rw [hW]; exact (Below.refl _ _).alloc (Nat.le_refl _) _)
 rw [← hW] at HB1
 have HW := Lib.hid hW
 clear OF r1 h1 hm hL hW htab
 go_enter Tryz.func82, Tryz.ntmps82
 go_upto_region 1 with (fail)
 rw [show w.alloc (.cells #[.bool s1, .slice a1 n1 c1] 26) = W from HW.out.symm]
 clear HW
 obtain ⟨x0, x1, x2, x3⟩ := HB1.out.all
 go_wp2_with fail
 refine (HOF.out _ KG.out).mono ?_
 rintro e w1 ⟨rfl, hb⟩
 have KG := Lib.hid (KG.out.trans (hb.mono KG.out.size))
 have HB1 := Lib.hid (HB1.out.below hb HB1.out.lt)
 clear hb HOF x0 x1 x2 x3
 obtain ⟨x0, x1, x2, x3⟩ := HB1.out.all
 go_upto_region 2 with (fail)
 obtain ⟨V, hV⟩ : ∃ V, V = (w1.setCell ⟨w.heap.size, 0, none⟩ (.bool (decide (z < 0)))).setCell ⟨w.heap.size, 1, none⟩ (.slice a L c) := ⟨_, rfl⟩
 have HB1 := Lib.hid (show Bx V w.heap.size 26 (.bool (decide (z < 0))) (.slice a L c) by rw [hV]; exact HB1.out.set _ _)
 have KG := Lib.hid (show Below w.heap.size w V by rw [hV]; exact (KG.out.setCell (Nat.le_refl _) _).setCell (Nat.le_refl _) _)
 rw [show (w1.setCell ⟨w.heap.size, 0, none⟩ (.bool (decide (z < 0)))).setCell ⟨w.heap.size, 1, none⟩ (.slice a L c) = V from hV.symm]
 clear hV x0 x1 x2 x3
 go_upto_region 3 with (fail)
 have HBD := Lib.hid (Lib.fresh_isBuilder 149 5 V)
 obtain ⟨X, hX⟩ : ∃ X, X = V.alloc (.cells #[.pointer none, .slice none 0 0] 149) := ⟨_, rfl⟩
 have hbx : Below V.heap.size V X := by rw [hX]; exact (Below.refl _ _).alloc (Nat.le_refl _) _
 have HLT := Lib.hid HB1.out.lt
 have HB1 := Lib.hid (HB1.out.below hbx HB1.out.lt)
 have HBW := Lib.hid KG.out.size
 have KG := Lib.hid (KG.out.trans (hbx.mono KG.out.size))
 rw [← hX] at HBD
 rw [show V.alloc (.cells #[.pointer none, .slice none 0 0] 149) = X from hX.symm]
 obtain ⟨b, hb⟩ : ∃ b, b = V.heap.size := ⟨_, rfl⟩
 rw [← hb] at HBD HLT HBW ⊢
 clear hX hbx hb
 obtain ⟨x0, x1, x2, x3⟩ := HB1.out.all
 by_cases hneg : z < 0
 ·have hdec : decide (z < 0) = true := decide_eq_true hneg
  rw [hdec] at HB1 x0
  obtain ⟨pre, hpre⟩ : ∃ pre : List UInt8, pre = [45] := ⟨_, rfl⟩
  have HPR := Lib.hid (show pre = if z < 0 then [45] else [] by rw [if_pos hneg]; exact hpre)
  have hpl : pre.length ≤ 1 := by rw [hpre]; exact Nat.le_refl _
  have WB := Lib.hid (writeByte_any b b [] 45 X HBD.out (by decide) (Nat.le_of_lt HBD.out.lt))
  rw [show ([] : List Value) ++ [.int .u8 45] = Lib.byteCells pre by rw [hpre]; rfl] at WB
  clear hneg hpre
  go_wp2_with fail
  refine WB.out.mono ?_
  rintro e w2 ⟨rfl, hbd, hb2⟩
  have HBD := Lib.hid hbd
  have HB1 := Lib.hid (HB1.out.below hb2 HLT.out)
  have KG := Lib.hid (KG.out.trans (hb2.mono HBW.out))
  clear hbd hb2 WB x0 x1 x2 x3
  obtain ⟨X, rfl⟩ : ∃ X, X = w2 := ⟨_, rfl⟩
  go_upto_region 5 with (fail)
  have HPL := Lib.hid hpl
  clear hpl
  have hbx := HB1.out.all
  obtain ⟨x0, x1, x2, x3⟩ := hbx
  go_upto_region 6 with (fail)
  clear x0 x1 x2 x3
  have wl := IntWalk.i64_in ((L : Int) - 1) (by have := HLN.out; omega)
  go_loopw [4, 5] (fun i _ wr => ∃ k : Nat, k ≤ L ∧ i = .int .i64 ((L : Int) - 1 - k) ∧ Lib.IsBuilder 149 5 b b (Lib.byteCells (pre ++ txt m L k)) wr ∧ Below b X wr) (fun i _ _ => (intOf i + 1).toNat)
  case atStart => exact ⟨0, by omega, by first | rfl | simp, by rw [show txt m L 0 = [] from rfl, List.append_nil]; exact HBD.out, Below.refl _ _⟩
  case round =>
   obtain ⟨k, hk, rfl, hbd, hbl⟩ := hrel
   have HBD := Lib.hid hbd
   have HBL := Lib.hid hbl
   have KW := Lib.hid (KG.out.trans (hbl.mono HBW.out))
   clear hbd hbl
   have hL := HLN.out
   have HBX := Lib.hid (HB1.out.below HBL.out HLT.out)
   obtain ⟨x0, x1, x2, x3⟩ := HBX.out.all
   by_cases hkL : k < L
   ·have hge : (0 : Int) ≤ (L : Int) - 1 - k := by omega
    obtain ⟨j, hj⟩ : ∃ j : Nat, j = L - 1 - k := ⟨_, rfl⟩
    have hlt : (L : Int) - 1 - k < (L : Int) := by omega
    obtain ⟨bb, off, ea, hc⟩ := (HR.out.below KW.out).cells (by omega)
    subst ea
    have cj := hc (L - 1 - k) (by omega)
    rw [show uc (dgi m) (L - 1 - k) = Value.int .u32 (dgi m j) by rw [hj]] at cj
    obtain ⟨d, hd⟩ : ∃ d : Nat, d = dg m j := ⟨_, rfl⟩
    rw [show dgi m j = (d : Int) by rw [hd]; first | done | rfl] at cj
    have hdl : d < 1000000000 := by rw [hd]; exact dg_lt _ _
    have wd := IntWalk.u64_in (d : Int) (by omega)
    have FM := Lib.hid (format_any d (by omega) wr (HTAB.out.on KW.out))
    obtain ⟨t, ht⟩ : ∃ t : ByteArray, t = ⟨(Lib.decDigits d).toArray⟩ := ⟨_, rfl⟩
    rw [← ht] at FM
    have hts : t.size = Lib.nDigits d := by rw [ht, ← Lib.decDigits_length]; rfl
    have hnd : Lib.nDigits d ≤ 9 := nDigits_le 8 d (by omega)
    have hnp := Lib.nDigits_pos d
    have htl : t.data.toList = Lib.decDigits d := by rw [ht]
    have HT := Lib.hid (And.intro htl hd)
    have HTS := Lib.hid hts
    have wi := IntWalk.i64_in ((L : Int) - 1 - k - 1) (by omega)
    have HJ := Lib.hid hj
    clear hc ht hts htl hd
    go_wp2_with fail
    refine FM.out.mono ?_
    rintro e w2 ⟨rfl, hb2⟩
    have KW2 := Lib.hid (KW.out.trans (hb2.mono KW.out.size))
    have HBX2 := Lib.hid (HBX.out.below hb2 HBX.out.lt)
    have HBD2 := Lib.hid (HBD.out.below hb2)
    have HBL2 := Lib.hid (HBL.out.trans (hb2.mono (Nat.le_of_lt HBD.out.lt)))
    clear hb2 FM x0 x1 x2 x3
    obtain ⟨x0, x1, x2, x3⟩ := HBX2.out.all
    by_cases hk0 : k = 0
    ·subst hk0
     have hni : ¬ (L : Int) - 1 - ((0 : Nat) : Int) < (L : Int) - 1 := by omega
     have hni' : ¬ (L : Int) - 1 < (L : Int) - 1 := by omega
     have WS := Lib.hid (writeString_any b b (Lib.byteCells (pre ++ txt m L 0)) t w2 HBD2.out (by rw [byteCells_length, List.length_append, HTS.out]; have h1 := HPL.out; have h2 : (txt m L 0).length = 0 := rfl; omega) (Nat.le_of_lt HBD2.out.lt))
     go_wp2_with fail
     refine WS.out.mono ?_
     rintro e w3 ⟨rfl, hbd, hb3⟩
     have HBD3 := Lib.hid hbd
     have HBL3 := Lib.hid (HBL2.out.trans hb3)
     clear hbd hb3 WS
     go_wp2_with fail
     go_roundw
     case rel =>
      refine ⟨1, by omega, by go_num, ?_, HBL3.out⟩
      have e := HBD3.out
      rw [strCells_byte, HT.out.1, ← byteCells_append, show txt m L 0 = [] from rfl, List.append_nil] at e
      rw [HLE.out, txt_one m (by rw [← HLE.out]; omega), ← HLE.out, show L - 1 = j by have := HJ.out; omega, ← HT.out.2]
      exact e
     case measure => simp [intOf]; omega
    ·have hni : (L : Int) - 1 - k < (L : Int) - 1 := by omega
     have w9 := IntWalk.i64_in ((9 : Int) - (t.size : Int)) (by have := HTS.out; omega)
     have RP := Lib.hid (show ∀ w' : World, Calls Tryz.prog 114 #[.string ⟨#[48]⟩, .int .i64 ((9 : Int) - (t.size : Int))] w' fun e w'' => e = .returned (.string ⟨(List.replicate (9 - Lib.nDigits d) 48).toArray⟩) ∧ Below w'.heap.size w' w'' from fun w' => by
      have h := Tryz.strings_Repeat ⟨#[48]⟩ (9 - Lib.nDigits d) w' (by omega) (by show 1 * _ ≤ _; omega)
      rw [show (9 : Int) - (t.size : Int) = ((9 - Lib.nDigits d : Nat) : Int) by have := HTS.out; omega]
      rw [show Lib.repeatL (ByteArray.mk #[48]).data.toList (9 - Lib.nDigits d) = List.replicate (9 - Lib.nDigits d) 48 from repeat_one _] at h
      exact h)
     obtain ⟨r, hr⟩ : ∃ r : ByteArray, r = ⟨(List.replicate (9 - Lib.nDigits d) 48).toArray⟩ := ⟨_, rfl⟩
     rw [← hr] at RP
     have HRR := Lib.hid (show r.data.toList = List.replicate (9 - Lib.nDigits d) 48 ∧ r.size = 9 - Lib.nDigits d by rw [hr]; exact ⟨rfl, by show (List.replicate _ _).length = _; rw [List.length_replicate]⟩)
     clear hr
     go_wp2_with fail
     refine (RP.out _).mono ?_
     rintro e w3 ⟨rfl, hb3⟩
     have HBD3 := Lib.hid (HBD2.out.below hb3)
     have HBL3 := Lib.hid (HBL2.out.trans (hb3.mono (Nat.le_of_lt HBD2.out.lt)))
     clear hb3 RP
     have hcat : r.size + t.size ≤ 9223372036854775807 := by have := HTS.out; have := HRR.out.2; omega
     have hcat' : ¬ r.size + t.size > 9223372036854775807 := by omega
     have WS := Lib.hid (writeString_any b b (Lib.byteCells (pre ++ txt m L k)) (r ++ t) w3 HBD3.out (by
      rw [byteCells_length, List.length_append, ByteArray.size_append, HTS.out, HRR.out.2]
      have h1 := HPL.out
      have h2 := txt_len m k (by rw [← HLE.out]; omega)
      rw [← HLE.out] at h2
      omega) (Nat.le_of_lt HBD3.out.lt))
     go_wp2_with fail
     refine WS.out.mono ?_
     rintro e w4 ⟨rfl, hbd, hb4⟩
     have HBD4 := Lib.hid hbd
     have HBL4 := Lib.hid (HBL3.out.trans hb4)
     clear hbd hb4 WS
     go_wp2_with fail
     go_roundw
     case rel =>
      refine ⟨k + 1, by omega, by go_num, ?_, HBL4.out⟩
      have e := HBD4.out
      rw [strCells_byte, bytes_append, HT.out.1, HRR.out.1, ← byteCells_append, List.append_assoc] at e
      rw [HLE.out, txt_more m k (by omega) (by rw [← HLE.out]; omega), ← HLE.out, ← HJ.out, ← HT.out.2, pad_dec 8 d (by omega)]
      exact e
     case measure => simp [intOf]; omega
   ·obtain rfl : k = L := by omega
    have hge : ¬ (0 : Int) ≤ (k : Int) - 1 - k := by omega
    have hge' : (k : Int) - 1 - k = -1 := by omega
    have BL := Lib.hid (Tryz.Builder_Len b b (Lib.byteCells (pre ++ txt m k k)) wr HBD.out)
    rw [byteCells_length] at BL
    obtain ⟨ln, hln⟩ : ∃ ln, ln = (pre ++ txt m k k).length := ⟨_, rfl⟩
    rw [← hln] at BL
    have BS := Lib.hid (Tryz.Builder_String_any b b (pre ++ txt m k k) wr HBD.out (Nat.le_of_lt HBD.out.lt))
    have HFIN := Lib.hid (show (ln = 0 ∧ Lib.itoa z = [48]) ∨ (ln ≠ 0 ∧ pre ++ txt m k k = Lib.itoa z) by
     by_cases hz : z = 0
     ·refine Or.inl ⟨?_, by rw [hz]; exact Lib.decDigits_one (by omega)⟩
      have hk0 : k = 0 := by rw [HLE.out, HME.out, hz]; exact lenB_zero
      rw [hln, List.length_append, HPR.out, if_neg (by omega), hk0]; rfl
     ·have e := itoa_txt z hz
      rw [← HME.out, ← HLE.out, ← HPR.out] at e
      refine Or.inr ⟨?_, e⟩
      rw [hln, e]
      have hp := Lib.nDigits_pos z.natAbs
      have hp2 := Lib.nDigits_pos z.toNat
      unfold Lib.itoa
      split
      ·simp
      ·rw [Lib.decDigits_length]; omega)
    clear hln
    rcases HFIN.out with ⟨h0, h1⟩ | ⟨h0, h1⟩
    ·subst h0
     go_wp2_with fail
     refine BL.out.mono ?_
     rintro e w2 ⟨rfl, rfl⟩
     go_wp2_with fail
     go_ret
     exact ⟨by rw [h1]; rfl, KW.out⟩
    ·have h0' : ¬ (ln : Int) = 0 := by omega
     rw [h1] at BS
     go_wp2_with fail
     refine BL.out.mono ?_
     rintro e w2 ⟨rfl, rfl⟩
     go_wp2_with fail
     refine BS.out.mono ?_
     rintro e w3 ⟨rfl, hb3⟩
     have KW3 := Lib.hid (KW.out.trans (hb3.mono HBW.out))
     clear hb3 BS
     go_wp2_with fail
     go_ret
     exact ⟨rfl, KW3.out⟩
 ·have hdec : decide (z < 0) = false := decide_eq_false hneg
  rw [hdec] at HB1 x0
  rw [hdec]
  obtain ⟨pre, hpre⟩ : ∃ pre : List UInt8, pre = [] := ⟨_, rfl⟩
  have HPR := Lib.hid (show pre = if z < 0 then [45] else [] by rw [if_neg hneg]; exact hpre)
  have hpl : pre.length ≤ 1 := by rw [hpre]; exact Nat.zero_le _
  have HBD := Lib.hid (show Lib.IsBuilder 149 5 b b (Lib.byteCells pre) X by rw [hpre]; exact HBD.out)
  clear hneg hpre
  clear x0 x1 x2 x3
  obtain ⟨x0, x1, x2, x3⟩ := HB1.out.all
  go_upto_region 5 with (fail)
  clear x0 x1 x2 x3
  have HPL := Lib.hid hpl
  clear hpl
  have hbx := HB1.out.all
  obtain ⟨x0, x1, x2, x3⟩ := hbx
  go_upto_region 6 with (fail)
  clear x0 x1 x2 x3
  have wl := IntWalk.i64_in ((L : Int) - 1) (by have := HLN.out; omega)
  go_loopw [4, 5] (fun i _ wr => ∃ k : Nat, k ≤ L ∧ i = .int .i64 ((L : Int) - 1 - k) ∧ Lib.IsBuilder 149 5 b b (Lib.byteCells (pre ++ txt m L k)) wr ∧ Below b X wr) (fun i _ _ => (intOf i + 1).toNat)
  case atStart => exact ⟨0, by omega, by first | rfl | simp, by rw [show txt m L 0 = [] from rfl, List.append_nil]; exact HBD.out, Below.refl _ _⟩
  case round =>
   obtain ⟨k, hk, rfl, hbd, hbl⟩ := hrel
   have HBD := Lib.hid hbd
   have HBL := Lib.hid hbl
   have KW := Lib.hid (KG.out.trans (hbl.mono HBW.out))
   clear hbd hbl
   have hL := HLN.out
   have HBX := Lib.hid (HB1.out.below HBL.out HLT.out)
   obtain ⟨x0, x1, x2, x3⟩ := HBX.out.all
   by_cases hkL : k < L
   ·have hge : (0 : Int) ≤ (L : Int) - 1 - k := by omega
    obtain ⟨j, hj⟩ : ∃ j : Nat, j = L - 1 - k := ⟨_, rfl⟩
    have hlt : (L : Int) - 1 - k < (L : Int) := by omega
    obtain ⟨bb, off, ea, hc⟩ := (HR.out.below KW.out).cells (by omega)
    subst ea
    have cj := hc (L - 1 - k) (by omega)
    rw [show uc (dgi m) (L - 1 - k) = Value.int .u32 (dgi m j) by rw [hj]] at cj
    obtain ⟨d, hd⟩ : ∃ d : Nat, d = dg m j := ⟨_, rfl⟩
    rw [show dgi m j = (d : Int) by rw [hd]; first | done | rfl] at cj
    have hdl : d < 1000000000 := by rw [hd]; exact dg_lt _ _
    have wd := IntWalk.u64_in (d : Int) (by omega)
    have FM := Lib.hid (format_any d (by omega) wr (HTAB.out.on KW.out))
    obtain ⟨t, ht⟩ : ∃ t : ByteArray, t = ⟨(Lib.decDigits d).toArray⟩ := ⟨_, rfl⟩
    rw [← ht] at FM
    have hts : t.size = Lib.nDigits d := by rw [ht, ← Lib.decDigits_length]; rfl
    have hnd : Lib.nDigits d ≤ 9 := nDigits_le 8 d (by omega)
    have hnp := Lib.nDigits_pos d
    have htl : t.data.toList = Lib.decDigits d := by rw [ht]
    have HT := Lib.hid (And.intro htl hd)
    have HTS := Lib.hid hts
    have wi := IntWalk.i64_in ((L : Int) - 1 - k - 1) (by omega)
    have HJ := Lib.hid hj
    clear hc ht hts htl hd
    go_wp2_with fail
    refine FM.out.mono ?_
    rintro e w2 ⟨rfl, hb2⟩
    have KW2 := Lib.hid (KW.out.trans (hb2.mono KW.out.size))
    have HBX2 := Lib.hid (HBX.out.below hb2 HBX.out.lt)
    have HBD2 := Lib.hid (HBD.out.below hb2)
    have HBL2 := Lib.hid (HBL.out.trans (hb2.mono (Nat.le_of_lt HBD.out.lt)))
    clear hb2 FM x0 x1 x2 x3
    obtain ⟨x0, x1, x2, x3⟩ := HBX2.out.all
    by_cases hk0 : k = 0
    ·subst hk0
     have hni : ¬ (L : Int) - 1 - ((0 : Nat) : Int) < (L : Int) - 1 := by omega
     have hni' : ¬ (L : Int) - 1 < (L : Int) - 1 := by omega
     have WS := Lib.hid (writeString_any b b (Lib.byteCells (pre ++ txt m L 0)) t w2 HBD2.out (by rw [byteCells_length, List.length_append, HTS.out]; have h1 := HPL.out; have h2 : (txt m L 0).length = 0 := rfl; omega) (Nat.le_of_lt HBD2.out.lt))
     go_wp2_with fail
     refine WS.out.mono ?_
     rintro e w3 ⟨rfl, hbd, hb3⟩
     have HBD3 := Lib.hid hbd
     have HBL3 := Lib.hid (HBL2.out.trans hb3)
     clear hbd hb3 WS
     go_wp2_with fail
     go_roundw
     case rel =>
      refine ⟨1, by omega, by go_num, ?_, HBL3.out⟩
      have e := HBD3.out
      rw [strCells_byte, HT.out.1, ← byteCells_append, show txt m L 0 = [] from rfl, List.append_nil] at e
      rw [HLE.out, txt_one m (by rw [← HLE.out]; omega), ← HLE.out, show L - 1 = j by have := HJ.out; omega, ← HT.out.2]
      exact e
     case measure => simp [intOf]; omega
    ·have hni : (L : Int) - 1 - k < (L : Int) - 1 := by omega
     have w9 := IntWalk.i64_in ((9 : Int) - (t.size : Int)) (by have := HTS.out; omega)
     have RP := Lib.hid (show ∀ w' : World, Calls Tryz.prog 114 #[.string ⟨#[48]⟩, .int .i64 ((9 : Int) - (t.size : Int))] w' fun e w'' => e = .returned (.string ⟨(List.replicate (9 - Lib.nDigits d) 48).toArray⟩) ∧ Below w'.heap.size w' w'' from fun w' => by
      have h := Tryz.strings_Repeat ⟨#[48]⟩ (9 - Lib.nDigits d) w' (by omega) (by show 1 * _ ≤ _; omega)
      rw [show (9 : Int) - (t.size : Int) = ((9 - Lib.nDigits d : Nat) : Int) by have := HTS.out; omega]
      rw [show Lib.repeatL (ByteArray.mk #[48]).data.toList (9 - Lib.nDigits d) = List.replicate (9 - Lib.nDigits d) 48 from repeat_one _] at h
      exact h)
     obtain ⟨r, hr⟩ : ∃ r : ByteArray, r = ⟨(List.replicate (9 - Lib.nDigits d) 48).toArray⟩ := ⟨_, rfl⟩
     rw [← hr] at RP
     have HRR := Lib.hid (show r.data.toList = List.replicate (9 - Lib.nDigits d) 48 ∧ r.size = 9 - Lib.nDigits d by rw [hr]; exact ⟨rfl, by show (List.replicate _ _).length = _; rw [List.length_replicate]⟩)
     clear hr
     go_wp2_with fail
     refine (RP.out _).mono ?_
     rintro e w3 ⟨rfl, hb3⟩
     have HBD3 := Lib.hid (HBD2.out.below hb3)
     have HBL3 := Lib.hid (HBL2.out.trans (hb3.mono (Nat.le_of_lt HBD2.out.lt)))
     clear hb3 RP
     have hcat : r.size + t.size ≤ 9223372036854775807 := by have := HTS.out; have := HRR.out.2; omega
     have hcat' : ¬ r.size + t.size > 9223372036854775807 := by omega
     have WS := Lib.hid (writeString_any b b (Lib.byteCells (pre ++ txt m L k)) (r ++ t) w3 HBD3.out (by
      rw [byteCells_length, List.length_append, ByteArray.size_append, HTS.out, HRR.out.2]
      have h1 := HPL.out
      have h2 := txt_len m k (by rw [← HLE.out]; omega)
      rw [← HLE.out] at h2
      omega) (Nat.le_of_lt HBD3.out.lt))
     go_wp2_with fail
     refine WS.out.mono ?_
     rintro e w4 ⟨rfl, hbd, hb4⟩
     have HBD4 := Lib.hid hbd
     have HBL4 := Lib.hid (HBL3.out.trans hb4)
     clear hbd hb4 WS
     go_wp2_with fail
     go_roundw
     case rel =>
      refine ⟨k + 1, by omega, by go_num, ?_, HBL4.out⟩
      have e := HBD4.out
      rw [strCells_byte, bytes_append, HT.out.1, HRR.out.1, ← byteCells_append, List.append_assoc] at e
      rw [HLE.out, txt_more m k (by omega) (by rw [← HLE.out]; omega), ← HLE.out, ← HJ.out, ← HT.out.2, pad_dec 8 d (by omega)]
      exact e
     case measure => simp [intOf]; omega
   ·obtain rfl : k = L := by omega
    have hge : ¬ (0 : Int) ≤ (k : Int) - 1 - k := by omega
    have hge' : (k : Int) - 1 - k = -1 := by omega
    have BL := Lib.hid (Tryz.Builder_Len b b (Lib.byteCells (pre ++ txt m k k)) wr HBD.out)
    rw [byteCells_length] at BL
    obtain ⟨ln, hln⟩ : ∃ ln, ln = (pre ++ txt m k k).length := ⟨_, rfl⟩
    rw [← hln] at BL
    have BS := Lib.hid (Tryz.Builder_String_any b b (pre ++ txt m k k) wr HBD.out (Nat.le_of_lt HBD.out.lt))
    have HFIN := Lib.hid (show (ln = 0 ∧ Lib.itoa z = [48]) ∨ (ln ≠ 0 ∧ pre ++ txt m k k = Lib.itoa z) by
     by_cases hz : z = 0
     ·refine Or.inl ⟨?_, by rw [hz]; exact Lib.decDigits_one (by omega)⟩
      have hk0 : k = 0 := by rw [HLE.out, HME.out, hz]; exact lenB_zero
      rw [hln, List.length_append, HPR.out, if_neg (by omega), hk0]; rfl
     ·have e := itoa_txt z hz
      rw [← HME.out, ← HLE.out, ← HPR.out] at e
      refine Or.inr ⟨?_, e⟩
      rw [hln, e]
      have hp := Lib.nDigits_pos z.natAbs
      have hp2 := Lib.nDigits_pos z.toNat
      unfold Lib.itoa
      split
      ·simp
      ·rw [Lib.decDigits_length]; omega)
    clear hln
    rcases HFIN.out with ⟨h0, h1⟩ | ⟨h0, h1⟩
    ·subst h0
     go_wp2_with fail
     refine BL.out.mono ?_
     rintro e w2 ⟨rfl, rfl⟩
     go_wp2_with fail
     go_ret
     exact ⟨by rw [h1]; rfl, KW.out⟩
    ·have h0' : ¬ (ln : Int) = 0 := by omega
     rw [h1] at BS
     go_wp2_with fail
     refine BL.out.mono ?_
     rintro e w2 ⟨rfl, rfl⟩
     go_wp2_with fail
     refine BS.out.mono ?_
     rintro e w3 ⟨rfl, hb3⟩
     have KW3 := Lib.hid (KW.out.trans (hb3.mono HBW.out))
     clear hb3 BS
     go_wp2_with fail
     go_ret
     exact ⟨rfl, KW3.out⟩
def negT (l : List UInt8) : Bool := Lib.hasPrefix l [45]
def bodyT (l : List UInt8) : List UInt8 := Lib.trimPrefix l [45]
def formT (l : List UInt8) : Prop := bodyT l ≠ [] ∧ (∀ c ∈ bodyT l, isDig c = true) ∧ ¬ ((bodyT l).head? = some 48 ∧ (negT l = true ∨ bodyT l ≠ [48]))
open Classical in
noncomputable def codeT (l : List UInt8) : Int := if formT l then (if 200 < (bodyT l).length then 3 else 0) else 4
open Classical in
noncomputable def numT (l : List UInt8) : Int := if formT l ∧ (bodyT l).length ≤ 200 then (if negT l = true then -(decV (bodyT l) : Int) else (decV (bodyT l) : Int)) else 0
def DIGS : List UInt8 := [48, 49, 50, 51, 52, 53, 54, 55, 56, 57]
theorem digs_dig (c : UInt8) : DIGS.contains c = isDig c := by
 have h : ∀ n : Fin 256, DIGS.contains (UInt8.ofNat n.val) = isDig (UInt8.ofNat n.val) := by decide +kernel
 have := h ⟨c.toNat, c.toNat_lt⟩
 simpa using this
theorem dropWhile_nil {α : Type} (p : α → Bool) (l : List α) : l.dropWhile p = [] ↔ ∀ c ∈ l, p c = true := by
 induction l with
 | nil => simp
 | cons x r ih =>
  rw [List.dropWhile_cons]
  by_cases h : p x = true
  ·rw [if_pos h, ih]; simp [h]
  ·rw [if_neg h]; simp [h]
theorem trim_nil (l : List UInt8) : Lib.trimS l DIGS = [] ↔ ∀ c ∈ l, isDig c = true := by
 unfold Lib.trimS Lib.trimLeftS Lib.trimRightS
 constructor
 ·intro h
  rw [dropWhile_nil] at h
  intro c hc
  rw [← digs_dig]
  by_cases h1 : c ∈ (l.reverse.dropWhile (DIGS.contains ·)).reverse
  ·exact h c h1
  ·rw [List.mem_reverse] at h1
   have h2 : c ∈ l.reverse.takeWhile (DIGS.contains ·) := by
    have h3 : c ∈ l.reverse.takeWhile (DIGS.contains ·) ++ l.reverse.dropWhile (DIGS.contains ·) := by rw [List.takeWhile_append_dropWhile, List.mem_reverse]; exact hc
    exact (List.mem_append.1 h3).resolve_right h1
   have h4 : ∀ (m : List UInt8), c ∈ m.takeWhile (DIGS.contains ·) → DIGS.contains c = true := by
    intro m
    induction m with
    | nil => intro h; cases h
    | cons x r ih =>
     rw [List.takeWhile_cons]
     by_cases hx : DIGS.contains x = true
     ·rw [if_pos hx]
      intro h
      rcases List.mem_cons.1 h with h | h
      ·subst h; exact hx
      ·exact ih h
     ·rw [if_neg hx]; intro h; cases h
   exact h4 _ h2
 ·intro h
  have e : l.reverse.dropWhile (DIGS.contains ·) = [] := (dropWhile_nil _ _).2 fun c hc => by rw [digs_dig]; exact h c (List.mem_reverse.1 hc)
  rw [e]; rfl
def ParseP (w : World) (c z : Int) (e : Ending) (w' : World) : Prop :=
 ∃ a, e = .returned (.tuple #[numV (decide (z < 0)) a (lenB z.natAbs) (lenB z.natAbs), .int .i64 c]) ∧ Own 110 w' w.heap.size a (lenB z.natAbs) (lenB z.natAbs) (dgi z.natAbs) ∧ Below w.heap.size w w'
theorem parseP_err {w : World} {c : Int} {e : Ending} {w' : World} (h : e = .returned (.tuple #[numV false none 0 0, .int .i64 c]) ∧ Below w.heap.size w w') : ParseP w c 0 e w' := by
 obtain ⟨rfl, hb⟩ := h
 have hl : lenB (Int.natAbs 0) = 0 := by rw [show Int.natAbs 0 = 0 from rfl, lenB_zero]
 refine ⟨none, by rw [hl]; rfl, ?_, hb⟩
 rw [hl]
 exact ⟨Nat.le_refl _, Or.inl ⟨rfl, rfl, rfl⟩, fun i hi => by omega⟩
theorem results_ctT {P : Program} {fn : Func} {p t : Tmp} {ty : TypeId} (h : fn.results = #[.cell p ty, .tmp t]) (tmps : Array Value) (w : World) (g : Nat) (ta : TypeId) (cs : Array Value) (fr : Nat × Nat) (d : TypeDesc)
  (hp : tmps.getD p undef = .pointer (some ⟨g, 0, none⟩)) (hg : w.heap[g]? = some (.cells cs ta fr))
  (hu : P.underlying ty = some d) (hd : (match d with | .struct _ | .array _ _ => true | _ => false) = true) (hi : (P.info? ty).map (·.size) = some cs.size) :
  (results fn tmps).run P w = .ok (.tuple #[.agg cs, tmps.getD t undef]) w := by
 have hp' : tmps[p]?.getD undef = .pointer (some ⟨g, 0, none⟩) := by simpa using hp
 simp [results, h, hp', asAddr, run_loadVar_row w g ta ty cs fr d hg hu hd hi]
set_option maxRecDepth 100000 in
set_option maxHeartbeats 1000000 in
theorem parse_empty (s : ByteArray) (l : List UInt8) (ng : Bool) (w : World) (hl : l = bodyT s.data.toList) (hg : ng = negT s.data.toList) (hsz : (ByteArray.mk l.toArray).size ≤ 9223372036854775807) (h0 : l = []) :
  Calls Tryz.prog 105 #[.string s] w fun e w' => e = .returned (.tuple #[numV false none 0 0, .int .i64 4]) ∧ Below w.heap.size w w' := by
 have CP := Lib.hid (fun (w' : World) => Tryz.strings_CutPrefix s ⟨#[45]⟩ w')
 rw [show Lib.trimPrefix s.data.toList (ByteArray.mk #[45]).data.toList = l by rw [hl]; rfl, show Lib.hasPrefix s.data.toList (ByteArray.mk #[45]).data.toList = ng by rw [hg]; rfl] at CP
 have TR := Lib.hid (fun (w' : World) => Tryz.strings_Trim_laid ⟨l.toArray⟩ ⟨#[48, 49, 50, 51, 52, 53, 54, 55, 56, 57]⟩ w' hsz (by decide) (ascii_of_all (by decide)))
 rw [show Lib.trimS (ByteArray.mk l.toArray).data.toList (ByteArray.mk #[48, 49, 50, 51, 52, 53, 54, 55, 56, 57]).data.toList = Lib.trimS l DIGS from rfl] at TR
 obtain ⟨T, hT⟩ : ∃ T, T = Lib.trimS l DIGS := ⟨_, rfl⟩
 rw [← hT] at TR
 have HT := Lib.hid hT
 have HB1 := Lib.hid (Bx.new w 26 (.bool false) (.slice none 0 0))
 obtain ⟨W, hW⟩ : ∃ W, W = w.alloc (.cells #[.bool false, .slice none 0 0] 26) := ⟨_, rfl⟩
 have KG := Lib.hid (show Below w.heap.size w W by rw [hW]; exact (Below.refl _ _).alloc (Nat.le_refl _) _)
 rw [← hW] at HB1
 have HW := Lib.hid hW
 clear hW hl hg hT
 have hq : l.isEmpty = true := by rw [h0]; rfl
 clear h0
 go_enter Tryz.func105, Tryz.ntmps105
 go_upto_region 1 with (fail)
 rw [show w.alloc (.cells #[.bool false, .slice none 0 0] 26) = W from HW.out.symm]
 clear HW
 go_wp2_with fail
 refine (CP.out _).mono ?_
 rintro e w1 ⟨rfl, rfl⟩
 obtain ⟨x0, x1, x2, x3⟩ := HB1.out.all
 go_wp2_with fail
 refine bodyPost_ret (results_ctT rfl _ _ _ _ _ _ _ rfl (HB1.out.set _ _) Tryz.underlying26 rfl (by kernel_rfl)) rfl ⟨rfl, (KG.out.setCell (Nat.le_refl _) _).setCell (Nat.le_refl _) _⟩
set_option maxRecDepth 100000 in
set_option maxHeartbeats 1000000 in
theorem parse_odd (s : ByteArray) (l : List UInt8) (ng : Bool) (w : World) (hl : l = bodyT s.data.toList) (hg : ng = negT s.data.toList) (hsz : (ByteArray.mk l.toArray).size ≤ 9223372036854775807) (h0 : l ≠ []) (h1 : ¬ ∀ c ∈ l, isDig c = true) :
  Calls Tryz.prog 105 #[.string s] w fun e w' => e = .returned (.tuple #[numV false none 0 0, .int .i64 4]) ∧ Below w.heap.size w w' := by
 have CP := Lib.hid (fun (w' : World) => Tryz.strings_CutPrefix s ⟨#[45]⟩ w')
 rw [show Lib.trimPrefix s.data.toList (ByteArray.mk #[45]).data.toList = l by rw [hl]; rfl, show Lib.hasPrefix s.data.toList (ByteArray.mk #[45]).data.toList = ng by rw [hg]; rfl] at CP
 have TR := Lib.hid (fun (w' : World) => Tryz.strings_Trim_laid ⟨l.toArray⟩ ⟨#[48, 49, 50, 51, 52, 53, 54, 55, 56, 57]⟩ w' hsz (by decide) (ascii_of_all (by decide)))
 rw [show Lib.trimS (ByteArray.mk l.toArray).data.toList (ByteArray.mk #[48, 49, 50, 51, 52, 53, 54, 55, 56, 57]).data.toList = Lib.trimS l DIGS from rfl] at TR
 obtain ⟨T, hT⟩ : ∃ T, T = Lib.trimS l DIGS := ⟨_, rfl⟩
 rw [← hT] at TR
 have HT := Lib.hid hT
 have HB1 := Lib.hid (Bx.new w 26 (.bool false) (.slice none 0 0))
 obtain ⟨W, hW⟩ : ∃ W, W = w.alloc (.cells #[.bool false, .slice none 0 0] 26) := ⟨_, rfl⟩
 have KG := Lib.hid (show Below w.heap.size w W by rw [hW]; exact (Below.refl _ _).alloc (Nat.le_refl _) _)
 rw [← hW] at HB1
 have HW := Lib.hid hW
 clear hW hl hg hT
 have hq : l.isEmpty = false := by cases l with | nil => exact absurd rfl h0 | cons x r => rfl
 have hq2 : T.isEmpty = false := by
  have h2 : T ≠ [] := by rw [HT.out]; exact fun h => h1 ((trim_nil l).1 h)
  cases T with | nil => exact absurd rfl h2 | cons x r => rfl
 clear h0 h1
 go_enter Tryz.func105, Tryz.ntmps105
 go_upto_region 1 with (fail)
 rw [show w.alloc (.cells #[.bool false, .slice none 0 0] 26) = W from HW.out.symm]
 clear HW
 go_wp2_with fail
 refine (CP.out _).mono ?_
 rintro e w1 ⟨rfl, rfl⟩
 go_wp2_with fail
 refine (TR.out _).mono ?_
 rintro e w2 ⟨rfl, hb⟩
 have KG := Lib.hid (KG.out.trans (hb.mono KG.out.size))
 have HB1 := Lib.hid (HB1.out.below hb HB1.out.lt)
 clear hb TR
 obtain ⟨x0, x1, x2, x3⟩ := HB1.out.all
 go_wp2_with fail
 refine bodyPost_ret (results_ctT rfl _ _ _ _ _ _ _ rfl (HB1.out.set _ _) Tryz.underlying26 rfl (by kernel_rfl)) rfl ⟨rfl, (KG.out.setCell (Nat.le_refl _) _).setCell (Nat.le_refl _) _⟩
set_option maxRecDepth 100000 in
set_option maxHeartbeats 1000000 in
theorem parse_nought (s : ByteArray) (l r : List UInt8) (ng : Bool) (w : World) (hl : l = bodyT s.data.toList) (hg : ng = negT s.data.toList) (hsz : (ByteArray.mk l.toArray).size ≤ 9223372036854775807) (h0 : l = 48 :: r) (h1 : ∀ c ∈ l, isDig c = true) (h2 : ng = true ∨ r ≠ []) :
  Calls Tryz.prog 105 #[.string s] w fun e w' => e = .returned (.tuple #[numV false none 0 0, .int .i64 4]) ∧ Below w.heap.size w w' := by
 have CP := Lib.hid (fun (w' : World) => Tryz.strings_CutPrefix s ⟨#[45]⟩ w')
 rw [show Lib.trimPrefix s.data.toList (ByteArray.mk #[45]).data.toList = l by rw [hl]; rfl, show Lib.hasPrefix s.data.toList (ByteArray.mk #[45]).data.toList = ng by rw [hg]; rfl] at CP
 have TR := Lib.hid (fun (w' : World) => Tryz.strings_Trim_laid ⟨l.toArray⟩ ⟨#[48, 49, 50, 51, 52, 53, 54, 55, 56, 57]⟩ w' hsz (by decide) (ascii_of_all (by decide)))
 rw [show Lib.trimS (ByteArray.mk l.toArray).data.toList (ByteArray.mk #[48, 49, 50, 51, 52, 53, 54, 55, 56, 57]).data.toList = Lib.trimS l DIGS from rfl] at TR
 obtain ⟨T, hT⟩ : ∃ T, T = Lib.trimS l DIGS := ⟨_, rfl⟩
 rw [← hT] at TR
 have HT := Lib.hid hT
 have HB1 := Lib.hid (Bx.new w 26 (.bool false) (.slice none 0 0))
 obtain ⟨W, hW⟩ : ∃ W, W = w.alloc (.cells #[.bool false, .slice none 0 0] 26) := ⟨_, rfl⟩
 have KG := Lib.hid (show Below w.heap.size w W by rw [hW]; exact (Below.refl _ _).alloc (Nat.le_refl _) _)
 rw [← hW] at HB1
 have HW := Lib.hid hW
 clear hW hl hg hT
 have hq : l.isEmpty = false := by rw [h0]; rfl
 have hq2 : T.isEmpty = true := by rw [HT.out, (trim_nil l).2 h1]; rfl
 have hz : 0 < (ByteArray.mk l.toArray).size := by rw [h0]; exact Nat.zero_lt_succ _
 have hz2 : (((ByteArray.mk l.toArray)[0]'hz).toNat : Int) = 48 := by subst h0; rfl
 have hq3 : ng = false → (l == [48]) = false := fun hn => by
  have h3 : r ≠ [] := h2.resolve_left (by rw [hn]; decide)
  rw [h0]
  cases r with | nil => exact absurd rfl h3 | cons x y => rfl
 clear h0 h1 h2
 cases ng with
 | true =>
  go_enter Tryz.func105, Tryz.ntmps105
  go_upto_region 1 with (fail)
  rw [show w.alloc (.cells #[.bool false, .slice none 0 0] 26) = W from HW.out.symm]
  clear HW
  go_wp2_with fail
  refine (CP.out _).mono ?_
  rintro e w1 ⟨rfl, rfl⟩
  go_wp2_with fail
  refine (TR.out _).mono ?_
  rintro e w2 ⟨rfl, hb⟩
  have KG := Lib.hid (KG.out.trans (hb.mono KG.out.size))
  have HB1 := Lib.hid (HB1.out.below hb HB1.out.lt)
  clear hb TR
  obtain ⟨x0, x1, x2, x3⟩ := HB1.out.all
  go_wp2_with fail
  refine bodyPost_ret (results_ctT rfl _ _ _ _ _ _ _ rfl (HB1.out.set _ _) Tryz.underlying26 rfl (by kernel_rfl)) rfl ⟨rfl, (KG.out.setCell (Nat.le_refl _) _).setCell (Nat.le_refl _) _⟩
 | false =>
  have hq4 := hq3 rfl
  go_enter Tryz.func105, Tryz.ntmps105
  go_upto_region 1 with (fail)
  rw [show w.alloc (.cells #[.bool false, .slice none 0 0] 26) = W from HW.out.symm]
  clear HW
  go_wp2_with fail
  refine (CP.out _).mono ?_
  rintro e w1 ⟨rfl, rfl⟩
  go_wp2_with fail
  refine (TR.out _).mono ?_
  rintro e w2 ⟨rfl, hb⟩
  have KG := Lib.hid (KG.out.trans (hb.mono KG.out.size))
  have HB1 := Lib.hid (HB1.out.below hb HB1.out.lt)
  clear hb TR
  obtain ⟨x0, x1, x2, x3⟩ := HB1.out.all
  go_wp2_with fail
  refine bodyPost_ret (results_ctT rfl _ _ _ _ _ _ _ rfl (HB1.out.set _ _) Tryz.underlying26 rfl (by kernel_rfl)) rfl ⟨rfl, (KG.out.setCell (Nat.le_refl _) _).setCell (Nat.le_refl _) _⟩
theorem decV_cons (c : UInt8) (r : List UInt8) : decV (c :: r) = (c.toNat - 48) * 10 ^ r.length + decV r := by
 have h := decV_append [c] r
 rw [List.singleton_append] at h
 rw [h]
 congr 2
 show 10 * 0 + (c.toNat - 48) = _
 omega
theorem isDig_iff (c : UInt8) : isDig c = true ↔ 48 ≤ c.toNat ∧ c.toNat ≤ 57 := by unfold isDig; simp
theorem decV_pos (c : UInt8) (r : List UInt8) (h : isDig c = true) (hc : c ≠ 48) : 0 < decV (c :: r) := by
 have h1 := (isDig_iff c).1 h
 have h2 : c.toNat ≠ 48 := fun e => hc (UInt8.toNat_inj.1 e)
 rw [decV_cons]
 have h3 : 1 * 10 ^ r.length ≤ (c.toNat - 48) * 10 ^ r.length := Nat.mul_le_mul_right _ (by omega)
 have h4 : 0 < 10 ^ r.length := Nat.pow_pos (by omega)
 omega
theorem parseM_ok (M : Nat) (hM : M ≤ 4294967295) (l : List UInt8) (acc : Nat) (hd : ∀ c ∈ l, isDig c = true) (h : acc * 10 ^ l.length + decV l ≤ M) : Lib.parseUintM M acc l = .ok (acc * 10 ^ l.length + decV l) := by
 induction l generalizing acc with
 | nil => show Lib.NumEnd.ok acc = .ok (acc * 10 ^ 0 + 0); rw [Nat.pow_zero, Nat.mul_one, Nat.add_zero]
 | cons c r ih =>
  have h1 := (isDig_iff c).1 (hd c (List.mem_cons_self ..))
  have e : acc * 10 ^ (c :: r).length + decV (c :: r) = (acc * 10 + (c.toNat - 48)) * 10 ^ r.length + decV r := by
   rw [decV_cons, List.length_cons, Nat.pow_succ, Nat.add_mul, Nat.mul_comm (10 ^ r.length) 10, Nat.mul_assoc, Nat.add_assoc]
  rw [e] at h ⊢
  have hp : 0 < 10 ^ r.length := Nat.pow_pos (by omega)
  have h2 : (acc * 10 + (c.toNat - 48)) * 1 ≤ (acc * 10 + (c.toNat - 48)) * 10 ^ r.length := Nat.mul_le_mul_left _ hp
  rw [← ih _ (fun x hx => hd x (List.mem_cons_of_mem _ hx)) h]
  show (if _ then _ else _) = _
  rw [if_pos h1, if_neg (by omega), if_neg (by omega)]
theorem parse32 (l : List UInt8) (h0 : l ≠ []) (hl : l.length ≤ 9) (hd : ∀ c ∈ l, isDig c = true) : Lib.parseUintB 32 l = .ok (decV l) := by
 unfold Lib.parseUintB
 rw [if_neg h0]
 have h1 := decV_lt l hd
 have h2 : 10 ^ l.length ≤ 10 ^ 9 := Nat.pow_le_pow_right (by omega) hl
 have h := parseM_ok (2 ^ 32 - 1) (by decide) l 0 hd (by rw [Nat.zero_mul, Nat.zero_add]; exact Nat.le_trans (Nat.le_of_lt (Nat.lt_of_lt_of_le h1 h2)) (by decide))
 rw [h, Nat.zero_mul, Nat.zero_add]
theorem below_bytes (w : World) (e : TypeId) (s : ByteArray) : Below w.heap.size w (Lib.bytesWorld w e s) := Lib.below_freeze (((Below.refl _ _).drew).alloc (Nat.le_refl _) _) (Nat.le_refl _) _
theorem push_below {w0 wr w2 : World} {base n cap : Nat} {a : Option Addr} {o : Nat → Int} {x : Obj} {p q r t : Prop} (hG : Below base w0 wr) (hbw : base ≤ wr.heap.size) (ho : Own 110 wr base a n cap o)
  (hcase : (p ∧ q ∧ (wr.alloc x).grownBy w2 (a.map (·.block))) ∨ (r ∧ (wr.alloc x).grownBy w2 none ∧ t)) : Below base w0 w2 := by
 rcases hcase with ⟨_, _, h⟩ | ⟨_, h, _⟩
 ·refine (hG.alloc hbw x).grown h (by simp; omega) fun q hq => ?_
  cases a with
  | none => cases hq
  | some ad => cases hq; exact (ho.blk rfl).2.1
 ·exact (hG.alloc hbw x).grown h (by simp; omega) (fun q hq => by cases hq)
def strLen : Value → Nat
 | .string x => x.size
 | _ => 0
structure PInv (l : List UInt8) (x : ByteArray) (i : Nat) (o : Nat → Int) : Prop where
 dig : ∀ c ∈ x.data.toList, isDig c = true
 val : (decV l : Int) = (decV x.data.toList : Int) * (pw i : Int) + sumB o i
 parts : Dig o i
 len : i + x.size ≤ 200
theorem PInv.step {l : List UInt8} {x : ByteArray} {i : Nat} {o : Nat → Int} (h : PInv l x i o) (k : Nat) (hk : k = x.size - 9) (hx : 0 < x.size) :
  Lib.parseUintB 32 (x.extract k x.size).data.toList = .ok (decV (x.extract k x.size).data.toList) ∧ decV (x.extract k x.size).data.toList < 1000000000 ∧ PInv l (x.extract 0 k) (i + 1) (upd o i (decV (x.extract k x.size).data.toList)) := by
 have hs : x.data.toList.length = x.size := by rw [Array.length_toList]; rfl
 have e1 : (x.extract k x.size).data.toList = x.data.toList.drop k := by
  rw [ByteArray.data_extract, Array.toList_extract, List.extract_eq_take_drop]
  rw [List.take_of_length_le (by rw [List.length_drop, hs]; exact Nat.le_refl _)]
 have e2 : (x.extract 0 k).data.toList = x.data.toList.take k := by
  rw [ByteArray.data_extract, Array.toList_extract, List.extract_eq_take_drop]
  simp
 have hz : (x.extract 0 k).size = k := by
  have : (x.extract 0 k).size = (x.extract 0 k).data.toList.length := by rw [Array.length_toList]; rfl
  rw [this, e2, List.length_take, hs]; omega
 obtain ⟨ch, hch⟩ : ∃ ch, ch = x.data.toList.drop k := ⟨_, rfl⟩
 obtain ⟨hd, hhd⟩ : ∃ hd, hd = x.data.toList.take k := ⟨_, rfl⟩
 have hsplit : x.data.toList = hd ++ ch := by rw [hhd, hch, List.take_append_drop]
 have hcl : ch.length = x.size - k := by rw [hch, List.length_drop, hs]
 have hcd : ∀ c ∈ ch, isDig c = true := fun c hc => h.dig c (by rw [hsplit]; exact List.mem_append_right _ hc)
 rw [e1, ← hch]
 have h9 : decV ch < 1000000000 := by
  have h1 := decV_lt ch hcd
  have h2 : 10 ^ ch.length ≤ 10 ^ 9 := Nat.pow_le_pow_right (by omega) (by omega)
  exact Nat.lt_of_lt_of_le h1 h2
 have esum : sumB (upd o i (decV ch : Int)) (i + 1) = sumB o i + (decV ch : Int) * (pw i : Int) := by
  show sumB (upd o i (decV ch : Int)) i + upd o i (decV ch : Int) i * _ = _
  rw [upd_same, sumB_congr (o' := o) fun j hj => upd_ne _ _ (by omega)]
 refine ⟨parse32 ch (fun e => by rw [e] at hcl; simp at hcl; omega) (by omega) hcd, h9, ⟨?_, ?_, ?_, by have := h.len; omega⟩⟩
 ·rw [e2, ← hhd]; exact fun c hc => h.dig c (by rw [hsplit]; exact List.mem_append_left _ hc)
 ·rw [e2, ← hhd, esum, h.val, hsplit, decV_append]
  by_cases hk0 : k = 0
  ·have : hd = [] := by rw [hhd, hk0]; rfl
   rw [this]
   show (((0 * 10 ^ ch.length + decV ch : Nat)) : Int) * _ + _ = ((0 : Nat) : Int) * _ + _
   rw [Nat.zero_mul, Nat.zero_add, Int.natCast_zero, Int.zero_mul]
   omega
  ·have h8 : ch.length = 9 := by omega
   rw [h8, pw_succ, show (10 : Nat) ^ 9 = 1000000000 from rfl]
   simp only [Int.natCast_add, Int.natCast_mul]
   rw [Int.add_mul, Int.mul_assoc, Int.mul_comm ((1000000000 : Nat) : Int) (pw i : Int)]
   omega
 ·intro j hj
  by_cases e : j = i
  ·subst e; rw [upd_same]; omega
  ·rw [upd_ne _ _ e]; exact h.parts j (by omega)
set_option maxRecDepth 100000 in
set_option maxHeartbeats 1000000 in
theorem parse_long (s : ByteArray) (l : List UInt8) (ng : Bool) (w : World) (hl : l = bodyT s.data.toList) (hg : ng = negT s.data.toList) (hsz : (ByteArray.mk l.toArray).size ≤ 9223372036854775807) (h1 : ∀ c ∈ l, isDig c = true) (hlen : 200 < l.length) (h2 : l.head? ≠ some 48) :
  Calls Tryz.prog 105 #[.string s] w fun e w' => e = .returned (.tuple #[numV false none 0 0, .int .i64 3]) ∧ Below w.heap.size w w' := by
 have CP := Lib.hid (fun (w' : World) => Tryz.strings_CutPrefix s ⟨#[45]⟩ w')
 rw [show Lib.trimPrefix s.data.toList (ByteArray.mk #[45]).data.toList = l by rw [hl]; rfl, show Lib.hasPrefix s.data.toList (ByteArray.mk #[45]).data.toList = ng by rw [hg]; rfl] at CP
 have TR := Lib.hid (fun (w' : World) => Tryz.strings_Trim_laid ⟨l.toArray⟩ ⟨#[48, 49, 50, 51, 52, 53, 54, 55, 56, 57]⟩ w' hsz (by decide) (ascii_of_all (by decide)))
 rw [show Lib.trimS (ByteArray.mk l.toArray).data.toList (ByteArray.mk #[48, 49, 50, 51, 52, 53, 54, 55, 56, 57]).data.toList = Lib.trimS l DIGS from rfl] at TR
 obtain ⟨T, hT⟩ : ∃ T, T = Lib.trimS l DIGS := ⟨_, rfl⟩
 rw [← hT] at TR
 have HT := Lib.hid hT
 have HB1 := Lib.hid (Bx.new w 26 (.bool false) (.slice none 0 0))
 obtain ⟨W, hW⟩ : ∃ W, W = w.alloc (.cells #[.bool false, .slice none 0 0] 26) := ⟨_, rfl⟩
 have KG := Lib.hid (show Below w.heap.size w W by rw [hW]; exact (Below.refl _ _).alloc (Nat.le_refl _) _)
 rw [← hW] at HB1
 have HW := Lib.hid hW
 clear hW hl hg hT
 have hq : l.isEmpty = false := by cases l with | nil => simp at hlen | cons x r => rfl
 have hq2 : T.isEmpty = true := by rw [HT.out, (trim_nil l).2 h1]; rfl
 have hz : 0 < (ByteArray.mk l.toArray).size := by show 0 < l.toArray.size; rw [List.size_toArray]; omega
 have hz2 : ¬ (((ByteArray.mk l.toArray)[0]'hz).toNat : Int) = 48 := by
  cases l with
  | nil => simp at hlen
  | cons x r =>
   intro h3
   have h4 : (x.toNat : Int) = 48 := h3
   exact h2 (by rw [List.head?_cons]; congr 1; exact UInt8.toNat_inj.1 (by show x.toNat = 48; omega))
 have hln : (200 : Int) < (l.length : Int) := by omega
 clear h1 h2 hlen
 go_enter Tryz.func105, Tryz.ntmps105
 go_upto_region 1 with (fail)
 rw [show w.alloc (.cells #[.bool false, .slice none 0 0] 26) = W from HW.out.symm]
 clear HW
 go_wp2_with fail
 refine (CP.out _).mono ?_
 rintro e w1 ⟨rfl, rfl⟩
 go_wp2_with fail
 refine (TR.out _).mono ?_
 rintro e w2 ⟨rfl, hb⟩
 have KG := Lib.hid (KG.out.trans (hb.mono KG.out.size))
 have HB1 := Lib.hid (HB1.out.below hb HB1.out.lt)
 clear hb TR
 obtain ⟨x0, x1, x2, x3⟩ := HB1.out.all
 go_wp2_with fail
 refine bodyPost_ret (results_ctT rfl _ _ _ _ _ _ _ rfl (HB1.out.set _ _) Tryz.underlying26 rfl (by kernel_rfl)) rfl ⟨rfl, (KG.out.setCell (Nat.le_refl _) _).setCell (Nat.le_refl _) _⟩
set_option maxRecDepth 100000 in
set_option maxHeartbeats 1000000 in
theorem parse_ok (s : ByteArray) (l : List UInt8) (ng : Bool) (w : World) (z : Int) (hl : l = bodyT s.data.toList) (hg : ng = negT s.data.toList) (hsz : (ByteArray.mk l.toArray).size ≤ 9223372036854775807) (h1 : ∀ c ∈ l, isDig c = true) (h0 : l ≠ []) (hlen : l.length ≤ 200) (h2 : l.head? ≠ some 48 ∨ (l = [48] ∧ ng = false)) (hz : z = if ng = true then -(decV l : Int) else (decV l : Int)) :
  Calls Tryz.prog 105 #[.string s] w (ParseP w 0 z) := by
 have HPI := Lib.hid (show PInv l ⟨l.toArray⟩ 0 (fun _ => 0) from ⟨h1, by show (decV l : Int) = (decV l : Int) * ((pw 0 : Nat) : Int) + 0; rw [pw_zero, Int.add_zero]; show _ = _ * (1 : Int); rw [Int.mul_one], fun j hj => by omega, by show 0 + l.toArray.size ≤ 200; rw [List.size_toArray]; omega⟩)
 have hpos : ng = true → 0 < decV l := fun hn => by
  have h3 := h2.resolve_right (fun h => by rw [hn] at h; cases h.2)
  cases l with
  | nil => exact absurd rfl h0
  | cons c r => exact decV_pos c r (h1 c (List.mem_cons_self ..)) (fun e => h3 (by rw [e]; rfl))
 have HSG := Lib.hid (show (ng && decide (0 < lenB (decV l))) = decide (z < 0) by
  cases ng with
  | true => rw [hz, if_pos rfl]; exact neg_canon _ (hpos rfl)
  | false => rw [hz, if_neg (by decide)]; exact pos_canon _)
 have HZA := Lib.hid (show z.natAbs = decV l by rw [hz]; split <;> omega)
 clear hpos hz
 have CP := Lib.hid (fun (w' : World) => Tryz.strings_CutPrefix s ⟨#[45]⟩ w')
 rw [show Lib.trimPrefix s.data.toList (ByteArray.mk #[45]).data.toList = l by rw [hl]; rfl, show Lib.hasPrefix s.data.toList (ByteArray.mk #[45]).data.toList = ng by rw [hg]; rfl] at CP
 have TR := Lib.hid (fun (w' : World) => Tryz.strings_Trim_laid ⟨l.toArray⟩ ⟨#[48, 49, 50, 51, 52, 53, 54, 55, 56, 57]⟩ w' hsz (by decide) (ascii_of_all (by decide)))
 rw [show Lib.trimS (ByteArray.mk l.toArray).data.toList (ByteArray.mk #[48, 49, 50, 51, 52, 53, 54, 55, 56, 57]).data.toList = Lib.trimS l DIGS from rfl] at TR
 obtain ⟨T, hT⟩ : ∃ T, T = Lib.trimS l DIGS := ⟨_, rfl⟩
 rw [← hT] at TR
 have HT := Lib.hid hT
 have HB1 := Lib.hid (Bx.new w 26 (.bool false) (.slice none 0 0))
 obtain ⟨W, hW⟩ : ∃ W, W = w.alloc (.cells #[.bool false, .slice none 0 0] 26) := ⟨_, rfl⟩
 have KG := Lib.hid (show Below w.heap.size w W by rw [hW]; exact (Below.refl _ _).alloc (Nat.le_refl _) _)
 rw [← hW] at HB1
 have HW := Lib.hid hW
 clear hW hl hg hT
 have hq : l.isEmpty = false := by cases l with | nil => exact absurd rfl h0 | cons x r => rfl
 have hq2 : T.isEmpty = true := by rw [HT.out, (trim_nil l).2 h1]; rfl
 have hzs : 0 < (ByteArray.mk l.toArray).size := by show 0 < l.toArray.size; rw [List.size_toArray]; cases l with | nil => exact absurd rfl h0 | cons x r => exact Nat.zero_lt_succ _
 have hln : ¬ (200 : Int) < (l.length : Int) := by omega
 by_cases h48 : l.head? = some 48
 ·obtain ⟨h3, h4⟩ := h2.resolve_left (fun h => h h48)
  have hz2 : (((ByteArray.mk l.toArray)[0]'hzs).toNat : Int) = 48 := by subst h3; rfl
  have hq3 : (l == [48]) = true := by rw [h3]; rfl
  subst h4
  clear h1 h0 hlen h2 h3 h48
  go_enter Tryz.func105, Tryz.ntmps105
  go_upto_region 1 with (fail)
  rw [show w.alloc (.cells #[.bool false, .slice none 0 0] 26) = W from HW.out.symm]
  clear HW
  go_wp2_with fail
  refine (CP.out _).mono ?_
  rintro e w1 ⟨rfl, rfl⟩
  go_wp2_with fail
  refine (TR.out _).mono ?_
  rintro e w2 ⟨rfl, hb⟩
  have KG := Lib.hid (KG.out.trans (hb.mono KG.out.size))
  have HB1 := Lib.hid (HB1.out.below hb HB1.out.lt)
  clear hb TR
  have HB1 := Lib.hid (HB1.out)
  go_upto_region 7 with (fail)
  go_loopw [4, 6, 7, 8, 9] (fun dgs d _ _ _ wr => ∃ (i : Nat) (x : ByteArray) (a : Option Addr) (cap : Nat) (o : Nat → Int), dgs = .string x ∧ d = .slice a i cap ∧ Own 110 wr (w.heap.size + 1) a i cap o ∧ PInv l x i o ∧ Below (w.heap.size + 1) w2 wr) (fun dgs _ _ _ _ _ => strLen dgs)
  case atStart => exact ⟨0, ⟨l.toArray⟩, none, 0, fun _ => 0, rfl, rfl, ⟨Nat.le_refl _, Or.inl ⟨rfl, rfl, rfl⟩, fun j hj => by omega⟩, HPI.out, Below.refl _ _⟩
  case round =>
   obtain ⟨i, x, a, cap, o, rfl, rfl, ho, hp, hb⟩ := hrel
   have HO := Lib.hid ho
   have HP := Lib.hid hp
   have HBL := Lib.hid hb
   have HBX := Lib.hid (HB1.out.below hb (Nat.lt_succ_self _))
   have KW := Lib.hid (KG.out.trans (hb.mono (Nat.le_succ _)))
   have HI := Lib.hid (show i ≤ 200 from Nat.le_trans (Nat.le_add_right _ _) hp.len)
   have HXL := Lib.hid (show x.size ≤ 200 from Nat.le_trans (Nat.le_add_left _ _) hp.len)
   have HSZ := Lib.hid (show w.heap.size + 1 ≤ wr.heap.size from HBX.out.lt)
   clear ho hp hb
   have hxt : x.toList = x.data.toList := ByteArray.toList_eq x
   by_cases hx : 0 < x.size
   ·have hne : x.toList.isEmpty = false := by
     rw [hxt]
     have : x.data.toList.length = x.size := by rw [Array.length_toList]; rfl
     cases hh : x.data.toList with
     | nil => rw [hh] at this; simp at this; omega
     | cons y r => rfl
    obtain ⟨k, hk⟩ : ∃ k : Nat, k = x.size - 9 := ⟨_, rfl⟩
    obtain ⟨q1, q2, q3⟩ := HP.out.step k hk hx
    obtain ⟨ch, hch⟩ : ∃ ch, ch = x.extract k x.size := ⟨_, rfl⟩
    obtain ⟨xn, hxn⟩ : ∃ xn, xn = x.extract 0 k := ⟨_, rfl⟩
    rw [← hch] at q1 q2 q3
    rw [← hxn] at q3
    obtain ⟨u, hu⟩ : ∃ u, u = decV ch.data.toList := ⟨_, rfl⟩
    rw [← hu] at q1 q2 q3
    have hchs : ch.size ≤ 9223372036854775806 := by rw [hch]; have := HXL.out; rw [ByteArray.size_extract]; omega
    have PU := Lib.hid (fun (w' : World) => Tryz.strconv_ParseUint_10_at32_ok ch hchs u q1 w')
    have Q3 := Lib.hid q3
    have hxs := HXL.out
    have w9 := IntWalk.i64_in ((x.size : Int) - 9) (by omega)
    have wu := IntWalk.u32_in (u : Int) (by omega)
    have HXN := Lib.hid (show xn.size < x.size by rw [hxn, ByteArray.size_extract]; omega)
    clear q1 q3 hu hxt
    have hmx : max 0 ((x.size : Int) - 9) = (k : Int) := by omega
    have hk0 : (0 : Int) ≤ (k : Int) := by omega
    have hk1 : (k : Int) ≤ (x.size : Int) := by omega
    have hk2 : k ≤ x.size := by omega
    have ex1 : x.extract k x.size = ch := hch.symm
    have ex0 : x.extract 0 k = xn := hxn.symm
    clear hch hxn hk
    go_wp2_with fail
    with_reducible refine (PU.out _).mono ?_
    rintro e w3 ⟨rfl, hw3⟩
    have hb3 : Below wr.heap.size wr w3 := by
     rcases hw3 with h | h
     ·rw [h]; exact Below.refl _ _
     ·rw [h]; exact below_bytes _ _ _
    have HO3 := Lib.hid (HO.out.below hb3)
    have HBL3 := Lib.hid (HBL.out.trans (hb3.mono HSZ.out))
    have HSZ3 := Lib.hid (Nat.le_trans HSZ.out hb3.size)
    clear hw3 hb3 PU
    have hi := HI.out
    go_wp2_with (first
     | (at_builtin; refine Book.wpList_push rfl _ _ rfl (by rfl) (HO3.out.allocd _) (by omega) (by have := HSZ3.out; simp; omega) (v := (u : Int)) (by rfl) ?c1 (by omega) (by rfl) ?_))
    case c1 => simp
    intro a' c' w4 hown hcase
    have HBL4 := Lib.hid (push_below (x := .cells #[.int .u32 (u : Int)] 110) HBL3.out HSZ3.out HO3.out hcase)
    have HO4 := Lib.hid hown
    clear hown hcase
    go_wp2_with fail
    go_roundw
    case rel => exact ⟨i + 1, xn, a', c', _, rfl, rfl, HO4.out, Q3.out, HBL4.out⟩
    case measure => exact HXN.out
   ·have hne : x.toList.isEmpty = true := by
     rw [hxt]
     have : x.data.toList.length = x.size := by rw [Array.length_toList]; rfl
     cases hh : x.data.toList with
     | nil => rfl
     | cons y r => rw [hh] at this; simp at this; omega
    have HV := Lib.hid (show sumB o i = (decV l : Int) by
     have h1 := HP.out.val
     have h2 : x.data.toList = [] := List.length_eq_zero_iff.1 (by rw [Array.length_toList]; show x.size = 0; omega)
     rw [h2, show decV [] = 0 from rfl] at h1
     simp only [Int.natCast_zero, Int.zero_mul] at h1
     omega)
    have CUT := Lib.hid (cut_any false a i cap o wr HO.out.rd HP.out.parts (by have := HI.out; omega) HO.out.le (fun h => by rcases HO.out.place with ⟨_, _, h3⟩ | ⟨g, cur, h1, _⟩; exact h3; rw [h] at h1; cases h1))
    rw [HV.out, Int.toNat_natCast, HSG.out] at CUT
    clear hxt hx
    obtain ⟨x0, x1, x2, x3⟩ := HBX.out.all
    go_wp2_with fail
    refine CUT.out.mono ?_
    rintro e w3 ⟨rfl, hb3⟩
    have HB3 := Lib.hid (HBX.out.below hb3 HBX.out.lt)
    have HO3 := Lib.hid (HO.out.below hb3)
    have KW3 := Lib.hid (KW.out.trans (hb3.mono KW.out.size))
    clear hb3 CUT x0 x1 x2 x3
    obtain ⟨x0, x1, x2, x3⟩ := HB3.out.all
    go_wp2_with fail
    refine bodyPost_ret (results_ctT rfl _ _ _ _ _ _ _ rfl (HB3.out.set _ _) Tryz.underlying26 rfl (by kernel_rfl)) rfl ⟨a, by rw [HZA.out]; rfl, ?_, ?_⟩
    ·rw [HZA.out]
     exact ((((own_fit HO3.out HP.out.parts HV.out).cut (Nat.le_refl _) (fun i _ => rfl)).other (by dsimp only; omega) _).other (by dsimp only; omega) _).mono (by omega)
    ·exact (KW3.out.setCell (Nat.le_refl _) _).setCell (Nat.le_refl _) _
 ·have hz2 : ¬ (((ByteArray.mk l.toArray)[0]'hzs).toNat : Int) = 48 := by
   cases l with
   | nil => exact absurd rfl h0
   | cons x r =>
    intro h3
    have h4 : (x.toNat : Int) = 48 := h3
    exact h48 (by rw [List.head?_cons]; congr 1; exact UInt8.toNat_inj.1 (by show x.toNat = 48; omega))
  clear h1 h0 hlen h2 h48
  go_enter Tryz.func105, Tryz.ntmps105
  go_upto_region 1 with (fail)
  rw [show w.alloc (.cells #[.bool false, .slice none 0 0] 26) = W from HW.out.symm]
  clear HW
  go_wp2_with fail
  refine (CP.out _).mono ?_
  rintro e w1 ⟨rfl, rfl⟩
  go_wp2_with fail
  refine (TR.out _).mono ?_
  rintro e w2 ⟨rfl, hb⟩
  have KG := Lib.hid (KG.out.trans (hb.mono KG.out.size))
  have HB1 := Lib.hid (HB1.out.below hb HB1.out.lt)
  clear hb TR
  have HB1 := Lib.hid (HB1.out)
  go_upto_region 7 with (fail)
  go_loopw [4, 6, 7, 8, 9] (fun dgs d _ _ _ wr => ∃ (i : Nat) (x : ByteArray) (a : Option Addr) (cap : Nat) (o : Nat → Int), dgs = .string x ∧ d = .slice a i cap ∧ Own 110 wr (w.heap.size + 1) a i cap o ∧ PInv l x i o ∧ Below (w.heap.size + 1) w2 wr) (fun dgs _ _ _ _ _ => strLen dgs)
  case atStart => exact ⟨0, ⟨l.toArray⟩, none, 0, fun _ => 0, rfl, rfl, ⟨Nat.le_refl _, Or.inl ⟨rfl, rfl, rfl⟩, fun j hj => by omega⟩, HPI.out, Below.refl _ _⟩
  case round =>
   obtain ⟨i, x, a, cap, o, rfl, rfl, ho, hp, hb⟩ := hrel
   have HO := Lib.hid ho
   have HP := Lib.hid hp
   have HBL := Lib.hid hb
   have HBX := Lib.hid (HB1.out.below hb (Nat.lt_succ_self _))
   have KW := Lib.hid (KG.out.trans (hb.mono (Nat.le_succ _)))
   have HI := Lib.hid (show i ≤ 200 from Nat.le_trans (Nat.le_add_right _ _) hp.len)
   have HXL := Lib.hid (show x.size ≤ 200 from Nat.le_trans (Nat.le_add_left _ _) hp.len)
   have HSZ := Lib.hid (show w.heap.size + 1 ≤ wr.heap.size from HBX.out.lt)
   clear ho hp hb
   have hxt : x.toList = x.data.toList := ByteArray.toList_eq x
   by_cases hx : 0 < x.size
   ·have hne : x.toList.isEmpty = false := by
     rw [hxt]
     have : x.data.toList.length = x.size := by rw [Array.length_toList]; rfl
     cases hh : x.data.toList with
     | nil => rw [hh] at this; simp at this; omega
     | cons y r => rfl
    obtain ⟨k, hk⟩ : ∃ k : Nat, k = x.size - 9 := ⟨_, rfl⟩
    obtain ⟨q1, q2, q3⟩ := HP.out.step k hk hx
    obtain ⟨ch, hch⟩ : ∃ ch, ch = x.extract k x.size := ⟨_, rfl⟩
    obtain ⟨xn, hxn⟩ : ∃ xn, xn = x.extract 0 k := ⟨_, rfl⟩
    rw [← hch] at q1 q2 q3
    rw [← hxn] at q3
    obtain ⟨u, hu⟩ : ∃ u, u = decV ch.data.toList := ⟨_, rfl⟩
    rw [← hu] at q1 q2 q3
    have hchs : ch.size ≤ 9223372036854775806 := by rw [hch]; have := HXL.out; rw [ByteArray.size_extract]; omega
    have PU := Lib.hid (fun (w' : World) => Tryz.strconv_ParseUint_10_at32_ok ch hchs u q1 w')
    have Q3 := Lib.hid q3
    have hxs := HXL.out
    have w9 := IntWalk.i64_in ((x.size : Int) - 9) (by omega)
    have wu := IntWalk.u32_in (u : Int) (by omega)
    have HXN := Lib.hid (show xn.size < x.size by rw [hxn, ByteArray.size_extract]; omega)
    clear q1 q3 hu hxt
    have hmx : max 0 ((x.size : Int) - 9) = (k : Int) := by omega
    have hk0 : (0 : Int) ≤ (k : Int) := by omega
    have hk1 : (k : Int) ≤ (x.size : Int) := by omega
    have hk2 : k ≤ x.size := by omega
    have ex1 : x.extract k x.size = ch := hch.symm
    have ex0 : x.extract 0 k = xn := hxn.symm
    clear hch hxn hk
    go_wp2_with fail
    with_reducible refine (PU.out _).mono ?_
    rintro e w3 ⟨rfl, hw3⟩
    have hb3 : Below wr.heap.size wr w3 := by
     rcases hw3 with h | h
     ·rw [h]; exact Below.refl _ _
     ·rw [h]; exact below_bytes _ _ _
    have HO3 := Lib.hid (HO.out.below hb3)
    have HBL3 := Lib.hid (HBL.out.trans (hb3.mono HSZ.out))
    have HSZ3 := Lib.hid (Nat.le_trans HSZ.out hb3.size)
    clear hw3 hb3 PU
    have hi := HI.out
    go_wp2_with (first
     | (at_builtin; refine Book.wpList_push rfl _ _ rfl (by rfl) (HO3.out.allocd _) (by omega) (by have := HSZ3.out; simp; omega) (v := (u : Int)) (by rfl) ?c1 (by omega) (by rfl) ?_))
    case c1 => simp
    intro a' c' w4 hown hcase
    have HBL4 := Lib.hid (push_below (x := .cells #[.int .u32 (u : Int)] 110) HBL3.out HSZ3.out HO3.out hcase)
    have HO4 := Lib.hid hown
    clear hown hcase
    go_wp2_with fail
    go_roundw
    case rel => exact ⟨i + 1, xn, a', c', _, rfl, rfl, HO4.out, Q3.out, HBL4.out⟩
    case measure => exact HXN.out
   ·have hne : x.toList.isEmpty = true := by
     rw [hxt]
     have : x.data.toList.length = x.size := by rw [Array.length_toList]; rfl
     cases hh : x.data.toList with
     | nil => rfl
     | cons y r => rw [hh] at this; simp at this; omega
    have HV := Lib.hid (show sumB o i = (decV l : Int) by
     have h1 := HP.out.val
     have h2 : x.data.toList = [] := List.length_eq_zero_iff.1 (by rw [Array.length_toList]; show x.size = 0; omega)
     rw [h2, show decV [] = 0 from rfl] at h1
     simp only [Int.natCast_zero, Int.zero_mul] at h1
     omega)
    have CUT := Lib.hid (cut_any ng a i cap o wr HO.out.rd HP.out.parts (by have := HI.out; omega) HO.out.le (fun h => by rcases HO.out.place with ⟨_, _, h3⟩ | ⟨g, cur, h1, _⟩; exact h3; rw [h] at h1; cases h1))
    rw [HV.out, Int.toNat_natCast, HSG.out] at CUT
    clear hxt hx
    obtain ⟨x0, x1, x2, x3⟩ := HBX.out.all
    go_wp2_with fail
    refine CUT.out.mono ?_
    rintro e w3 ⟨rfl, hb3⟩
    have HB3 := Lib.hid (HBX.out.below hb3 HBX.out.lt)
    have HO3 := Lib.hid (HO.out.below hb3)
    have KW3 := Lib.hid (KW.out.trans (hb3.mono KW.out.size))
    clear hb3 CUT x0 x1 x2 x3
    obtain ⟨x0, x1, x2, x3⟩ := HB3.out.all
    go_wp2_with fail
    refine bodyPost_ret (results_ctT rfl _ _ _ _ _ _ _ rfl (HB3.out.set _ _) Tryz.underlying26 rfl (by kernel_rfl)) rfl ⟨a, by rw [HZA.out]; rfl, ?_, ?_⟩
    ·rw [HZA.out]
     exact ((((own_fit HO3.out HP.out.parts HV.out).cut (Nat.le_refl _) (fun i _ => rfl)).other (by dsimp only; omega) _).other (by dsimp only; omega) _).mono (by omega)
    ·exact (KW3.out.setCell (Nat.le_refl _) _).setCell (Nat.le_refl _) _
end Go.Proofs.YthcccdjfedbnfaaGreatDoor.Limb
