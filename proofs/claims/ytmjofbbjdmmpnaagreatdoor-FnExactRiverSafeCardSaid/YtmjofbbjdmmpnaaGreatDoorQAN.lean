/- An evaluator of the program's own code with its soundness, the printed texts of the functions, and plain laws of them (part 14). -/
import Derived.Shelf.Utf8.RuneCount
import Derived.Shelf.Strconv.Itoa0
import Derived.Shelf.Strconv.Itoa1
import Derived.Shelf.LaysM
import Derived.Shelf.Strconv.Itoa2
import Derived.Shelf.Strconv.Itoa3
import Derived.Shelf.Strings.Search1
import Derived.Shelf.Strings.Search2
import Derived.Shelf.Strings.Search3
import Derived.Shelf.Strings.Cut
import Derived.Shelf.Strings.Count
import Derived.Shelf.Strings.Shaped
import Derived.Shelf.Strings.Split
import Derived.Shelf.Strings.SplitShaped
import Derived.Shelf.Unicode.Decode
import Derived.Shelf.Strings.RuneCount
import Derived.Shelf.Strings.Explode
import Derived.Shelf.Unicode.DecodeSlow
import Derived.Shelf.Unicode.DecodeAny
import Derived.Test.YtmjofbbjdmmpnaaGreatDoorProg
import Derived.Test.YtmjofbbjdmmpnaaGreatDoorQAM
set_option linter.unusedVariables false
set_option linter.unusedSimpArgs false
namespace Go.Proofs
open Go.Shelf
def Tryz.laysM171_ren : Go.Shelf.Ren := ⟨fun | 171 => 140 | 243 => 148 | 246 => 154 | 283 => 156 | 284 => 157 | 285 => 158 | 286 => 159 | 129 => 161 | 317 => 160 | 318 => 162 | 319 => 163 | 320 => 164 | 337 => 165 | 338 => 166 | n => n, fun | 3 => 3 | 9 => 9 | 2 => 2 | 4 => 4 | 171 => 187 | 0 => 0 | 53 => 188 | 37 => 175 | 5 => 5 | 173 => 191 | 212 => 198 | 51 => 183 | 20 => 20 | 213 => 199 | 46 => 180 | 232 => 202 | 233 => 203 | n => n, fun | 17 => 3 | 18 => 4 | 19 => 5 | n => n⟩
theorem Tryz.laysM171 : Go.Proofs.LaysM.n171 Tryz.prog Tryz.laysM171_ren := {
  mixed := by kernel_rfl
  f129 := Tryz.func161.trans (congrArg some (by kernel_rfl))
  f171 := Tryz.func140.trans (congrArg some (by kernel_rfl))
  f243 := Tryz.func148.trans (congrArg some (by kernel_rfl))
  f246 := Tryz.func154.trans (congrArg some (by kernel_rfl))
  f283 := Tryz.func156.trans (congrArg some (by kernel_rfl))
  f284 := Tryz.func157.trans (congrArg some (by kernel_rfl))
  f285 := Tryz.func158.trans (congrArg some (by kernel_rfl))
  f286 := Tryz.func159.trans (congrArg some (by kernel_rfl))
  f317 := Tryz.func160.trans (congrArg some (by kernel_rfl))
  f318 := Tryz.func162.trans (congrArg some (by kernel_rfl))
  f319 := Tryz.func163.trans (congrArg some (by kernel_rfl))
  f320 := Tryz.func164.trans (congrArg some (by kernel_rfl))
  f337 := Tryz.func165.trans (congrArg some (by kernel_rfl))
  f338 := Tryz.func166.trans (congrArg some (by kernel_rfl))
  t0 := Tryz.underlying0
  a0 := Tryz.isAgg0
  z0 := Tryz.sizeOf0
  v0 := Tryz.zeroValue0
  t2 := Tryz.underlying2
  a2 := Tryz.isAgg2
  z2 := Tryz.sizeOf2
  v2 := Tryz.zeroValue2
  t3 := Tryz.underlying3
  a3 := Tryz.isAgg3
  z3 := Tryz.sizeOf3
  v3 := Tryz.zeroValue3
  t4 := Tryz.underlying4
  a4 := Tryz.isAgg4
  z4 := Tryz.sizeOf4
  v4 := Tryz.zeroValue4
  t5 := Tryz.underlying5
  a5 := Tryz.isAgg5
  z5 := Tryz.sizeOf5
  v5 := Tryz.zeroValue5
  t9 := Tryz.underlying9
  a9 := Tryz.isAgg9
  z9 := Tryz.sizeOf9
  v9 := Tryz.zeroValue9
  t20 := Tryz.underlying20
  a20 := Tryz.isAgg20
  z20 := Tryz.sizeOf20
  v20 := Tryz.zeroValue20
  t37 := Tryz.underlying175
  a37 := Tryz.isAgg175
  z37 := Tryz.sizeOf175
  v37 := Tryz.zeroValue175
  t46 := Tryz.underlying180
  a46 := Tryz.isAgg180
  z46 := Tryz.sizeOf180
  v46 := Tryz.zeroValue180
  t51 := Tryz.underlying183
  a51 := Tryz.isAgg183
  z51 := Tryz.sizeOf183
  v51 := Tryz.zeroValue183
  t53 := Tryz.underlying188
  a53 := Tryz.isAgg188
  z53 := Tryz.sizeOf188
  v53 := Tryz.zeroValue188
  t171 := Tryz.underlying187
  a171 := Tryz.isAgg187
  z171 := Tryz.sizeOf187
  v171 := Tryz.zeroValue187
  t173 := Tryz.underlying191
  a173 := Tryz.isAgg191
  z173 := Tryz.sizeOf191
  v173 := Tryz.zeroValue191
  t212 := Tryz.underlying198
  a212 := Tryz.isAgg198
  z212 := Tryz.sizeOf198
  v212 := Tryz.zeroValue198
  t213 := Tryz.underlying199
  a213 := Tryz.isAgg199
  z213 := Tryz.sizeOf199
  t232 := Tryz.underlying202
  a232 := Tryz.isAgg202
  z232 := Tryz.sizeOf202
  v232 := Tryz.zeroValue202
  t233 := Tryz.underlying203
  a233 := Tryz.isAgg203
  z233 := Tryz.sizeOf203
  v233 := Tryz.zeroValue203
  g17 := by kernel_rfl
  g18 := by kernel_rfl
  g19 := by kernel_rfl
  i0 := by kernel_rfl
  i2 := by kernel_rfl
  i3 := by kernel_rfl
  i4 := by kernel_rfl
  i5 := by kernel_rfl
  i9 := by kernel_rfl
  i20 := by kernel_rfl
  i37 := by kernel_rfl
  i46 := by kernel_rfl
  i51 := by kernel_rfl
  i53 := by kernel_rfl
  i171 := by kernel_rfl
  i173 := by kernel_rfl
  i212 := by kernel_rfl
  i232 := by kernel_rfl
  i233 := by kernel_rfl
  m17 := by kernel_rfl
  m18 := by kernel_rfl
  m19 := by kernel_rfl }
def Tryz.lays145_ren : Go.Shelf.Ren := ⟨fun | 145 => 98 | 220 => 126 | 219 => 139 | 217 => 144 | 225 => 145 | 224 => 146 | 267 => 147 | 266 => 152 | 314 => 153 | n => n, fun | 9 => 9 | 4 => 4 | 59 => 140 | 3 => 3 | 5 => 5 | 46 => 180 | 146 => 184 | 51 => 183 | n => n, fun | 1 => 0 | n => n⟩
theorem Tryz.lays145 : Go.Proofs.Lays.n145 Tryz.prog Tryz.lays145_ren := {
  mixed := by kernel_rfl
  f145 := Tryz.func98.trans (congrArg some (by kernel_rfl))
  f217 := Tryz.func144.trans (congrArg some (by kernel_rfl))
  f219 := Tryz.func139.trans (congrArg some (by kernel_rfl))
  f220 := Tryz.func126.trans (congrArg some (by kernel_rfl))
  f224 := Tryz.func146.trans (congrArg some (by kernel_rfl))
  f225 := Tryz.func145.trans (congrArg some (by kernel_rfl))
  f266 := Tryz.func152.trans (congrArg some (by kernel_rfl))
  f267 := Tryz.func147.trans (congrArg some (by kernel_rfl))
  f314 := Tryz.func153.trans (congrArg some (by kernel_rfl))
  t3 := Tryz.underlying3
  a3 := Tryz.isAgg3
  z3 := Tryz.sizeOf3
  v3 := Tryz.zeroValue3
  t4 := Tryz.underlying4
  a4 := Tryz.isAgg4
  z4 := Tryz.sizeOf4
  v4 := Tryz.zeroValue4
  t5 := Tryz.underlying5
  a5 := Tryz.isAgg5
  z5 := Tryz.sizeOf5
  v5 := Tryz.zeroValue5
  t9 := Tryz.underlying9
  a9 := Tryz.isAgg9
  z9 := Tryz.sizeOf9
  v9 := Tryz.zeroValue9
  t46 := Tryz.underlying180
  a46 := Tryz.isAgg180
  z46 := Tryz.sizeOf180
  v46 := Tryz.zeroValue180
  t51 := Tryz.underlying183
  a51 := Tryz.isAgg183
  z51 := Tryz.sizeOf183
  v51 := Tryz.zeroValue183
  t59 := Tryz.underlying140
  a59 := Tryz.isAgg140
  z59 := Tryz.sizeOf140
  v59 := Tryz.zeroValue140
  t146 := Tryz.underlying184
  a146 := Tryz.isAgg184
  z146 := Tryz.sizeOf184
  v146 := Tryz.zeroValue184
  g1 := by kernel_rfl }
def Tryz.laysM145_ren : Go.Shelf.Ren := ⟨fun | 145 => 98 | 220 => 126 | 219 => 139 | 217 => 144 | 225 => 145 | 224 => 146 | 267 => 147 | 266 => 152 | 314 => 153 | n => n, fun | 9 => 9 | 4 => 4 | 59 => 140 | 3 => 3 | 5 => 5 | 46 => 180 | 146 => 184 | 51 => 183 | n => n, fun | 1 => 0 | n => n⟩
theorem Tryz.laysM145 : Go.Proofs.LaysM.n145 Tryz.prog Tryz.laysM145_ren := {
  mixed := by kernel_rfl
  f145 := Tryz.func98.trans (congrArg some (by kernel_rfl))
  f217 := Tryz.func144.trans (congrArg some (by kernel_rfl))
  f219 := Tryz.func139.trans (congrArg some (by kernel_rfl))
  f220 := Tryz.func126.trans (congrArg some (by kernel_rfl))
  f224 := Tryz.func146.trans (congrArg some (by kernel_rfl))
  f225 := Tryz.func145.trans (congrArg some (by kernel_rfl))
  f266 := Tryz.func152.trans (congrArg some (by kernel_rfl))
  f267 := Tryz.func147.trans (congrArg some (by kernel_rfl))
  f314 := Tryz.func153.trans (congrArg some (by kernel_rfl))
  t3 := Tryz.underlying3
  a3 := Tryz.isAgg3
  z3 := Tryz.sizeOf3
  v3 := Tryz.zeroValue3
  t4 := Tryz.underlying4
  a4 := Tryz.isAgg4
  z4 := Tryz.sizeOf4
  v4 := Tryz.zeroValue4
  t5 := Tryz.underlying5
  a5 := Tryz.isAgg5
  z5 := Tryz.sizeOf5
  v5 := Tryz.zeroValue5
  t9 := Tryz.underlying9
  a9 := Tryz.isAgg9
  z9 := Tryz.sizeOf9
  v9 := Tryz.zeroValue9
  t46 := Tryz.underlying180
  a46 := Tryz.isAgg180
  z46 := Tryz.sizeOf180
  v46 := Tryz.zeroValue180
  t51 := Tryz.underlying183
  a51 := Tryz.isAgg183
  z51 := Tryz.sizeOf183
  v51 := Tryz.zeroValue183
  t59 := Tryz.underlying140
  a59 := Tryz.isAgg140
  z59 := Tryz.sizeOf140
  v59 := Tryz.zeroValue140
  t146 := Tryz.underlying184
  a146 := Tryz.isAgg184
  z146 := Tryz.sizeOf184
  v146 := Tryz.zeroValue184
  g1 := by kernel_rfl
  i3 := by kernel_rfl
  i4 := by kernel_rfl
  i5 := by kernel_rfl
  i9 := by kernel_rfl
  i46 := by kernel_rfl
  i51 := by kernel_rfl
  i59 := by kernel_rfl
  i146 := by kernel_rfl
  m1 := by kernel_rfl
  s1_3 := fun w h => Go.Proofs.cell_of_shapedOpen_int (zero := #[.int .i64 0]) (t := 3) h (of_decide_eq_true (by kernel_rfl)) (by kernel_rfl) rfl (by kernel_rfl) (by kernel_rfl) Tryz.underlying3 }
def Tryz.lays146_ren : Go.Shelf.Ren := ⟨fun | 146 => 103 | 221 => 132 | 268 => 141 | 138 => 142 | 143 => 143 | 195 => 149 | 197 => 150 | 218 => 151 | 219 => 139 | 260 => 155 | 217 => 144 | 225 => 145 | 224 => 146 | 267 => 147 | 266 => 152 | 314 => 153 | n => n, fun | 9 => 9 | 31 => 90 | 3 => 3 | 4 => 4 | 0 => 0 | 105 => 181 | 21 => 21 | 5 => 5 | 46 => 180 | 119 => 193 | 139 => 196 | 138 => 195 | 146 => 184 | 51 => 183 | n => n, fun | 1 => 0 | 3 => 1 | 4 => 2 | n => n⟩
theorem Tryz.lays146 : Go.Proofs.Lays.n146 Tryz.prog Tryz.lays146_ren := {
  mixed := by kernel_rfl
  f138 := Tryz.func142.trans (congrArg some (by kernel_rfl))
  f143 := Tryz.func143.trans (congrArg some (by kernel_rfl))
  f146 := Tryz.func103.trans (congrArg some (by kernel_rfl))
  f195 := Tryz.func149.trans (congrArg some (by kernel_rfl))
  f197 := Tryz.func150.trans (congrArg some (by kernel_rfl))
  f217 := Tryz.func144.trans (congrArg some (by kernel_rfl))
  f218 := Tryz.func151.trans (congrArg some (by kernel_rfl))
  f219 := Tryz.func139.trans (congrArg some (by kernel_rfl))
  f221 := Tryz.func132.trans (congrArg some (by kernel_rfl))
  f224 := Tryz.func146.trans (congrArg some (by kernel_rfl))
  f225 := Tryz.func145.trans (congrArg some (by kernel_rfl))
  f260 := Tryz.func155.trans (congrArg some (by kernel_rfl))
  f266 := Tryz.func152.trans (congrArg some (by kernel_rfl))
  f267 := Tryz.func147.trans (congrArg some (by kernel_rfl))
  f268 := Tryz.func141.trans (congrArg some (by kernel_rfl))
  f314 := Tryz.func153.trans (congrArg some (by kernel_rfl))
  t0 := Tryz.underlying0
  a0 := Tryz.isAgg0
  z0 := Tryz.sizeOf0
  v0 := Tryz.zeroValue0
  t3 := Tryz.underlying3
  a3 := Tryz.isAgg3
  z3 := Tryz.sizeOf3
  v3 := Tryz.zeroValue3
  t4 := Tryz.underlying4
  a4 := Tryz.isAgg4
  z4 := Tryz.sizeOf4
  v4 := Tryz.zeroValue4
  t5 := Tryz.underlying5
  a5 := Tryz.isAgg5
  z5 := Tryz.sizeOf5
  v5 := Tryz.zeroValue5
  t9 := Tryz.underlying9
  a9 := Tryz.isAgg9
  z9 := Tryz.sizeOf9
  v9 := Tryz.zeroValue9
  t21 := Tryz.underlying21
  a21 := Tryz.isAgg21
  z21 := Tryz.sizeOf21
  v21 := Tryz.zeroValue21
  t31 := Tryz.underlying90
  a31 := Tryz.isAgg90
  z31 := Tryz.sizeOf90
  v31 := Tryz.zeroValue90
  t46 := Tryz.underlying180
  a46 := Tryz.isAgg180
  z46 := Tryz.sizeOf180
  v46 := Tryz.zeroValue180
  t51 := Tryz.underlying183
  a51 := Tryz.isAgg183
  z51 := Tryz.sizeOf183
  v51 := Tryz.zeroValue183
  t105 := Tryz.underlying181
  a105 := Tryz.isAgg181
  z105 := Tryz.sizeOf181
  v105 := Tryz.zeroValue181
  t119 := Tryz.underlying193
  a119 := Tryz.isAgg193
  z119 := Tryz.sizeOf193
  t138 := Tryz.underlying195
  a138 := Tryz.isAgg195
  z138 := Tryz.sizeOf195
  v138 := Tryz.zeroValue195
  t139 := Tryz.underlying196
  a139 := Tryz.isAgg196
  z139 := Tryz.sizeOf196
  v139 := Tryz.zeroValue196
  t146 := Tryz.underlying184
  a146 := Tryz.isAgg184
  z146 := Tryz.sizeOf184
  v146 := Tryz.zeroValue184
  g1 := by kernel_rfl
  g3 := by kernel_rfl
  g4 := by kernel_rfl }
def Tryz.lays147_ren : Go.Shelf.Ren := ⟨fun | 147 => 128 | 221 => 132 | 268 => 141 | 138 => 142 | 143 => 143 | 195 => 149 | 197 => 150 | 218 => 151 | 219 => 139 | 260 => 155 | 217 => 144 | 225 => 145 | 224 => 146 | 267 => 147 | 266 => 152 | 314 => 153 | n => n, fun | 9 => 9 | 3 => 3 | 31 => 90 | 4 => 4 | 0 => 0 | 105 => 181 | 21 => 21 | 5 => 5 | 46 => 180 | 119 => 193 | 139 => 196 | 138 => 195 | 146 => 184 | 51 => 183 | n => n, fun | 1 => 0 | 3 => 1 | 4 => 2 | n => n⟩
theorem Tryz.lays147 : Go.Proofs.Lays.n147 Tryz.prog Tryz.lays147_ren := {
  mixed := by kernel_rfl
  f138 := Tryz.func142.trans (congrArg some (by kernel_rfl))
  f143 := Tryz.func143.trans (congrArg some (by kernel_rfl))
  f147 := Tryz.func128.trans (congrArg some (by kernel_rfl))
  f195 := Tryz.func149.trans (congrArg some (by kernel_rfl))
  f197 := Tryz.func150.trans (congrArg some (by kernel_rfl))
  f217 := Tryz.func144.trans (congrArg some (by kernel_rfl))
  f218 := Tryz.func151.trans (congrArg some (by kernel_rfl))
  f219 := Tryz.func139.trans (congrArg some (by kernel_rfl))
  f221 := Tryz.func132.trans (congrArg some (by kernel_rfl))
  f224 := Tryz.func146.trans (congrArg some (by kernel_rfl))
  f225 := Tryz.func145.trans (congrArg some (by kernel_rfl))
  f260 := Tryz.func155.trans (congrArg some (by kernel_rfl))
  f266 := Tryz.func152.trans (congrArg some (by kernel_rfl))
  f267 := Tryz.func147.trans (congrArg some (by kernel_rfl))
  f268 := Tryz.func141.trans (congrArg some (by kernel_rfl))
  f314 := Tryz.func153.trans (congrArg some (by kernel_rfl))
  t0 := Tryz.underlying0
  a0 := Tryz.isAgg0
  z0 := Tryz.sizeOf0
  v0 := Tryz.zeroValue0
  t3 := Tryz.underlying3
  a3 := Tryz.isAgg3
  z3 := Tryz.sizeOf3
  v3 := Tryz.zeroValue3
  t4 := Tryz.underlying4
  a4 := Tryz.isAgg4
  z4 := Tryz.sizeOf4
  v4 := Tryz.zeroValue4
  t5 := Tryz.underlying5
  a5 := Tryz.isAgg5
  z5 := Tryz.sizeOf5
  v5 := Tryz.zeroValue5
  t9 := Tryz.underlying9
  a9 := Tryz.isAgg9
  z9 := Tryz.sizeOf9
  v9 := Tryz.zeroValue9
  t21 := Tryz.underlying21
  a21 := Tryz.isAgg21
  z21 := Tryz.sizeOf21
  v21 := Tryz.zeroValue21
  t31 := Tryz.underlying90
  a31 := Tryz.isAgg90
  z31 := Tryz.sizeOf90
  v31 := Tryz.zeroValue90
  t46 := Tryz.underlying180
  a46 := Tryz.isAgg180
  z46 := Tryz.sizeOf180
  v46 := Tryz.zeroValue180
  t51 := Tryz.underlying183
  a51 := Tryz.isAgg183
  z51 := Tryz.sizeOf183
  v51 := Tryz.zeroValue183
  t105 := Tryz.underlying181
  a105 := Tryz.isAgg181
  z105 := Tryz.sizeOf181
  v105 := Tryz.zeroValue181
  t119 := Tryz.underlying193
  a119 := Tryz.isAgg193
  z119 := Tryz.sizeOf193
  t138 := Tryz.underlying195
  a138 := Tryz.isAgg195
  z138 := Tryz.sizeOf195
  v138 := Tryz.zeroValue195
  t139 := Tryz.underlying196
  a139 := Tryz.isAgg196
  z139 := Tryz.sizeOf196
  v139 := Tryz.zeroValue196
  t146 := Tryz.underlying184
  a146 := Tryz.isAgg184
  z146 := Tryz.sizeOf184
  v146 := Tryz.zeroValue184
  g1 := by kernel_rfl
  g3 := by kernel_rfl
  g4 := by kernel_rfl }
open Go.RowKit Go.Sort Go.Lib in
theorem Tryz.strconv_Itoa (n : Int) (h0 : -9223372036854775808 ≤ n) (h1 : n ≤ 9223372036854775807) (w : World) (htab : Lib.TabIs Tryz.prog w "internal/strconv.uint64pow10" .u64 Lib.pow10Tab) :
    Calls Tryz.prog 140 #[.int .i64 n] w fun e w' => e = .returned (.string ⟨(Lib.itoa n).toArray⟩) ∧ ∃ k os, w' = grow (w.drewN k) os := Any.strconv_Itoa Tryz.laysM171 n h0 h1 w htab
open Go.RowKit Go.Lib in
theorem Tryz.strings_Cut (s sep : ByteArray) (m : Int) (w : World) (hs : s.size < 4294967281) (hm : w.cell? ⟨0, 0, none⟩ = some (.int .i64 m)) :
    Calls Tryz.prog 98 #[.string s, .string sep] w fun e w' => e = .returned (.tuple #[.string ⟨(Lib.cut s.data.toList sep.data.toList).1.toArray⟩, .string ⟨(Lib.cut s.data.toList sep.data.toList).2.1.toArray⟩, .bool (Lib.cut s.data.toList sep.data.toList).2.2]) ∧ ∃ n, w' = w.drewN n := Any.strings_Cut Tryz.lays145 s sep m w hs hm
open Go.RowKit Go.Lib in
theorem Tryz.strings_Split (s sep : ByteArray) (m : Int) (w : World) (hs : s.size < 4294967281) (hm : w.cell? ⟨0, 0, none⟩ = some (.int .i64 m)) (h1 : 1 ≤ sep.size) :
    Calls Tryz.prog 103 #[.string s, .string sep] w fun e w' =>
      e = .returned (.slice (some ⟨w.heap.size, 0, none⟩) (Lib.countB s sep + 1) (Lib.countB s sep + 1)) ∧ w' = w.alloc (.cells ((Lib.splitB sep 0 (Lib.countB s sep) s).map Value.string).toArray 9) := Any.strings_Split Tryz.lays146 (by kernel_rfl) s sep m w hs hm h1
open Go.RowKit Go.Lib in
theorem Tryz.strings_SplitN (s sep : ByteArray) (n : Nat) (m : Int) (w : World) (hs : s.size < 4294967281) (hm : w.cell? ⟨0, 0, none⟩ = some (.int .i64 m)) (h1 : 1 ≤ sep.size) (hn : 1 ≤ n) (hn63 : n ≤ 9223372036854775807) :
    Calls Tryz.prog 128 #[.string s, .string sep, .int .i64 n] w fun e w' =>
      e = .returned (.slice (some ⟨w.heap.size, 0, none⟩) (Lib.splitB sep 0 (min n (s.size + 1) - 1) s).length (min n (s.size + 1))) ∧ w' = w.alloc (.cells (Lib.cellsOf (Lib.splitB sep 0 (min n (s.size + 1) - 1) s) (min n (s.size + 1))) 9) := Any.strings_SplitN Tryz.lays147 (by kernel_rfl) s sep n m w hs hm h1 hn hn63
end Go.Proofs
namespace Go.VS
open Go Go.Proofs
set_option linter.unusedVariables false
set_option maxRecDepth 100000
def kd : TypeId → Option K
  | 2 => some .int
  | 3 => some .int
  | 4 => some .bool
  | 5 => some .u8
  | 9 => some .str
  | 10 => some .str
  | 11 => some .str
  | 43 => some .note
  | 56 => some .keeper
  | 59 => some .keep
  | 73 => some .keeper
  | 76 => some .parcel
  | 78 => some .note
  | 81 => some .parcel
  | 105 => some .half
  | 119 => some .half
  | 125 => some .mixed
  | 139 => some .mark
  | 154 => some .mixed
  | _ => none
abbrev Y0 : Type := ByteArray × Int × Unit
abbrev Z0 : Sh := .agg [.str, .int .i64]
abbrev Y1 : Type := Int × ByteArray × Unit
abbrev Z1 : Sh := .agg [.int .i64, .str]
abbrev Y2 : Type := Int × Int × Int × Int × Int × List Mixed × Unit
abbrev Z2 : Sh := .agg [.int .i64, .int .i64, .int .i64, .int .i64, .int .i64, .fz .mixed]
abbrev Y3 : Type := Int × Bool × ByteArray × Int × List Half × Unit
abbrev Z3 : Sh := .agg [.int .i64, .bool, .str, .int .i64, .fz .half]
abbrev Y4 : Type := Int × Int × ByteArray × Bool × Unit
abbrev Z4 : Sh := .agg [.int .i64, .int .i64, .str, .bool]
abbrev Y5 : Type := Int × Int × Int × Int × ByteArray × Unit
abbrev Z5 : Sh := .agg [.int .i64, .int .i64, .int .i64, .int .i64, .str]
abbrev Y6 : Type := Int × List Keeper × List Bool × List Parcel × List Note × List Note × Unit
abbrev Z6 : Sh := .agg [.int .i64, .fz .keeper, .fz .bool, .fz .parcel, .fz .note, .fz .note]
abbrev Y7 : Type := Int × Int × Int × List Note × List Mark × List Note × Unit
abbrev Z7 : Sh := .agg [.int .i64, .int .i64, .int .i64, .row 43 .note, .row 139 .mark, .row 43 .note]
abbrev Z8 : Sh := .box 43 [.int .i64, .int .i64, .int .i64, .int .i64, .str]
abbrev Z9 : Sh := .box 59 [.int .i64, .int .i64, .int .i64, .sl .note, .sl .mark, .sl .note]
abbrev Z10 : Sh := .agg [.int .i64, .int .i64, .int .i64, .fz .note, .fz .mark, .fz .note]
abbrev Z11 : Sh := .box 59 [.int .i64, .int .i64, .int .i64, .row 43 .note, .row 139 .mark, .row 43 .note]
abbrev Y8 : Type := Int × Int × Int × Unit
abbrev Z12 : Sh := .box 139 [.int .i64, .int .i64, .int .i64]
abbrev Z13 : Sh := .agg [.int .i64, .int .i64, .int .i64]
abbrev Z14 : Sh := .box 105 [.int .i64, .int .i64, .int .i64, .int .i64, .int .i64, .sl .mixed]
abbrev Z15 : Sh := .box 56 [.int .i64, .bool, .str, .int .i64, .sl .half]
abbrev Z16 : Sh := .box 34 [.int .i64, .sl .keeper, .sl .bool, .sl .parcel, .sl .note, .sl .note]
abbrev Z17 : Sh := .agg [.int .i64, .int .i64, .int .i64, .int .i64, .int .i64, .row 125 .mixed]
abbrev Z18 : Sh := .agg [.int .i64, .bool, .str, .int .i64, .row 105 .half]
abbrev Z19 : Sh := .agg [.int .i64, .row 56 .keeper, .row 4 .bool, .row 81 .parcel, .row 43 .note, .row 43 .note]
abbrev Z20 : Sh := .box 59 [.int .i64, .int .i64, .int .i64, .row 43 .note, .row 139 .mark, .sl .note]
abbrev Z21 : Sh := .box 125 [.int .i64, .str]
abbrev Rnd (a b c : Type) := Option (a ⊕ (b ⊕ c))
noncomputable abbrev cX (l : List Ent) (cz sp : List (Nat × Nat)) : Cx := ⟨Tryz.prog, kd, gam l, inR cz, inR sp⟩
abbrev LF (fn : Func) (pins path : List Nat) (l : Loop) := LpK Tryz.prog fn.ntmps pins [(MT path (uW fn), l)]
theorem mixed : Tryz.prog.follows .mixedOrders = true := by kernel_rfl
noncomputable def c8 : (Int × Unit) → Option ((ByteArray × Unit) × (Unit)) := Lz
noncomputable def tR : Ent := (140, none, ⟨[.int .i64], [.str], c8⟩)
theorem xo : SQ Tryz.prog tR := ⟨MM (nj Tryz.func140 (by kernel_rfl) (by kernel_rfl : Tryz.f140.body = some (uW Tryz.f140))) (by kernel_rfl) Tryz.strconv_Itoa, by kernel_rfl⟩
noncomputable def gK : (ByteArray × ByteArray × Unit) → Option ((ByteArray × ByteArray × Bool × Unit) × (Unit)) := M7
noncomputable def wC : Ent := (98, none, ⟨[.str, .str], [.str, .str, .bool], gK⟩)
theorem yx : SQ Tryz.prog wC := ⟨OZ (gm := 0) (nj Tryz.func98 (by kernel_rfl) (by kernel_rfl : Tryz.f98.body = some (uW Tryz.f98))) (of_decide_eq_true (by kernel_rfl)) (fun w h => Tryz.laysM145.s1_3 w h) Tryz.strings_Cut, by kernel_rfl⟩
noncomputable def g8 : (ByteArray × ByteArray × Unit) → Option ((List ByteArray × Unit) × (Unit)) := EB
noncomputable def rN : Ent := (103, none, ⟨[.str, .str], [.row 9 .str], g8⟩)
theorem vz : SQ Tryz.prog rN := ⟨K2 (gm := 0) (nj Tryz.func103 (by kernel_rfl) (by kernel_rfl : Tryz.f103.body = some (uW Tryz.f103))) (of_decide_eq_true (by kernel_rfl)) (fun w h => Tryz.laysM145.s1_3 w h) Tryz.strings_Split, by kernel_rfl⟩
noncomputable def lp : (ByteArray × ByteArray × Int × Unit) → Option ((List ByteArray × Unit) × (Unit)) := yy
noncomputable def p9 : Ent := (128, none, ⟨[.str, .str, .int .i64], [.row 9 .str], lp⟩)
theorem sH : SQ Tryz.prog p9 := ⟨JN (gm := 0) (nj Tryz.func128 (by kernel_rfl) (by kernel_rfl : Tryz.f128.body = some (uW Tryz.f128))) (of_decide_eq_true (by kernel_rfl)) (fun w h => Tryz.laysM145.s1_3 w h) Tryz.strings_SplitN, by kernel_rfl⟩
noncomputable def Dt : Cx := cX [] [] []
theorem Hc : OKC Tryz.prog Dt ae := okc mixed (an)
noncomputable def nO (x : Y0 × Int × Unit) : Option ((Int × Unit) × Unit) :=
let v1 := (w64 (x.2.1 - (x.1.1.size : Int)))
(if (decide (v1 < 0)) then
some (((-1), ()), ())
else
some ((v1, ()), ()))
noncomputable def ug : Ent := (56, none, ⟨[Z0, .int .i64], [.int .i64], nO⟩)
theorem xN : SQ Tryz.prog ug := so (v := .nil) (fn := Tryz.f56) Hc (by kernel_rfl) (by kernel_rfl) (by kernel_rfl) (kN) (fun _ => by kernel_rfl)
noncomputable def Dw : Cx := cX [] [] []
theorem He : OKC Tryz.prog Dw ae := okc mixed (an)
noncomputable def nR (x : Y1 × Int × Unit) : Option ((Int × Unit) × Unit) :=
let v1 := (w64 (x.2.1 - (x.1.2.1.size : Int)))
(if (decide (v1 < 0)) then
some (((-1), ()), ())
else
some ((v1, ()), ()))
noncomputable def uj : Ent := (108, none, ⟨[Z1, .int .i64], [.int .i64], nR⟩)
theorem xQ : SQ Tryz.prog uj := so (v := .nil) (fn := Tryz.f108) He (by kernel_rfl) (by kernel_rfl) (by kernel_rfl) (kN) (fun _ => by kernel_rfl)
noncomputable def BE : Cx := cX [uj] [] []
theorem sx : OKC Tryz.prog BE ae := okc mixed (gC xQ (an))
noncomputable def gi (x : List Mixed × Int × Int × Unit) : Rnd (List Mixed × Int × Int × Unit) (Int × Unit) (Int × Unit) :=
(if (decide (x.2.2.1 < (x.1.length : Int))) then
(if inb x.2.2.1 x.1.length then
(nR (((rd (dfl .mixed) x.1 x.2.2.1).nu, (rd (dfl .mixed) x.1 x.2.2.1).da, ()), x.2.1, ())).bind fun r8 =>
(if (decide (r8.1.1 < 0)) then
some (.inr (.inl ((-1), ())))
else
some (.inl (x.1, r8.1.1, (w64 (x.2.2.1 + 1)), ())))
else none)
else
some (.inr (.inr (x.2.1, ()))))
noncomputable def mO := ax gi
noncomputable def oS : Loop := ⟨[(0, .sl .mixed), (1, .int .i64), (5, .int .i64)], [(1, .int .i64)], 0, [(4, .int .i64)], mO⟩
theorem A7 : LF Tryz.f87 [] [1, 1, 1, 0, 1, 0, 0] oS := lk (v := .nil) sx (b := gi) (fun _ => by kernel_rfl) rfl (by kernel_rfl) (kN)
noncomputable def mz (x : List Mixed × Int × Unit) : Option ((Int × Unit) × Unit) :=
let v1 := (w64 (x.2.1 - (x.1.length : Int)))
(if (decide (v1 < 0)) then
some (((-1), ()), ())
else
(au (mO (x.1, v1, 0, ()))
(fun y9 => some (y9, ()))
(fun y9 => some (y9, ()))))
noncomputable def rZ : Ent := (87, none, ⟨[.fz .mixed, .int .i64], [.int .i64], mz⟩)
theorem vL : SQ Tryz.prog rZ := so (v := .two (.nil) (.two (.nil) (.two (.nil) (.two (.two (.nil) (.one (.loop oS))) (.nil))))) (fn := Tryz.f87) sx (by kernel_rfl) (by kernel_rfl) (by kernel_rfl) (kC A7 (kN)) (fun _ => by kernel_rfl)
noncomputable def GF : Cx := cX [rZ] [] []
theorem Iz : OKC Tryz.prog GF ae := okc mixed (gC vL (an))
noncomputable def pj (x : Y2 × Int × Unit) : Option ((Int × Unit) × Unit) :=
(mz (x.1.2.2.2.2.2.1, x.2)).bind fun r1 =>
(if (decide (r1.1.1 < 0)) then
some (((-1), ()), ())
else
some (r1.1, ()))
noncomputable def wN : Ent := (75, none, ⟨[Z2, .int .i64], [.int .i64], pj⟩)
theorem y3 : SQ Tryz.prog wN := so (v := .nil) (fn := Tryz.f75) Iz (by kernel_rfl) (by kernel_rfl) (by kernel_rfl) (kN) (fun _ => by kernel_rfl)
noncomputable def Dx : Cx := cX [wN] [] []
theorem uN : OKC Tryz.prog Dx ae := okc mixed (gC y3 (an))
noncomputable def iA (x : List Half × Int × Int × Unit) : Rnd (List Half × Int × Int × Unit) (Int × Unit) (Int × Unit) :=
(if (decide (x.2.2.1 < (x.1.length : Int))) then
(if inb x.2.2.1 x.1.length then
(pj (((rd (dfl .half) x.1 x.2.2.1).fr, (rd (dfl .half) x.1 x.2.2.1).nu, (rd (dfl .half) x.1 x.2.2.1).to, (rd (dfl .half) x.1 x.2.2.1).un, (rd (dfl .half) x.1 x.2.2.1).sz, (rd (dfl .half) x.1 x.2.2.1).got, ()), x.2.1, ())).bind fun r8 =>
(if (decide (r8.1.1 < 0)) then
some (.inr (.inl ((-1), ())))
else
some (.inl (x.1, r8.1.1, (w64 (x.2.2.1 + 1)), ())))
else none)
else
some (.inr (.inr (x.2.1, ()))))
noncomputable def nU := ax iA
noncomputable def pP : Loop := ⟨[(0, .sl .half), (1, .int .i64), (5, .int .i64)], [(1, .int .i64)], 0, [(4, .int .i64)], nU⟩
theorem CV : LF Tryz.f57 [] [1, 1, 1, 0, 1, 0, 0] pP := lk (v := .nil) uN (b := iA) (fun _ => by kernel_rfl) rfl (by kernel_rfl) (kN)
noncomputable def nT (x : List Half × Int × Unit) : Option ((Int × Unit) × Unit) :=
let v1 := (w64 (x.2.1 - (x.1.length : Int)))
(if (decide (v1 < 0)) then
some (((-1), ()), ())
else
(au (nU (x.1, v1, 0, ()))
(fun y9 => some (y9, ()))
(fun y9 => some (y9, ()))))
noncomputable def uk : Ent := (57, none, ⟨[.fz .half, .int .i64], [.int .i64], nT⟩)
theorem xR : SQ Tryz.prog uk := so (v := .two (.nil) (.two (.nil) (.two (.nil) (.two (.two (.nil) (.one (.loop pP))) (.nil))))) (fn := Tryz.f57) uN (by kernel_rfl) (by kernel_rfl) (by kernel_rfl) (kC CV (kN)) (fun _ => by kernel_rfl)
noncomputable def BF : Cx := cX [ug, uk] [] []
theorem DW : OKC Tryz.prog BF ae := okc mixed (gC xN (gC xR (an)))
noncomputable def mB (x : Y3 × Int × Unit) : Option ((Int × Unit) × Unit) :=
(nO ((x.1.2.2.1, x.1.2.2.2.1, ()), x.2)).bind fun r1 =>
(if (decide (r1.1.1 < 0)) then
some (((-1), ()), ())
else
(nT (x.1.2.2.2.2.1, r1.1)).bind fun r2 =>
(if (decide (r2.1.1 < 0)) then
some (((-1), ()), ())
else
some (r2.1, ())))
noncomputable def sa : Ent := (32, none, ⟨[Z3, .int .i64], [.int .i64], mB⟩)
theorem vM : SQ Tryz.prog sa := so (v := .nil) (fn := Tryz.f32) DW (by kernel_rfl) (by kernel_rfl) (by kernel_rfl) (kN) (fun _ => by kernel_rfl)
noncomputable def Ap : Cx := cX [sa] [] []
theorem qx : OKC Tryz.prog Ap ae := okc mixed (gC vM (an))
noncomputable def eE (x : List Keeper × Int × Int × Unit) : Rnd (List Keeper × Int × Int × Unit) (Int × Unit) (Int × Unit) :=
(if (decide (x.2.2.1 < (x.1.length : Int))) then
(if inb x.2.2.1 x.1.length then
(mB (((rd (dfl .keeper) x.1 x.2.2.1).id, (rd (dfl .keeper) x.1 x.2.2.1).up, (rd (dfl .keeper) x.1 x.2.2.1).log, (rd (dfl .keeper) x.1 x.2.2.1).fo, (rd (dfl .keeper) x.1 x.2.2.1).halves, ()), x.2.1, ())).bind fun r8 =>
(if (decide (r8.1.1 < 0)) then
some (.inr (.inl ((-1), ())))
else
some (.inl (x.1, r8.1.1, (w64 (x.2.2.1 + 1)), ())))
else none)
else
some (.inr (.inr (x.2.1, ()))))
noncomputable def mj := ax eE
noncomputable def nS : Loop := ⟨[(0, .sl .keeper), (1, .int .i64), (5, .int .i64)], [(1, .int .i64)], 0, [(4, .int .i64)], mj⟩
theorem zy : LF Tryz.f9 [] [1, 1, 1, 0, 1, 0, 0] nS := lk (v := .nil) qx (b := eE) (fun _ => by kernel_rfl) rfl (by kernel_rfl) (kN)
noncomputable def lz (x : List Keeper × Int × Unit) : Option ((Int × Unit) × Unit) :=
let v1 := (w64 (x.2.1 - (x.1.length : Int)))
(if (decide (v1 < 0)) then
some (((-1), ()), ())
else
(au (mj (x.1, v1, 0, ()))
(fun y9 => some (y9, ()))
(fun y9 => some (y9, ()))))
noncomputable def qi : Ent := (9, none, ⟨[.fz .keeper, .int .i64], [.int .i64], lz⟩)
theorem tr : SQ Tryz.prog qi := so (v := .two (.nil) (.two (.nil) (.two (.nil) (.two (.two (.nil) (.one (.loop nS))) (.nil))))) (fn := Tryz.f9) qx (by kernel_rfl) (by kernel_rfl) (by kernel_rfl) (kC zy (kN)) (fun _ => by kernel_rfl)
noncomputable def Dy : Cx := cX [] [] []
theorem Hg : OKC Tryz.prog Dy ae := okc mixed (an)
noncomputable def nV (x : List Bool × Int × Unit) : Option ((Int × Unit) × Unit) :=
let v1 := (w64 (x.2.1 - (x.1.length : Int)))
(if (decide (v1 < 0)) then
some (((-1), ()), ())
else
some ((v1, ()), ()))
noncomputable def ul : Ent := (10, none, ⟨[.fz .bool, .int .i64], [.int .i64], nV⟩)
theorem xS : SQ Tryz.prog ul := so (v := .nil) (fn := Tryz.f10) Hg (by kernel_rfl) (by kernel_rfl) (by kernel_rfl) (kN) (fun _ => by kernel_rfl)
noncomputable def BD : Cx := cX [] [] []
theorem DV : OKC Tryz.prog BD ae := okc mixed (an)
noncomputable def my (x : Y4 × Int × Unit) : Option ((Int × Unit) × Unit) :=
let v1 := (w64 (x.2.1 - (x.1.2.2.1.size : Int)))
(if (decide (v1 < 0)) then
some (((-1), ()), ())
else
some ((v1, ()), ()))
noncomputable def rY : Ent := (33, none, ⟨[Z4, .int .i64], [.int .i64], my⟩)
theorem vK : SQ Tryz.prog rY := so (v := .nil) (fn := Tryz.f33) DV (by kernel_rfl) (by kernel_rfl) (by kernel_rfl) (kN) (fun _ => by kernel_rfl)
noncomputable def Ao : Cx := cX [rY] [] []
theorem qw : OKC Tryz.prog Ao ae := okc mixed (gC vK (an))
noncomputable def eD (x : List Parcel × Int × Int × Unit) : Rnd (List Parcel × Int × Int × Unit) (Int × Unit) (Int × Unit) :=
(if (decide (x.2.2.1 < (x.1.length : Int))) then
(if inb x.2.2.1 x.1.length then
(my (((rd (dfl .parcel) x.1 x.2.2.1).src, (rd (dfl .parcel) x.1 x.2.2.1).dst, (rd (dfl .parcel) x.1 x.2.2.1).data, (rd (dfl .parcel) x.1 x.2.2.1).sp, ()), x.2.1, ())).bind fun r8 =>
(if (decide (r8.1.1 < 0)) then
some (.inr (.inl ((-1), ())))
else
some (.inl (x.1, r8.1.1, (w64 (x.2.2.1 + 1)), ())))
else none)
else
some (.inr (.inr (x.2.1, ()))))
noncomputable def mi := ax eD
noncomputable def nP : Loop := ⟨[(0, .sl .parcel), (1, .int .i64), (5, .int .i64)], [(1, .int .i64)], 0, [(4, .int .i64)], mi⟩
theorem zx : LF Tryz.f11 [] [1, 1, 1, 0, 1, 0, 0] nP := lk (v := .nil) qw (b := eD) (fun _ => by kernel_rfl) rfl (by kernel_rfl) (kN)
noncomputable def ly (x : List Parcel × Int × Unit) : Option ((Int × Unit) × Unit) :=
let v1 := (w64 (x.2.1 - (x.1.length : Int)))
(if (decide (v1 < 0)) then
some (((-1), ()), ())
else
(au (mi (x.1, v1, 0, ()))
(fun y9 => some (y9, ()))
(fun y9 => some (y9, ()))))
noncomputable def qh : Ent := (11, none, ⟨[.fz .parcel, .int .i64], [.int .i64], ly⟩)
theorem tq : SQ Tryz.prog qh := so (v := .two (.nil) (.two (.nil) (.two (.nil) (.two (.two (.nil) (.one (.loop nP))) (.nil))))) (fn := Tryz.f11) qw (by kernel_rfl) (by kernel_rfl) (by kernel_rfl) (kC zx (kN)) (fun _ => by kernel_rfl)
noncomputable def GE : Cx := cX [] [] []
theorem Iy : OKC Tryz.prog GE ae := okc mixed (an)
noncomputable def ph (x : Y5 × Int × Unit) : Option ((Int × Unit) × Unit) :=
let v1 := (w64 (x.2.1 - (x.1.2.2.2.2.1.size : Int)))
(if (decide (v1 < 0)) then
some (((-1), ()), ())
else
some ((v1, ()), ()))
noncomputable def wM : Ent := (34, none, ⟨[Z5, .int .i64], [.int .i64], ph⟩)
theorem y0 : SQ Tryz.prog wM := so (v := .nil) (fn := Tryz.f34) Iy (by kernel_rfl) (by kernel_rfl) (by kernel_rfl) (kN) (fun _ => by kernel_rfl)
noncomputable def Dv : Cx := cX [wM] [] []
theorem uM : OKC Tryz.prog Dv ae := okc mixed (gC y0 (an))
noncomputable def iz (x : List Note × Int × Int × Unit) : Rnd (List Note × Int × Int × Unit) (Int × Unit) (Int × Unit) :=
(if (decide (x.2.2.1 < (x.1.length : Int))) then
(if inb x.2.2.1 x.1.length then
(ph (((rd (dfl .note) x.1 x.2.2.1).fr, (rd (dfl .note) x.1 x.2.2.1).nu, (rd (dfl .note) x.1 x.2.2.1).to, (rd (dfl .note) x.1 x.2.2.1).un, (rd (dfl .note) x.1 x.2.2.1).tx, ()), x.2.1, ())).bind fun r8 =>
(if (decide (r8.1.1 < 0)) then
some (.inr (.inl ((-1), ())))
else
some (.inl (x.1, r8.1.1, (w64 (x.2.2.1 + 1)), ())))
else none)
else
some (.inr (.inr (x.2.1, ()))))
noncomputable def nQ := ax iz
noncomputable def pO : Loop := ⟨[(0, .sl .note), (1, .int .i64), (5, .int .i64)], [(1, .int .i64)], 0, [(4, .int .i64)], nQ⟩
theorem CU : LF Tryz.f12 [] [1, 1, 1, 0, 1, 0, 0] pO := lk (v := .nil) uM (b := iz) (fun _ => by kernel_rfl) rfl (by kernel_rfl) (kN)
noncomputable def ke (x : List Note × Int × Unit) : Option ((Int × Unit) × Unit) :=
let v1 := (w64 (x.2.1 - (x.1.length : Int)))
(if (decide (v1 < 0)) then
some (((-1), ()), ())
else
(au (nQ (x.1, v1, 0, ()))
(fun y9 => some (y9, ()))
(fun y9 => some (y9, ()))))
noncomputable def ui : Ent := (12, none, ⟨[.fz .note, .int .i64], [.int .i64], ke⟩)
theorem xP : SQ Tryz.prog ui := so (v := .two (.nil) (.two (.nil) (.two (.nil) (.two (.two (.nil) (.one (.loop pO))) (.nil))))) (fn := Tryz.f12) uM (by kernel_rfl) (by kernel_rfl) (by kernel_rfl) (kC CU (kN)) (fun _ => by kernel_rfl)
noncomputable def Du : Cx := cX [qi, ul, qh, ui] [] []
theorem Hd : OKC Tryz.prog Du ae := okc mixed (gC tr (gC xS (gC tq (gC xP (an)))))
noncomputable def kc (x : Y6 × Int × Unit) : Option ((Int × Unit) × Unit) :=
(lz (x.1.2.1, x.2)).bind fun r1 =>
(if (decide (r1.1.1 < 0)) then
some (((-1), ()), ())
else
(nV (x.1.2.2.1, r1.1)).bind fun r2 =>
(if (decide (r2.1.1 < 0)) then
some (((-1), ()), ())
else
(ly (x.1.2.2.2.1, r2.1)).bind fun r3 =>
(if (decide (r3.1.1 < 0)) then
some (((-1), ()), ())
else
(ke (x.1.2.2.2.2.1, r3.1)).bind fun r4 =>
(if (decide (r4.1.1 < 0)) then
some (((-1), ()), ())
else
(ke (x.1.2.2.2.2.2.1, r4.1)).bind fun r5 =>
(if (decide (r5.1.1 < 0)) then
some (((-1), ()), ())
else
some (r5.1, ()))))))
noncomputable def uh : Ent := (4, none, ⟨[Z6, .int .i64], [.int .i64], kc⟩)
theorem xO : SQ Tryz.prog uh := so (v := .nil) (fn := Tryz.f4) Hd (by kernel_rfl) (by kernel_rfl) (by kernel_rfl) (kN) (fun _ => by kernel_rfl)
noncomputable def Ku : Cx := cX [] [] [(11, 13)]
theorem L8 : OKC Tryz.prog Ku ae := okc mixed (an)
noncomputable def aO (x : Int × Int × Int × Unit) : Option ((Bool × Unit) × Unit) :=
let v2 := ((decide (x.2.1 ≤ x.1)) && (decide (x.1 ≤ x.2.2.1)))
some ((v2, ()), ())
noncomputable def cR : Ent := (35, none, ⟨[.int .i64, .int .i64, .int .i64], [.bool], aO⟩)
theorem bB : SQ Tryz.prog cR := so (v := .nil) (fn := Tryz.f35) L8 (by kernel_rfl) (by kernel_rfl) (by kernel_rfl) (kN) (fun _ => by kernel_rfl)
noncomputable def Bs : Cx := cX [cR] [] []
theorem DO : OKC Tryz.prog Bs ae := okc mixed (gC bB (an))
noncomputable def aB (x : Int × Unit) : Option ((Bool × Unit) × Unit) :=
(aO (x.1, 0, 3, ())).bind fun r1 =>
some (r1.1, ())
noncomputable def aZ : Ent := (37, none, ⟨[.int .i64], [.bool], aB⟩)
theorem aP : SQ Tryz.prog aZ := so (v := .nil) (fn := Tryz.f37) DO (by kernel_rfl) (by kernel_rfl) (by kernel_rfl) (kN) (fun _ => by kernel_rfl)
noncomputable def aI (spec_l6Dec : (Int × Unit) → Option ((ByteArray × Unit) × (Unit))) (x : Int × Unit) : Option ((ByteArray × Unit) × Unit) :=
(if (decide (x.1 < (-9223372036854775807))) then
let v2 := (B [45, 57, 50, 50, 51, 51, 55, 50, 48, 51, 54, 56, 53, 52, 55, 55, 53, 56, 48, 56])
some ((v2, ()), ())
else
(if (decide (x.1 < 0)) then
(spec_l6Dec ((w64 (0 - x.1)), ())).bind fun r4 =>
(if decide ((B [45]).size + r4.1.1.size ≤ 4611686018427387904) then
some ((((B [45]) ++ r4.1.1), ()), ())
else none)
else
(if (decide (x.1 < 10)) then
let v6 := (HA ([(w8 (w64 (48 + x.1)))] : List Int))
some ((v6, ()), ())
else
(spec_l6Dec ((w64 (Int.tdiv x.1 10)), ())).bind fun r7 =>
(if decide (r7.1.1.size + (HA ([(w8 (w64 (48 + (Int.tmod x.1 10))))] : List Int)).size ≤ 4611686018427387904) then
let v8 := (r7.1.1 ++ (HA ([(w8 (w64 (48 + (Int.tmod x.1 10))))] : List Int)))
some ((v8, ()), ())
else none))))
noncomputable def ay := LL aI
noncomputable def Ih (g : (Int × Unit) → Option ((ByteArray × Unit) × (Unit))) : Cx := cX [(109, none, ⟨[.int .i64], [.str], g⟩)] [] []
theorem KA (g : (Int × Unit) → Option ((ByteArray × Unit) × (Unit))) (h : SQ Tryz.prog (109, none, ⟨[.int .i64], [.str], g⟩)) : OKC Tryz.prog (Ih g) ae := okc mixed (gC h (an))
noncomputable def m8 : Ent := (109, none, ⟨[.int .i64], [.str], ay⟩)
theorem lq : SQ Tryz.prog m8 := soR (nj (by kernel_rfl : Tryz.prog.funcs[109]? = some Tryz.f109) (by kernel_rfl) (by kernel_rfl : Tryz.f109.body = some (uW Tryz.f109))) (fun _ => by kernel_rfl) fun g h => so (v := .nil) (fn := Tryz.f109) (KA g h) (by kernel_rfl) (by kernel_rfl) (by kernel_rfl) kN (fun _ => by kernel_rfl)
noncomputable def Ii : Cx := cX [m8] [] [(9, 11), (24, 27)]
theorem Ax : OKC Tryz.prog Ii ae := okc mixed (gC lq (an))
noncomputable def lJ (x : ByteArray × Int × Int × Unit) : Rnd (ByteArray × Int × Int × Unit) (Int × Unit) (ByteArray × Int × Unit) :=
(if (decide (x.2.2.1 < (x.1.size : Int))) then
(if inb x.2.2.1 x.1.size then
(if (aF (!(decide ((bt x.1 x.2.2.1) < 48))) (inb x.2.2.1 x.1.size)) then
(if ((decide ((bt x.1 x.2.2.1) < 48)) || (decide (57 < (bt x.1 x.2.2.1)))) then
some (.inr (.inl ((-1), ())))
else
(if inb x.2.2.1 x.1.size then
let v7 := (w64 ((w64 (x.2.1 * 10)) + (w64 (w8 ((bt x.1 x.2.2.1) - 48)))))
some (.inl (x.1, v7, (w64 (x.2.2.1 + 1)), ()))
else none))
else none)
else none)
else
some (.inr (.inr (x.1, x.2.1, ()))))
noncomputable def lu := ax lJ
noncomputable def sM : Loop := ⟨[(0, .str), (3, .int .i64), (4, .int .i64)], [(0, .str), (3, .int .i64)], 0, [(2, .int .i64)], lu⟩
theorem H4 : LF Tryz.f88 [] [1, 1, 1, 0, 1, 0, 0] sM := lk (v := .nil) Ax (b := lJ) (fun _ => by kernel_rfl) rfl (by kernel_rfl) (kN)
noncomputable def dy (x : ByteArray × Unit) : Option ((Int × Unit) × Unit) :=
(if ((decide ((x.1.size : Int) < 1)) || (decide (4 < (x.1.size : Int)))) then
some (((-1), ()), ())
else
(au (lu (x.1, 0, 0, ()))
(fun y8 => some (y8, ()))
(fun y8 => (ay y8.2).bind fun r10 =>
(if (!decide (r10.1.1 = y8.1)) then
some (((-1), ()), ())
else
some (y8.2, ())))))
noncomputable def m9 : Ent := (88, none, ⟨[.str], [.int .i64], dy⟩)
theorem lr : SQ Tryz.prog m9 := so (v := .two (.nil) (.two (.nil) (.two (.nil) (.two (.two (.nil) (.one (.loop sM))) (.nil))))) (fn := Tryz.f88) Ax (by kernel_rfl) (by kernel_rfl) (by kernel_rfl) (kC H4 (kN)) (fun _ => by kernel_rfl)
noncomputable def Gx : Cx := cX [m9] [] [(11, 12)]
theorem w9 : OKC Tryz.prog Gx ae := okc mixed (gC lr (an))
noncomputable def bQ (x : ByteArray × Int × Unit) : Rnd (ByteArray × Int × Unit) (ByteArray × Int × Unit) (Unit) :=
(if ((decide (x.2.1 < (x.1.size : Int))) && (decide (x.2.1 < 3))) then
(if inb x.2.1 x.1.size then
(if (!decide ((bt x.1 x.2.1) = 58)) then
some (.inl (x.1, (w64 (x.2.1 + 1)), ()))
else
(if (decide (0 ≤ x.2.1) && decide (x.2.1 ≤ (x.1.size : Int))) then
(dy ((x.1.extract (0) (Int.toNat x.2.1)), ())).bind fun r17 =>
(if (decide (r17.1.1 < 1)) then
some (.inr (.inl (noB, 0, ())))
else
(if (decide (60 < r17.1.1)) then
some (.inr (.inl (noB, 0, ())))
else
(if (decide ((x.1.size : Int) < (w64 ((w64 (x.2.1 + 2)) + r17.1.1)))) then
some (.inr (.inl (noB, 0, ())))
else
(if inb (w64 ((w64 (x.2.1 + 1)) + r17.1.1)) x.1.size then
(if (!decide ((bt x.1 (w64 ((w64 (x.2.1 + 1)) + r17.1.1))) = 59)) then
some (.inr (.inl (noB, 0, ())))
else
(if ((decide (0 ≤ (w64 ((w64 (x.2.1 + 1)) + r17.1.1))) && decide ((w64 ((w64 (x.2.1 + 1)) + r17.1.1)) ≤ (x.1.size : Int))) && (decide (0 ≤ (w64 (x.2.1 + 1))) && decide ((w64 (x.2.1 + 1)) ≤ (w64 ((w64 (x.2.1 + 1)) + r17.1.1))))) then
let v18 := (x.1.extract (Int.toNat (w64 (x.2.1 + 1))) (Int.toNat (w64 ((w64 (x.2.1 + 1)) + r17.1.1))))
let v19 := (w64 ((w64 (x.2.1 + 2)) + r17.1.1))
some (.inr (.inl (v18, v19, ())))
else none))
else none))))
else none))
else none)
else
some (.inr (.inr ())))
noncomputable def jJ := ax bQ
noncomputable def rk : Loop := ⟨[(0, .str), (4, .int .i64)], [], 0, [(2, .str), (3, .int .i64)], jJ⟩
theorem FQ : LF Tryz.f76 [] [1, 0, 1, 0, 0] rk := lk (v := .nil) w9 (b := bQ) (fun _ => by kernel_rfl) rfl (by kernel_rfl) (kN)
noncomputable def lP (x : ByteArray × Unit) : Option ((ByteArray × Int × Unit) × Unit) :=
(au (jJ (x.1, 0, ()))
(fun y20 => some (y20, ()))
(fun y20 => some ((noB, 0, ()), ())))
noncomputable def wH : Ent := (76, none, ⟨[.str], [.str, .int .i64], lP⟩)
theorem yE : SQ Tryz.prog wH := so (v := .two (.nil) (.two (.two (.nil) (.one (.loop rk))) (.nil))) (fn := Tryz.f76) w9 (by kernel_rfl) (by kernel_rfl) (by kernel_rfl) (kC FQ (kN)) (fun _ => by kernel_rfl)
noncomputable def Ai : Cx := cX [wH] [] []
theorem qt : OKC Tryz.prog Ai ae := okc mixed (gC yE (an))
noncomputable def bV (x : ByteArray × List ByteArray × Int × Unit) : Rnd (ByteArray × List ByteArray × Int × Unit) (List ByteArray × Int × Unit) (List ByteArray × Int × Unit) :=
(if (decide (x.2.2.1 < (x.1.size : Int))) then
(if (decide (0 ≤ x.2.2.1) && decide (x.2.2.1 ≤ (x.1.size : Int))) then
(lP ((x.1.extract (Int.toNat x.2.2.1) (x.1.size)), ())).bind fun r6 =>
(if (decide (r6.1.2.1 = 0)) then
some (.inr (.inl x.2))
else
(if de (x.2.1.length + ([r6.1.1] : List ByteArray).length) then
let v7 := (w64 (x.2.2.1 + r6.1.2.1))
some (.inl (x.1, (x.2.1 ++ ([r6.1.1] : List ByteArray)), v7, ()))
else none))
else none)
else
some (.inr (.inr x.2)))
noncomputable def fc := ax bV
noncomputable def ny : Loop := ⟨[(0, .str), (4, .row 9 .str), (5, .int .i64)], [(4, .row 9 .str), (5, .int .i64)], 0, [(2, .row 9 .str), (3, .int .i64)], fc⟩
theorem zt : LF Tryz.f59 [] [1, 1, 1, 0, 0, 0] ny := lk (v := .nil) qt (b := bV) (fun _ => by kernel_rfl) rfl (by kernel_rfl) (kN)
noncomputable def a8 (x : ByteArray × Unit) : Option ((List ByteArray × Int × Unit) × Unit) :=
(au (fc (x.1, ([] : List ByteArray), 0, ()))
(fun y8 => some (y8, ()))
(fun y8 => some (y8, ())))
noncomputable def dp : Ent := (59, none, ⟨[.str], [.row 9 .str, .int .i64], a8⟩)
theorem cK : SQ Tryz.prog dp := so (v := .two (.nil) (.two (.nil) (.two (.nil) (.two (.one (.loop ny)) (.nil))))) (fn := Tryz.f59) qt (by kernel_rfl) (by kernel_rfl) (by kernel_rfl) (kC zt (kN)) (fun _ => by kernel_rfl)
noncomputable def Al : Cx := cX [aZ] [] []
theorem BR : OKC Tryz.prog Al ae := okc mixed (gC aP (an))
noncomputable def ga (x : Int × Unit) : Option ((Y7 × Unit) × Unit) :=
(aB x).bind fun r2 =>
(if (!r2.1.1) then
some (((0, 0, 0, ([] : List Note), ([] : List Mark), ([] : List Note), ()), ()), ())
else
some (((x.1, 0, 1, ([] : List Note), ([] : List Mark), ([] : List Note), ()), ()), ()))
noncomputable def qe : Ent := (77, none, ⟨[.int .i64], [Z7], ga⟩)
theorem sT : SQ Tryz.prog qe := so (v := .nil) (fn := Tryz.f77) BR (by kernel_rfl) (by kernel_rfl) (by kernel_rfl) (kN) (fun _ => by kernel_rfl)
noncomputable def Gy : Cx := cX [cR, aZ] [] [(51, 55)]
theorem xa : OKC Tryz.prog Gy ae := okc mixed (gC bB (gC aP (an)))
noncomputable def jN (x : Y5 × Int × Unit) : Rnd (Y5 × Int × Unit) (Bool × Unit) (Unit) :=
(if (decide (x.2.1 < (x.1.2.2.2.2.1.size : Int))) then
(if inb x.2.1 x.1.2.2.2.2.1.size then
(if (aF (!(decide ((bt x.1.2.2.2.2.1 x.2.1) < 32))) (inb x.2.1 x.1.2.2.2.2.1.size)) then
(if ((decide ((bt x.1.2.2.2.2.1 x.2.1) < 32)) || (decide (126 < (bt x.1.2.2.2.2.1 x.2.1)))) then
some (.inr (.inl (false, ())))
else
some (.inl (x.1, (w64 (x.2.1 + 1)), ())))
else none)
else none)
else
some (.inr (.inr ())))
noncomputable def jM := ax jN
noncomputable def rn : Loop := ⟨[(1, Z8), (3, .int .i64)], [], 0, [(2, .bool)], jM⟩
theorem FR : LF Tryz.f38 [] [1, 1, 0, 1, 0, 0] rn := lk (v := .nil) xa (b := jN) (fun _ => by kernel_rfl) rfl (by kernel_rfl) (kN)
noncomputable def cg (x : Y5 × Unit) : Option ((Bool × Unit) × Unit) :=
(aB (x.1.1, ())).bind fun r9 =>
(if (!r9.1.1) then
some ((false, ()), ())
else
(aB (x.1.2.2.1, ())).bind fun r10 =>
(if (!r10.1.1) then
some ((false, ()), ())
else
(aO (x.1.2.1, 1, 99, ())).bind fun r11 =>
(if (!r11.1.1) then
some ((false, ()), ())
else
(aO (x.1.2.2.2.1, 1, 999, ())).bind fun r12 =>
(if (!r12.1.1) then
some ((false, ()), ())
else
(if (decide ((x.1.2.2.2.2.1.size : Int) < 1)) then
some ((false, ()), ())
else
(if (decide (24 < (x.1.2.2.2.2.1.size : Int))) then
some ((false, ()), ())
else
(au (jM (x.1, 0, ()))
(fun y14 => some (y14, ()))
(fun y14 => some ((true, ()), ())))))))))
noncomputable def gY : Ent := (38, none, ⟨[Z5], [.bool], cg⟩)
theorem ez : SQ Tryz.prog gY := so (v := .two (.nil) (.two (.nil) (.two (.two (.nil) (.one (.loop rn))) (.nil)))) (fn := Tryz.f38) xa (by kernel_rfl) (by kernel_rfl) (by kernel_rfl) (kC FR (kN)) (fun _ => by kernel_rfl)
noncomputable def Di : Cx := cX [] [] [(13, 20)]
theorem G6 : OKC Tryz.prog Di ae := okc mixed (an)
noncomputable def bq (x : Int × Int × Int × Int × Unit) : Option ((Bool × Unit) × Unit) :=
let v2 := ((decide (x.1 < x.2.2.1)) || ((decide (x.1 = x.2.2.1)) && (decide (x.2.1 < x.2.2.2.1))))
some ((v2, ()), ())
noncomputable def fP : Ent := (136, none, ⟨[.int .i64, .int .i64, .int .i64, .int .i64], [.bool], bq⟩)
theorem dB : SQ Tryz.prog fP := so (v := .nil) (fn := Tryz.f136) G6 (by kernel_rfl) (by kernel_rfl) (by kernel_rfl) (kN) (fun _ => by kernel_rfl)
noncomputable def Bu : Cx := cX [gY, fP] [] [(23, 50)]
theorem su : OKC Tryz.prog Bu ae := okc mixed (gC ez (gC dB (an)))
noncomputable def fV (x : List Note × Int × Unit) : Rnd (List Note × Int × Unit) (Bool × Unit) (Unit) :=
(if (decide (x.2.1 < (x.1.length : Int))) then
(if inb x.2.1 x.1.length then
(cg (((rd (dfl .note) x.1 x.2.1).fr, (rd (dfl .note) x.1 x.2.1).nu, (rd (dfl .note) x.1 x.2.1).to, (rd (dfl .note) x.1 x.2.1).un, (rd (dfl .note) x.1 x.2.1).tx, ()), ())).bind fun r10 =>
(if (aF ((!(!r10.1.1)) && (decide (0 < x.2.1))) (inb (w64 (x.2.1 - 1)) x.1.length)) then
(if (aF ((!(!r10.1.1)) && (decide (0 < x.2.1))) (inb (w64 (x.2.1 - 1)) x.1.length)) then
(if (aF ((!(!r10.1.1)) && (decide (0 < x.2.1))) (inb x.2.1 x.1.length)) then
(if (aF ((!(!r10.1.1)) && (decide (0 < x.2.1))) (inb x.2.1 x.1.length)) then
(if (aF ((!(!r10.1.1)) && (decide (0 < x.2.1))) ((bq ((rd (dfl .note) x.1 (w64 (x.2.1 - 1))).fr, (rd (dfl .note) x.1 (w64 (x.2.1 - 1))).nu, (rd (dfl .note) x.1 x.2.1).fr, (rd (dfl .note) x.1 x.2.1).nu, ())).isSome)) then
(if ((!r10.1.1) || ((decide (0 < x.2.1)) && (!(((bq ((rd (dfl .note) x.1 (w64 (x.2.1 - 1))).fr, (rd (dfl .note) x.1 (w64 (x.2.1 - 1))).nu, (rd (dfl .note) x.1 x.2.1).fr, (rd (dfl .note) x.1 x.2.1).nu, ())).getD ((false, ()), ())).1.1)))) then
some (.inr (.inl (false, ())))
else
some (.inl (x.1, (w64 (x.2.1 + 1)), ())))
else none)
else none)
else none)
else none)
else none)
else none)
else
some (.inr (.inr ())))
noncomputable def gE := ax fV
noncomputable def oL : Loop := ⟨[(0, .sl .note), (5, .int .i64)], [], 0, [(4, .bool)], gE⟩
theorem A3 : LF Tryz.f110 [] [1, 1, 0, 1, 0, 0] oL := lk (v := .nil) su (b := fV) (fun _ => by kernel_rfl) rfl (by kernel_rfl) (kN)
noncomputable def dK (x : List Note × Int × Unit) : Option ((Bool × Unit) × Unit) :=
(if (decide (x.2.1 < (x.1.length : Int))) then
some ((false, ()), ())
else
(au (gE (x.1, 0, ()))
(fun y11 => some (y11, ()))
(fun y11 => some ((true, ()), ()))))
noncomputable def rP : Ent := (110, none, ⟨[.fz .note, .int .i64], [.bool], dK⟩)
theorem vB : SQ Tryz.prog rP := so (v := .two (.nil) (.two (.nil) (.two (.two (.nil) (.one (.loop oL))) (.nil)))) (fn := Tryz.f110) su (by kernel_rfl) (by kernel_rfl) (by kernel_rfl) (kC A3 (kN)) (fun _ => by kernel_rfl)
noncomputable def Bv : Cx := cX [cR, aZ, fP] [] []
theorem sv : OKC Tryz.prog Bv ae := okc mixed (gC bB (gC aP (gC dB (an))))
noncomputable def fW (x : List Mark × Int × Unit) : Rnd (List Mark × Int × Unit) (Bool × Unit) (Unit) :=
(if (decide (x.2.1 < (x.1.length : Int))) then
(if inb x.2.1 x.1.length then
let v49 := (rd (dfl .mark) x.1 x.2.1).mf
let v50 := (rd (dfl .mark) x.1 x.2.1).mn
let v51 := (rd (dfl .mark) x.1 x.2.1).mu
(aB (v49, ())).bind fun r52 =>
(if (!r52.1.1) then
some (.inr (.inl (false, ())))
else
(aO (v50, 1, 99, ())).bind fun r53 =>
(if (!r53.1.1) then
some (.inr (.inl (false, ())))
else
(aO (v51, 1, 999, ())).bind fun r54 =>
(if (!r54.1.1) then
some (.inr (.inl (false, ())))
else
(if (decide (0 < x.2.1)) then
(if inb (w64 (x.2.1 - 1)) x.1.length then
(if inb (w64 (x.2.1 - 1)) x.1.length then
(bq ((rd (dfl .mark) x.1 (w64 (x.2.1 - 1))).mf, (rd (dfl .mark) x.1 (w64 (x.2.1 - 1))).mn, v49, v50, ())).bind fun r55 =>
(if (!r55.1.1) then
some (.inr (.inl (false, ())))
else
some (.inl (x.1, (w64 (x.2.1 + 1)), ())))
else none)
else none)
else
some (.inl (x.1, (w64 (x.2.1 + 1)), ()))))))
else none)
else
some (.inr (.inr ())))
noncomputable def gF := ax fW
noncomputable def oM : Loop := ⟨[(0, .sl .mark), (3, .int .i64)], [], 0, [(2, .bool)], gF⟩
theorem A4 : LF Tryz.f111 [] [1, 1, 0, 1, 0, 0] oM := lk (v := .nil) sv (b := fW) (fun _ => by kernel_rfl) rfl (by kernel_rfl) (kN)
noncomputable def ib (x : List Mark × Unit) : Option ((Bool × Unit) × Unit) :=
(if (decide (12 < (x.1.length : Int))) then
some ((false, ()), ())
else
(au (gF (x.1, 0, ()))
(fun y56 => some (y56, ()))
(fun y56 => some ((true, ()), ()))))
noncomputable def rQ : Ent := (111, none, ⟨[.fz .mark], [.bool], ib⟩)
theorem vC : SQ Tryz.prog rQ := so (v := .two (.nil) (.two (.nil) (.two (.two (.nil) (.one (.loop oM))) (.nil)))) (fn := Tryz.f111) sv (by kernel_rfl) (by kernel_rfl) (by kernel_rfl) (kC A4 (kN)) (fun _ => by kernel_rfl)
noncomputable def Gt : Cx := cX [] [] [(16, 25)]
theorem Ir : OKC Tryz.prog Gt ae := okc mixed (an)
noncomputable def lK (x : Y5 × Int × Unit) : Option ((Bool × Unit) × Unit) :=
(if (decide (x.1.1 ≤ x.2.1)) then
let v3 := ((decide (x.2.1 < x.1.2.2.1)) || ((decide (x.1.2.2.1 < x.2.1)) && (decide (x.2.1 ≤ x.1.1))))
some ((v3, ()), ())
else
let v4 := ((decide (x.1.2.2.1 < x.2.1)) && (decide (x.2.1 ≤ x.1.1)))
some ((v4, ()), ()))
noncomputable def wD : Ent := (112, none, ⟨[Z5, .int .i64], [.bool], lK⟩)
theorem yA : SQ Tryz.prog wD := so (v := .nil) (fn := Tryz.f112) Ir (by kernel_rfl) (by kernel_rfl) (by kernel_rfl) (kN) (fun _ => by kernel_rfl)
noncomputable def Dh : Cx := cX [] [] [(22, 28)]
theorem uH : OKC Tryz.prog Dh ae := okc mixed (an)
noncomputable def ic (x : List Mark × Int × Int × Int × Unit) : Rnd (List Mark × Int × Int × Int × Unit) (Int × Unit) (Unit) :=
(if (decide (x.2.2.2.1 < (x.1.length : Int))) then
(if inb x.2.2.2.1 x.1.length then
(if (aF (decide ((rd (dfl .mark) x.1 x.2.2.2.1).mf = x.2.1)) (inb x.2.2.2.1 x.1.length)) then
(if ((decide ((rd (dfl .mark) x.1 x.2.2.2.1).mf = x.2.1)) && (decide ((rd (dfl .mark) x.1 x.2.2.2.1).mn = x.2.2.1))) then
some (.inr (.inl x.2.2.2))
else
some (.inl (x.1, x.2.1, x.2.2.1, (w64 (x.2.2.2.1 + 1)), ())))
else none)
else none)
else
some (.inr (.inr ())))
noncomputable def iV := ax ic
noncomputable def pD : Loop := ⟨[(0, .sl .mark), (1, .int .i64), (2, .int .i64), (7, .int .i64)], [], 0, [(6, .int .i64)], iV⟩
theorem CN : LF Tryz.f113 [] [1, 0, 1, 0, 0] pD := lk (v := .nil) uH (b := ic) (fun _ => by kernel_rfl) rfl (by kernel_rfl) (kN)
noncomputable def bp (x : List Mark × Int × Int × Unit) : Option ((Int × Unit) × Unit) :=
(au (iV (x.1, x.2.1, x.2.2.1, 0, ()))
(fun y2 => some (y2, ()))
(fun y2 => some (((-1), ()), ())))
noncomputable def k8 : Ent := (113, none, ⟨[.fz .mark, .int .i64, .int .i64], [.int .i64], bp⟩)
theorem iU : SQ Tryz.prog k8 := so (v := .two (.nil) (.two (.two (.nil) (.one (.loop pD))) (.nil))) (fn := Tryz.f113) uH (by kernel_rfl) (by kernel_rfl) (by kernel_rfl) (kC CN (kN)) (fun _ => by kernel_rfl)
noncomputable def Gz : Cx := cX [cR, aZ, rP, rQ, wD, k8] [] [(109, 120)]
theorem mb : OKC Tryz.prog Gz ae := okc mixed (gC bB (gC aP (gC vB (gC vC (gC yA (gC iU (an)))))))
noncomputable def jR (x : Y7 × Int × Unit) : Rnd (Y7 × Int × Unit) (Bool × Unit) (Unit) :=
(if (decide (x.2.1 < (x.1.2.2.2.2.2.1.length : Int))) then
(if inb x.2.1 x.1.2.2.2.2.2.1.length then
let v140 := (rd (dfl .note) x.1.2.2.2.2.2.1 x.2.1).fr
let v141 := (rd (dfl .note) x.1.2.2.2.2.2.1 x.2.1).nu
let v142 := (rd (dfl .note) x.1.2.2.2.2.2.1 x.2.1).to
let v143 := (rd (dfl .note) x.1.2.2.2.2.2.1 x.2.1).un
let v144 := (rd (dfl .note) x.1.2.2.2.2.2.1 x.2.1).tx
(if (!decide (v142 = x.1.1)) then
some (.inr (.inl (false, ())))
else
(if (decide (v140 = x.1.1)) then
(if (decide (x.1.2.2.1 ≤ v141)) then
some (.inr (.inl (false, ())))
else
(if (decide (x.1.2.1 < v143)) then
(bp (x.1.2.2.2.2.1, v140, v141, ())).bind fun r145 =>
(if (decide (r145.1.1 < 0)) then
some (.inr (.inl (false, ())))
else
some (.inl (x.1, (w64 (x.2.1 + 1)), ())))
else
some (.inl (x.1, (w64 (x.2.1 + 1)), ()))))
else
(if (decide (x.1.2.1 < v143)) then
(bp (x.1.2.2.2.2.1, v140, v141, ())).bind fun r146 =>
(if (decide (r146.1.1 < 0)) then
some (.inr (.inl (false, ())))
else
some (.inl (x.1, (w64 (x.2.1 + 1)), ())))
else
some (.inl (x.1, (w64 (x.2.1 + 1)), ())))))
else none)
else
some (.inr (.inr ())))
noncomputable def jO := ax jR
noncomputable def rp : Loop := ⟨[(1, Z9), (7, .int .i64)], [], 4, [(2, .bool)], jO⟩
theorem FJ : LF Tryz.f89 [] [1, 1, 1, 1, 0, 1, 0, 0] rp := lk (v := .nil) mb (b := jR) (fun _ => by kernel_rfl) rfl (by kernel_rfl) (kN)
noncomputable def jS (x : Y7 × Int × Unit) : Rnd (Y7 × Int × Unit) (Bool × Unit) (Y7 × Unit) :=
(if (decide (x.2.1 < (x.1.2.2.2.2.1.length : Int))) then
(if inb x.2.1 x.1.2.2.2.2.1.length then
let v94 := (rd (dfl .mark) x.1.2.2.2.2.1 x.2.1).mf
let v95 := (rd (dfl .mark) x.1.2.2.2.2.1 x.2.1).mn
let v96 := (rd (dfl .mark) x.1.2.2.2.2.1 x.2.1).mu
(if ((decide (v96 ≤ x.1.2.1)) || ((decide (v94 = x.1.1)) && (decide (x.1.2.2.1 ≤ v95)))) then
some (.inr (.inl (false, ())))
else
some (.inl (x.1, (w64 (x.2.1 + 1)), ())))
else none)
else
some (.inr (.inr (x.1, ()))))
noncomputable def jP := ax jS
noncomputable def rq : Loop := ⟨[(1, Z9), (5, .int .i64)], [(1, Z9)], 2, [(2, .bool)], jP⟩
theorem FL : LF Tryz.f89 [] [1, 1, 1, 0, 1, 0, 0] rq := lk (v := .nil) mb (b := jS) (fun _ => by kernel_rfl) rfl (by kernel_rfl) (kN)
noncomputable def jT (x : Y7 × Int × Unit) : Rnd (Y7 × Int × Unit) (Bool × Unit) (Y7 × Unit) :=
(if (decide (x.2.1 < (x.1.2.2.2.1.length : Int))) then
(if inb x.2.1 x.1.2.2.2.1.length then
let v69 := (rd (dfl .note) x.1.2.2.2.1 x.2.1).fr
let v70 := (rd (dfl .note) x.1.2.2.2.1 x.2.1).nu
let v71 := (rd (dfl .note) x.1.2.2.2.1 x.2.1).to
let v72 := (rd (dfl .note) x.1.2.2.2.1 x.2.1).un
let v73 := (rd (dfl .note) x.1.2.2.2.1 x.2.1).tx
(if (decide (v72 ≤ x.1.2.1)) then
some (.inr (.inl (false, ())))
else
(lK ((v69, v70, v71, v72, v73, ()), x.1.1, ())).bind fun r74 =>
(if (!r74.1.1) then
some (.inr (.inl (false, ())))
else
(if (decide (v69 = x.1.1)) then
(if (decide (x.1.2.2.1 ≤ v70)) then
some (.inr (.inl (false, ())))
else
(bp (x.1.2.2.2.2.1, v69, v70, ())).bind fun r75 =>
(if (decide (0 ≤ r75.1.1)) then
some (.inr (.inl (false, ())))
else
some (.inl (x.1, (w64 (x.2.1 + 1)), ()))))
else
(bp (x.1.2.2.2.2.1, v69, v70, ())).bind fun r76 =>
(if (decide (0 ≤ r76.1.1)) then
some (.inr (.inl (false, ())))
else
some (.inl (x.1, (w64 (x.2.1 + 1)), ()))))))
else none)
else
some (.inr (.inr (x.1, ()))))
noncomputable def jQ := ax jT
noncomputable def rr : Loop := ⟨[(1, Z9), (3, .int .i64)], [(1, Z9)], 0, [(2, .bool)], jQ⟩
theorem FS : LF Tryz.f89 [] [1, 1, 0, 1, 0, 0] rr := lk (v := .nil) mb (b := jT) (fun _ => by kernel_rfl) rfl (by kernel_rfl) (kN)
noncomputable def dS (x : Y7 × Unit) : Option ((Bool × Unit) × Unit) :=
(aB (x.1.1, ())).bind fun r13 =>
(if (!r13.1.1) then
some ((false, ()), ())
else
(aO (x.1.2.1, 0, 999, ())).bind fun r14 =>
(if (!r14.1.1) then
some ((false, ()), ())
else
(aO (x.1.2.2.1, 1, 100, ())).bind fun r15 =>
(if (!r15.1.1) then
some ((false, ()), ())
else
(dK (x.1.2.2.2.1, 6, ())).bind fun r16 =>
(if (!r16.1.1) then
some ((false, ()), ())
else
(ib (x.1.2.2.2.2.1, ())).bind fun r17 =>
(if (!r17.1.1) then
some ((false, ()), ())
else
(dK (x.1.2.2.2.2.2.1, 6, ())).bind fun r18 =>
(if (!r18.1.1) then
some ((false, ()), ())
else
(au (jQ (x.1, 0, ()))
(fun y77 => some (y77, ()))
(fun y77 => (au (jP (y77.1, 0, ()))
(fun y97 => some (y97, ()))
(fun y97 => (au (jO (y97.1, 0, ()))
(fun y147 => some (y147, ()))
(fun y147 => some ((true, ()), ())))))))))))))
noncomputable def wI : Ent := (89, none, ⟨[Z10], [.bool], dS⟩)
theorem yF : SQ Tryz.prog wI := so (v := .two (.nil) (.two (.nil) (.two (.two (.nil) (.one (.loop rr))) (.two (.two (.nil) (.one (.loop rq))) (.two (.two (.nil) (.one (.loop rp))) (.nil)))))) (fn := Tryz.f89) mb (by kernel_rfl) (by kernel_rfl) (by kernel_rfl) (kC FS (kC FL (kC FJ (kN)))) (fun _ => by kernel_rfl)
noncomputable def Dj : Cx := cX [] [] [(22, 28)]
theorem uI : OKC Tryz.prog Dj ae := okc mixed (an)
noncomputable def ie (x : List Note × Int × Int × Int × Unit) : Rnd (List Note × Int × Int × Int × Unit) (Int × Unit) (Unit) :=
(if (decide (x.2.2.2.1 < (x.1.length : Int))) then
(if inb x.2.2.2.1 x.1.length then
(if (aF (decide ((rd (dfl .note) x.1 x.2.2.2.1).fr = x.2.1)) (inb x.2.2.2.1 x.1.length)) then
(if ((decide ((rd (dfl .note) x.1 x.2.2.2.1).fr = x.2.1)) && (decide ((rd (dfl .note) x.1 x.2.2.2.1).nu = x.2.2.1))) then
some (.inr (.inl x.2.2.2))
else
some (.inl (x.1, x.2.1, x.2.2.1, (w64 (x.2.2.2.1 + 1)), ())))
else none)
else none)
else
some (.inr (.inr ())))
noncomputable def iW := ax ie
noncomputable def pE : Loop := ⟨[(0, .sl .note), (1, .int .i64), (2, .int .i64), (7, .int .i64)], [], 0, [(6, .int .i64)], iW⟩
theorem CO : LF Tryz.f40 [] [1, 0, 1, 0, 0] pE := lk (v := .nil) uI (b := ie) (fun _ => by kernel_rfl) rfl (by kernel_rfl) (kN)
noncomputable def aw (x : List Note × Int × Int × Unit) : Option ((Int × Unit) × Unit) :=
(au (iW (x.1, x.2.1, x.2.2.1, 0, ()))
(fun y2 => some (y2, ()))
(fun y2 => some (((-1), ()), ())))
noncomputable def cB : Ent := (40, none, ⟨[.fz .note, .int .i64, .int .i64], [.int .i64], aw⟩)
theorem bG : SQ Tryz.prog cB := so (v := .two (.nil) (.two (.two (.nil) (.one (.loop pE))) (.nil))) (fn := Tryz.f40) uI (by kernel_rfl) (by kernel_rfl) (by kernel_rfl) (kC CO (kN)) (fun _ => by kernel_rfl)
noncomputable def Gq : Cx := cX [] [] []
theorem w6 : OKC Tryz.prog Gq ae := okc mixed (an)
noncomputable def jE (x : ByteArray × Int × Unit) : Rnd (ByteArray × Int × Unit) (ByteArray × ByteArray × Unit) (ByteArray × Unit) :=
(if (decide (x.2.1 < (x.1.size : Int))) then
(if inb x.2.1 x.1.size then
(if (decide ((bt x.1 x.2.1) = 32)) then
(if (decide (0 ≤ x.2.1) && decide (x.2.1 ≤ (x.1.size : Int))) then
(if (decide (0 ≤ (w64 (x.2.1 + 1))) && decide ((w64 (x.2.1 + 1)) ≤ (x.1.size : Int))) then
let v12 := (x.1.extract (0) (Int.toNat x.2.1))
let v13 := (x.1.extract (Int.toNat (w64 (x.2.1 + 1))) (x.1.size))
some (.inr (.inl (v12, v13, ())))
else none)
else none)
else
some (.inl (x.1, (w64 (x.2.1 + 1)), ())))
else none)
else
some (.inr (.inr (x.1, ()))))
noncomputable def jD := ax jE
noncomputable def rg : Loop := ⟨[(0, .str), (4, .int .i64)], [(0, .str)], 0, [(2, .str), (3, .str)], jD⟩
theorem FO : LF Tryz.f114 [] [1, 0, 1, 0, 0] rg := lk (v := .nil) w6 (b := jE) (fun _ => by kernel_rfl) rfl (by kernel_rfl) (kN)
noncomputable def ce (x : ByteArray × Unit) : Option ((ByteArray × ByteArray × Unit) × Unit) :=
(au (jD (x.1, 0, ()))
(fun y14 => some (y14, ()))
(fun y14 => some ((y14.1, noB, ()), ())))
noncomputable def po : Ent := (114, none, ⟨[.str], [.str, .str], ce⟩)
theorem oJ : SQ Tryz.prog po := so (v := .two (.nil) (.two (.two (.nil) (.one (.loop rg))) (.nil))) (fn := Tryz.f114) w6 (by kernel_rfl) (by kernel_rfl) (by kernel_rfl) (kC FO (kN)) (fun _ => by kernel_rfl)
noncomputable def Df : Cx := cX [] [] []
theorem oB : OKC Tryz.prog Df ae := okc mixed (an)
noncomputable def hY (x : Int × Y7 × Y7 × List Note × List Mark × Int × Unit) : Rnd (Int × Y7 × Y7 × List Note × List Mark × Int × Unit) (Unit) (Int × Y7 × Y7 × List Note × List Mark × Unit) :=
(if (decide (x.2.2.2.2.2.1 < (x.2.1.2.2.2.2.1.length : Int))) then
(if inb x.2.2.2.2.2.1 x.2.1.2.2.2.2.1.length then
(if (decide (x.1 < (rd (dfl .mark) x.2.1.2.2.2.2.1 x.2.2.2.2.2.1).mu)) then
(if inb x.2.2.2.2.2.1 x.2.1.2.2.2.2.1.length then
(if de (x.2.2.2.2.1.length + ([(rd (dfl .mark) x.2.1.2.2.2.2.1 x.2.2.2.2.2.1)] : List Mark).length) then
let v8 := (w64 (x.2.2.2.2.2.1 + 1))
some (.inl (x.1, x.2.1, x.2.2.1, x.2.2.2.1, (x.2.2.2.2.1 ++ ([(rd (dfl .mark) x.2.1.2.2.2.2.1 x.2.2.2.2.2.1)] : List Mark)), v8, ()))
else none)
else none)
else
let v9 := (w64 (x.2.2.2.2.2.1 + 1))
some (.inl (x.1, x.2.1, x.2.2.1, x.2.2.2.1, x.2.2.2.2.1, v9, ())))
else none)
else
some (.inr (.inr (x.1, x.2.1, x.2.2.1, x.2.2.2.1, x.2.2.2.2.1, ()))))
noncomputable def iS := ax hY
noncomputable def pB : Loop := ⟨[(1, .int .i64), (2, Z9), (4, Z11), (5, .row 43 .note), (7, .row 139 .mark), (8, .int .i64)], [(1, .int .i64), (2, Z9), (4, Z11), (5, .row 43 .note), (7, .row 139 .mark)], 2, [], iS⟩
theorem CG : LF Tryz.f115 [] [1, 1, 1, 1, 0, 1, 0, 0] pB := lk (v := .nil) oB (b := hY) (fun _ => by kernel_rfl) rfl (by kernel_rfl) (kN)
noncomputable def ia (x : Int × Y7 × Y7 × List Note × Int × Unit) : Rnd (Int × Y7 × Y7 × List Note × Int × Unit) (Unit) (Int × Y7 × Y7 × List Note × Unit) :=
(if (decide (x.2.2.2.2.1 < (x.2.1.2.2.2.1.length : Int))) then
(if inb x.2.2.2.2.1 x.2.1.2.2.2.1.length then
(if (decide (x.1 < (rd (dfl .note) x.2.1.2.2.2.1 x.2.2.2.2.1).un)) then
(if inb x.2.2.2.2.1 x.2.1.2.2.2.1.length then
(if de (x.2.2.2.1.length + ([(rd (dfl .note) x.2.1.2.2.2.1 x.2.2.2.2.1)] : List Note).length) then
some (.inl (x.1, x.2.1, x.2.2.1, (x.2.2.2.1 ++ ([(rd (dfl .note) x.2.1.2.2.2.1 x.2.2.2.2.1)] : List Note)), (w64 (x.2.2.2.2.1 + 1)), ()))
else none)
else none)
else
some (.inl (x.1, x.2.1, x.2.2.1, x.2.2.2.1, (w64 (x.2.2.2.2.1 + 1)), ())))
else none)
else
some (.inr (.inr (x.1, x.2.1, x.2.2.1, x.2.2.2.1, ()))))
noncomputable def iT := ax ia
noncomputable def pC : Loop := ⟨[(1, .int .i64), (2, Z9), (4, Z11), (5, .row 43 .note), (6, .int .i64)], [(1, .int .i64), (2, Z9), (4, Z11), (5, .row 43 .note)], 0, [], iT⟩
theorem CM : LF Tryz.f115 [] [1, 1, 0, 1, 0, 0] pC := lk (v := .nil) oB (b := ia) (fun _ => by kernel_rfl) rfl (by kernel_rfl) (kN)
noncomputable def jH (x : Y7 × Int × Unit) : Option ((Y7 × Unit) × Unit) :=
(au (iT (x.2.1, x.1, (0, 0, 0, ([] : List Note), ([] : List Mark), ([] : List Note), ()), ([] : List Note), 0, ()))
(fun _ => none)
(fun y2 => (au (iS (y2.1, y2.2.1, y2.2.2.1, y2.2.2.2.1, ([] : List Mark), 0, ()))
(fun _ => none)
(fun y10 => some (((y10.2.1.1, y10.1, y10.2.1.2.2.1, y10.2.2.2.1, y10.2.2.2.2.1, y10.2.1.2.2.2.2.2), ()), ())))))
noncomputable def tW : Ent := (115, none, ⟨[Z10, .int .i64], [Z10], jH⟩)
theorem xw : SQ Tryz.prog tW := so (v := .two (.nil) (.two (.nil) (.two (.two (.nil) (.one (.loop pC))) (.two (.nil) (.two (.two (.nil) (.one (.loop pB))) (.nil)))))) (fn := Tryz.f115) oB (by kernel_rfl) (by kernel_rfl) (by kernel_rfl) (kC CM (kC CG (kN))) (fun _ => by kernel_rfl)
noncomputable def Gr : Cx := cX [m9, po] [] []
theorem w7 : OKC Tryz.prog Gr ae := okc mixed (gC lr (gC oJ (an)))
noncomputable def jG (x : ByteArray × Int × List Int × Int × Unit) : Rnd (ByteArray × Int × List Int × Int × Unit) (Unit) (ByteArray × List Int × Unit) :=
(if (decide (x.2.2.2.1 < x.2.1)) then
(ce (x.1, ())).bind fun r12 =>
(dy (r12.1.1, ())).bind fun r13 =>
(if de (x.2.2.1.length + ([r13.1.1] : List Int).length) then
some (.inl (r12.1.2.1, x.2.1, (x.2.2.1 ++ ([r13.1.1] : List Int)), (w64 (x.2.2.2.1 + 1)), ()))
else none)
else
some (.inr (.inr (x.1, x.2.2.1, ()))))
noncomputable def jF := ax jG
noncomputable def rh : Loop := ⟨[(0, .str), (1, .int .i64), (6, .row 3 .int), (7, .int .i64)], [(0, .str), (6, .row 3 .int)], 0, [], jF⟩
theorem FP : LF Tryz.f119 [] [1, 1, 0, 1, 0, 0] rh := lk (v := .nil) w7 (b := jG) (fun _ => by kernel_rfl) rfl (by kernel_rfl) (kN)
noncomputable def cU (x : ByteArray × Int × Unit) : Option ((List Int × ByteArray × Unit) × Unit) :=
(au (jF (x.1, x.2.1, ([] : List Int), 0, ()))
(fun _ => none)
(fun y14 => some ((y14.2.1, y14.1, ()), ())))
noncomputable def pp : Ent := (119, none, ⟨[.str, .int .i64], [.row 3 .int, .str], cU⟩)
theorem oK : SQ Tryz.prog pp := so (v := .two (.nil) (.two (.nil) (.two (.two (.nil) (.one (.loop rh))) (.nil)))) (fn := Tryz.f119) w7 (by kernel_rfl) (by kernel_rfl) (by kernel_rfl) (kC FP (kN)) (fun _ => by kernel_rfl)
noncomputable def Ak : Cx := cX [gY, m8] [] []
theorem BQ : OKC Tryz.prog Ak ae := okc mixed (gC ez (gC lq (an)))
noncomputable def dd (x : Y5 × Unit) : Option ((ByteArray × Unit) × Unit) :=
(cg x).bind fun r2 =>
(if (!r2.1.1) then
some ((noB, ()), ())
else
(ay (x.1.1, ())).bind fun r3 =>
(if decide (r3.1.1.size + (B [32]).size ≤ 4611686018427387904) then
(ay (x.1.2.1, ())).bind fun r4 =>
(if decide ((r3.1.1 ++ (B [32])).size + r4.1.1.size ≤ 4611686018427387904) then
(if decide (((r3.1.1 ++ (B [32])) ++ r4.1.1).size + (B [32]).size ≤ 4611686018427387904) then
(ay (x.1.2.2.1, ())).bind fun r5 =>
(if decide ((((r3.1.1 ++ (B [32])) ++ r4.1.1) ++ (B [32])).size + r5.1.1.size ≤ 4611686018427387904) then
(if decide (((((r3.1.1 ++ (B [32])) ++ r4.1.1) ++ (B [32])) ++ r5.1.1).size + (B [32]).size ≤ 4611686018427387904) then
(ay (x.1.2.2.2.1, ())).bind fun r6 =>
(if decide ((((((r3.1.1 ++ (B [32])) ++ r4.1.1) ++ (B [32])) ++ r5.1.1) ++ (B [32])).size + r6.1.1.size ≤ 4611686018427387904) then
(if decide (((((((r3.1.1 ++ (B [32])) ++ r4.1.1) ++ (B [32])) ++ r5.1.1) ++ (B [32])) ++ r6.1.1).size + (B [32]).size ≤ 4611686018427387904) then
(if decide ((((((((r3.1.1 ++ (B [32])) ++ r4.1.1) ++ (B [32])) ++ r5.1.1) ++ (B [32])) ++ r6.1.1) ++ (B [32])).size + x.1.2.2.2.2.1.size ≤ 4611686018427387904) then
let v7 := ((((((((r3.1.1 ++ (B [32])) ++ r4.1.1) ++ (B [32])) ++ r5.1.1) ++ (B [32])) ++ r6.1.1) ++ (B [32])) ++ x.1.2.2.2.2.1)
some ((v7, ()), ())
else none)
else none)
else none)
else none)
else none)
else none)
else none)
else none))
noncomputable def qd : Ent := (137, none, ⟨[Z5], [.str], dd⟩)
theorem sS : SQ Tryz.prog qd := so (v := .nil) (fn := Tryz.f137) BQ (by kernel_rfl) (by kernel_rfl) (by kernel_rfl) (kN) (fun _ => by kernel_rfl)
noncomputable def Bx : Cx := cX [pp, qd] [] [(29, 32)]
theorem DR : OKC Tryz.prog Bx ae := okc mixed (gC oK (gC sS (an)))
noncomputable def cE (x : ByteArray × Unit) : Option ((Y5 × Bool × Unit) × Unit) :=
(cU (x.1, 4, ())).bind fun r1 =>
(if inb 0 r1.1.1.length then
(if inb 1 r1.1.1.length then
(if inb 2 r1.1.1.length then
(if inb 3 r1.1.1.length then
(if (aF (!(decide (x.1 = noB))) ((dd (((rd (dfl .int) r1.1.1 0), (rd (dfl .int) r1.1.1 1), (rd (dfl .int) r1.1.1 2), (rd (dfl .int) r1.1.1 3), r1.1.2), ())).isSome)) then
(if ((decide (x.1 = noB)) || (!decide (((dd (((rd (dfl .int) r1.1.1 0), (rd (dfl .int) r1.1.1 1), (rd (dfl .int) r1.1.1 2), (rd (dfl .int) r1.1.1 3), r1.1.2), ())).getD ((noB, ()), ())).1.1 = x.1))) then
some (((0, 0, 0, 0, noB, ()), false, ()), ())
else
some ((((rd (dfl .int) r1.1.1 0), (rd (dfl .int) r1.1.1 1), (rd (dfl .int) r1.1.1 2), (rd (dfl .int) r1.1.1 3), r1.1.2), true, ()), ()))
else none)
else none)
else none)
else none)
else none)
noncomputable def rS : Ent := (116, none, ⟨[.str], [Z5, .bool], cE⟩)
theorem vE : SQ Tryz.prog rS := so (v := .nil) (fn := Tryz.f116) DR (by kernel_rfl) (by kernel_rfl) (by kernel_rfl) (kN) (fun _ => by kernel_rfl)
noncomputable def yh : Cx := cX [fP] [] [(18, 32)]
theorem o6 : OKC Tryz.prog yh ae := okc mixed (gC dB (an))
noncomputable def dz (x : List Note × Y5 × List Note × Bool × Int × Unit) : Rnd (List Note × Y5 × List Note × Bool × Int × Unit) (Unit) (Y5 × List Note × Bool × Unit) :=
(if (decide (x.2.2.2.2.1 < (x.1.length : Int))) then
(gB (X := List Note × Y5 × List Note × Bool × Int × Unit) (fun j7 =>
(if inb j7.2.2.2.2.1 j7.1.length then
(if de (j7.2.2.1.length + ([(rd (dfl .note) j7.1 j7.2.2.2.2.1)] : List Note).length) then
some (.inl (j7.1, j7.2.1, (j7.2.2.1 ++ ([(rd (dfl .note) j7.1 j7.2.2.2.2.1)] : List Note)), j7.2.2.2.1, (w64 (j7.2.2.2.2.1 + 1)), ()))
else none)
else none))
((if (aF (!x.2.2.2.1) (inb x.2.2.2.2.1 x.1.length)) then
(if (aF (!x.2.2.2.1) (inb x.2.2.2.2.1 x.1.length)) then
(if (aF (!x.2.2.2.1) ((bq (x.2.1.1, x.2.1.2.1, (rd (dfl .note) x.1 x.2.2.2.2.1).fr, (rd (dfl .note) x.1 x.2.2.2.2.1).nu, ())).isSome)) then
(if ((!x.2.2.2.1) && (((bq (x.2.1.1, x.2.1.2.1, (rd (dfl .note) x.1 x.2.2.2.2.1).fr, (rd (dfl .note) x.1 x.2.2.2.2.1).nu, ())).getD ((false, ()), ())).1.1)) then
(if de (x.2.2.1.length + ([(Note.mk x.2.1.1 x.2.1.2.1 x.2.1.2.2.1 x.2.1.2.2.2.1 x.2.1.2.2.2.2.1)] : List Note).length) then
some (.inr (x.1, x.2.1, (x.2.2.1 ++ ([(Note.mk x.2.1.1 x.2.1.2.1 x.2.1.2.2.1 x.2.1.2.2.2.1 x.2.1.2.2.2.2.1)] : List Note)), true, x.2.2.2.2))
else none)
else
some (.inr x))
else none)
else none)
else none)))
else
some (.inr (.inr (x.2.1, x.2.2.1, x.2.2.2.1, ()))))
noncomputable def dY := ax dz
noncomputable def mI : Loop := ⟨[(0, .sl .note), (3, Z8), (5, .row 43 .note), (6, .bool), (7, .int .i64)], [(3, Z8), (5, .row 43 .note), (6, .bool)], 0, [], dY⟩
theorem xZ : LF Tryz.f118 [] [1, 1, 1, 0, 1, 0, 0] mI := lk (v := .two (.nil) (.two (.one (.join [(0, .sl .note), (3, Z8), (5, .row 43 .note), (6, .bool), (7, .int .i64)] (.nil) (.nil))) (.nil))) o6 (b := dz) (fun _ => by kernel_rfl) rfl (by kernel_rfl) (kN)
noncomputable def bo (x : List Note × Y5 × Unit) : Option ((List Note × Unit) × Unit) :=
(au (dY (x.1, x.2.1, ([] : List Note), false, 0, ()))
(fun _ => none)
(fun y8 => (if (!y8.2.2.1) then
(if de (y8.2.1.length + ([(Note.mk y8.1.1 y8.1.2.1 y8.1.2.2.1 y8.1.2.2.2.1 y8.1.2.2.2.2.1)] : List Note).length) then
some (((y8.2.1 ++ ([(Note.mk y8.1.1 y8.1.2.1 y8.1.2.2.1 y8.1.2.2.2.1 y8.1.2.2.2.2.1)] : List Note)), ()), ())
else none)
else
some ((y8.2.1, ()), ()))))
noncomputable def k7 : Ent := (118, none, ⟨[.fz .note, Z5], [.row 43 .note], bo⟩)
theorem ln : SQ Tryz.prog k7 := so (v := .two (.nil) (.two (.nil) (.two (.nil) (.two (.two (.nil) (.one (.loop mI))) (.nil))))) (fn := Tryz.f118) o6 (by kernel_rfl) (by kernel_rfl) (by kernel_rfl) (kC xZ (kN)) (fun _ => by kernel_rfl)
noncomputable def yi : Cx := cX [fP] [] [(18, 32)]
theorem o7 : OKC Tryz.prog yi ae := okc mixed (gC dB (an))
noncomputable def dA (x : List Mark × Y8 × List Mark × Bool × Int × Unit) : Rnd (List Mark × Y8 × List Mark × Bool × Int × Unit) (Unit) (Y8 × List Mark × Bool × Unit) :=
(if (decide (x.2.2.2.2.1 < (x.1.length : Int))) then
(gB (X := List Mark × Y8 × List Mark × Bool × Int × Unit) (fun j7 =>
(if inb j7.2.2.2.2.1 j7.1.length then
(if de (j7.2.2.1.length + ([(rd (dfl .mark) j7.1 j7.2.2.2.2.1)] : List Mark).length) then
some (.inl (j7.1, j7.2.1, (j7.2.2.1 ++ ([(rd (dfl .mark) j7.1 j7.2.2.2.2.1)] : List Mark)), j7.2.2.2.1, (w64 (j7.2.2.2.2.1 + 1)), ()))
else none)
else none))
((if (aF (!x.2.2.2.1) (inb x.2.2.2.2.1 x.1.length)) then
(if (aF (!x.2.2.2.1) (inb x.2.2.2.2.1 x.1.length)) then
(if (aF (!x.2.2.2.1) ((bq (x.2.1.1, x.2.1.2.1, (rd (dfl .mark) x.1 x.2.2.2.2.1).mf, (rd (dfl .mark) x.1 x.2.2.2.2.1).mn, ())).isSome)) then
(if ((!x.2.2.2.1) && (((bq (x.2.1.1, x.2.1.2.1, (rd (dfl .mark) x.1 x.2.2.2.2.1).mf, (rd (dfl .mark) x.1 x.2.2.2.2.1).mn, ())).getD ((false, ()), ())).1.1)) then
(if de (x.2.2.1.length + ([(Mark.mk x.2.1.1 x.2.1.2.1 x.2.1.2.2.1)] : List Mark).length) then
some (.inr (x.1, x.2.1, (x.2.2.1 ++ ([(Mark.mk x.2.1.1 x.2.1.2.1 x.2.1.2.2.1)] : List Mark)), true, x.2.2.2.2))
else none)
else
some (.inr x))
else none)
else none)
else none)))
else
some (.inr (.inr (x.2.1, x.2.2.1, x.2.2.2.1, ()))))
noncomputable def d5 := ax dA
noncomputable def mJ : Loop := ⟨[(0, .sl .mark), (3, Z12), (5, .row 139 .mark), (6, .bool), (7, .int .i64)], [(3, Z12), (5, .row 139 .mark), (6, .bool)], 0, [], d5⟩
theorem x3 : LF Tryz.f122 [] [1, 1, 1, 0, 1, 0, 0] mJ := lk (v := .two (.nil) (.two (.one (.join [(0, .sl .mark), (3, Z12), (5, .row 139 .mark), (6, .bool), (7, .int .i64)] (.nil) (.nil))) (.nil))) o7 (b := dA) (fun _ => by kernel_rfl) rfl (by kernel_rfl) (kN)
noncomputable def bU (x : List Mark × Y8 × Unit) : Option ((List Mark × Unit) × Unit) :=
(au (d5 (x.1, x.2.1, ([] : List Mark), false, 0, ()))
(fun _ => none)
(fun y8 => (if (!y8.2.2.1) then
(if de (y8.2.1.length + ([(Mark.mk y8.1.1 y8.1.2.1 y8.1.2.2.1)] : List Mark).length) then
some (((y8.2.1 ++ ([(Mark.mk y8.1.1 y8.1.2.1 y8.1.2.2.1)] : List Mark)), ()), ())
else none)
else
some ((y8.2.1, ()), ()))))
noncomputable def eR : Ent := (122, none, ⟨[.fz .mark, Z13], [.row 139 .mark], bU⟩)
theorem dZ : SQ Tryz.prog eR := so (v := .two (.nil) (.two (.nil) (.two (.nil) (.two (.two (.nil) (.one (.loop mJ))) (.nil))))) (fn := Tryz.f122) o7 (by kernel_rfl) (by kernel_rfl) (by kernel_rfl) (kC x3 (kN)) (fun _ => by kernel_rfl)
noncomputable def Bw : Cx := cX [gY, cB, k8] [] [(35, 42)]
theorem DQ : OKC Tryz.prog Bw ae := okc mixed (gC ez (gC bG (gC iU (an))))
noncomputable def ig (x : Y7 × Y5 × Unit) : Option ((Bool × Unit) × Unit) :=
(cg x.2).bind fun r5 =>
(if r5.1.1 then
(if (decide (x.1.2.1 < x.2.1.2.2.2.1)) then
(aw (x.1.2.2.2.1, x.2.1.1, x.2.1.2.1, ())).bind fun r6 =>
(if (decide (r6.1.1 < 0)) then
(bp (x.1.2.2.2.2.1, x.2.1.1, x.2.1.2.1, ())).bind fun r7 =>
(if (aF (decide (r7.1.1 < 0)) ((aw (x.1.2.2.2.2.2.1, x.2.1.1, x.2.1.2.1, ())).isSome)) then
let v8 := ((decide (r7.1.1 < 0)) && (decide (((aw (x.1.2.2.2.2.2.1, x.2.1.1, x.2.1.2.1, ())).getD ((0, ()), ())).1.1 < 0)))
some ((v8, ()), ())
else none)
else
(if (aF false ((aw (x.1.2.2.2.2.2.1, x.2.1.1, x.2.1.2.1, ())).isSome)) then
some ((false, ()), ())
else none))
else
(if (aF false ((aw (x.1.2.2.2.2.2.1, x.2.1.1, x.2.1.2.1, ())).isSome)) then
some ((false, ()), ())
else none))
else
(if (aF false ((aw (x.1.2.2.2.2.2.1, x.2.1.1, x.2.1.2.1, ())).isSome)) then
some ((false, ()), ())
else none))
noncomputable def rR : Ent := (138, none, ⟨[Z10, Z5], [.bool], ig⟩)
theorem vD : SQ Tryz.prog rR := so (v := .nil) (fn := Tryz.f138) DQ (by kernel_rfl) (by kernel_rfl) (by kernel_rfl) (kN) (fun _ => by kernel_rfl)
noncomputable def Dg : Cx := cX [k7, eR, rR] [] []
theorem G5 : OKC Tryz.prog Dg ae := okc mixed (gC ln (gC dZ (gC vD (an))))
noncomputable def fa (x : Y7 × Y5 × Unit) : Option ((Y7 × Bool × Unit) × Unit) :=
(ig x).bind fun r2 =>
(if (!r2.1.1) then
some ((x.1, false, ()), ())
else
(if (!decide (x.2.1.2.2.1 = x.1.1)) then
(bo (x.1.2.2.2.1, x.2)).bind fun r5 =>
let v6 := (decide ((w64 ((r5.1.1.length : Int) + (x.1.2.2.2.2.1.length : Int))) ≤ 12))
some (((x.1.1, x.1.2.1, x.1.2.2.1, r5.1.1, x.1.2.2.2.2), v6, ()), ())
else
(bo (x.1.2.2.2.2.2.1, x.2)).bind fun r7 =>
(bU (x.1.2.2.2.2.1, (x.2.1.1, x.2.1.2.1, x.2.1.2.2.2.1, ()), ())).bind fun r8 =>
let v9 := (decide ((w64 ((x.1.2.2.2.1.length : Int) + (r8.1.1.length : Int))) ≤ 12))
some (((x.1.1, x.1.2.1, x.1.2.2.1, x.1.2.2.2.1, r8.1.1, r7.1), v9, ()), ())))
noncomputable def tX : Ent := (117, none, ⟨[Z10, Z5], [Z10, .bool], fa⟩)
theorem xy : SQ Tryz.prog tX := so (v := .nil) (fn := Tryz.f117) G5 (by kernel_rfl) (by kernel_rfl) (by kernel_rfl) (kN) (fun _ => by kernel_rfl)
noncomputable def Gv : Cx := cX [cB, eR] [] []
theorem It : OKC Tryz.prog Gv ae := okc mixed (gC bG (gC dZ (an)))
noncomputable def lL (x : Y7 × Int × Int × Unit) : Option ((Y7 × Bool × Unit) × Unit) :=
(aw (x.1.2.2.2.1, x.2)).bind fun r1 =>
(if (decide (r1.1.1 < 0)) then
some ((x.1, false, ()), ())
else
(if inb r1.1.1 x.1.2.2.2.1.length then
let v2 := (rd (dfl .note) x.1.2.2.2.1 r1.1.1).fr
let v3 := (rd (dfl .note) x.1.2.2.2.1 r1.1.1).nu
let v4 := (rd (dfl .note) x.1.2.2.2.1 r1.1.1).to
let v5 := (rd (dfl .note) x.1.2.2.2.1 r1.1.1).un
let v6 := (rd (dfl .note) x.1.2.2.2.1 r1.1.1).tx
(if (decide (0 ≤ r1.1.1) && decide (r1.1.1 ≤ (x.1.2.2.2.1.length : Int))) then
(if de (([] : List Note).length + (List.take (Int.toNat r1.1.1) x.1.2.2.2.1).length) then
(if (decide (0 ≤ (w64 (r1.1.1 + 1))) && decide ((w64 (r1.1.1 + 1)) ≤ (x.1.2.2.2.1.length : Int))) then
(if de ((([] : List Note) ++ (List.take (Int.toNat r1.1.1) x.1.2.2.2.1)).length + (List.drop (Int.toNat (w64 (r1.1.1 + 1))) x.1.2.2.2.1).length) then
(bU (x.1.2.2.2.2.1, (x.2.1, x.2.2.1, v5, ()), ())).bind fun r7 =>
some (((x.1.1, x.1.2.1, x.1.2.2.1, ((([] : List Note) ++ (List.take (Int.toNat r1.1.1) x.1.2.2.2.1)) ++ (List.drop (Int.toNat (w64 (r1.1.1 + 1))) x.1.2.2.2.1)), r7.1.1, x.1.2.2.2.2.2), true, ()), ())
else none)
else none)
else none)
else none)
else none))
noncomputable def wF : Ent := (120, none, ⟨[Z10, .int .i64, .int .i64], [Z10, .bool], lL⟩)
theorem yC : SQ Tryz.prog wF := so (v := .nil) (fn := Tryz.f120) It (by kernel_rfl) (by kernel_rfl) (by kernel_rfl) (kN) (fun _ => by kernel_rfl)
noncomputable def Gw : Cx := cX [cB] [] []
theorem Iu : OKC Tryz.prog Gw ae := okc mixed (gC bG (an))
noncomputable def lO (x : Y7 × Int × Int × Unit) : Option ((Y7 × Bool × Unit) × Unit) :=
(aw (x.1.2.2.2.2.2.1, x.2)).bind fun r1 =>
(if (decide (r1.1.1 < 0)) then
some ((x.1, false, ()), ())
else
(if (decide (0 ≤ r1.1.1) && decide (r1.1.1 ≤ (x.1.2.2.2.2.2.1.length : Int))) then
(if de (([] : List Note).length + (List.take (Int.toNat r1.1.1) x.1.2.2.2.2.2.1).length) then
(if (decide (0 ≤ (w64 (r1.1.1 + 1))) && decide ((w64 (r1.1.1 + 1)) ≤ (x.1.2.2.2.2.2.1.length : Int))) then
(if de ((([] : List Note) ++ (List.take (Int.toNat r1.1.1) x.1.2.2.2.2.2.1)).length + (List.drop (Int.toNat (w64 (r1.1.1 + 1))) x.1.2.2.2.2.2.1).length) then
some (((x.1.1, x.1.2.1, x.1.2.2.1, x.1.2.2.2.1, x.1.2.2.2.2.1, ((([] : List Note) ++ (List.take (Int.toNat r1.1.1) x.1.2.2.2.2.2.1)) ++ (List.drop (Int.toNat (w64 (r1.1.1 + 1))) x.1.2.2.2.2.2.1)), ()), true, ()), ())
else none)
else none)
else none)
else none))
noncomputable def wG : Ent := (121, none, ⟨[Z10, .int .i64, .int .i64], [Z10, .bool], lO⟩)
theorem yD : SQ Tryz.prog wG := so (v := .nil) (fn := Tryz.f121) Iu (by kernel_rfl) (by kernel_rfl) (by kernel_rfl) (kN) (fun _ => by kernel_rfl)
noncomputable def Gu : Cx := cX [cB, m9, m8, k8, po, tW, rS, tX, k7, pp, wF, wG, eR] [] [(81, 85), (157, 174), (192, 201), (228, 237)]
theorem Is : OKC Tryz.prog Gu ae := okc mixed (gC bG (gC lr (gC lq (gC iU (gC oJ (gC xw (gC vE (gC xy (gC ln (gC oK (gC yC (gC yD (gC dZ (an))))))))))))))
noncomputable def gL (x : Y7 × ByteArray × Unit) : Option ((Y7 × Bool × Unit) × Unit) :=
(ce x.2).bind fun r1 =>
let v29 := (decide (r1.1.1 = (B [116, 105, 109, 101])))
(if v29 then
(dy r1.1.2).bind fun r30 =>
(if (decide (r30.1.1 ≤ x.1.2.1)) then
some ((x.1, false, ()), ())
else
(jH (x.1, r30.1)).bind fun r31 =>
some ((r31.1.1, true, ()), ()))
else
let v32 := (decide (r1.1.1 = (B [111, 119, 110])))
(if v32 then
(cE r1.1.2).bind fun r33 =>
(if (!r33.1.2.1) then
some ((x.1, false, ()), ())
else
(if (!decide (r33.1.1.1 = x.1.1)) then
some ((x.1, false, ()), ())
else
(if (!decide (r33.1.1.2.1 = x.1.2.2.1)) then
some ((x.1, false, ()), ())
else
(fa ((x.1.1, x.1.2.1, (w64 (x.1.2.2.1 + 1)), x.1.2.2.2), r33.1.1, ())).bind fun r34 =>
some (r34.1, ()))))
else
let v35 := (decide (r1.1.1 = (B [116, 97, 107, 101])))
(if v35 then
(cE r1.1.2).bind fun r36 =>
(if ((!r36.1.2.1) || (decide (r36.1.1.1 = x.1.1))) then
some ((x.1, false, ()), ())
else
(fa (x.1, r36.1.1, ())).bind fun r37 =>
some (r37.1, ()))
else
let v38 := (decide (r1.1.1 = (B [110, 101, 120, 116])))
(if v38 then
(dy r1.1.2).bind fun r39 =>
(if (decide (r39.1.1 ≤ x.1.2.2.1)) then
some ((x.1, false, ()), ())
else
some (((x.1.1, x.1.2.1, r39.1.1, x.1.2.2.2), true, ()), ()))
else
(gB (X := Y7 × Y7 × ByteArray × ByteArray × Bool × Unit) (fun j40 =>
(if j40.2.2.2.2.1 then
(cE (j40.2.2.2.1, ())).bind fun r43 =>
(if (!r43.1.2.1) then
some ((j40.1, false, ()), ())
else
(aw (j40.1.2.2.2.1, r43.1.1.1, r43.1.1.2.1, ())).bind fun r44 =>
(if (decide (0 ≤ r44.1.1)) then
some ((j40.1, false, ()), ())
else
(aw (j40.1.2.2.2.2.2.1, r43.1.1.1, r43.1.1.2.1, ())).bind fun r45 =>
(if (decide (0 ≤ r45.1.1)) then
some ((j40.1, false, ()), ())
else
(if (decide (j40.2.2.1 = (B [104, 101, 108, 100]))) then
(bo (j40.1.2.2.2.1, r43.1.1, ())).bind fun r46 =>
some (((j40.1.1, j40.1.2.1, j40.1.2.2.1, r46.1.1, j40.1.2.2.2.2), true, ()), ())
else
(bo (j40.1.2.2.2.2.2.1, r43.1.1, ())).bind fun r47 =>
some (((j40.1.1, j40.1.2.1, j40.1.2.2.1, j40.1.2.2.2.1, j40.1.2.2.2.2.1, r47.1), true, ()), ())))))
else
(cU (j40.2.2.2.1, 3, ())).bind fun r48 =>
(if (aF (!(!decide (r48.1.2.1 = noB))) (inb 0 r48.1.1.length)) then
(if (aF (!(!decide (r48.1.2.1 = noB))) ((ay ((rd (dfl .int) r48.1.1 0), ())).isSome)) then
(if (aF (!(!decide (r48.1.2.1 = noB))) (decide ((((ay ((rd (dfl .int) r48.1.1 0), ())).getD ((noB, ()), ())).1.1).size + (B [32]).size ≤ 4611686018427387904))) then
(if (aF (!(!decide (r48.1.2.1 = noB))) (inb 1 r48.1.1.length)) then
(if (aF (!(!decide (r48.1.2.1 = noB))) ((ay ((rd (dfl .int) r48.1.1 1), ())).isSome)) then
(if (aF (!(!decide (r48.1.2.1 = noB))) (decide (((((ay ((rd (dfl .int) r48.1.1 0), ())).getD ((noB, ()), ())).1.1) ++ (B [32])).size + (((ay ((rd (dfl .int) r48.1.1 1), ())).getD ((noB, ()), ())).1.1).size ≤ 4611686018427387904))) then
(if (aF (!(!decide (r48.1.2.1 = noB))) (decide ((((((ay ((rd (dfl .int) r48.1.1 0), ())).getD ((noB, ()), ())).1.1) ++ (B [32])) ++ (((ay ((rd (dfl .int) r48.1.1 1), ())).getD ((noB, ()), ())).1.1)).size + (B [32]).size ≤ 4611686018427387904))) then
(if (aF (!(!decide (r48.1.2.1 = noB))) (inb 2 r48.1.1.length)) then
(if (aF (!(!decide (r48.1.2.1 = noB))) ((ay ((rd (dfl .int) r48.1.1 2), ())).isSome)) then
(if (aF (!(!decide (r48.1.2.1 = noB))) (decide (((((((ay ((rd (dfl .int) r48.1.1 0), ())).getD ((noB, ()), ())).1.1) ++ (B [32])) ++ (((ay ((rd (dfl .int) r48.1.1 1), ())).getD ((noB, ()), ())).1.1)) ++ (B [32])).size + (((ay ((rd (dfl .int) r48.1.1 2), ())).getD ((noB, ()), ())).1.1).size ≤ 4611686018427387904))) then
(if ((!decide (r48.1.2.1 = noB)) || (!decide (j40.2.2.2.1 = (((((((ay ((rd (dfl .int) r48.1.1 0), ())).getD ((noB, ()), ())).1.1) ++ (B [32])) ++ (((ay ((rd (dfl .int) r48.1.1 1), ())).getD ((noB, ()), ())).1.1)) ++ (B [32])) ++ (((ay ((rd (dfl .int) r48.1.1 2), ())).getD ((noB, ()), ())).1.1))))) then
some ((j40.1, false, ()), ())
else
let v59 := (decide (j40.2.2.1 = (B [108, 101, 116])))
(if v59 then
(if inb 0 r48.1.1.length then
(if inb 1 r48.1.1.length then
(aw (j40.1.2.2.2.1, (rd (dfl .int) r48.1.1 0), (rd (dfl .int) r48.1.1 1), ())).bind fun r60 =>
(if (aF (!(decide (r60.1.1 < 0))) (inb r60.1.1 j40.1.2.2.2.1.length)) then
(if (aF (!(decide (r60.1.1 < 0))) (inb 2 r48.1.1.length)) then
(if ((decide (r60.1.1 < 0)) || (!decide ((rd (dfl .note) j40.1.2.2.2.1 r60.1.1).un = (rd (dfl .int) r48.1.1 2)))) then
some ((j40.1, false, ()), ())
else
(if inb 0 r48.1.1.length then
(if inb 1 r48.1.1.length then
(lL (j40.1, (rd (dfl .int) r48.1.1 0), (rd (dfl .int) r48.1.1 1), ())).bind fun r61 =>
some (r61.1, ())
else none)
else none))
else none)
else none)
else none)
else none)
else
let v62 := (decide (j40.2.2.1 = (B [101, 97, 116])))
(if v62 then
(if inb 0 r48.1.1.length then
(if inb 1 r48.1.1.length then
(aw (j40.1.2.2.2.2.2.1, (rd (dfl .int) r48.1.1 0), (rd (dfl .int) r48.1.1 1), ())).bind fun r63 =>
(if (aF (!(decide (r63.1.1 < 0))) (inb r63.1.1 j40.1.2.2.2.2.2.1.length)) then
(if (aF (!(decide (r63.1.1 < 0))) (inb 2 r48.1.1.length)) then
(if ((decide (r63.1.1 < 0)) || (!decide ((rd (dfl .note) j40.1.2.2.2.2.2.1 r63.1.1).un = (rd (dfl .int) r48.1.1 2)))) then
some ((j40.1, false, ()), ())
else
(if inb 0 r48.1.1.length then
(if inb 1 r48.1.1.length then
(lO (j40.1, (rd (dfl .int) r48.1.1 0), (rd (dfl .int) r48.1.1 1), ())).bind fun r64 =>
some (r64.1, ())
else none)
else none))
else none)
else none)
else none)
else none)
else
let v65 := (decide (j40.2.2.1 = (B [109, 97, 114, 107])))
(if v65 then
(if inb 0 r48.1.1.length then
(if inb 1 r48.1.1.length then
(bp (j40.1.2.2.2.2.1, (rd (dfl .int) r48.1.1 0), (rd (dfl .int) r48.1.1 1), ())).bind fun r66 =>
(if (decide (0 ≤ r66.1.1)) then
some ((j40.1, false, ()), ())
else
(if inb 0 r48.1.1.length then
(if inb 1 r48.1.1.length then
(if inb 2 r48.1.1.length then
(bU (j40.1.2.2.2.2.1, ((rd (dfl .int) r48.1.1 0), (rd (dfl .int) r48.1.1 1), (rd (dfl .int) r48.1.1 2), ()), ())).bind fun r67 =>
some (((j40.1.1, j40.1.2.1, j40.1.2.2.1, j40.1.2.2.2.1, r67.1.1, j40.1.2.2.2.2.2), true, ()), ())
else none)
else none)
else none))
else none)
else none)
else
some ((j40.1, false, ()), ())))))
else none)
else none)
else none)
else none)
else none)
else none)
else none)
else none)
else none)
else none)))
(let v41 := (decide (r1.1.1 = (B [104, 101, 108, 100])))
(if v41 then
some (.inr (x.1, (0, 0, 0, ([] : List Note), ([] : List Mark), ([] : List Note), ()), r1.1.1, r1.1.2.1, v41, ()))
else
let v42 := (decide (r1.1.1 = (B [105, 110, 98, 111, 120])))
some (.inr (x.1, (0, 0, 0, ([] : List Note), ([] : List Mark), ([] : List Note), ()), r1.1.1, r1.1.2.1, v42, ())))))))))
noncomputable def wE : Ent := (90, none, ⟨[Z10, .str], [Z10, .bool], gL⟩)
theorem yB : SQ Tryz.prog wE := so (v := .two (.nil) (.two (.nil) (.two (.two (.nil) (.one (.two (.nil) (.two (.nil) (.two (.nil) (.two (.nil) (.two (.nil) (.two (.nil) (.two (.nil) (.two (.nil) (.join [(2, Z9), (4, Z11), (6, .str), (7, .str), (105, .bool)] (.nil) (.nil)))))))))))) (.nil)))) (fn := Tryz.f90) Is (by kernel_rfl) (by kernel_rfl) (by kernel_rfl) (kN) (fun _ => by kernel_rfl)
noncomputable def Dk : Cx := cX [] [] []
theorem G7 : OKC Tryz.prog Dk ae := okc mixed (an)
noncomputable def c9 (x : Y7 × Unit) : Option ((Y7 × Unit) × Unit) :=
(if de (([] : List Note).length + x.1.2.2.2.1.length) then
(if de (([] : List Mark).length + x.1.2.2.2.2.1.length) then
(if de (([] : List Note).length + x.1.2.2.2.2.2.1.length) then
some (((x.1.1, x.1.2.1, x.1.2.2.1, (([] : List Note) ++ x.1.2.2.2.1), (([] : List Mark) ++ x.1.2.2.2.2.1), (([] : List Note) ++ x.1.2.2.2.2.2.1), ()), ()), ())
else none)
else none)
else none)
noncomputable def tY : Ent := (91, none, ⟨[Z10], [Z7], c9⟩)
theorem xz : SQ Tryz.prog tY := so (v := .nil) (fn := Tryz.f91) G7 (by kernel_rfl) (by kernel_rfl) (by kernel_rfl) (kN) (fun _ => by kernel_rfl)
noncomputable def GB : Cx := cX [wI, wE, tY] [] [(22, 24)]
theorem Iv : OKC Tryz.prog GB ae := okc mixed (gC yF (gC yB (gC xz (an))))
noncomputable def lQ (x : Y7 × ByteArray × Unit) : Option ((Y7 × Bool × Unit) × Unit) :=
(dS (x.1, ())).bind fun r2 =>
(if (!r2.1.1) then
some (((0, 0, 0, ([] : List Note), ([] : List Mark), ([] : List Note), ()), false, ()), ())
else
(c9 (x.1, ())).bind fun r3 =>
(gL (r3.1.1, x.2)).bind fun r4 =>
(if (aF (!(!r4.1.2.1)) ((dS (r4.1.1, ())).isSome)) then
(if ((!r4.1.2.1) || (!(((dS (r4.1.1, ())).getD ((false, ()), ())).1.1))) then
(c9 (x.1, ())).bind fun r6 =>
some ((r6.1.1, false, ()), ())
else
(c9 (r4.1.1, ())).bind fun r7 =>
some ((r7.1.1, true, ()), ()))
else none))
noncomputable def wJ : Ent := (78, none, ⟨[Z10, .str], [Z7, .bool], lQ⟩)
theorem yG : SQ Tryz.prog wJ := so (v := .nil) (fn := Tryz.f78) Iv (by kernel_rfl) (by kernel_rfl) (by kernel_rfl) (kN) (fun _ => by kernel_rfl)
noncomputable def GA : Cx := cX [aZ, qe, wJ] [] []
theorem xb : OKC Tryz.prog GA ae := okc mixed (gC aP (gC sT (gC yG (an))))
noncomputable def fl (x : List ByteArray × Y7 × Y7 × Int × Unit) : Rnd (List ByteArray × Y7 × Y7 × Int × Unit) (Y7 × Bool × Unit) (Y7 × Y7 × Unit) :=
(if (decide (x.2.2.2.1 < (x.1.length : Int))) then
(if inb x.2.2.2.1 x.1.length then
(lQ (x.2.2.1, (rd (dfl .str) x.1 x.2.2.2.1), ())).bind fun r10 =>
(if (!r10.1.2.1) then
some (.inr (.inl ((0, 0, 0, ([] : List Note), ([] : List Mark), ([] : List Note), ()), false, ())))
else
some (.inl (x.1, x.2.1, r10.1.1, (w64 (x.2.2.2.1 + 1)), ())))
else none)
else
some (.inr (.inr (x.2.1, x.2.2.1, ()))))
noncomputable def jV := ax fl
noncomputable def ru : Loop := ⟨[(1, .sl .str), (4, Z11), (6, Z11), (7, .int .i64)], [(4, Z11), (6, Z11)], 0, [(4, Z11), (5, .bool)], jV⟩
theorem FT : LF Tryz.f60 [] [1, 1, 1, 0, 1, 0, 0] ru := lk (v := .nil) xb (b := fl) (fun _ => by kernel_rfl) rfl (by kernel_rfl) (kN)
noncomputable def cV (x : Int × List ByteArray × Unit) : Option ((Y7 × Bool × Unit) × Unit) :=
(ga (x.1, ())).bind fun r1 =>
(aB (x.1, ())).bind fun r3 =>
(if (!r3.1.1) then
some ((r1.1.1, false, ()), ())
else
(au (jV (x.2.1, (0, 0, 0, ([] : List Note), ([] : List Mark), ([] : List Note), ()), r1.1.1, 0, ()))
(fun y11 => some (y11, ()))
(fun y11 => some ((y11.2.1, true, ()), ()))))
noncomputable def l9 : Ent := (60, none, ⟨[.int .i64, .fz .str], [Z7, .bool], cV⟩)
theorem jU : SQ Tryz.prog l9 := so (v := .two (.nil) (.two (.nil) (.two (.nil) (.two (.two (.nil) (.one (.loop ru))) (.nil))))) (fn := Tryz.f60) xb (by kernel_rfl) (by kernel_rfl) (by kernel_rfl) (kC FT (kN)) (fun _ => by kernel_rfl)
noncomputable def Gs : Cx := cX [dp, l9] [] []
theorem Iq : OKC Tryz.prog Gs ae := okc mixed (gC cK (gC jU (an)))
noncomputable def cf (x : Y3 × Unit) : Option ((Y7 × Bool × Unit) × Unit) :=
(a8 (x.1.2.2.1, ())).bind fun r1 =>
(cV (x.1.1, r1.1.1, ())).bind fun r2 =>
some (r2.1, ())
noncomputable def gX : Ent := (39, none, ⟨[Z3], [Z7, .bool], cf⟩)
theorem ed : SQ Tryz.prog gX := so (v := .nil) (fn := Tryz.f39) Iq (by kernel_rfl) (by kernel_rfl) (by kernel_rfl) (kN) (fun _ => by kernel_rfl)
noncomputable def Dl : Cx := cX [cR, dp] [] [(12, 18), (41, 44)]
theorem G8 : OKC Tryz.prog Dl ae := okc mixed (gC bB (gC cK (an)))
noncomputable def jK (x : Y0 × Unit) : Option ((Bool × Unit) × Unit) :=
(if (aF (!(decide (2400 < (x.1.1.size : Int)))) ((aO (x.1.2.1, 0, (x.1.1.size : Int), ())).isSome)) then
(if ((decide (2400 < (x.1.1.size : Int))) || (!(((aO (x.1.2.1, 0, (x.1.1.size : Int), ())).getD ((false, ()), ())).1.1))) then
some ((false, ()), ())
else
(a8 (x.1.1, ())).bind fun r1 =>
(if (decide (0 ≤ x.1.2.1) && decide (x.1.2.1 ≤ (x.1.1.size : Int))) then
(a8 ((x.1.1.extract (0) (Int.toNat x.1.2.1)), ())).bind fun r2 =>
let v4 := ((decide (r1.1.2.1 = (x.1.1.size : Int))) && (decide (r2.1.2.1 = x.1.2.1)))
some ((v4, ()), ())
else none))
else none)
noncomputable def tZ : Ent := (58, none, ⟨[Z0], [.bool], jK⟩)
theorem xB : SQ Tryz.prog tZ := so (v := .nil) (fn := Tryz.f58) G8 (by kernel_rfl) (by kernel_rfl) (by kernel_rfl) (kN) (fun _ => by kernel_rfl)
noncomputable def Kv : Cx := cX [cR] [] [(8, 9)]
theorem L9 : OKC Tryz.prog Kv ae := okc mixed (gC bB (an))
noncomputable def sO (x : Int × Int × Unit) : Option ((Bool × Unit) × Unit) :=
(aO (x.1, 1, 6, ())).bind fun r3 =>
(if (aF r3.1.1 ((aO (x.2.1, 0, 999, ())).isSome)) then
let v4 := (r3.1.1 && (((aO (x.2.1, 0, 999, ())).getD ((false, ()), ())).1.1))
some ((v4, ()), ())
else none)
noncomputable def B7 : Ent := (92, none, ⟨[.int .i64, .int .i64], [.bool], sO⟩)
theorem Ci : SQ Tryz.prog B7 := so (v := .nil) (fn := Tryz.f92) L9 (by kernel_rfl) (by kernel_rfl) (by kernel_rfl) (kN) (fun _ => by kernel_rfl)
noncomputable def De : Cx := cX [B7] [] [(10, 13)]
theorem G4 : OKC Tryz.prog De ae := okc mixed (gC Ci (an))
noncomputable def ns (x : Int × Y1 × Unit) : Option ((Bool × Unit) × Unit) :=
(sO (x.1, x.2.1.1, ())).bind fun r3 =>
let v4 := (r3.1.1 && (decide ((x.2.1.2.1.size : Int) = 4)))
some ((v4, ()), ())
noncomputable def tV : Ent := (79, none, ⟨[.int .i64, Z1], [.bool], ns⟩)
theorem xv : SQ Tryz.prog tV := so (v := .nil) (fn := Tryz.f79) G4 (by kernel_rfl) (by kernel_rfl) (by kernel_rfl) (kN) (fun _ => by kernel_rfl)
noncomputable def Bt : Cx := cX [] [] []
theorem DP : OKC Tryz.prog Bt ae := okc mixed (an)
noncomputable def mv (x : Int × Unit) : Option ((Int × Unit) × Unit) :=
let v1 := (w64 (Int.tdiv (w64 ((w64 (x.1 + 4)) - 1)) 4))
some ((v1, ()), ())
noncomputable def rO : Ent := (80, none, ⟨[.int .i64], [.int .i64], mv⟩)
theorem vA : SQ Tryz.prog rO := so (v := .nil) (fn := Tryz.f80) DP (by kernel_rfl) (by kernel_rfl) (by kernel_rfl) (kN) (fun _ => by kernel_rfl)
noncomputable def Ah : Cx := cX [cR, aZ, tV, rO] [] []
theorem lG : OKC Tryz.prog Ah ae := okc mixed (gC bB (gC aP (gC xv (gC vA (an)))))
noncomputable def ee (x : Y2 × Int × Int × Unit) : Rnd (Y2 × Int × Int × Unit) (Bool × Unit) (Y2 × Int × Unit) :=
(if (decide (x.2.2.1 < x.2.1)) then
(if inb x.2.2.1 x.1.2.2.2.2.2.1.length then
(if inb x.2.1 x.1.2.2.2.2.2.1.length then
(if (decide ((rd (dfl .mixed) x.1.2.2.2.2.2.1 x.2.2.1).nu = (rd (dfl .mixed) x.1.2.2.2.2.2.1 x.2.1).nu)) then
some (.inr (.inl (false, ())))
else
some (.inl (x.1, x.2.1, (w64 (x.2.2.1 + 1)), ())))
else none)
else none)
else
some (.inr (.inr (x.1, x.2.1, ()))))
noncomputable def eY := ax ee
noncomputable def nt : Loop := ⟨[(1, Z14), (3, .int .i64), (4, .int .i64)], [(1, Z14), (3, .int .i64)], 2, [(2, .bool)], eY⟩
theorem zk : LF Tryz.f61 [] [1, 1, 0, 1, 0, 0, 1, 0, 0, 1, 1, 0, 0] nt := lk (v := .nil) lG (b := ee) (fun _ => by kernel_rfl) rfl (by kernel_rfl) (kN)
noncomputable def eg (x : Y2 × Int × Unit) : Rnd (Y2 × Int × Unit) (Bool × Unit) (Unit) :=
(if (decide (x.2.1 < (x.1.2.2.2.2.2.1.length : Int))) then
(mv (x.1.2.2.2.2.1, ())).bind fun r38 =>
(if inb x.2.1 x.1.2.2.2.2.2.1.length then
(ns (r38.1.1, ((rd (dfl .mixed) x.1.2.2.2.2.2.1 x.2.1).nu, (rd (dfl .mixed) x.1.2.2.2.2.2.1 x.2.1).da, ()), ())).bind fun r39 =>
(if (!r39.1.1) then
some (.inr (.inl (false, ())))
else
(au (eY (x.1, x.2.1, 0, ()))
(fun y40 => some (.inr (.inl y40)))
(fun y40 => some (.inl (y40.1, (w64 (y40.2.1 + 1)), ())))))
else none)
else
some (.inr (.inr ())))
noncomputable def eZ := ax eg
noncomputable def nv : Loop := ⟨[(1, Z14), (3, .int .i64)], [], 0, [(2, .bool)], eZ⟩
theorem zr : LF Tryz.f61 [] [1, 1, 0, 1, 0, 0] nv := lk (v := .two (.nil) (.two (.one (.two (.nil) (.two (.nil) (.one (.loop nt))))) (.nil))) lG (b := eg) (fun _ => by kernel_rfl) rfl (by kernel_rfl) (kC zk (kN))
noncomputable def fU (x : Y2 × Unit) : Option ((Bool × Unit) × Unit) :=
(aB (x.1.1, ())).bind fun r11 =>
(if (!r11.1.1) then
some ((false, ()), ())
else
(aB (x.1.2.2.1, ())).bind fun r12 =>
(if (!r12.1.1) then
some ((false, ()), ())
else
(aO (x.1.2.1, 1, 99, ())).bind fun r13 =>
(if (!r13.1.1) then
some ((false, ()), ())
else
(aO (x.1.2.2.2.1, 1, 999, ())).bind fun r14 =>
(if (!r14.1.1) then
some ((false, ()), ())
else
(aO (x.1.2.2.2.2.1, 1, 24, ())).bind fun r15 =>
(if (!r15.1.1) then
some ((false, ()), ())
else
(if (decide (14 < (x.1.2.2.2.2.2.1.length : Int))) then
some ((false, ()), ())
else
(au (eZ (x.1, 0, ()))
(fun y41 => some (y41, ()))
(fun y41 => some ((true, ()), ())))))))))
noncomputable def qb : Ent := (61, none, ⟨[Z2], [.bool], fU⟩)
theorem sN : SQ Tryz.prog qb := so (v := .two (.nil) (.two (.nil) (.two (.two (.nil) (.one (.loop nv))) (.nil)))) (fn := Tryz.f61) lG (by kernel_rfl) (by kernel_rfl) (by kernel_rfl) (kC zr (kN)) (fun _ => by kernel_rfl)
noncomputable def Bz : Cx := cX [aZ, gX, tZ, dp, l9, qb] [] [(64, 65), (100, 112)]
theorem mG : OKC Tryz.prog Bz ae := okc mixed (gC aP (gC ed (gC xB (gC cK (gC jU (gC sN (an)))))))
noncomputable def fY (x : Y3 × Int × Int × Unit) : Rnd (Y3 × Int × Int × Unit) (Bool × Unit) (Y3 × Int × Unit) :=
(if (decide (x.2.2.1 < x.2.1)) then
(if inb x.2.2.1 x.1.2.2.2.2.1.length then
(if inb x.2.1 x.1.2.2.2.2.1.length then
(if (aF (decide ((rd (dfl .half) x.1.2.2.2.2.1 x.2.2.1).fr = (rd (dfl .half) x.1.2.2.2.2.1 x.2.1).fr)) (inb x.2.2.1 x.1.2.2.2.2.1.length)) then
(if (aF (decide ((rd (dfl .half) x.1.2.2.2.2.1 x.2.2.1).fr = (rd (dfl .half) x.1.2.2.2.2.1 x.2.1).fr)) (inb x.2.1 x.1.2.2.2.2.1.length)) then
(if ((decide ((rd (dfl .half) x.1.2.2.2.2.1 x.2.2.1).fr = (rd (dfl .half) x.1.2.2.2.2.1 x.2.1).fr)) && (decide ((rd (dfl .half) x.1.2.2.2.2.1 x.2.2.1).nu = (rd (dfl .half) x.1.2.2.2.2.1 x.2.1).nu))) then
some (.inr (.inl (false, ())))
else
some (.inl (x.1, x.2.1, (w64 (x.2.2.1 + 1)), ())))
else none)
else none)
else none)
else none)
else
some (.inr (.inr (x.1, x.2.1, ()))))
noncomputable def gG := ax fY
noncomputable def oN : Loop := ⟨[(1, Z15), (9, .int .i64), (10, .int .i64)], [(1, Z15), (9, .int .i64)], 2, [(2, .bool)], gG⟩
theorem A1 : LF Tryz.f36 [] [1, 1, 1, 1, 1, 1, 0, 1, 0, 0, 1, 0, 0, 1, 1, 0, 0] oN := lk (v := .nil) mG (b := fY) (fun _ => by kernel_rfl) rfl (by kernel_rfl) (kN)
noncomputable def fZ (x : Y3 × Int × Unit) : Rnd (Y3 × Int × Unit) (Bool × Unit) (Unit) :=
(if (decide (x.2.1 < (x.1.2.2.2.2.1.length : Int))) then
(if inb x.2.1 x.1.2.2.2.2.1.length then
(fU (((rd (dfl .half) x.1.2.2.2.2.1 x.2.1).fr, (rd (dfl .half) x.1.2.2.2.2.1 x.2.1).nu, (rd (dfl .half) x.1.2.2.2.2.1 x.2.1).to, (rd (dfl .half) x.1.2.2.2.2.1 x.2.1).un, (rd (dfl .half) x.1.2.2.2.2.1 x.2.1).sz, (rd (dfl .half) x.1.2.2.2.2.1 x.2.1).got, ()), ())).bind fun r25 =>
(if (!r25.1.1) then
some (.inr (.inl (false, ())))
else
(au (gG (x.1, x.2.1, 0, ()))
(fun y26 => some (.inr (.inl y26)))
(fun y26 => some (.inl (y26.1, (w64 (y26.2.1 + 1)), ())))))
else none)
else
some (.inr (.inr ())))
noncomputable def c5 := ax fZ
noncomputable def oO : Loop := ⟨[(1, Z15), (9, .int .i64)], [], 0, [(2, .bool)], c5⟩
theorem A5 : LF Tryz.f36 [] [1, 1, 1, 1, 1, 1, 0, 1, 0, 0] oO := lk (v := .two (.nil) (.two (.one (.two (.nil) (.two (.nil) (.one (.loop oN))))) (.nil))) mG (b := fZ) (fun _ => by kernel_rfl) rfl (by kernel_rfl) (kC A1 (kN))
noncomputable def iq (x : Y3 × Unit) : Option ((Bool × Unit) × Unit) :=
(gB (X := Y3 × Unit) (fun j5 =>
(if (decide (0 ≤ j5.1.2.2.2.1) && decide (j5.1.2.2.2.1 ≤ (j5.1.2.2.1.size : Int))) then
(a8 ((j5.1.2.2.1.extract (0) (Int.toNat j5.1.2.2.2.1)), ())).bind fun r8 =>
(cV (j5.1.1, r8.1.1, ())).bind fun r9 =>
(cf j5).bind fun r10 =>
(if ((!r10.1.2.1) || (!r9.1.2.1)) then
some ((false, ()), ())
else
(au (c5 (j5.1, 0, ()))
(fun y27 => some (y27, ()))
(fun y27 => some ((true, ()), ()))))
else none))
((aB (x.1.1, ())).bind fun r6 =>
(if (!r6.1.1) then
some (.inl ((false, ()), ()))
else
(jK ((x.1.2.2.1, x.1.2.2.2.1, ()), ())).bind fun r7 =>
(if (!r7.1.1) then
some (.inl ((false, ()), ()))
else
(if (decide (3 < (x.1.2.2.2.2.1.length : Int))) then
some (.inl ((false, ()), ()))
else
(if (!x.1.2.1) then
(if (decide (0 < (x.1.2.2.2.2.1.length : Int))) then
some (.inl ((false, ()), ()))
else
some (.inr x))
else
some (.inr x)))))))
noncomputable def rU : Ent := (36, none, ⟨[Z3], [.bool], iq⟩)
theorem vG : SQ Tryz.prog rU := so (v := .two (.nil) (.join [(1, Z15)] (.nil) (.two (.nil) (.two (.nil) (.two (.nil) (.two (.nil) (.two (.two (.nil) (.one (.loop oO))) (.nil)))))))) (fn := Tryz.f36) mG (by kernel_rfl) (by kernel_rfl) (by kernel_rfl) (kC A5 (kN)) (fun _ => by kernel_rfl)
noncomputable def Dm : Cx := cX [cR, rU, aZ, gY] [] [(57, 64)]
theorem fQ : OKC Tryz.prog Dm ae := okc mixed (gC bB (gC vG (gC aP (gC ez (an)))))
noncomputable def ij (x : Y6 × Int × Unit) : Rnd (Y6 × Int × Unit) (Bool × Unit) (Unit) :=
(if (decide (x.2.1 < (x.1.2.2.2.2.2.1.length : Int))) then
(if inb x.2.1 x.1.2.2.2.2.2.1.length then
(cg (((rd (dfl .note) x.1.2.2.2.2.2.1 x.2.1).fr, (rd (dfl .note) x.1.2.2.2.2.2.1 x.2.1).nu, (rd (dfl .note) x.1.2.2.2.2.2.1 x.2.1).to, (rd (dfl .note) x.1.2.2.2.2.2.1 x.2.1).un, (rd (dfl .note) x.1.2.2.2.2.2.1 x.2.1).tx, ()), ())).bind fun r73 =>
(if (!r73.1.1) then
some (.inr (.inl (false, ())))
else
some (.inl (x.1, (w64 (x.2.1 + 1)), ())))
else none)
else
some (.inr (.inr ())))
noncomputable def iX := ax ij
noncomputable def pF : Loop := ⟨[(1, Z16), (7, .int .i64)], [], 6, [(2, .bool)], iX⟩
theorem CE : LF Tryz.f13 [] [1, 1, 1, 1, 1, 0, 1, 0, 0] pF := lk (v := .nil) fQ (b := ij) (fun _ => by kernel_rfl) rfl (by kernel_rfl) (kN)
noncomputable def ik (x : Y6 × Int × Unit) : Rnd (Y6 × Int × Unit) (Bool × Unit) (Y6 × Unit) :=
(if (decide (x.2.1 < (x.1.2.2.2.2.1.length : Int))) then
(if inb x.2.1 x.1.2.2.2.2.1.length then
(cg (((rd (dfl .note) x.1.2.2.2.2.1 x.2.1).fr, (rd (dfl .note) x.1.2.2.2.2.1 x.2.1).nu, (rd (dfl .note) x.1.2.2.2.2.1 x.2.1).to, (rd (dfl .note) x.1.2.2.2.2.1 x.2.1).un, (rd (dfl .note) x.1.2.2.2.2.1 x.2.1).tx, ()), ())).bind fun r65 =>
(if (!r65.1.1) then
some (.inr (.inl (false, ())))
else
some (.inl (x.1, (w64 (x.2.1 + 1)), ())))
else none)
else
some (.inr (.inr (x.1, ()))))
noncomputable def iY := ax ik
noncomputable def pG : Loop := ⟨[(1, Z16), (6, .int .i64)], [(1, Z16)], 4, [(2, .bool)], iY⟩
theorem CF : LF Tryz.f13 [] [1, 1, 1, 1, 0, 1, 0, 0] pG := lk (v := .nil) fQ (b := ik) (fun _ => by kernel_rfl) rfl (by kernel_rfl) (kN)
noncomputable def im (x : Y6 × Int × Unit) : Rnd (Y6 × Int × Unit) (Bool × Unit) (Y6 × Unit) :=
(if (decide (x.2.1 < (x.1.2.2.2.1.length : Int))) then
(if inb x.2.1 x.1.2.2.2.1.length then
let v52 := (rd (dfl .parcel) x.1.2.2.2.1 x.2.1).src
let v53 := (rd (dfl .parcel) x.1.2.2.2.1 x.2.1).dst
let v54 := (rd (dfl .parcel) x.1.2.2.2.1 x.2.1).data
let v55 := (rd (dfl .parcel) x.1.2.2.2.1 x.2.1).sp
(aB (v52, ())).bind fun r56 =>
(if (!r56.1.1) then
some (.inr (.inl (false, ())))
else
(aB (v53, ())).bind fun r57 =>
(if (!r57.1.1) then
some (.inr (.inl (false, ())))
else
(if (!decide ((w64 (v52 - v53)) = 1)) then
(if (!decide ((w64 (v53 - v52)) = 1)) then
some (.inr (.inl (false, ())))
else
(if (decide (40 < (v54.size : Int))) then
some (.inr (.inl (false, ())))
else
some (.inl (x.1, (w64 (x.2.1 + 1)), ()))))
else
(if (decide (40 < (v54.size : Int))) then
some (.inr (.inl (false, ())))
else
some (.inl (x.1, (w64 (x.2.1 + 1)), ()))))))
else none)
else
some (.inr (.inr (x.1, ()))))
noncomputable def iZ := ax im
noncomputable def pH : Loop := ⟨[(1, Z16), (4, .int .i64)], [(1, Z16)], 2, [(2, .bool)], iZ⟩
theorem CH : LF Tryz.f13 [] [1, 1, 1, 0, 1, 0, 0] pH := lk (v := .nil) fQ (b := im) (fun _ => by kernel_rfl) rfl (by kernel_rfl) (kN)
noncomputable def ip (x : Y6 × Int × Unit) : Rnd (Y6 × Int × Unit) (Bool × Unit) (Y6 × Unit) :=
(if (decide (x.2.1 < (x.1.2.1.length : Int))) then
(if inb x.2.1 x.1.2.1.length then
(iq (((rd (dfl .keeper) x.1.2.1 x.2.1).id, (rd (dfl .keeper) x.1.2.1 x.2.1).up, (rd (dfl .keeper) x.1.2.1 x.2.1).log, (rd (dfl .keeper) x.1.2.1 x.2.1).fo, (rd (dfl .keeper) x.1.2.1 x.2.1).halves, ()), ())).bind fun r13 =>
(if (aF (!(!r13.1.1)) (inb x.2.1 x.1.2.1.length)) then
(if ((!r13.1.1) || (!decide ((rd (dfl .keeper) x.1.2.1 x.2.1).id = x.2.1))) then
some (.inr (.inl (false, ())))
else
some (.inl (x.1, (w64 (x.2.1 + 1)), ())))
else none)
else none)
else
some (.inr (.inr (x.1, ()))))
noncomputable def i6 := ax ip
noncomputable def pI : Loop := ⟨[(1, Z16), (3, .int .i64)], [(1, Z16)], 0, [(2, .bool)], i6⟩
theorem CP : LF Tryz.f13 [] [1, 1, 0, 1, 0, 0] pI := lk (v := .nil) fQ (b := ip) (fun _ => by kernel_rfl) rfl (by kernel_rfl) (kN)
noncomputable def jL (x : Y6 × Unit) : Option ((Bool × Unit) × Unit) :=
(aO (x.1.1, 0, 99999, ())).bind fun r3 =>
(if (!r3.1.1) then
some ((false, ()), ())
else
(if (!decide ((x.1.2.1.length : Int) = 4)) then
some ((false, ()), ())
else
(if (!decide ((x.1.2.2.1.length : Int) = 3)) then
some ((false, ()), ())
else
(if (decide (30 < (x.1.2.2.2.1.length : Int))) then
some ((false, ()), ())
else
(if (decide (6 < (x.1.2.2.2.2.1.length : Int))) then
some ((false, ()), ())
else
(if (decide (6 < (x.1.2.2.2.2.2.1.length : Int))) then
some ((false, ()), ())
else
(au (i6 (x.1, 0, ()))
(fun y14 => some (y14, ()))
(fun y14 => (au (iZ (y14.1, 0, ()))
(fun y58 => some (y58, ()))
(fun y58 => (au (iY (y58.1, 0, ()))
(fun y66 => some (y66, ()))
(fun y66 => (au (iX (y66.1, 0, ()))
(fun y74 => some (y74, ()))
(fun y74 => some ((true, ()), ())))))))))))))))
noncomputable def t6 : Ent := (13, none, ⟨[Z6], [.bool], jL⟩)
theorem xC : SQ Tryz.prog t6 := so (v := .two (.nil) (.two (.nil) (.two (.two (.nil) (.one (.loop pI))) (.two (.two (.nil) (.one (.loop pH))) (.two (.two (.nil) (.one (.loop pG))) (.two (.two (.nil) (.one (.loop pF))) (.nil))))))) (fn := Tryz.f13) fQ (by kernel_rfl) (by kernel_rfl) (by kernel_rfl) (kC CP (kC CH (kC CF (kC CE (kN))))) (fun _ => by kernel_rfl)
noncomputable def Dd : Cx := cX [gX, cB] [] [(43, 49)]
theorem uG : OKC Tryz.prog Dd ae := okc mixed (gC ed (gC bG (an)))
noncomputable def g9 (x : Y6 × Y5 × Int × Unit) : Rnd (Y6 × Y5 × Int × Unit) (Bool × Unit) (Y6 × Y5 × Unit) :=
(if (decide (x.2.2.1 < (x.1.2.2.2.2.2.1.length : Int))) then
(if inb x.2.2.1 x.1.2.2.2.2.2.1.length then
(if (MX ((rd (dfl .note) x.1.2.2.2.2.2.1 x.2.2.1).fr) ((rd (dfl .note) x.1.2.2.2.2.2.1 x.2.2.1).nu) ((rd (dfl .note) x.1.2.2.2.2.2.1 x.2.2.1).to) ((rd (dfl .note) x.1.2.2.2.2.2.1 x.2.2.1).un) ((rd (dfl .note) x.1.2.2.2.2.2.1 x.2.2.1).tx) x.2.1.1 x.2.1.2.1 x.2.1.2.2.1 x.2.1.2.2.2.1 x.2.1.2.2.2.2.1) then
some (.inr (.inl (true, ())))
else
some (.inl (x.1, x.2.1, (w64 (x.2.2.1 + 1)), ())))
else none)
else
some (.inr (.inr (x.1, x.2.1, ()))))
noncomputable def iR := ax g9
noncomputable def pz : Loop := ⟨[(2, Z16), (3, Z8), (5, .int .i64)], [(2, Z16), (3, Z8)], 0, [(4, .bool)], iR⟩
theorem CL : LF Tryz.f14 [] [1, 0, 1, 0, 0] pz := lk (v := .nil) uG (b := g9) (fun _ => by kernel_rfl) rfl (by kernel_rfl) (kN)
noncomputable def jC (x : Y6 × Y5 × Unit) : Option ((Bool × Unit) × Unit) :=
(au (iR (x.1, x.2.1, 0, ()))
(fun y2 => some (y2, ()))
(fun y2 => (if inb y2.2.1.2.2.1 y2.1.2.1.length then
(cf (((rd (dfl .keeper) y2.1.2.1 y2.2.1.2.2.1).id, (rd (dfl .keeper) y2.1.2.1 y2.2.1.2.2.1).up, (rd (dfl .keeper) y2.1.2.1 y2.2.1.2.2.1).log, (rd (dfl .keeper) y2.1.2.1 y2.2.1.2.2.1).fo, (rd (dfl .keeper) y2.1.2.1 y2.2.1.2.2.1).halves, ()), ())).bind fun r3 =>
(aw (r3.1.1.2.2.2.2.2.1, y2.2.1.1, y2.2.1.2.1, ())).bind fun r4 =>
(if (aF (decide (0 ≤ r4.1.1)) (inb r4.1.1 r3.1.1.2.2.2.2.2.1.length)) then
let v6 := ((decide (0 ≤ r4.1.1)) && (MX ((rd (dfl .note) r3.1.1.2.2.2.2.2.1 r4.1.1).fr) ((rd (dfl .note) r3.1.1.2.2.2.2.2.1 r4.1.1).nu) ((rd (dfl .note) r3.1.1.2.2.2.2.2.1 r4.1.1).to) ((rd (dfl .note) r3.1.1.2.2.2.2.2.1 r4.1.1).un) ((rd (dfl .note) r3.1.1.2.2.2.2.2.1 r4.1.1).tx) y2.2.1.1 y2.2.1.2.1 y2.2.1.2.2.1 y2.2.1.2.2.2.1 y2.2.1.2.2.2.2.1))
some ((v6, ()), ())
else none)
else none)))
noncomputable def tU : Ent := (14, none, ⟨[Z6, Z5], [.bool], jC⟩)
theorem xu : SQ Tryz.prog tU := so (v := .two (.nil) (.two (.two (.nil) (.one (.loop pz))) (.nil))) (fn := Tryz.f14) uG (by kernel_rfl) (by kernel_rfl) (by kernel_rfl) (kC CL (kN)) (fun _ => by kernel_rfl)
noncomputable def Db : Cx := cX [dp, l9] [] []
theorem G3 : OKC Tryz.prog Db ae := okc mixed (gC cK (gC jU (an)))
noncomputable def jB (x : Y3 × Unit) : Option ((Y7 × Unit) × Unit) :=
(if (decide (0 ≤ x.1.2.2.2.1) && decide (x.1.2.2.2.1 ≤ (x.1.2.2.1.size : Int))) then
(a8 ((x.1.2.2.1.extract (0) (Int.toNat x.1.2.2.2.1)), ())).bind fun r1 =>
(cV (x.1.1, r1.1.1, ())).bind fun r2 =>
some ((r2.1.1, ()), ())
else none)
noncomputable def tS : Ent := (41, none, ⟨[Z3], [Z7], jB⟩)
theorem xr : SQ Tryz.prog tS := so (v := .nil) (fn := Tryz.f41) G3 (by kernel_rfl) (by kernel_rfl) (by kernel_rfl) (kN) (fun _ => by kernel_rfl)
noncomputable def By : Cx := cX [aZ] [] []
theorem DS : OKC Tryz.prog By ae := okc mixed (gC aP (an))
noncomputable def cb (x : Int × Int × Unit) : Option ((Int × Unit) × Unit) :=
(gB (X := Int × Int × Bool × Unit) (fun j6 =>
(if j6.2.2.1 then
some (((-1), ()), ())
else
(if (decide (j6.1 < j6.2.1)) then
some (((w64 (j6.1 + 1)), ()), ())
else
some (((w64 (j6.1 - 1)), ()), ()))))
((aB (x.1, ())).bind fun r7 =>
(if (!r7.1.1) then
some (.inr (x.1, x.2.1, true, ()))
else
(aB x.2).bind fun r8 =>
(if (!r8.1.1) then
some (.inr (x.1, x.2.1, true, ()))
else
some (.inr (x.1, x.2.1, (decide (x.1 = x.2.1)), ()))))))
noncomputable def rT : Ent := (42, none, ⟨[.int .i64, .int .i64], [.int .i64], cb⟩)
theorem vF : SQ Tryz.prog rT := so (v := .two (.nil) (.two (.one (.join [(0, .int .i64), (1, .int .i64), (5, .bool)] (.nil) (.nil))) (.nil))) (fn := Tryz.f42) DS (by kernel_rfl) (by kernel_rfl) (by kernel_rfl) (kN) (fun _ => by kernel_rfl)
noncomputable def Dc : Cx := cX [gX, cB, tS, rT] [] [(17, 18), (76, 80)]
theorem uF : OKC Tryz.prog Dc ae := okc mixed (gC ed (gC bG (gC xr (gC vF (an)))))
noncomputable def dJ (x : Y6 × Y5 × Int × Int × Unit) : Rnd (Y6 × Y5 × Int × Int × Unit) (Bool × Unit) (Unit) :=
(if ((decide (x.2.2.2.1 < 4)) && (decide (0 ≤ x.2.2.1))) then
(if inb x.2.2.1 x.1.2.1.length then
(cf (((rd (dfl .keeper) x.1.2.1 x.2.2.1).id, (rd (dfl .keeper) x.1.2.1 x.2.2.1).up, (rd (dfl .keeper) x.1.2.1 x.2.2.1).log, (rd (dfl .keeper) x.1.2.1 x.2.2.1).fo, (rd (dfl .keeper) x.1.2.1 x.2.2.1).halves, ()), ())).bind fun r42 =>
(if inb x.2.2.1 x.1.2.1.length then
(jB (((rd (dfl .keeper) x.1.2.1 x.2.2.1).id, (rd (dfl .keeper) x.1.2.1 x.2.2.1).up, (rd (dfl .keeper) x.1.2.1 x.2.2.1).log, (rd (dfl .keeper) x.1.2.1 x.2.2.1).fo, (rd (dfl .keeper) x.1.2.1 x.2.2.1).halves, ()), ())).bind fun r43 =>
(aw (r42.1.1.2.2.2.1, x.2.1.1, x.2.1.2.1, ())).bind fun r44 =>
(aw (r43.1.1.2.2.2.1, x.2.1.1, x.2.1.2.1, ())).bind fun r45 =>
(if (decide (0 ≤ r44.1.1)) then
(if (decide (0 ≤ r45.1.1)) then
(if inb r44.1.1 r42.1.1.2.2.2.1.length then
(if (MX ((rd (dfl .note) r42.1.1.2.2.2.1 r44.1.1).fr) ((rd (dfl .note) r42.1.1.2.2.2.1 r44.1.1).nu) ((rd (dfl .note) r42.1.1.2.2.2.1 r44.1.1).to) ((rd (dfl .note) r42.1.1.2.2.2.1 r44.1.1).un) ((rd (dfl .note) r42.1.1.2.2.2.1 r44.1.1).tx) x.2.1.1 x.2.1.2.1 x.2.1.2.2.1 x.2.1.2.2.2.1 x.2.1.2.2.2.2.1) then
(if inb r45.1.1 r43.1.1.2.2.2.1.length then
(if ((MX ((rd (dfl .note) r43.1.1.2.2.2.1 r45.1.1).fr) ((rd (dfl .note) r43.1.1.2.2.2.1 r45.1.1).nu) ((rd (dfl .note) r43.1.1.2.2.2.1 r45.1.1).to) ((rd (dfl .note) r43.1.1.2.2.2.1 r45.1.1).un) ((rd (dfl .note) r43.1.1.2.2.2.1 r45.1.1).tx) x.2.1.1 x.2.1.2.1 x.2.1.2.2.1 x.2.1.2.2.2.1 x.2.1.2.2.2.2.1) || (decide (x.2.1.2.2.2.1 ≤ r42.1.1.2.1))) then
some (.inr (.inl (true, ())))
else
(cb (x.2.2.1, x.2.1.2.2.1, ())).bind fun r46 =>
some (.inl (x.1, x.2.1, r46.1.1, (w64 (x.2.2.2.1 + 1)), ())))
else none)
else
(if (decide (x.2.1.2.2.2.1 ≤ r42.1.1.2.1)) then
some (.inr (.inl (true, ())))
else
(cb (x.2.2.1, x.2.1.2.2.1, ())).bind fun r47 =>
some (.inl (x.1, x.2.1, r47.1.1, (w64 (x.2.2.2.1 + 1)), ()))))
else none)
else
(if (decide (x.2.1.2.2.2.1 ≤ r42.1.1.2.1)) then
some (.inr (.inl (true, ())))
else
(cb (x.2.2.1, x.2.1.2.2.1, ())).bind fun r48 =>
some (.inl (x.1, x.2.1, r48.1.1, (w64 (x.2.2.2.1 + 1)), ()))))
else
(if (decide (x.2.1.2.2.2.1 ≤ r42.1.1.2.1)) then
some (.inr (.inl (true, ())))
else
(cb (x.2.2.1, x.2.1.2.2.1, ())).bind fun r49 =>
some (.inl (x.1, x.2.1, r49.1.1, (w64 (x.2.2.2.1 + 1)), ()))))
else none)
else none)
else
some (.inr (.inr ())))
noncomputable def dx := ax dJ
noncomputable def py : Loop := ⟨[(2, Z16), (3, Z8), (5, .int .i64), (6, .int .i64)], [], 0, [(4, .bool)], dx⟩
theorem CK : LF Tryz.f15 [] [1, 1, 0, 1, 0, 0] py := lk (v := .nil) uF (b := dJ) (fun _ => by kernel_rfl) rfl (by kernel_rfl) (kN)
noncomputable def eU (x : Y6 × Y5 × Unit) : Option ((Bool × Unit) × Unit) :=
(au (dx (x.1, x.2.1, x.2.1.1, 0, ()))
(fun y50 => some (y50, ()))
(fun y50 => some ((false, ()), ())))
noncomputable def tT : Ent := (15, none, ⟨[Z6, Z5], [.bool], eU⟩)
theorem xt : SQ Tryz.prog tT := so (v := .two (.nil) (.two (.nil) (.two (.two (.nil) (.one (.loop py))) (.nil)))) (fn := Tryz.f15) uF (by kernel_rfl) (by kernel_rfl) (by kernel_rfl) (kC CK (kN)) (fun _ => by kernel_rfl)
noncomputable def Br : Cx := cX [] [] []
theorem sr : OKC Tryz.prog Br ae := okc mixed (an)
noncomputable def fS (x : Y6 × Y5 × Int × Unit) : Rnd (Y6 × Y5 × Int × Unit) (Bool × Unit) (Unit) :=
(if (decide (x.2.2.1 < (x.1.2.2.2.2.1.length : Int))) then
(if inb x.2.2.1 x.1.2.2.2.2.1.length then
(if (MX ((rd (dfl .note) x.1.2.2.2.2.1 x.2.2.1).fr) ((rd (dfl .note) x.1.2.2.2.2.1 x.2.2.1).nu) ((rd (dfl .note) x.1.2.2.2.2.1 x.2.2.1).to) ((rd (dfl .note) x.1.2.2.2.2.1 x.2.2.1).un) ((rd (dfl .note) x.1.2.2.2.2.1 x.2.2.1).tx) x.2.1.1 x.2.1.2.1 x.2.1.2.2.1 x.2.1.2.2.2.1 x.2.1.2.2.2.2.1) then
some (.inr (.inl (true, ())))
else
some (.inl (x.1, x.2.1, (w64 (x.2.2.1 + 1)), ())))
else none)
else
some (.inr (.inr ())))
noncomputable def gD := ax fS
noncomputable def oI : Loop := ⟨[(2, Z16), (3, Z8), (5, .int .i64)], [], 0, [(4, .bool)], gD⟩
theorem A2 : LF Tryz.f16 [] [1, 0, 1, 0, 0] oI := lk (v := .nil) sr (b := fS) (fun _ => by kernel_rfl) rfl (by kernel_rfl) (kN)
noncomputable def cD (x : Y6 × Y5 × Unit) : Option ((Bool × Unit) × Unit) :=
(au (gD (x.1, x.2.1, 0, ()))
(fun y2 => some (y2, ()))
(fun y2 => some ((false, ()), ())))
noncomputable def mE : Ent := (16, none, ⟨[Z6, Z5], [.bool], cD⟩)
theorem mH : SQ Tryz.prog mE := so (v := .two (.nil) (.two (.two (.nil) (.one (.loop oI))) (.nil))) (fn := Tryz.f16) sr (by kernel_rfl) (by kernel_rfl) (by kernel_rfl) (kC A2 (kN)) (fun _ => by kernel_rfl)
noncomputable def Ag : Cx := cX [mE, gX] [] [(70, 82)]
theorem gz : OKC Tryz.prog Ag ae := okc mixed (gC mH (gC ed (an)))
noncomputable def d7 (x : Y6 × Y7 × Int × Int × Unit) : Rnd (Y6 × Y7 × Int × Int × Unit) (Bool × Unit) (Y6 × Y7 × Int × Unit) :=
(if (decide (x.2.2.2.1 < (x.1.2.2.2.2.2.1.length : Int))) then
(if inb x.2.2.2.1 x.1.2.2.2.2.2.1.length then
(if inb x.2.2.1 x.2.1.2.2.2.2.2.1.length then
(if (aF (decide ((rd (dfl .note) x.1.2.2.2.2.2.1 x.2.2.2.1).fr = (rd (dfl .note) x.2.1.2.2.2.2.2.1 x.2.2.1).fr)) (inb x.2.2.2.1 x.1.2.2.2.2.2.1.length)) then
(if (aF (decide ((rd (dfl .note) x.1.2.2.2.2.2.1 x.2.2.2.1).fr = (rd (dfl .note) x.2.1.2.2.2.2.2.1 x.2.2.1).fr)) (inb x.2.2.1 x.2.1.2.2.2.2.2.1.length)) then
(if ((decide ((rd (dfl .note) x.1.2.2.2.2.2.1 x.2.2.2.1).fr = (rd (dfl .note) x.2.1.2.2.2.2.2.1 x.2.2.1).fr)) && (decide ((rd (dfl .note) x.1.2.2.2.2.2.1 x.2.2.2.1).nu = (rd (dfl .note) x.2.1.2.2.2.2.2.1 x.2.2.1).nu))) then
some (.inr (.inl (false, ())))
else
some (.inl (x.1, x.2.1, x.2.2.1, (w64 (x.2.2.2.1 + 1)), ())))
else none)
else none)
else none)
else none)
else
some (.inr (.inr (x.1, x.2.1, x.2.2.1, ()))))
noncomputable def eV := ax d7
noncomputable def np : Loop := ⟨[(2, Z16), (5, Z11), (8, .int .i64), (9, .int .i64)], [(2, Z16), (5, Z11), (8, .int .i64)], 4, [(4, .bool)], eV⟩
theorem zg : LF Tryz.f17 [] [1, 1, 1, 0, 1, 0, 0, 1, 0, 0, 1, 1, 0, 0] np := lk (v := .nil) gz (b := d7) (fun _ => by kernel_rfl) rfl (by kernel_rfl) (kN)
noncomputable def d8 (x : Y6 × Y7 × Int × Unit) : Rnd (Y6 × Y7 × Int × Unit) (Bool × Unit) (Unit) :=
(if (decide (x.2.2.1 < (x.2.1.2.2.2.2.2.1.length : Int))) then
(if inb x.2.2.1 x.2.1.2.2.2.2.2.1.length then
(cD (x.1, ((rd (dfl .note) x.2.1.2.2.2.2.2.1 x.2.2.1).fr, (rd (dfl .note) x.2.1.2.2.2.2.2.1 x.2.2.1).nu, (rd (dfl .note) x.2.1.2.2.2.2.2.1 x.2.2.1).to, (rd (dfl .note) x.2.1.2.2.2.2.2.1 x.2.2.1).un, (rd (dfl .note) x.2.1.2.2.2.2.2.1 x.2.2.1).tx, ()), ())).bind fun r24 =>
(if (!r24.1.1) then
some (.inr (.inl (false, ())))
else
(au (eV (x.1, x.2.1, x.2.2.1, 0, ()))
(fun y25 => some (.inr (.inl y25)))
(fun y25 => some (.inl (y25.1, y25.2.1, (w64 (y25.2.2.1 + 1)), ())))))
else none)
else
some (.inr (.inr ())))
noncomputable def eW := ax d8
noncomputable def nq : Loop := ⟨[(2, Z16), (5, Z11), (8, .int .i64)], [], 2, [(4, .bool)], eW⟩
theorem zj : LF Tryz.f17 [] [1, 1, 1, 0, 1, 0, 0] nq := lk (v := .two (.nil) (.two (.one (.two (.nil) (.two (.nil) (.one (.loop np))))) (.nil))) gz (b := d8) (fun _ => by kernel_rfl) rfl (by kernel_rfl) (kC zg (kN))
noncomputable def d9 (x : Y6 × Y7 × Int × Unit) : Rnd (Y6 × Y7 × Int × Unit) (Bool × Unit) (Y6 × Y7 × Unit) :=
(if (decide (x.2.2.1 < (x.2.1.2.2.2.1.length : Int))) then
(if inb x.2.2.1 x.2.1.2.2.2.1.length then
(cD (x.1, ((rd (dfl .note) x.2.1.2.2.2.1 x.2.2.1).fr, (rd (dfl .note) x.2.1.2.2.2.1 x.2.2.1).nu, (rd (dfl .note) x.2.1.2.2.2.1 x.2.2.1).to, (rd (dfl .note) x.2.1.2.2.2.1 x.2.2.1).un, (rd (dfl .note) x.2.1.2.2.2.1 x.2.2.1).tx, ()), ())).bind fun r8 =>
(if (!r8.1.1) then
some (.inr (.inl (false, ())))
else
some (.inl (x.1, x.2.1, (w64 (x.2.2.1 + 1)), ())))
else none)
else
some (.inr (.inr (x.1, x.2.1, ()))))
noncomputable def eX := ax d9
noncomputable def nr : Loop := ⟨[(2, Z16), (5, Z11), (7, .int .i64)], [(2, Z16), (5, Z11)], 0, [(4, .bool)], eX⟩
theorem zq : LF Tryz.f17 [] [1, 1, 0, 1, 0, 0] nr := lk (v := .nil) gz (b := d9) (fun _ => by kernel_rfl) rfl (by kernel_rfl) (kN)
noncomputable def fT (x : Y6 × Int × Unit) : Option ((Bool × Unit) × Unit) :=
(if inb x.2.1 x.1.2.1.length then
(cf (((rd (dfl .keeper) x.1.2.1 x.2.1).id, (rd (dfl .keeper) x.1.2.1 x.2.1).up, (rd (dfl .keeper) x.1.2.1 x.2.1).log, (rd (dfl .keeper) x.1.2.1 x.2.1).fo, (rd (dfl .keeper) x.1.2.1 x.2.1).halves, ()), ())).bind fun r1 =>
(au (eX (x.1, r1.1.1, 0, ()))
(fun y9 => some (y9, ()))
(fun y9 => (au (eW (y9.1, y9.2.1, 0, ()))
(fun y26 => some (y26, ()))
(fun y26 => some ((true, ()), ())))))
else none)
noncomputable def qa : Ent := (17, none, ⟨[Z6, .int .i64], [.bool], fT⟩)
theorem sL : SQ Tryz.prog qa := so (v := .two (.nil) (.two (.nil) (.two (.two (.nil) (.one (.loop nr))) (.two (.two (.nil) (.one (.loop nq))) (.nil))))) (fn := Tryz.f17) gz (by kernel_rfl) (by kernel_rfl) (by kernel_rfl) (kC zq (kC zj (kN))) (fun _ => by kernel_rfl)
noncomputable def Aj : Cx := cX [t6, tU, tT, mE, qa] [] [(39, 47), (54, 57), (85, 97)]
theorem cr : OKC Tryz.prog Aj ae := okc mixed (gC xC (gC xu (gC xt (gC mH (gC sL (an))))))
noncomputable def eu (x : Y6 × Int × Y5 × Int × Unit) : Rnd (Y6 × Int × Y5 × Int × Unit) (Bool × Unit) (Y6 × Int × Y5 × Unit) :=
(if (decide (x.2.2.2.1 < x.2.1)) then
(if inb x.2.2.2.1 x.1.2.2.2.2.1.length then
(if (aF (decide ((rd (dfl .note) x.1.2.2.2.2.1 x.2.2.2.1).fr = x.2.2.1.1)) (inb x.2.2.2.1 x.1.2.2.2.2.1.length)) then
(if ((decide ((rd (dfl .note) x.1.2.2.2.2.1 x.2.2.2.1).fr = x.2.2.1.1)) && (decide ((rd (dfl .note) x.1.2.2.2.2.1 x.2.2.2.1).nu = x.2.2.1.2.1))) then
some (.inr (.inl (false, ())))
else
some (.inl (x.1, x.2.1, x.2.2.1, (w64 (x.2.2.2.1 + 1)), ())))
else none)
else none)
else
some (.inr (.inr (x.1, x.2.1, x.2.2.1, ()))))
noncomputable def fh := ax eu
noncomputable def nD : Loop := ⟨[(1, Z16), (3, .int .i64), (4, Z8), (5, .int .i64)], [(1, Z16), (3, .int .i64), (4, Z8)], 2, [(2, .bool)], fh⟩
theorem zm : LF Tryz.f5 [] [1, 1, 0, 1, 0, 0, 1, 0, 0, 1, 0, 1, 0, 0] nD := lk (v := .nil) cr (b := eu) (fun _ => by kernel_rfl) rfl (by kernel_rfl) (kN)
noncomputable def em (x : Y6 × Int × Int × Unit) : Rnd (Y6 × Int × Int × Unit) (Bool × Unit) (Y6 × Int × Unit) :=
(if (decide (x.2.2.1 < x.2.1)) then
(if inb x.2.2.1 x.1.2.2.2.2.2.1.length then
(if inb x.2.1 x.1.2.2.2.2.2.1.length then
(if (aF (decide ((rd (dfl .note) x.1.2.2.2.2.2.1 x.2.2.1).fr = (rd (dfl .note) x.1.2.2.2.2.2.1 x.2.1).fr)) (inb x.2.2.1 x.1.2.2.2.2.2.1.length)) then
(if (aF (decide ((rd (dfl .note) x.1.2.2.2.2.2.1 x.2.2.1).fr = (rd (dfl .note) x.1.2.2.2.2.2.1 x.2.1).fr)) (inb x.2.1 x.1.2.2.2.2.2.1.length)) then
(if ((decide ((rd (dfl .note) x.1.2.2.2.2.2.1 x.2.2.1).fr = (rd (dfl .note) x.1.2.2.2.2.2.1 x.2.1).fr)) && (decide ((rd (dfl .note) x.1.2.2.2.2.2.1 x.2.2.1).nu = (rd (dfl .note) x.1.2.2.2.2.2.1 x.2.1).nu))) then
some (.inr (.inl (false, ())))
else
some (.inl (x.1, x.2.1, (w64 (x.2.2.1 + 1)), ())))
else none)
else none)
else none)
else none)
else
some (.inr (.inr (x.1, x.2.1, ()))))
noncomputable def ff := ax em
noncomputable def nB : Loop := ⟨[(1, Z16), (6, .int .i64), (7, .int .i64)], [(1, Z16), (6, .int .i64)], 6, [(2, .bool)], ff⟩
theorem ze : LF Tryz.f5 [] [1, 1, 1, 0, 1, 0, 0, 1, 0, 0, 0, 1, 0, 0] nB := lk (v := .nil) cr (b := em) (fun _ => by kernel_rfl) rfl (by kernel_rfl) (kN)
noncomputable def el (x : Y6 × Int × Unit) : Rnd (Y6 × Int × Unit) (Bool × Unit) (Unit) :=
(if (decide (x.2.1 < (x.1.2.1.length : Int))) then
(fT x).bind fun r76 =>
(if (!r76.1.1) then
some (.inr (.inl (false, ())))
else
some (.inl (x.1, (w64 (x.2.1 + 1)), ())))
else
some (.inr (.inr ())))
noncomputable def fe := ax el
noncomputable def nz : Loop := ⟨[(1, Z16), (8, .int .i64)], [], 8, [(2, .bool)], fe⟩
theorem zc : LF Tryz.f5 [] [1, 1, 1, 1, 0, 1, 0, 0] nz := lk (v := .nil) cr (b := el) (fun _ => by kernel_rfl) rfl (by kernel_rfl) (kN)
noncomputable def er (x : Y6 × Int × Unit) : Rnd (Y6 × Int × Unit) (Bool × Unit) (Y6 × Unit) :=
(if (decide (x.2.1 < (x.1.2.2.2.2.2.1.length : Int))) then
(au (ff (x.1, x.2.1, 0, ()))
(fun y67 => some (.inr (.inl y67)))
(fun y67 => (if inb y67.2.1 y67.1.2.2.2.2.2.1.length then
(cD (y67.1, ((rd (dfl .note) y67.1.2.2.2.2.2.1 y67.2.1).fr, (rd (dfl .note) y67.1.2.2.2.2.2.1 y67.2.1).nu, (rd (dfl .note) y67.1.2.2.2.2.2.1 y67.2.1).to, (rd (dfl .note) y67.1.2.2.2.2.2.1 y67.2.1).un, (rd (dfl .note) y67.1.2.2.2.2.2.1 y67.2.1).tx, ()), ())).bind fun r68 =>
(if (!r68.1.1) then
some (.inr (.inl (false, ())))
else
some (.inl (y67.1, (w64 (y67.2.1 + 1)), ())))
else none)))
else
some (.inr (.inr (x.1, ()))))
noncomputable def fg := ax er
noncomputable def nC : Loop := ⟨[(1, Z16), (6, .int .i64)], [(1, Z16)], 4, [(2, .bool)], fg⟩
theorem zh : LF Tryz.f5 [] [1, 1, 1, 0, 1, 0, 0] nC := lk (v := .two (.nil) (.two (.one (.two (.two (.nil) (.one (.loop nB))) (.nil))) (.nil))) cr (b := er) (fun _ => by kernel_rfl) rfl (by kernel_rfl) (kC ze (kN))
noncomputable def ey (x : Y6 × Int × Unit) : Rnd (Y6 × Int × Unit) (Bool × Unit) (Y6 × Unit) :=
(if (decide (x.2.1 < (x.1.2.2.2.2.1.length : Int))) then
(if inb x.2.1 x.1.2.2.2.2.1.length then
let v45 := (rd (dfl .note) x.1.2.2.2.2.1 x.2.1).fr
let v46 := (rd (dfl .note) x.1.2.2.2.2.1 x.2.1).nu
let v47 := (rd (dfl .note) x.1.2.2.2.2.1 x.2.1).to
let v48 := (rd (dfl .note) x.1.2.2.2.2.1 x.2.1).un
let v49 := (rd (dfl .note) x.1.2.2.2.2.1 x.2.1).tx
(au (fh (x.1, x.2.1, (v45, v46, v47, v48, v49, ()), 0, ()))
(fun y50 => some (.inr (.inl y50)))
(fun y50 => (jC (y50.1, y50.2.2)).bind fun r51 =>
(if (aF (!r51.1.1) ((eU (y50.1, y50.2.2)).isSome)) then
(if ((!r51.1.1) && (!(((eU (y50.1, y50.2.2)).getD ((false, ()), ())).1.1))) then
some (.inr (.inl (false, ())))
else
some (.inl (y50.1, (w64 (y50.2.1 + 1)), ())))
else none)))
else none)
else
some (.inr (.inr (x.1, ()))))
noncomputable def fj := ax ey
noncomputable def nE : Loop := ⟨[(1, Z16), (3, .int .i64)], [(1, Z16)], 0, [(2, .bool)], fj⟩
theorem zu : LF Tryz.f5 [] [1, 1, 0, 1, 0, 0] nE := lk (v := .two (.nil) (.two (.one (.two (.nil) (.two (.two (.nil) (.one (.loop nD))) (.nil)))) (.nil))) cr (b := ey) (fun _ => by kernel_rfl) rfl (by kernel_rfl) (kC zm (kN))
noncomputable def fX (x : Y6 × Unit) : Option ((Bool × Unit) × Unit) :=
(jL x).bind fun r2 =>
(if (!r2.1.1) then
some ((false, ()), ())
else
(au (fj (x.1, 0, ()))
(fun y52 => some (y52, ()))
(fun y52 => (au (fg (y52.1, 0, ()))
(fun y69 => some (y69, ()))
(fun y69 => (au (fe (y69.1, 0, ()))
(fun y77 => some (y77, ()))
(fun y77 => some ((true, ()), ()))))))))
noncomputable def qc : Ent := (5, none, ⟨[Z6], [.bool], fX⟩)
theorem sR : SQ Tryz.prog qc := so (v := .two (.nil) (.two (.nil) (.two (.two (.nil) (.one (.loop nE))) (.two (.two (.nil) (.one (.loop nC))) (.two (.two (.nil) (.one (.loop nz))) (.nil)))))) (fn := Tryz.f5) cr (by kernel_rfl) (by kernel_rfl) (by kernel_rfl) (kC zu (kC zh (kC zc (kN)))) (fun _ => by kernel_rfl)
noncomputable def Dn : Cx := cX [] [] []
theorem G9 : OKC Tryz.prog Dn ae := okc mixed (an)
noncomputable def nK (x : Y0 × Unit) : Option ((Y0 × Unit) × Unit) :=
some (x, ())
noncomputable def t7 : Ent := (62, none, ⟨[Z0], [Z0], nK⟩)
theorem xH : SQ Tryz.prog t7 := so (v := .nil) (fn := Tryz.f62) G9 (by kernel_rfl) (by kernel_rfl) (by kernel_rfl) (kN) (fun _ => by kernel_rfl)
noncomputable def Dq : Cx := cX [] [] []
theorem Hb : OKC Tryz.prog Dq ae := okc mixed (an)
noncomputable def nM (x : Y1 × Unit) : Option ((Y1 × Unit) × Unit) :=
some (x, ())
noncomputable def ub : Ent := (123, none, ⟨[Z1], [Z1], nM⟩)
theorem xK : SQ Tryz.prog ub := so (v := .nil) (fn := Tryz.f123) Hb (by kernel_rfl) (by kernel_rfl) (by kernel_rfl) (kN) (fun _ => by kernel_rfl)
noncomputable def BB : Cx := cX [ub] [] []
theorem sw : OKC Tryz.prog BB ae := okc mixed (gC xK (an))
noncomputable def gf (x : List Mixed × List Mixed × Int × Unit) : Rnd (List Mixed × List Mixed × Int × Unit) (Unit) (List Mixed × Unit) :=
(if (decide (x.2.2.1 < (x.1.length : Int))) then
(if inb x.2.2.1 x.1.length then
(nM (((rd (dfl .mixed) x.1 x.2.2.1).nu, (rd (dfl .mixed) x.1 x.2.2.1).da, ()), ())).bind fun r7 =>
(if inb x.2.2.1 x.2.1.length then
some (.inl (x.1, (List.set x.2.1 (Int.toNat x.2.2.1) (Mixed.mk r7.1.1.1 r7.1.1.2.1)), (w64 (x.2.2.1 + 1)), ()))
else none)
else none)
else
some (.inr (.inr (x.2.1, ()))))
noncomputable def gH := ax gf
noncomputable def oR : Loop := ⟨[(0, .sl .mixed), (3, .row 125 .mixed), (4, .int .i64)], [(3, .row 125 .mixed)], 0, [], gH⟩
theorem A6 : LF Tryz.f93 [] [1, 1, 0, 1, 0, 0] oR := lk (v := .nil) sw (b := gf) (fun _ => by kernel_rfl) rfl (by kernel_rfl) (kN)
noncomputable def iu (x : List Mixed × Unit) : Option ((List Mixed × Unit) × Unit) :=
(if decide (0 ≤ (x.1.length : Int)) && decide ((x.1.length : Int) ≤ 4294967296) then
(au (gH (x.1, (List.replicate (Int.toNat (x.1.length : Int)) (dfl .mixed)), 0, ()))
(fun _ => none)
(fun y8 => some (y8, ())))
else none)
noncomputable def rW : Ent := (93, none, ⟨[.fz .mixed], [.row 125 .mixed], iu⟩)
theorem vI : SQ Tryz.prog rW := so (v := .two (.nil) (.two (.nil) (.two (.two (.nil) (.one (.loop oR))) (.nil)))) (fn := Tryz.f93) sw (by kernel_rfl) (by kernel_rfl) (by kernel_rfl) (kC A6 (kN)) (fun _ => by kernel_rfl)
noncomputable def GD : Cx := cX [rW] [] []
theorem Ix : OKC Tryz.prog GD ae := okc mixed (gC vI (an))
noncomputable def lR (x : Y2 × Unit) : Option ((Y2 × Unit) × Unit) :=
(iu x.1.2.2.2.2.2).bind fun r1 =>
some (((x.1.1, x.1.2.1, x.1.2.2.1, x.1.2.2.2.1, x.1.2.2.2.2.1, r1.1), ()), ())
noncomputable def wL : Ent := (81, none, ⟨[Z2], [Z17], lR⟩)
theorem yZ : SQ Tryz.prog wL := so (v := .nil) (fn := Tryz.f81) Ix (by kernel_rfl) (by kernel_rfl) (by kernel_rfl) (kN) (fun _ => by kernel_rfl)
noncomputable def Dr : Cx := cX [wL] [] []
theorem uK : OKC Tryz.prog Dr ae := okc mixed (gC yZ (an))
noncomputable def iw (x : List Half × List Half × Int × Unit) : Rnd (List Half × List Half × Int × Unit) (Unit) (List Half × Unit) :=
(if (decide (x.2.2.1 < (x.1.length : Int))) then
(if inb x.2.2.1 x.1.length then
(lR (((rd (dfl .half) x.1 x.2.2.1).fr, (rd (dfl .half) x.1 x.2.2.1).nu, (rd (dfl .half) x.1 x.2.2.1).to, (rd (dfl .half) x.1 x.2.2.1).un, (rd (dfl .half) x.1 x.2.2.1).sz, (rd (dfl .half) x.1 x.2.2.1).got, ()), ())).bind fun r7 =>
(if inb x.2.2.1 x.2.1.length then
some (.inl (x.1, (List.set x.2.1 (Int.toNat x.2.2.1) (Half.mk r7.1.1.1 r7.1.1.2.1 r7.1.1.2.2.1 r7.1.1.2.2.2.1 r7.1.1.2.2.2.2.1 r7.1.1.2.2.2.2.2.1)), (w64 (x.2.2.1 + 1)), ()))
else none)
else none)
else
some (.inr (.inr (x.2.1, ()))))
noncomputable def jb := ax iw
noncomputable def pM : Loop := ⟨[(0, .sl .half), (3, .row 105 .half), (4, .int .i64)], [(3, .row 105 .half)], 0, [], jb⟩
theorem CR : LF Tryz.f63 [] [1, 1, 0, 1, 0, 0] pM := lk (v := .nil) uK (b := iw) (fun _ => by kernel_rfl) rfl (by kernel_rfl) (kN)
noncomputable def ka (x : List Half × Unit) : Option ((List Half × Unit) × Unit) :=
(if decide (0 ≤ (x.1.length : Int)) && decide ((x.1.length : Int) ≤ 4294967296) then
(au (jb (x.1, (List.replicate (Int.toNat (x.1.length : Int)) (dfl .half)), 0, ()))
(fun _ => none)
(fun y8 => some (y8, ())))
else none)
noncomputable def ue : Ent := (63, none, ⟨[.fz .half], [.row 105 .half], ka⟩)
theorem xL : SQ Tryz.prog ue := so (v := .two (.nil) (.two (.nil) (.two (.two (.nil) (.one (.loop pM))) (.nil)))) (fn := Tryz.f63) uK (by kernel_rfl) (by kernel_rfl) (by kernel_rfl) (kC CR (kN)) (fun _ => by kernel_rfl)
noncomputable def BC : Cx := cX [t7, ue] [] []
theorem DU : OKC Tryz.prog BC ae := okc mixed (gC xH (gC xL (an)))
noncomputable def iv (x : Y3 × Unit) : Option ((Y3 × Unit) × Unit) :=
(nK ((x.1.2.2.1, x.1.2.2.2.1, ()), ())).bind fun r1 =>
(ka x.1.2.2.2.2).bind fun r2 =>
some (((x.1.1, x.1.2.1, r1.1.1.1, r1.1.1.2.1, r2.1), ()), ())
noncomputable def rX : Ent := (43, none, ⟨[Z3], [Z18], iv⟩)
theorem vJ : SQ Tryz.prog rX := so (v := .nil) (fn := Tryz.f43) DU (by kernel_rfl) (by kernel_rfl) (by kernel_rfl) (kN) (fun _ => by kernel_rfl)
noncomputable def An : Cx := cX [rX] [] []
theorem qv : OKC Tryz.prog An ae := okc mixed (gC vJ (an))
noncomputable def eC (x : List Keeper × List Keeper × Int × Unit) : Rnd (List Keeper × List Keeper × Int × Unit) (Unit) (List Keeper × Unit) :=
(if (decide (x.2.2.1 < (x.1.length : Int))) then
(if inb x.2.2.1 x.1.length then
(iv (((rd (dfl .keeper) x.1 x.2.2.1).id, (rd (dfl .keeper) x.1 x.2.2.1).up, (rd (dfl .keeper) x.1 x.2.2.1).log, (rd (dfl .keeper) x.1 x.2.2.1).fo, (rd (dfl .keeper) x.1 x.2.2.1).halves, ()), ())).bind fun r7 =>
(if inb x.2.2.1 x.2.1.length then
some (.inl (x.1, (List.set x.2.1 (Int.toNat x.2.2.1) (Keeper.mk r7.1.1.1 r7.1.1.2.1 r7.1.1.2.2.1 r7.1.1.2.2.2.1 r7.1.1.2.2.2.2.1)), (w64 (x.2.2.1 + 1)), ()))
else none)
else none)
else
some (.inr (.inr (x.2.1, ()))))
noncomputable def fw := ax eC
noncomputable def nN : Loop := ⟨[(0, .sl .keeper), (3, .row 56 .keeper), (4, .int .i64)], [(3, .row 56 .keeper)], 0, [], fw⟩
theorem zw : LF Tryz.f18 [] [1, 1, 0, 1, 0, 0] nN := lk (v := .nil) qv (b := eC) (fun _ => by kernel_rfl) rfl (by kernel_rfl) (kN)
noncomputable def gh (x : List Keeper × Unit) : Option ((List Keeper × Unit) × Unit) :=
(if decide (0 ≤ (x.1.length : Int)) && decide ((x.1.length : Int) ≤ 4294967296) then
(au (fw (x.1, (List.replicate (Int.toNat (x.1.length : Int)) (dfl .keeper)), 0, ()))
(fun _ => none)
(fun y8 => some (y8, ())))
else none)
noncomputable def qg : Ent := (18, none, ⟨[.fz .keeper], [.row 56 .keeper], gh⟩)
theorem tp : SQ Tryz.prog qg := so (v := .two (.nil) (.two (.nil) (.two (.two (.nil) (.one (.loop nN))) (.nil)))) (fn := Tryz.f18) qv (by kernel_rfl) (by kernel_rfl) (by kernel_rfl) (kC zw (kN)) (fun _ => by kernel_rfl)
noncomputable def Ds : Cx := cX [] [] []
theorem uL : OKC Tryz.prog Ds ae := okc mixed (an)
noncomputable def iy (x : List Bool × List Bool × Int × Unit) : Rnd (List Bool × List Bool × Int × Unit) (Unit) (List Bool × Unit) :=
(if (decide (x.2.2.1 < (x.1.length : Int))) then
(if inb x.2.2.1 x.1.length then
(if inb x.2.2.1 x.2.1.length then
let v7 := (rd (dfl .bool) x.1 x.2.2.1)
some (.inl (x.1, (List.set x.2.1 (Int.toNat x.2.2.1) v7), (w64 (x.2.2.1 + 1)), ()))
else none)
else none)
else
some (.inr (.inr (x.2.1, ()))))
noncomputable def jc := ax iy
noncomputable def pN : Loop := ⟨[(0, .sl .bool), (3, .row 4 .bool), (4, .int .i64)], [(3, .row 4 .bool)], 0, [], jc⟩
theorem CS : LF Tryz.f19 [] [1, 1, 0, 1, 0, 0] pN := lk (v := .nil) uL (b := iy) (fun _ => by kernel_rfl) rfl (by kernel_rfl) (kN)
noncomputable def kb (x : List Bool × Unit) : Option ((List Bool × Unit) × Unit) :=
(if decide (0 ≤ (x.1.length : Int)) && decide ((x.1.length : Int) ≤ 4294967296) then
(au (jc (x.1, (List.replicate (Int.toNat (x.1.length : Int)) (dfl .bool)), 0, ()))
(fun _ => none)
(fun y8 => some (y8, ())))
else none)
noncomputable def uf : Ent := (19, none, ⟨[.fz .bool], [.row 4 .bool], kb⟩)
theorem xM : SQ Tryz.prog uf := so (v := .two (.nil) (.two (.nil) (.two (.two (.nil) (.one (.loop pN))) (.nil)))) (fn := Tryz.f19) uL (by kernel_rfl) (by kernel_rfl) (by kernel_rfl) (kC CS (kN)) (fun _ => by kernel_rfl)
noncomputable def BA : Cx := cX [] [] []
theorem DT : OKC Tryz.prog BA ae := okc mixed (an)
noncomputable def mw (x : Y4 × Unit) : Option ((Y4 × Unit) × Unit) :=
some (x, ())
noncomputable def rV : Ent := (44, none, ⟨[Z4], [Z4], mw⟩)
theorem vH : SQ Tryz.prog rV := so (v := .nil) (fn := Tryz.f44) DT (by kernel_rfl) (by kernel_rfl) (by kernel_rfl) (kN) (fun _ => by kernel_rfl)
noncomputable def Am : Cx := cX [rV] [] []
theorem qu : OKC Tryz.prog Am ae := okc mixed (gC vH (an))
noncomputable def eB (x : List Parcel × List Parcel × Int × Unit) : Rnd (List Parcel × List Parcel × Int × Unit) (Unit) (List Parcel × Unit) :=
(if (decide (x.2.2.1 < (x.1.length : Int))) then
(if inb x.2.2.1 x.1.length then
(mw (((rd (dfl .parcel) x.1 x.2.2.1).src, (rd (dfl .parcel) x.1 x.2.2.1).dst, (rd (dfl .parcel) x.1 x.2.2.1).data, (rd (dfl .parcel) x.1 x.2.2.1).sp, ()), ())).bind fun r7 =>
(if inb x.2.2.1 x.2.1.length then
some (.inl (x.1, (List.set x.2.1 (Int.toNat x.2.2.1) (Parcel.mk r7.1.1.1 r7.1.1.2.1 r7.1.1.2.2.1 r7.1.1.2.2.2.1)), (w64 (x.2.2.1 + 1)), ()))
else none)
else none)
else
some (.inr (.inr (x.2.1, ()))))
noncomputable def fu := ax eB
noncomputable def nL : Loop := ⟨[(0, .sl .parcel), (3, .row 81 .parcel), (4, .int .i64)], [(3, .row 81 .parcel)], 0, [], fu⟩
theorem zv : LF Tryz.f20 [] [1, 1, 0, 1, 0, 0] nL := lk (v := .nil) qu (b := eB) (fun _ => by kernel_rfl) rfl (by kernel_rfl) (kN)
noncomputable def gc (x : List Parcel × Unit) : Option ((List Parcel × Unit) × Unit) :=
(if decide (0 ≤ (x.1.length : Int)) && decide ((x.1.length : Int) ≤ 4294967296) then
(au (fu (x.1, (List.replicate (Int.toNat (x.1.length : Int)) (dfl .parcel)), 0, ()))
(fun _ => none)
(fun y8 => some (y8, ())))
else none)
noncomputable def qf : Ent := (20, none, ⟨[.fz .parcel], [.row 81 .parcel], gc⟩)
theorem tn : SQ Tryz.prog qf := so (v := .two (.nil) (.two (.nil) (.two (.two (.nil) (.one (.loop nL))) (.nil)))) (fn := Tryz.f20) qu (by kernel_rfl) (by kernel_rfl) (by kernel_rfl) (kC zv (kN)) (fun _ => by kernel_rfl)
noncomputable def GC : Cx := cX [] [] []
theorem Iw : OKC Tryz.prog GC ae := okc mixed (an)
noncomputable def pg (x : Y5 × Unit) : Option ((Y5 × Unit) × Unit) :=
some (x, ())
noncomputable def wK : Ent := (45, none, ⟨[Z5], [Z5], pg⟩)
theorem yY : SQ Tryz.prog wK := so (v := .nil) (fn := Tryz.f45) Iw (by kernel_rfl) (by kernel_rfl) (by kernel_rfl) (kN) (fun _ => by kernel_rfl)
noncomputable def Dp : Cx := cX [wK] [] []
theorem uJ : OKC Tryz.prog Dp ae := okc mixed (gC yY (an))
noncomputable def is (x : List Note × List Note × Int × Unit) : Rnd (List Note × List Note × Int × Unit) (Unit) (List Note × Unit) :=
(if (decide (x.2.2.1 < (x.1.length : Int))) then
(if inb x.2.2.1 x.1.length then
(pg (((rd (dfl .note) x.1 x.2.2.1).fr, (rd (dfl .note) x.1 x.2.2.1).nu, (rd (dfl .note) x.1 x.2.2.1).to, (rd (dfl .note) x.1 x.2.2.1).un, (rd (dfl .note) x.1 x.2.2.1).tx, ()), ())).bind fun r7 =>
(if inb x.2.2.1 x.2.1.length then
some (.inl (x.1, (List.set x.2.1 (Int.toNat x.2.2.1) (Note.mk r7.1.1.1 r7.1.1.2.1 r7.1.1.2.2.1 r7.1.1.2.2.2.1 r7.1.1.2.2.2.2.1)), (w64 (x.2.2.1 + 1)), ()))
else none)
else none)
else
some (.inr (.inr (x.2.1, ()))))
noncomputable def ja := ax is
noncomputable def pL : Loop := ⟨[(0, .sl .note), (3, .row 43 .note), (4, .int .i64)], [(3, .row 43 .note)], 0, [], ja⟩
theorem CQ : LF Tryz.f21 [] [1, 1, 0, 1, 0, 0] pL := lk (v := .nil) uJ (b := is) (fun _ => by kernel_rfl) rfl (by kernel_rfl) (kN)
noncomputable def fv (x : List Note × Unit) : Option ((List Note × Unit) × Unit) :=
(if decide (0 ≤ (x.1.length : Int)) && decide ((x.1.length : Int) ≤ 4294967296) then
(au (ja (x.1, (List.replicate (Int.toNat (x.1.length : Int)) (dfl .note)), 0, ()))
(fun _ => none)
(fun y8 => some (y8, ())))
else none)
noncomputable def ua : Ent := (21, none, ⟨[.fz .note], [.row 43 .note], fv⟩)
theorem xJ : SQ Tryz.prog ua := so (v := .two (.nil) (.two (.nil) (.two (.two (.nil) (.one (.loop pL))) (.nil)))) (fn := Tryz.f21) uJ (by kernel_rfl) (by kernel_rfl) (by kernel_rfl) (kC CQ (kN)) (fun _ => by kernel_rfl)
noncomputable def Do : Cx := cX [qg, uf, qf, ua] [] []
theorem Ha : OKC Tryz.prog Do ae := okc mixed (gC tp (gC xM (gC tn (gC xJ (an)))))
noncomputable def dk (x : Y6 × Unit) : Option ((Y6 × Unit) × Unit) :=
(gh (x.1.2.1, ())).bind fun r1 =>
(kb (x.1.2.2.1, ())).bind fun r2 =>
(gc (x.1.2.2.2.1, ())).bind fun r3 =>
(fv (x.1.2.2.2.2.1, ())).bind fun r4 =>
(fv x.1.2.2.2.2.2).bind fun r5 =>
some (((x.1.1, r1.1.1, r2.1.1, r3.1.1, r4.1.1, r5.1), ()), ())
noncomputable def t8 : Ent := (6, none, ⟨[Z6], [Z19], dk⟩)
theorem xI : SQ Tryz.prog t8 := so (v := .nil) (fn := Tryz.f6) Ha (by kernel_rfl) (by kernel_rfl) (by kernel_rfl) (kN) (fun _ => by kernel_rfl)
noncomputable def M6 : Cx := cX [] [] [(11, 13)]
theorem O9 : OKC Tryz.prog M6 ae := okc mixed (an)
noncomputable def aE (x : Int × Int × Int × Unit) : Option ((Bool × Unit) × Unit) :=
let v2 := ((decide (x.2.1 ≤ x.1)) && (decide (x.1 ≤ x.2.2.1)))
some ((v2, ()), ())
noncomputable def cI : Ent := (46, none, ⟨[.int .i64, .int .i64, .int .i64], [.bool], aE⟩)
theorem bf : SQ Tryz.prog cI := so (v := .nil) (fn := Tryz.f46) O9 (by kernel_rfl) (by kernel_rfl) (by kernel_rfl) (kN) (fun _ => by kernel_rfl)
noncomputable def GO : Cx := cX [cI] [] []
theorem ID : OKC Tryz.prog GO ae := okc mixed (gC bf (an))
noncomputable def aN (x : Int × Unit) : Option ((Bool × Unit) × Unit) :=
(aE (x.1, 0, 3, ())).bind fun r1 =>
some (r1.1, ())
noncomputable def bn : Ent := (49, none, ⟨[.int .i64], [.bool], aN⟩)
theorem aW : SQ Tryz.prog bn := so (v := .nil) (fn := Tryz.f49) ID (by kernel_rfl) (by kernel_rfl) (by kernel_rfl) (kN) (fun _ => by kernel_rfl)
noncomputable def GI : Cx := cX [cI] [] []
theorem xc : OKC Tryz.prog GI ae := okc mixed (gC bf (an))
noncomputable def ko (x : ByteArray × Int × Unit) : Rnd (ByteArray × Int × Unit) (Bool × Unit) (ByteArray × Unit) :=
(if (decide (x.2.1 < (x.1.size : Int))) then
(if inb x.2.1 x.1.size then
(aE ((w64 (bt x.1 x.2.1)), 32, 126, ())).bind fun r7 =>
(if (!r7.1.1) then
some (.inr (.inl (false, ())))
else
some (.inl (x.1, (w64 (x.2.1 + 1)), ())))
else none)
else
some (.inr (.inr (x.1, ()))))
noncomputable def kn := ax ko
noncomputable def rz : Loop := ⟨[(0, .str), (3, .int .i64)], [(0, .str)], 0, [(2, .bool)], kn⟩
theorem FU : LF Tryz.f82 [] [1, 0, 1, 0, 0] rz := lk (v := .nil) xc (b := ko) (fun _ => by kernel_rfl) rfl (by kernel_rfl) (kN)
noncomputable def cj (x : ByteArray × Unit) : Option ((Bool × Unit) × Unit) :=
(au (kn (x.1, 0, ()))
(fun y8 => some (y8, ()))
(fun y8 => (aE ((y8.1.size : Int), 1, 24, ())).bind fun r9 =>
some (r9.1, ())))
noncomputable def wQ : Ent := (82, none, ⟨[.str], [.bool], cj⟩)
theorem zF : SQ Tryz.prog wQ := so (v := .two (.nil) (.two (.two (.nil) (.one (.loop rz))) (.nil))) (fn := Tryz.f82) xc (by kernel_rfl) (by kernel_rfl) (by kernel_rfl) (kC FU (kN)) (fun _ => by kernel_rfl)
noncomputable def GW : Cx := cX [cI, bn, wQ] [] [(22, 24)]
theorem II : OKC Tryz.prog GW ae := okc mixed (gC bf (gC aW (gC zF (an))))
noncomputable def cl (x : Y5 × Unit) : Option ((Bool × Unit) × Unit) :=
(aN (x.1.1, ())).bind fun r6 =>
(if r6.1.1 then
(aN (x.1.2.2.1, ())).bind fun r7 =>
(if r7.1.1 then
(aE (x.1.2.1, 1, 99, ())).bind fun r8 =>
(if r8.1.1 then
(aE (x.1.2.2.2.1, 1, 999, ())).bind fun r9 =>
(if (aF r9.1.1 ((cj x.1.2.2.2.2).isSome)) then
let v10 := (r9.1.1 && (((cj x.1.2.2.2.2).getD ((false, ()), ())).1.1))
some ((v10, ()), ())
else none)
else
(if (aF false ((cj x.1.2.2.2.2).isSome)) then
some ((false, ()), ())
else none))
else
(if (aF false ((cj x.1.2.2.2.2).isSome)) then
some ((false, ()), ())
else none))
else
(if (aF false ((cj x.1.2.2.2.2).isSome)) then
some ((false, ()), ())
else none))
noncomputable def dX : Ent := (64, none, ⟨[Z5], [.bool], cl⟩)
theorem cQ : SQ Tryz.prog dX := so (v := .nil) (fn := Tryz.f64) II (by kernel_rfl) (by kernel_rfl) (by kernel_rfl) (kN) (fun _ => by kernel_rfl)
noncomputable def Io : Cx := cX [dX] [] []
theorem AA : OKC Tryz.prog Io ae := okc mixed (gC cQ (an))
noncomputable def l5 (x : List Note × List Note × Int × Int × Unit) : Rnd (List Note × List Note × Int × Int × Unit) (Bool × Unit) (List Note × Unit) :=
(if (decide (x.2.2.2.1 < x.2.2.1)) then
(if inb x.2.2.2.1 x.2.1.length then
let v32 := (rd (dfl .note) x.2.1 x.2.2.2.1).fr
let v33 := (rd (dfl .note) x.2.1 x.2.2.2.1).nu
let v34 := (rd (dfl .note) x.2.1 x.2.2.2.1).to
let v35 := (rd (dfl .note) x.2.1 x.2.2.2.1).un
let v36 := (rd (dfl .note) x.2.1 x.2.2.2.1).tx
(cl ((v32, v33, v34, v35, v36, ()), ())).bind fun r37 =>
(if (!r37.1.1) then
some (.inr (.inl (false, ())))
else
some (.inl (x.1, x.2.1, x.2.2.1, (w64 (x.2.2.2.1 + 1)), ())))
else none)
else
some (.inr (.inr (x.1, ()))))
noncomputable def lB := ax l5
noncomputable def tF : Loop := ⟨[(0, .sl .note), (5, .sl .note), (6, .int .i64), (7, .int .i64)], [(0, .sl .note)], 0, [(2, .bool)], lB⟩
theorem H7 : LF Tryz.f47 [] [1, 0, 1, 0, 0] tF := lk (v := .nil) AA (b := l5) (fun _ => by kernel_rfl) rfl (by kernel_rfl) (kN)
noncomputable def kQ (x : List Note × Unit) : Option ((Bool × Unit) × Unit) :=
(au (lB (x.1, x.1, (x.1.length : Int), 0, ()))
(fun y38 => some (y38, ()))
(fun y38 => let v39 := (decide ((y38.1.length : Int) ≤ 6))
some ((v39, ()), ())))
noncomputable def Ae : Ent := (47, none, ⟨[.fz .note], [.bool], kQ⟩)
theorem Bh : SQ Tryz.prog Ae := so (v := .two (.nil) (.two (.two (.nil) (.one (.loop tF))) (.nil))) (fn := Tryz.f47) AA (by kernel_rfl) (by kernel_rfl) (by kernel_rfl) (kC H7 (kN)) (fun _ => by kernel_rfl)
noncomputable def DI : Cx := cX [cI] [] [(11, 18)]
theorem uS : OKC Tryz.prog DI ae := okc mixed (gC bf (an))
noncomputable def iI (x : ByteArray × Int × Int × Unit) : Rnd (ByteArray × Int × Int × Unit) (Int × Bool × Unit) (Int × Unit) :=
(if (decide (x.2.2.1 < (x.1.size : Int))) then
(if inb x.2.2.1 x.1.size then
(aE ((w64 (bt x.1 x.2.2.1)), 48, 57, ())).bind fun r18 =>
(if (!r18.1.1) then
some (.inr (.inl (0, false, ())))
else
(if inb x.2.2.1 x.1.size then
let v19 := (w64 ((w64 (10 * x.2.1)) + (w64 (w8 ((bt x.1 x.2.2.1) - 48)))))
some (.inl (x.1, v19, (w64 (x.2.2.1 + 1)), ()))
else none))
else none)
else
some (.inr (.inr (x.2.1, ()))))
noncomputable def jk := ax iI
noncomputable def pV : Loop := ⟨[(0, .str), (4, .int .i64), (5, .int .i64)], [(4, .int .i64)], 0, [(2, .int .i64), (3, .bool)], jk⟩
theorem C0 : LF Tryz.f68 [] [1, 1, 1, 0, 1, 0, 0] pV := lk (v := .nil) uS (b := iI) (fun _ => by kernel_rfl) rfl (by kernel_rfl) (kN)
noncomputable def cu (x : ByteArray × Unit) : Option ((Int × Bool × Unit) × Unit) :=
(aE ((x.1.size : Int), 1, 5, ())).bind fun r3 =>
(if (aF (!(!r3.1.1)) (inb 0 x.1.size)) then
(if ((!r3.1.1) || ((decide ((bt x.1 0) = 48)) && (decide (1 < (x.1.size : Int))))) then
some ((0, false, ()), ())
else
(au (jk (x.1, 0, 0, ()))
(fun y20 => some (y20, ()))
(fun y20 => some ((y20.1, true, ()), ()))))
else none)
noncomputable def k9 : Ent := (68, none, ⟨[.str], [.int .i64, .bool], cu⟩)
theorem ji : SQ Tryz.prog k9 := so (v := .two (.nil) (.two (.nil) (.two (.nil) (.two (.two (.nil) (.one (.loop pV))) (.nil))))) (fn := Tryz.f68) uS (by kernel_rfl) (by kernel_rfl) (by kernel_rfl) (kC C0 (kN)) (fun _ => by kernel_rfl)
noncomputable def sF : Cx := cX [] [] []
theorem uU : OKC Tryz.prog sF ae := okc mixed (an)
noncomputable def fE (x : List ByteArray × Unit) : Option ((List ByteArray × Unit) × Unit) :=
(if (decide ((x.1.length : Int) = 0)) then
some ((([] : List ByteArray), ()), ())
else
(if decide (0 ≤ (x.1.length : Int)) && decide ((x.1.length : Int) ≤ 4294967296) then
some (((List.take (List.replicate (Int.toNat (x.1.length : Int)) (dfl .str)).length x.1 ++ List.drop x.1.length (List.replicate (Int.toNat (x.1.length : Int)) (dfl .str))), ()), ())
else none))
noncomputable def mq : Ent := (69, none, ⟨[.fz .str], [.row 9 .str], fE⟩)
theorem pn : SQ Tryz.prog mq := so (v := .nil) (fn := Tryz.f69) uU (by kernel_rfl) (by kernel_rfl) (by kernel_rfl) (kN) (fun _ => by kernel_rfl)
noncomputable def As : Cx := cX [cI, k9, mq] [] [(26, 29), (38, 41)]
theorem lH : OKC Tryz.prog As ae := okc mixed (gC bf (gC ji (gC pn (an))))
noncomputable def eJ (x : ByteArray × List ByteArray × Int × Int × Unit) : Rnd (ByteArray × List ByteArray × Int × Int × Unit) (Unit) (ByteArray × List ByteArray × Int × Int × Unit) :=
(if (decide (x.2.2.2.1 < (x.1.size : Int))) then
(if (aF (decide (x.2.2.2.1 < (w64 (x.2.2.1 + 3)))) (inb x.2.2.2.1 x.1.size)) then
(if ((decide (x.2.2.2.1 < (w64 (x.2.2.1 + 3)))) && (!decide ((bt x.1 x.2.2.2.1) = 58))) then
some (.inl (x.1, x.2.1, x.2.2.1, (w64 (x.2.2.2.1 + 1)), ()))
else
some (.inr (.inr x)))
else none)
else
(if (aF false (inb x.2.2.2.1 x.1.size)) then
some (.inr (.inr x))
else none))
noncomputable def fF := ax eJ
noncomputable def od : Loop := ⟨[(0, .str), (4, .row 9 .str), (5, .int .i64), (6, .int .i64)], [(0, .str), (4, .row 9 .str), (5, .int .i64), (6, .int .i64)], 2, [], fF⟩
theorem zo : LF Tryz.f50 [] [1, 1, 1, 0, 0, 0, 1, 0, 1, 0, 0, 0] od := lk (v := .nil) lH (b := eJ) (fun _ => by kernel_rfl) rfl (by kernel_rfl) (kN)
noncomputable def bY (x : ByteArray × List ByteArray × Int × Unit) : Rnd (ByteArray × List ByteArray × Int × Unit) (Unit) (List ByteArray × Int × Unit) :=
(if (decide (x.2.2.1 < (x.1.size : Int))) then
(au (fF (x.1, x.2.1, x.2.2.1, x.2.2))
(fun _ => some (.inr (.inl ())))
(fun y31 => (if (aF (!(decide ((y31.1.size : Int) ≤ y31.2.2.2.1))) (inb y31.2.2.2.1 y31.1.size)) then
(if ((decide ((y31.1.size : Int) ≤ y31.2.2.2.1)) || (!decide ((bt y31.1 y31.2.2.2.1) = 58))) then
some (.inr (.inr (y31.2.1, y31.2.2.1, ())))
else
(if ((decide (0 ≤ y31.2.2.2.1) && decide (y31.2.2.2.1 ≤ (y31.1.size : Int))) && (decide (0 ≤ y31.2.2.1) && decide (y31.2.2.1 ≤ y31.2.2.2.1))) then
(cu ((y31.1.extract (Int.toNat y31.2.2.1) (Int.toNat y31.2.2.2.1)), ())).bind fun r32 =>
let v33 := (w64 ((w64 (y31.2.2.2.1 + 1)) + r32.1.1))
(if (!r32.1.2.1) then
some (.inr (.inr (y31.2.1, y31.2.2.1, ())))
else
(aE (r32.1.1, 1, 60, ())).bind fun r36 =>
(if (!r36.1.1) then
some (.inr (.inr (y31.2.1, y31.2.2.1, ())))
else
(if (decide ((y31.1.size : Int) ≤ v33)) then
some (.inr (.inr (y31.2.1, y31.2.2.1, ())))
else
(if inb v33 y31.1.size then
(if (!decide ((bt y31.1 v33) = 59)) then
some (.inr (.inr (y31.2.1, y31.2.2.1, ())))
else
(if ((decide (0 ≤ v33) && decide (v33 ≤ (y31.1.size : Int))) && (decide (0 ≤ (w64 (y31.2.2.2.1 + 1))) && decide ((w64 (y31.2.2.2.1 + 1)) ≤ v33))) then
(if de (y31.2.1.length + ([(y31.1.extract (Int.toNat (w64 (y31.2.2.2.1 + 1))) (Int.toNat v33))] : List ByteArray).length) then
some (.inl (y31.1, (y31.2.1 ++ ([(y31.1.extract (Int.toNat (w64 (y31.2.2.2.1 + 1))) (Int.toNat v33))] : List ByteArray)), (w64 (v33 + 1)), ()))
else none)
else none))
else none))))
else none))
else none)))
else
some (.inr (.inr x.2)))
noncomputable def fG := ax bY
noncomputable def oe : Loop := ⟨[(0, .str), (4, .row 9 .str), (5, .int .i64)], [(4, .row 9 .str), (5, .int .i64)], 0, [], fG⟩
theorem zB : LF Tryz.f50 [] [1, 1, 1, 0, 0, 0] oe := lk (v := .two (.nil) (.one (.two (.nil) (.two (.one (.loop od)) (.nil))))) lH (b := bY) (fun _ => by kernel_rfl) rfl (by kernel_rfl) (kC zo (kN))
noncomputable def cq (x : ByteArray × Unit) : Option ((List ByteArray × Int × Unit) × Unit) :=
(au (fG (x.1, ([] : List ByteArray), 0, ()))
(fun _ => none)
(fun y37 => (fE (y37.1, ())).bind fun r38 =>
some ((r38.1.1, y37.2), ())))
noncomputable def lE : Ent := (50, none, ⟨[.str], [.row 9 .str, .int .i64], cq⟩)
theorem mm : SQ Tryz.prog lE := so (v := .two (.nil) (.two (.nil) (.two (.nil) (.two (.one (.loop oe)) (.nil))))) (fn := Tryz.f50) lH (by kernel_rfl) (by kernel_rfl) (by kernel_rfl) (kC zB (kN)) (fun _ => by kernel_rfl)
noncomputable def Av : Cx := cX [bn] [] []
theorem BT : OKC Tryz.prog Av ae := okc mixed (gC aW (an))
noncomputable def gw (x : Int × Unit) : Option ((Y7 × Unit) × Unit) :=
(aN x).bind fun r2 =>
(if (!r2.1.1) then
some (((0, 0, 0, ([] : List Note), ([] : List Mark), ([] : List Note), ()), ()), ())
else
some (((x.1, 0, 1, ([] : List Note), ([] : List Mark), ([] : List Note), ()), ()), ()))
noncomputable def qo : Ent := (70, none, ⟨[.int .i64], [Z7], gw⟩)
theorem tI : SQ Tryz.prog qo := so (v := .nil) (fn := Tryz.f70) BT (by kernel_rfl) (by kernel_rfl) (by kernel_rfl) (kN) (fun _ => by kernel_rfl)
noncomputable def GT : Cx := cX [] [] [(13, 20)]
theorem IG : OKC Tryz.prog GT ae := okc mixed (an)
noncomputable def bm (x : Int × Int × Int × Int × Unit) : Option ((Bool × Unit) × Unit) :=
let v2 := ((decide (x.1 < x.2.2.1)) || ((decide (x.1 = x.2.2.1)) && (decide (x.2.1 < x.2.2.2.1))))
some ((v2, ()), ())
noncomputable def gZ : Ent := (124, none, ⟨[.int .i64, .int .i64, .int .i64, .int .i64], [.bool], bm⟩)
theorem eH : SQ Tryz.prog gZ := so (v := .nil) (fn := Tryz.f124) IG (by kernel_rfl) (by kernel_rfl) (by kernel_rfl) (kN) (fun _ => by kernel_rfl)
noncomputable def DG : Cx := cX [dX, gZ] [] [(16, 37)]
theorem uR : OKC Tryz.prog DG ae := okc mixed (gC cQ (gC eH (an)))
noncomputable def iH (x : List Note × List Note × Int × Int × Unit) : Rnd (List Note × List Note × Int × Int × Unit) (Bool × Unit) (Unit) :=
(if (decide (x.2.2.2.1 < x.2.2.1)) then
(if inb x.2.2.2.1 x.2.1.length then
let v35 := (rd (dfl .note) x.2.1 x.2.2.2.1).fr
let v36 := (rd (dfl .note) x.2.1 x.2.2.2.1).nu
let v37 := (rd (dfl .note) x.2.1 x.2.2.2.1).to
let v38 := (rd (dfl .note) x.2.1 x.2.2.2.1).un
let v39 := (rd (dfl .note) x.2.1 x.2.2.2.1).tx
(cl ((v35, v36, v37, v38, v39, ()), ())).bind fun r40 =>
(if (aF ((!(!r40.1.1)) && (decide (0 < x.2.2.2.1))) (inb (w64 (x.2.2.2.1 - 1)) x.1.length)) then
(if (aF ((!(!r40.1.1)) && (decide (0 < x.2.2.2.1))) (inb (w64 (x.2.2.2.1 - 1)) x.1.length)) then
(if (aF ((!(!r40.1.1)) && (decide (0 < x.2.2.2.1))) ((bm ((rd (dfl .note) x.1 (w64 (x.2.2.2.1 - 1))).fr, (rd (dfl .note) x.1 (w64 (x.2.2.2.1 - 1))).nu, v35, v36, ())).isSome)) then
(if ((!r40.1.1) || ((decide (0 < x.2.2.2.1)) && (!(((bm ((rd (dfl .note) x.1 (w64 (x.2.2.2.1 - 1))).fr, (rd (dfl .note) x.1 (w64 (x.2.2.2.1 - 1))).nu, v35, v36, ())).getD ((false, ()), ())).1.1)))) then
some (.inr (.inl (false, ())))
else
some (.inl (x.1, x.2.1, x.2.2.1, (w64 (x.2.2.2.1 + 1)), ())))
else none)
else none)
else none)
else none)
else
some (.inr (.inr ())))
noncomputable def jh := ax iH
noncomputable def pU : Loop := ⟨[(0, .sl .note), (5, .sl .note), (6, .int .i64), (7, .int .i64)], [], 0, [(2, .bool)], jh⟩
theorem CZ : LF Tryz.f94 [] [1, 0, 1, 0, 0] pU := lk (v := .nil) uR (b := iH) (fun _ => by kernel_rfl) rfl (by kernel_rfl) (kN)
noncomputable def fC (x : List Note × Unit) : Option ((Bool × Unit) × Unit) :=
(au (jh (x.1, x.1, (x.1.length : Int), 0, ()))
(fun y41 => some (y41, ()))
(fun y41 => some ((true, ()), ())))
noncomputable def uv : Ent := (94, none, ⟨[.fz .note], [.bool], fC⟩)
theorem x5 : SQ Tryz.prog uv := so (v := .two (.nil) (.two (.two (.nil) (.one (.loop pU))) (.nil))) (fn := Tryz.f94) uR (by kernel_rfl) (by kernel_rfl) (by kernel_rfl) (kC CZ (kN)) (fun _ => by kernel_rfl)
noncomputable def GL : Cx := cX [cI, bn] [] [(12, 14)]
theorem IC : OKC Tryz.prog GL ae := okc mixed (gC bf (gC aW (an)))
noncomputable def lY (x : Y8 × Unit) : Option ((Bool × Unit) × Unit) :=
(aN (x.1.1, ())).bind fun r4 =>
(if r4.1.1 then
(aE (x.1.2.1, 1, 99, ())).bind fun r5 =>
(if (aF r5.1.1 ((aE (x.1.2.2.1, 1, 999, ())).isSome)) then
let v6 := (r5.1.1 && (((aE (x.1.2.2.1, 1, 999, ())).getD ((false, ()), ())).1.1))
some ((v6, ()), ())
else none)
else
(if (aF false ((aE (x.1.2.2.1, 1, 999, ())).isSome)) then
some ((false, ()), ())
else none))
noncomputable def wR : Ent := (125, none, ⟨[Z13], [.bool], lY⟩)
theorem zG : SQ Tryz.prog wR := so (v := .nil) (fn := Tryz.f125) IC (by kernel_rfl) (by kernel_rfl) (by kernel_rfl) (kN) (fun _ => by kernel_rfl)
noncomputable def DJ : Cx := cX [gZ, wR] [] [(16, 37)]
theorem uT : OKC Tryz.prog DJ ae := okc mixed (gC eH (gC zG (an)))
noncomputable def iJ (x : List Mark × List Mark × Int × Int × Unit) : Rnd (List Mark × List Mark × Int × Int × Unit) (Bool × Unit) (Unit) :=
(if (decide (x.2.2.2.1 < x.2.2.1)) then
(if inb x.2.2.2.1 x.2.1.length then
let v25 := (rd (dfl .mark) x.2.1 x.2.2.2.1).mf
let v26 := (rd (dfl .mark) x.2.1 x.2.2.2.1).mn
let v27 := (rd (dfl .mark) x.2.1 x.2.2.2.1).mu
(lY ((v25, v26, v27, ()), ())).bind fun r28 =>
(if (aF ((!(!r28.1.1)) && (decide (0 < x.2.2.2.1))) (inb (w64 (x.2.2.2.1 - 1)) x.1.length)) then
(if (aF ((!(!r28.1.1)) && (decide (0 < x.2.2.2.1))) (inb (w64 (x.2.2.2.1 - 1)) x.1.length)) then
(if (aF ((!(!r28.1.1)) && (decide (0 < x.2.2.2.1))) ((bm ((rd (dfl .mark) x.1 (w64 (x.2.2.2.1 - 1))).mf, (rd (dfl .mark) x.1 (w64 (x.2.2.2.1 - 1))).mn, v25, v26, ())).isSome)) then
(if ((!r28.1.1) || ((decide (0 < x.2.2.2.1)) && (!(((bm ((rd (dfl .mark) x.1 (w64 (x.2.2.2.1 - 1))).mf, (rd (dfl .mark) x.1 (w64 (x.2.2.2.1 - 1))).mn, v25, v26, ())).getD ((false, ()), ())).1.1)))) then
some (.inr (.inl (false, ())))
else
some (.inl (x.1, x.2.1, x.2.2.1, (w64 (x.2.2.2.1 + 1)), ())))
else none)
else none)
else none)
else none)
else
some (.inr (.inr ())))
noncomputable def jl := ax iJ
noncomputable def pW : Loop := ⟨[(0, .sl .mark), (5, .sl .mark), (6, .int .i64), (7, .int .i64)], [], 0, [(2, .bool)], jl⟩
theorem C1 : LF Tryz.f95 [] [1, 0, 1, 0, 0] pW := lk (v := .nil) uT (b := iJ) (fun _ => by kernel_rfl) rfl (by kernel_rfl) (kN)
noncomputable def ky (x : List Mark × Unit) : Option ((Bool × Unit) × Unit) :=
(au (jl (x.1, x.1, (x.1.length : Int), 0, ()))
(fun y29 => some (y29, ()))
(fun y29 => some ((true, ()), ())))
noncomputable def ux : Ent := (95, none, ⟨[.fz .mark], [.bool], ky⟩)
theorem x7 : SQ Tryz.prog ux := so (v := .two (.nil) (.two (.two (.nil) (.one (.loop pW))) (.nil))) (fn := Tryz.f95) uT (by kernel_rfl) (by kernel_rfl) (by kernel_rfl) (kC C1 (kN)) (fun _ => by kernel_rfl)
noncomputable def Ik : Cx := cX [cI] [] [(10, 23)]
theorem KB : OKC Tryz.prog Ik ae := okc mixed (gC bf (an))
noncomputable def kr (x : Int × Y5 × Unit) : Option ((Bool × Unit) × Unit) :=
(if (aF (!decide (x.1 = x.2.1.2.2.1)) ((aE (x.1, x.2.1.1, x.2.1.2.2.1, ())).isSome)) then
(if (aF ((!decide (x.1 = x.2.1.2.2.1)) && (!(((aE (x.1, x.2.1.1, x.2.1.2.2.1, ())).getD ((false, ()), ())).1.1))) ((aE (x.1, x.2.1.2.2.1, x.2.1.1, ())).isSome)) then
let v2 := ((!decide (x.1 = x.2.1.2.2.1)) && ((((aE (x.1, x.2.1.1, x.2.1.2.2.1, ())).getD ((false, ()), ())).1.1) || (((aE (x.1, x.2.1.2.2.1, x.2.1.1, ())).getD ((false, ()), ())).1.1)))
some ((v2, ()), ())
else none)
else none)
noncomputable def Aa : Ent := (96, none, ⟨[.int .i64, Z5], [.bool], kr⟩)
theorem Bd : SQ Tryz.prog Aa := so (v := .nil) (fn := Tryz.f96) KB (by kernel_rfl) (by kernel_rfl) (by kernel_rfl) (kN) (fun _ => by kernel_rfl)
noncomputable def GN : Cx := cX [] [] [(21, 24)]
theorem xg : OKC Tryz.prog GN ae := okc mixed (an)
noncomputable def kG (x : Int × Int × List Mark × Int × Int × Unit) : Rnd (Int × Int × List Mark × Int × Int × Unit) (Int × Unit) (Unit) :=
(if (decide (x.2.2.2.2.1 < x.2.2.2.1)) then
(if inb x.2.2.2.2.1 x.2.2.1.length then
let v17 := (rd (dfl .mark) x.2.2.1 x.2.2.2.2.1).mf
let v18 := (rd (dfl .mark) x.2.2.1 x.2.2.2.2.1).mn
let v19 := (rd (dfl .mark) x.2.2.1 x.2.2.2.2.1).mu
(if ((decide (v17 = x.1)) && (decide (v18 = x.2.1))) then
some (.inr (.inl x.2.2.2.2))
else
some (.inl (x.1, x.2.1, x.2.2.1, x.2.2.2.1, (w64 (x.2.2.2.2.1 + 1)), ())))
else none)
else
some (.inr (.inr ())))
noncomputable def kF := ax kG
noncomputable def rD : Loop := ⟨[(1, .int .i64), (2, .int .i64), (9, .sl .mark), (10, .int .i64), (11, .int .i64)], [], 0, [(6, .int .i64)], kF⟩
theorem FY : LF Tryz.f97 [] [1, 0, 1, 0, 0] rD := lk (v := .nil) xg (b := kG) (fun _ => by kernel_rfl) rfl (by kernel_rfl) (kN)
noncomputable def bN (x : List Mark × Int × Int × Unit) : Option ((Int × Unit) × Unit) :=
(au (kF (x.2.1, x.2.2.1, x.1, (x.1.length : Int), 0, ()))
(fun y20 => some (y20, ()))
(fun y20 => some (((-1), ()), ())))
noncomputable def ma : Ent := (97, none, ⟨[.fz .mark, .int .i64, .int .i64], [.int .i64], bN⟩)
theorem kE : SQ Tryz.prog ma := so (v := .two (.nil) (.two (.two (.nil) (.one (.loop rD))) (.nil))) (fn := Tryz.f97) xg (by kernel_rfl) (by kernel_rfl) (by kernel_rfl) (kC FY (kN)) (fun _ => by kernel_rfl)
noncomputable def GX : Cx := cX [cI, bn, uv, ux, Aa, ma] [] [(123, 127)]
theorem mc : OKC Tryz.prog GX ae := okc mixed (gC bf (gC aW (gC x5 (gC x7 (gC Bd (gC kE (an)))))))
noncomputable def kX (x : Y7 × List Note × Int × Int × Unit) : Rnd (Y7 × List Note × Int × Int × Unit) (Bool × Unit) (Unit) :=
(if (decide (x.2.2.2.1 < x.2.2.1)) then
(if inb x.2.2.2.1 x.2.1.length then
let v149 := (rd (dfl .note) x.2.1 x.2.2.2.1).fr
let v150 := (rd (dfl .note) x.2.1 x.2.2.2.1).nu
let v151 := (rd (dfl .note) x.2.1 x.2.2.2.1).to
let v152 := (rd (dfl .note) x.2.1 x.2.2.2.1).un
let v153 := (rd (dfl .note) x.2.1 x.2.2.2.1).tx
(if (decide (v149 = x.1.1)) then
(if (decide (x.1.2.2.1 ≤ v150)) then
some (.inr (.inl (false, ())))
else
(if (!decide (v151 = x.1.1)) then
some (.inr (.inl (false, ())))
else
(if (decide (x.1.2.1 < v152)) then
(bN (x.1.2.2.2.2.1, v149, v150, ())).bind fun r154 =>
(if (decide (r154.1.1 < 0)) then
some (.inr (.inl (false, ())))
else
some (.inl (x.1, x.2.1, x.2.2.1, (w64 (x.2.2.2.1 + 1)), ())))
else
some (.inl (x.1, x.2.1, x.2.2.1, (w64 (x.2.2.2.1 + 1)), ())))))
else
(if (!decide (v151 = x.1.1)) then
some (.inr (.inl (false, ())))
else
(if (decide (x.1.2.1 < v152)) then
(bN (x.1.2.2.2.2.1, v149, v150, ())).bind fun r155 =>
(if (decide (r155.1.1 < 0)) then
some (.inr (.inl (false, ())))
else
some (.inl (x.1, x.2.1, x.2.2.1, (w64 (x.2.2.2.1 + 1)), ())))
else
some (.inl (x.1, x.2.1, x.2.2.1, (w64 (x.2.2.2.1 + 1)), ())))))
else none)
else
some (.inr (.inr ())))
noncomputable def kU := ax kX
noncomputable def rJ : Loop := ⟨[(1, Z9), (131, .sl .note), (132, .int .i64), (133, .int .i64)], [], 4, [(2, .bool)], kU⟩
theorem FK : LF Tryz.f83 [] [1, 1, 1, 1, 1, 0, 1, 0, 0] rJ := lk (v := .nil) mc (b := kX) (fun _ => by kernel_rfl) rfl (by kernel_rfl) (kN)
noncomputable def kY (x : Y7 × List Mark × Int × Int × Unit) : Rnd (Y7 × List Mark × Int × Int × Unit) (Bool × Unit) (Y7 × Unit) :=
(if (decide (x.2.2.2.1 < x.2.2.1)) then
(if inb x.2.2.2.1 x.2.1.length then
let v103 := (rd (dfl .mark) x.2.1 x.2.2.2.1).mf
let v104 := (rd (dfl .mark) x.2.1 x.2.2.2.1).mn
let v105 := (rd (dfl .mark) x.2.1 x.2.2.2.1).mu
(if (decide (v103 = x.1.1)) then
(if ((decide (x.1.2.2.1 ≤ v104)) || (decide (v105 ≤ x.1.2.1))) then
some (.inr (.inl (false, ())))
else
some (.inl (x.1, x.2.1, x.2.2.1, (w64 (x.2.2.2.1 + 1)), ())))
else
(if (decide (v105 ≤ x.1.2.1)) then
some (.inr (.inl (false, ())))
else
some (.inl (x.1, x.2.1, x.2.2.1, (w64 (x.2.2.2.1 + 1)), ()))))
else none)
else
some (.inr (.inr (x.1, ()))))
noncomputable def kV := ax kY
noncomputable def rK : Loop := ⟨[(1, Z9), (104, .sl .mark), (105, .int .i64), (106, .int .i64)], [(1, Z9)], 2, [(2, .bool)], kV⟩
theorem FN : LF Tryz.f83 [] [1, 1, 1, 1, 0, 1, 0, 0] rK := lk (v := .nil) mc (b := kY) (fun _ => by kernel_rfl) rfl (by kernel_rfl) (kN)
noncomputable def kZ (x : Y7 × List Note × Int × Int × Unit) : Rnd (Y7 × List Note × Int × Int × Unit) (Bool × Unit) (Y7 × Unit) :=
(if (decide (x.2.2.2.1 < x.2.2.1)) then
(if inb x.2.2.2.1 x.2.1.length then
let v77 := (rd (dfl .note) x.2.1 x.2.2.2.1).fr
let v78 := (rd (dfl .note) x.2.1 x.2.2.2.1).nu
let v79 := (rd (dfl .note) x.2.1 x.2.2.2.1).to
let v80 := (rd (dfl .note) x.2.1 x.2.2.2.1).un
let v81 := (rd (dfl .note) x.2.1 x.2.2.2.1).tx
(if (decide (v77 = x.1.1)) then
(if (decide (x.1.2.2.1 ≤ v78)) then
some (.inr (.inl (false, ())))
else
(if (decide (v80 ≤ x.1.2.1)) then
some (.inr (.inl (false, ())))
else
(kr (x.1.1, (v77, v78, v79, v80, v81, ()), ())).bind fun r82 =>
(if (!r82.1.1) then
some (.inr (.inl (false, ())))
else
(bN (x.1.2.2.2.2.1, v77, v78, ())).bind fun r83 =>
(if (decide (0 ≤ r83.1.1)) then
some (.inr (.inl (false, ())))
else
some (.inl (x.1, x.2.1, x.2.2.1, (w64 (x.2.2.2.1 + 1)), ()))))))
else
(if (decide (v80 ≤ x.1.2.1)) then
some (.inr (.inl (false, ())))
else
(kr (x.1.1, (v77, v78, v79, v80, v81, ()), ())).bind fun r84 =>
(if (!r84.1.1) then
some (.inr (.inl (false, ())))
else
(bN (x.1.2.2.2.2.1, v77, v78, ())).bind fun r85 =>
(if (decide (0 ≤ r85.1.1)) then
some (.inr (.inl (false, ())))
else
some (.inl (x.1, x.2.1, x.2.2.1, (w64 (x.2.2.2.1 + 1)), ()))))))
else none)
else
some (.inr (.inr (x.1, ()))))
noncomputable def kW := ax kZ
noncomputable def rL : Loop := ⟨[(1, Z9), (60, .sl .note), (61, .int .i64), (62, .int .i64)], [(1, Z9)], 0, [(2, .bool)], kW⟩
theorem F1 : LF Tryz.f83 [] [1, 1, 1, 0, 1, 0, 0] rL := lk (v := .nil) mc (b := kZ) (fun _ => by kernel_rfl) rfl (by kernel_rfl) (kN)
noncomputable def dV (x : Y7 × Unit) : Option ((Bool × Unit) × Unit) :=
(aN (x.1.1, ())).bind fun r7 =>
(if (!r7.1.1) then
some ((false, ()), ())
else
(aE (x.1.2.1, 0, 999, ())).bind fun r8 =>
(if (!r8.1.1) then
some ((false, ()), ())
else
(aE (x.1.2.2.1, 1, 100, ())).bind fun r9 =>
(if (!r9.1.1) then
some ((false, ()), ())
else
(if (decide (6 < (x.1.2.2.2.1.length : Int))) then
some ((false, ()), ())
else
(if (decide (12 < (x.1.2.2.2.2.1.length : Int))) then
some ((false, ()), ())
else
(if (decide (6 < (x.1.2.2.2.2.2.1.length : Int))) then
some ((false, ()), ())
else
(fC (x.1.2.2.2.1, ())).bind fun r16 =>
(if (!r16.1.1) then
some ((false, ()), ())
else
(ky (x.1.2.2.2.2.1, ())).bind fun r17 =>
(if (!r17.1.1) then
some ((false, ()), ())
else
(fC x.1.2.2.2.2.2).bind fun r18 =>
(if (!r18.1.1) then
some ((false, ()), ())
else
(au (kW (x.1, x.1.2.2.2.1, (x.1.2.2.2.1.length : Int), 0, ()))
(fun y86 => some (y86, ()))
(fun y86 => (au (kV (y86.1, y86.1.2.2.2.2.1, (y86.1.2.2.2.2.1.length : Int), 0, ()))
(fun y106 => some (y106, ()))
(fun y106 => (au (kU (y106.1, y106.1.2.2.2.2.2.1, (y106.1.2.2.2.2.2.1.length : Int), 0, ()))
(fun y156 => some (y156, ()))
(fun y156 => some ((true, ()), ()))))))))))))))))
noncomputable def wX : Ent := (83, none, ⟨[Z10], [.bool], dV⟩)
theorem zQ : SQ Tryz.prog wX := so (v := .two (.nil) (.two (.nil) (.two (.nil) (.two (.two (.nil) (.one (.loop rL))) (.two (.two (.nil) (.one (.loop rK))) (.two (.two (.nil) (.one (.loop rJ))) (.nil))))))) (fn := Tryz.f83) mc (by kernel_rfl) (by kernel_rfl) (by kernel_rfl) (kC F1 (kC FN (kC FK (kN)))) (fun _ => by kernel_rfl)
noncomputable def DK : Cx := cX [] [] []
theorem oC : OKC Tryz.prog DK ae := okc mixed (an)
noncomputable def iK (x : Int × Y7 × Y7 × List Mark × Int × Int × Unit) : Rnd (Int × Y7 × Y7 × List Mark × Int × Int × Unit) (Unit) (Y7 × Y7 × Unit) :=
(if (decide (x.2.2.2.2.2.1 < x.2.2.2.2.1)) then
(if inb x.2.2.2.2.2.1 x.2.2.2.1.length then
let v69 := (rd (dfl .mark) x.2.2.2.1 x.2.2.2.2.2.1).mf
let v70 := (rd (dfl .mark) x.2.2.2.1 x.2.2.2.2.2.1).mn
let v71 := (rd (dfl .mark) x.2.2.2.1 x.2.2.2.2.2.1).mu
(if (decide (x.1 < v71)) then
(if de (x.2.2.1.2.2.2.2.1.length + ([(Mark.mk v69 v70 v71)] : List Mark).length) then
some (.inl (x.1, x.2.1, (x.2.2.1.1, x.2.2.1.2.1, x.2.2.1.2.2.1, x.2.2.1.2.2.2.1, (x.2.2.1.2.2.2.2.1 ++ ([(Mark.mk v69 v70 v71)] : List Mark)), x.2.2.1.2.2.2.2.2), x.2.2.2.1, x.2.2.2.2.1, (w64 (x.2.2.2.2.2.1 + 1)), ()))
else none)
else
some (.inl (x.1, x.2.1, x.2.2.1, x.2.2.2.1, x.2.2.2.2.1, (w64 (x.2.2.2.2.2.1 + 1)), ())))
else none)
else
some (.inr (.inr (x.2.1, x.2.2.1, ()))))
noncomputable def jo := ax iK
noncomputable def pX : Loop := ⟨[(1, .int .i64), (4, Z11), (5, Z20), (37, .sl .mark), (38, .int .i64), (39, .int .i64)], [(4, Z11), (5, Z20)], 2, [], jo⟩
theorem CI : LF Tryz.f127 [] [1, 1, 1, 0, 1, 0, 0] pX := lk (v := .nil) oC (b := iK) (fun _ => by kernel_rfl) rfl (by kernel_rfl) (kN)
noncomputable def iL (x : Int × Y7 × Y7 × Y7 × List Note × Int × Int × Unit) : Rnd (Int × Y7 × Y7 × Y7 × List Note × Int × Int × Unit) (Unit) (Int × Y7 × Y7 × Y7 × Unit) :=
(if (decide (x.2.2.2.2.2.2.1 < x.2.2.2.2.2.1)) then
(if inb x.2.2.2.2.2.2.1 x.2.2.2.2.1.length then
let v47 := (rd (dfl .note) x.2.2.2.2.1 x.2.2.2.2.2.2.1).fr
let v48 := (rd (dfl .note) x.2.2.2.2.1 x.2.2.2.2.2.2.1).nu
let v49 := (rd (dfl .note) x.2.2.2.2.1 x.2.2.2.2.2.2.1).to
let v50 := (rd (dfl .note) x.2.2.2.2.1 x.2.2.2.2.2.2.1).un
let v51 := (rd (dfl .note) x.2.2.2.2.1 x.2.2.2.2.2.2.1).tx
(if (decide (x.1 < v50)) then
(if de (x.2.2.2.1.2.2.2.1.length + ([(Note.mk v47 v48 v49 v50 v51)] : List Note).length) then
some (.inl (x.1, x.2.1, x.2.2.1, (x.2.2.2.1.1, x.2.2.2.1.2.1, x.2.2.2.1.2.2.1, (x.2.2.2.1.2.2.2.1 ++ ([(Note.mk v47 v48 v49 v50 v51)] : List Note)), x.2.2.2.1.2.2.2.2), x.2.2.2.2.1, x.2.2.2.2.2.1, (w64 (x.2.2.2.2.2.2.1 + 1)), ()))
else none)
else
some (.inl (x.1, x.2.1, x.2.2.1, x.2.2.2.1, x.2.2.2.2.1, x.2.2.2.2.2.1, (w64 (x.2.2.2.2.2.2.1 + 1)), ())))
else none)
else
some (.inr (.inr (x.1, x.2.1, x.2.2.1, x.2.2.2.1, ()))))
noncomputable def jp := ax iL
noncomputable def pY : Loop := ⟨[(1, .int .i64), (2, Z9), (4, Z11), (5, Z20), (19, .sl .note), (20, .int .i64), (21, .int .i64)], [(1, .int .i64), (2, Z9), (4, Z11), (5, Z20)], 0, [], jp⟩
theorem C2 : LF Tryz.f127 [] [1, 1, 0, 1, 0, 0] pY := lk (v := .nil) oC (b := iL) (fun _ => by kernel_rfl) rfl (by kernel_rfl) (kN)
noncomputable def kR (x : Y7 × Int × Unit) : Option ((Y7 × Unit) × Unit) :=
(au (jp (x.2.1, x.1, (0, 0, 0, ([] : List Note), ([] : List Mark), ([] : List Note), ()), (x.1.1, x.2.1, x.1.2.2.1, ([] : List Note), ([] : List Mark), x.1.2.2.2.2.2), x.1.2.2.2.1, (x.1.2.2.2.1.length : Int), 0, ()))
(fun _ => none)
(fun y52 => (au (jo (y52.1, y52.2.2.1, y52.2.2.2.1, y52.2.1.2.2.2.2.1, (y52.2.1.2.2.2.2.1.length : Int), 0, ()))
(fun _ => none)
(fun y72 => some (y72.2, ())))))
noncomputable def uy : Ent := (127, none, ⟨[Z10, .int .i64], [Z10], kR⟩)
theorem x9 : SQ Tryz.prog uy := so (v := .two (.nil) (.two (.nil) (.two (.two (.nil) (.one (.loop pY))) (.two (.two (.nil) (.one (.loop pX))) (.nil))))) (fn := Tryz.f127) oC (by kernel_rfl) (by kernel_rfl) (by kernel_rfl) (kC C2 (kC CI (kN))) (fun _ => by kernel_rfl)
noncomputable def Il : Cx := cX [uy] [] [(12, 15), (24, 27)]
theorem KC : OKC Tryz.prog Il ae := okc mixed (gC x9 (an))
noncomputable def kM (x : Y7 × ByteArray × Int × Unit) : Option ((Y7 × Bool × Unit) × Unit) :=
let v6 := ((decide (x.2.1 = (B [116, 105, 109, 101]))) && (decide (x.1.2.1 < x.2.2.1)))
(if v6 then
(kR (x.1, x.2.2)).bind fun r7 =>
some ((r7.1.1, true, ()), ())
else
let v8 := ((decide (x.2.1 = (B [110, 101, 120, 116]))) && (decide (x.1.2.2.1 < x.2.2.1)))
(if v8 then
some (((x.1.1, x.1.2.1, x.2.2.1, x.1.2.2.2), true, ()), ())
else
some ((x.1, false, ()), ())))
noncomputable def Ab : Ent := (99, none, ⟨[Z10, .str, .int .i64], [Z10, .bool], kM⟩)
theorem Be : SQ Tryz.prog Ab := so (v := .nil) (fn := Tryz.f99) KC (by kernel_rfl) (by kernel_rfl) (by kernel_rfl) (kN) (fun _ => by kernel_rfl)
noncomputable def BJ : Cx := cX [k9] [] []
theorem sA : OKC Tryz.prog BJ ae := okc mixed (gC ji (an))
noncomputable def gr (x : List Int × List ByteArray × Int × Int × Unit) : Rnd (List Int × List ByteArray × Int × Int × Unit) (List Int × Bool × Unit) (List Int × Unit) :=
(if (decide (x.2.2.2.1 < x.2.2.1)) then
(if inb x.2.2.2.1 x.2.1.length then
let v20 := (rd (dfl .str) x.2.1 x.2.2.2.1)
(cu (v20, ())).bind fun r21 =>
(if (!r21.1.2.1) then
some (.inr (.inl (([] : List Int), false, ())))
else
(if de (x.1.length + ([r21.1.1] : List Int).length) then
some (.inl ((x.1 ++ ([r21.1.1] : List Int)), x.2.1, x.2.2.1, (w64 (x.2.2.2.1 + 1)), ()))
else none))
else none)
else
some (.inr (.inr (x.1, ()))))
noncomputable def gJ := ax gr
noncomputable def oV : Loop := ⟨[(4, .row 3 .int), (9, .sl .str), (10, .int .i64), (11, .int .i64)], [(4, .row 3 .int)], 0, [(2, .row 3 .int), (3, .bool)], gJ⟩
theorem A9 : LF Tryz.f102 [] [1, 1, 0, 1, 0, 0] oV := lk (v := .nil) sA (b := gr) (fun _ => by kernel_rfl) rfl (by kernel_rfl) (kN)
noncomputable def cG (x : List ByteArray × Unit) : Option ((List Int × Bool × Unit) × Unit) :=
(au (gJ (([] : List Int), x.1, (x.1.length : Int), 0, ()))
(fun y22 => some (y22, ()))
(fun y22 => some ((y22.1, true, ()), ())))
noncomputable def mF : Ent := (102, none, ⟨[.fz .str], [.row 3 .int, .bool], cG⟩)
theorem mP : SQ Tryz.prog mF := so (v := .two (.nil) (.two (.nil) (.two (.two (.nil) (.one (.loop oV))) (.nil)))) (fn := Tryz.f102) sA (by kernel_rfl) (by kernel_rfl) (by kernel_rfl) (kC A9 (kN)) (fun _ => by kernel_rfl)
noncomputable def Au : Cx := cX [dX, tR] [] []
theorem BS : OKC Tryz.prog Au ae := okc mixed (gC cQ (gC xo (an)))
noncomputable def dn (x : Y5 × Unit) : Option ((ByteArray × Unit) × Unit) :=
(cl x).bind fun r2 =>
(if (!r2.1.1) then
some ((noB, ()), ())
else
(c8 (x.1.1, ())).bind fun r3 =>
(if decide (r3.1.1.size + (B [32]).size ≤ 4611686018427387904) then
(c8 (x.1.2.1, ())).bind fun r4 =>
(if decide ((r3.1.1 ++ (B [32])).size + r4.1.1.size ≤ 4611686018427387904) then
(if decide (((r3.1.1 ++ (B [32])) ++ r4.1.1).size + (B [32]).size ≤ 4611686018427387904) then
(c8 (x.1.2.2.1, ())).bind fun r5 =>
(if decide ((((r3.1.1 ++ (B [32])) ++ r4.1.1) ++ (B [32])).size + r5.1.1.size ≤ 4611686018427387904) then
(if decide (((((r3.1.1 ++ (B [32])) ++ r4.1.1) ++ (B [32])) ++ r5.1.1).size + (B [32]).size ≤ 4611686018427387904) then
(c8 (x.1.2.2.2.1, ())).bind fun r6 =>
(if decide ((((((r3.1.1 ++ (B [32])) ++ r4.1.1) ++ (B [32])) ++ r5.1.1) ++ (B [32])).size + r6.1.1.size ≤ 4611686018427387904) then
(if decide (((((((r3.1.1 ++ (B [32])) ++ r4.1.1) ++ (B [32])) ++ r5.1.1) ++ (B [32])) ++ r6.1.1).size + (B [32]).size ≤ 4611686018427387904) then
(if decide ((((((((r3.1.1 ++ (B [32])) ++ r4.1.1) ++ (B [32])) ++ r5.1.1) ++ (B [32])) ++ r6.1.1) ++ (B [32])).size + x.1.2.2.2.2.1.size ≤ 4611686018427387904) then
let v7 := ((((((((r3.1.1 ++ (B [32])) ++ r4.1.1) ++ (B [32])) ++ r5.1.1) ++ (B [32])) ++ r6.1.1) ++ (B [32])) ++ x.1.2.2.2.2.1)
some ((v7, ()), ())
else none)
else none)
else none)
else none)
else none)
else none)
else none)
else none))
noncomputable def qn : Ent := (129, none, ⟨[Z5], [.str], dn⟩)
theorem tH : SQ Tryz.prog qn := so (v := .nil) (fn := Tryz.f129) BS (by kernel_rfl) (by kernel_rfl) (by kernel_rfl) (kN) (fun _ => by kernel_rfl)
noncomputable def BL : Cx := cX [dX, mF, p9, qn] [] [(43, 46)]
theorem D0 : OKC Tryz.prog BL ae := okc mixed (gC cQ (gC mP (gC sH (gC tH (an)))))
noncomputable def dO (x : ByteArray × Unit) : Option ((Y5 × Bool × Unit) × Unit) :=
(lp (x.1, (B [32]), 5, ())).bind fun r1 =>
(if (!decide ((r1.1.1.length : Int) = 5)) then
some (((0, 0, 0, 0, noB, ()), false, ()), ())
else
(if (decide (0 ≤ 4) && decide (4 ≤ (r1.1.1.length : Int))) then
(cG ((List.take (Int.toNat 4) r1.1.1), ())).bind fun r2 =>
(if (!r2.1.2.1) then
some (((0, 0, 0, 0, noB, ()), false, ()), ())
else
(if inb 0 r2.1.1.length then
(if inb 1 r2.1.1.length then
(if inb 2 r2.1.1.length then
(if inb 3 r2.1.1.length then
(if inb 4 r1.1.1.length then
(cl (((rd (dfl .int) r2.1.1 0), (rd (dfl .int) r2.1.1 1), (rd (dfl .int) r2.1.1 2), (rd (dfl .int) r2.1.1 3), (rd (dfl .str) r1.1.1 4), ()), ())).bind fun r5 =>
(if (aF (!(!r5.1.1)) ((dn (((rd (dfl .int) r2.1.1 0), (rd (dfl .int) r2.1.1 1), (rd (dfl .int) r2.1.1 2), (rd (dfl .int) r2.1.1 3), (rd (dfl .str) r1.1.1 4), ()), ())).isSome)) then
(if ((!r5.1.1) || (!decide (((dn (((rd (dfl .int) r2.1.1 0), (rd (dfl .int) r2.1.1 1), (rd (dfl .int) r2.1.1 2), (rd (dfl .int) r2.1.1 3), (rd (dfl .str) r1.1.1 4), ()), ())).getD ((noB, ()), ())).1.1 = x.1))) then
some (((0, 0, 0, 0, noB, ()), false, ()), ())
else
some ((((rd (dfl .int) r2.1.1 0), (rd (dfl .int) r2.1.1 1), (rd (dfl .int) r2.1.1 2), (rd (dfl .int) r2.1.1 3), (rd (dfl .str) r1.1.1 4), ()), true, ()), ()))
else none)
else none)
else none)
else none)
else none)
else none))
else none))
noncomputable def si : Ent := (100, none, ⟨[.str], [Z5, .bool], dO⟩)
theorem vS : SQ Tryz.prog si := so (v := .nil) (fn := Tryz.f100) D0 (by kernel_rfl) (by kernel_rfl) (by kernel_rfl) (kN) (fun _ => by kernel_rfl)
noncomputable def GK : Cx := cX [] [] [(21, 24)]
theorem xe : OKC Tryz.prog GK ae := okc mixed (an)
noncomputable def kw (x : Int × Int × List Note × Int × Int × Unit) : Rnd (Int × Int × List Note × Int × Int × Unit) (Int × Unit) (Unit) :=
(if (decide (x.2.2.2.2.1 < x.2.2.2.1)) then
(if inb x.2.2.2.2.1 x.2.2.1.length then
let v27 := (rd (dfl .note) x.2.2.1 x.2.2.2.2.1).fr
let v28 := (rd (dfl .note) x.2.2.1 x.2.2.2.2.1).nu
let v29 := (rd (dfl .note) x.2.2.1 x.2.2.2.2.1).to
let v30 := (rd (dfl .note) x.2.2.1 x.2.2.2.2.1).un
let v31 := (rd (dfl .note) x.2.2.1 x.2.2.2.2.1).tx
(if ((decide (v27 = x.1)) && (decide (v28 = x.2.1))) then
some (.inr (.inl x.2.2.2.2))
else
some (.inl (x.1, x.2.1, x.2.2.1, x.2.2.2.1, (w64 (x.2.2.2.2.1 + 1)), ())))
else none)
else
some (.inr (.inr ())))
noncomputable def kv := ax kw
noncomputable def rB : Loop := ⟨[(1, .int .i64), (2, .int .i64), (9, .sl .note), (10, .int .i64), (11, .int .i64)], [], 0, [(6, .int .i64)], kv⟩
theorem FW : LF Tryz.f27 [] [1, 0, 1, 0, 0] rB := lk (v := .nil) xe (b := kw) (fun _ => by kernel_rfl) rfl (by kernel_rfl) (kN)
noncomputable def aU (x : List Note × Int × Int × Unit) : Option ((Int × Unit) × Unit) :=
(au (kv (x.2.1, x.2.2.1, x.1, (x.1.length : Int), 0, ()))
(fun y32 => some (y32, ()))
(fun y32 => some (((-1), ()), ())))
noncomputable def dW : Ent := (27, none, ⟨[.fz .note, .int .i64, .int .i64], [.int .i64], aU⟩)
theorem cO : SQ Tryz.prog dW := so (v := .two (.nil) (.two (.two (.nil) (.one (.loop rB))) (.nil))) (fn := Tryz.f27) xe (by kernel_rfl) (by kernel_rfl) (by kernel_rfl) (kC FW (kN)) (fun _ => by kernel_rfl)
noncomputable def GJ : Cx := cX [gZ] [] [(11, 25)]
theorem xd : OKC Tryz.prog GJ ae := okc mixed (gC eH (an))
noncomputable def ku (x : List Note × Y5 × Int × Unit) : Rnd (List Note × Y5 × Int × Unit) (Unit) (List Note × Y5 × Int × Unit) :=
(if (aF (decide (x.2.2.1 < (x.1.length : Int))) (inb x.2.2.1 x.1.length)) then
(if (aF (decide (x.2.2.1 < (x.1.length : Int))) (inb x.2.2.1 x.1.length)) then
(if (aF (decide (x.2.2.1 < (x.1.length : Int))) ((bm ((rd (dfl .note) x.1 x.2.2.1).fr, (rd (dfl .note) x.1 x.2.2.1).nu, x.2.1.1, x.2.1.2.1, ())).isSome)) then
(if ((decide (x.2.2.1 < (x.1.length : Int))) && (((bm ((rd (dfl .note) x.1 x.2.2.1).fr, (rd (dfl .note) x.1 x.2.2.1).nu, x.2.1.1, x.2.1.2.1, ())).getD ((false, ()), ())).1.1)) then
some (.inl (x.1, x.2.1, (w64 (x.2.2.1 + 1)), ()))
else
some (.inr (.inr x)))
else none)
else none)
else none)
noncomputable def kt := ax ku
noncomputable def rA : Loop := ⟨[(0, .sl .note), (3, Z8), (5, .int .i64)], [(0, .sl .note), (3, Z8), (5, .int .i64)], 0, [], kt⟩
theorem FV : LF Tryz.f131 [] [1, 1, 0, 0, 0] rA := lk (v := .nil) xd (b := ku) (fun _ => by kernel_rfl) rfl (by kernel_rfl) (kN)
noncomputable def cZ (x : List Note × Y5 × Unit) : Option ((List Note × Unit) × Unit) :=
(au (kt (x.1, x.2.1, 0, ()))
(fun _ => none)
(fun y2 => (if (decide (0 ≤ y2.2.2.1) && decide (y2.2.2.1 ≤ (y2.1.length : Int))) then
(if de (([] : List Note).length + (List.take (Int.toNat y2.2.2.1) y2.1).length) then
(if de ((([] : List Note) ++ (List.take (Int.toNat y2.2.2.1) y2.1)).length + ([(Note.mk y2.2.1.1 y2.2.1.2.1 y2.2.1.2.2.1 y2.2.1.2.2.2.1 y2.2.1.2.2.2.2.1)] : List Note).length) then
(if (decide (0 ≤ y2.2.2.1) && decide (y2.2.2.1 ≤ (y2.1.length : Int))) then
(if de (((([] : List Note) ++ (List.take (Int.toNat y2.2.2.1) y2.1)) ++ ([(Note.mk y2.2.1.1 y2.2.1.2.1 y2.2.1.2.2.1 y2.2.1.2.2.2.1 y2.2.1.2.2.2.2.1)] : List Note)).length + (List.drop (Int.toNat y2.2.2.1) y2.1).length) then
some (((((([] : List Note) ++ (List.take (Int.toNat y2.2.2.1) y2.1)) ++ ([(Note.mk y2.2.1.1 y2.2.1.2.1 y2.2.1.2.2.1 y2.2.1.2.2.2.1 y2.2.1.2.2.2.2.1)] : List Note)) ++ (List.drop (Int.toNat y2.2.2.1) y2.1)), ()), ())
else none)
else none)
else none)
else none)
else none)))
noncomputable def pq : Ent := (131, none, ⟨[.fz .note, Z5], [.row 43 .note], cZ⟩)
theorem oU : SQ Tryz.prog pq := so (v := .two (.nil) (.two (.nil) (.two (.one (.loop rA)) (.nil)))) (fn := Tryz.f131) xd (by kernel_rfl) (by kernel_rfl) (by kernel_rfl) (kC FV (kN)) (fun _ => by kernel_rfl)
noncomputable def GM : Cx := cX [gZ] [] [(11, 25)]
theorem xf : OKC Tryz.prog GM ae := okc mixed (gC eH (an))
noncomputable def kD (x : List Mark × Y8 × Int × Unit) : Rnd (List Mark × Y8 × Int × Unit) (Unit) (List Mark × Y8 × Int × Unit) :=
(if (aF (decide (x.2.2.1 < (x.1.length : Int))) (inb x.2.2.1 x.1.length)) then
(if (aF (decide (x.2.2.1 < (x.1.length : Int))) (inb x.2.2.1 x.1.length)) then
(if (aF (decide (x.2.2.1 < (x.1.length : Int))) ((bm ((rd (dfl .mark) x.1 x.2.2.1).mf, (rd (dfl .mark) x.1 x.2.2.1).mn, x.2.1.1, x.2.1.2.1, ())).isSome)) then
(if ((decide (x.2.2.1 < (x.1.length : Int))) && (((bm ((rd (dfl .mark) x.1 x.2.2.1).mf, (rd (dfl .mark) x.1 x.2.2.1).mn, x.2.1.1, x.2.1.2.1, ())).getD ((false, ()), ())).1.1)) then
some (.inl (x.1, x.2.1, (w64 (x.2.2.1 + 1)), ()))
else
some (.inr (.inr x)))
else none)
else none)
else none)
noncomputable def kB := ax kD
noncomputable def rC : Loop := ⟨[(0, .sl .mark), (3, Z12), (5, .int .i64)], [(0, .sl .mark), (3, Z12), (5, .int .i64)], 0, [], kB⟩
theorem FX : LF Tryz.f134 [] [1, 1, 0, 0, 0] rC := lk (v := .nil) xf (b := kD) (fun _ => by kernel_rfl) rfl (by kernel_rfl) (kN)
noncomputable def dT (x : List Mark × Y8 × Unit) : Option ((List Mark × Unit) × Unit) :=
(au (kB (x.1, x.2.1, 0, ()))
(fun _ => none)
(fun y2 => (if (decide (0 ≤ y2.2.2.1) && decide (y2.2.2.1 ≤ (y2.1.length : Int))) then
(if de (([] : List Mark).length + (List.take (Int.toNat y2.2.2.1) y2.1).length) then
(if de ((([] : List Mark) ++ (List.take (Int.toNat y2.2.2.1) y2.1)).length + ([(Mark.mk y2.2.1.1 y2.2.1.2.1 y2.2.1.2.2.1)] : List Mark).length) then
(if (decide (0 ≤ y2.2.2.1) && decide (y2.2.2.1 ≤ (y2.1.length : Int))) then
(if de (((([] : List Mark) ++ (List.take (Int.toNat y2.2.2.1) y2.1)) ++ ([(Mark.mk y2.2.1.1 y2.2.1.2.1 y2.2.1.2.2.1)] : List Mark)).length + (List.drop (Int.toNat y2.2.2.1) y2.1).length) then
some (((((([] : List Mark) ++ (List.take (Int.toNat y2.2.2.1) y2.1)) ++ ([(Mark.mk y2.2.1.1 y2.2.1.2.1 y2.2.1.2.2.1)] : List Mark)) ++ (List.drop (Int.toNat y2.2.2.1) y2.1)), ()), ())
else none)
else none)
else none)
else none)
else none)))
noncomputable def pr : Ent := (134, none, ⟨[.fz .mark, Z13], [.row 139 .mark], dT⟩)
theorem oW : SQ Tryz.prog pr := so (v := .two (.nil) (.two (.nil) (.two (.one (.loop rC)) (.nil)))) (fn := Tryz.f134) xf (by kernel_rfl) (by kernel_rfl) (by kernel_rfl) (kC FX (kN)) (fun _ => by kernel_rfl)
noncomputable def GU : Cx := cX [dW, dX, ma, pq, pr] [] []
theorem IH : OKC Tryz.prog GU ae := okc mixed (gC cO (gC cQ (gC kE (gC oU (gC oW (an))))))
noncomputable def gT (x : Y7 × Y5 × Unit) : Option ((Y7 × Bool × Unit) × Unit) :=
(cl x.2).bind fun r9 =>
(if (!r9.1.1) then
some ((x.1, false, ()), ())
else
(if (decide (x.2.1.2.2.2.1 ≤ x.1.2.1)) then
some ((x.1, false, ()), ())
else
(aU (x.1.2.2.2.1, x.2.1.1, x.2.1.2.1, ())).bind fun r10 =>
(if (decide (0 ≤ r10.1.1)) then
some ((x.1, false, ()), ())
else
(aU (x.1.2.2.2.2.2.1, x.2.1.1, x.2.1.2.1, ())).bind fun r11 =>
(if (decide (0 ≤ r11.1.1)) then
some ((x.1, false, ()), ())
else
(bN (x.1.2.2.2.2.1, x.2.1.1, x.2.1.2.1, ())).bind fun r12 =>
(if (decide (0 ≤ r12.1.1)) then
some ((x.1, false, ()), ())
else
(if (decide (12 < (w64 ((w64 ((x.1.2.2.2.1.length : Int) + (x.1.2.2.2.2.1.length : Int))) + 1)))) then
some ((x.1, false, ()), ())
else
(if (decide (x.2.1.2.2.1 = x.1.1)) then
(cZ (x.1.2.2.2.2.2.1, x.2)).bind fun r16 =>
(dT (x.1.2.2.2.2.1, (x.2.1.1, x.2.1.2.1, x.2.1.2.2.2.1, ()), ())).bind fun r17 =>
some (((x.1.1, x.1.2.1, x.1.2.2.1, x.1.2.2.2.1, r17.1.1, r16.1), true, ()), ())
else
(cZ (x.1.2.2.2.1, x.2)).bind fun r18 =>
some (((x.1.1, x.1.2.1, x.1.2.2.1, r18.1.1, x.1.2.2.2.2), true, ()), ()))))))))
noncomputable def wW : Ent := (130, none, ⟨[Z10, Z5], [Z10, .bool], gT⟩)
theorem zP : SQ Tryz.prog wW := so (v := .nil) (fn := Tryz.f130) IH (by kernel_rfl) (by kernel_rfl) (by kernel_rfl) (kN) (fun _ => by kernel_rfl)
noncomputable def GR : Cx := cX [dW, wW, pq] [] [(19, 23), (38, 42), (59, 66)]
theorem IE : OKC Tryz.prog GR ae := okc mixed (gC cO (gC zP (gC oU (an))))
noncomputable def gR (x : Y7 × ByteArray × Y5 × Unit) : Option ((Y7 × Bool × Unit) × Unit) :=
(gB (X := ByteArray × Y7 × Y5 × Y7 × Bool × Unit) (fun j16 =>
(if j16.2.2.2.2.1 then
let v18 := (w64 (j16.2.1.2.2.1 + 1))
(gT ((j16.2.1.1, j16.2.1.2.1, v18, j16.2.1.2.2.2), j16.2.2.1, ())).bind fun r19 =>
some (r19.1, ())
else
let v20 := ((decide (j16.1 = (B [116, 97, 107, 101]))) && (!decide (j16.2.2.1.1 = j16.2.1.1)))
(if v20 then
(gT (j16.2.1, j16.2.2.1, ())).bind fun r21 =>
some (r21.1, ())
else
(aU (j16.2.1.2.2.2.1, j16.2.2.1.1, j16.2.2.1.2.1, ())).bind fun r22 =>
(if (aF (!(decide (0 ≤ r22.1.1))) ((aU (j16.2.1.2.2.2.2.2.1, j16.2.2.1.1, j16.2.2.1.2.1, ())).isSome)) then
let v23 := ((decide (0 ≤ r22.1.1)) || (decide (0 ≤ ((aU (j16.2.1.2.2.2.2.2.1, j16.2.2.1.1, j16.2.2.1.2.1, ())).getD ((0, ()), ())).1.1)))
(if v23 then
some ((j16.2.1, false, ()), ())
else
let v24 := (decide (j16.1 = (B [104, 101, 108, 100])))
(if v24 then
(cZ (j16.2.1.2.2.2.1, j16.2.2.1, ())).bind fun r25 =>
some (((j16.2.1.1, j16.2.1.2.1, j16.2.1.2.2.1, r25.1.1, j16.2.1.2.2.2.2), true, ()), ())
else
let v26 := (decide (j16.1 = (B [105, 110, 98, 111, 120])))
(if v26 then
(cZ (j16.2.1.2.2.2.2.2.1, j16.2.2.1, ())).bind fun r27 =>
some (((j16.2.1.1, j16.2.1.2.1, j16.2.1.2.2.1, j16.2.1.2.2.2.1, j16.2.1.2.2.2.2.1, r27.1), true, ()), ())
else
some ((j16.2.1, false, ()), ()))))
else none))))
((if (decide (x.2.1 = (B [111, 119, 110]))) then
let v17 := ((decide (x.2.2.1.1 = x.1.1)) && (decide (x.2.2.1.2.1 = x.1.2.2.1)))
some (.inr (x.2.1, x.1, x.2.2.1, (0, 0, 0, ([] : List Note), ([] : List Mark), ([] : List Note), ()), v17, ()))
else
some (.inr (x.2.1, x.1, x.2.2.1, (0, 0, 0, ([] : List Note), ([] : List Mark), ([] : List Note), ()), false, ())))))
noncomputable def wU : Ent := (101, none, ⟨[Z10, .str, Z5], [Z10, .bool], gR⟩)
theorem zL : SQ Tryz.prog wU := so (v := .two (.nil) (.two (.one (.join [(1, .str), (3, Z9), (5, Z8), (6, Z11), (8, .bool)] (.nil) (.nil))) (.nil))) (fn := Tryz.f101) IE (by kernel_rfl) (by kernel_rfl) (by kernel_rfl) (kN) (fun _ => by kernel_rfl)
noncomputable def DH : Cx := cX [] [] []
theorem Hl : OKC Tryz.prog DH ae := okc mixed (an)
noncomputable def dm (x : List Note × Int × Unit) : Option ((List Note × Unit) × Unit) :=
(if (decide (0 ≤ x.2.1) && decide (x.2.1 ≤ (x.1.length : Int))) then
(if de (([] : List Note).length + (List.take (Int.toNat x.2.1) x.1).length) then
(if (decide (0 ≤ (w64 (x.2.1 + 1))) && decide ((w64 (x.2.1 + 1)) ≤ (x.1.length : Int))) then
(if de ((([] : List Note) ++ (List.take (Int.toNat x.2.1) x.1)).length + (List.drop (Int.toNat (w64 (x.2.1 + 1))) x.1).length) then
some ((((([] : List Note) ++ (List.take (Int.toNat x.2.1) x.1)) ++ (List.drop (Int.toNat (w64 (x.2.1 + 1))) x.1)), ()), ())
else none)
else none)
else none)
else none)
noncomputable def uw : Ent := (133, none, ⟨[.fz .note, .int .i64], [.row 43 .note], dm⟩)
theorem x6 : SQ Tryz.prog uw := so (v := .nil) (fn := Tryz.f133) Hl (by kernel_rfl) (by kernel_rfl) (by kernel_rfl) (kN) (fun _ => by kernel_rfl)
noncomputable def GS : Cx := cX [dW, ma, uw, pr] [] [(41, 49), (70, 78), (90, 91)]
theorem IF : OKC Tryz.prog GS ae := okc mixed (gC cO (gC kE (gC x6 (gC oW (an)))))
noncomputable def gS (x : Y7 × ByteArray × Y8 × Unit) : Option ((Y7 × Bool × Unit) × Unit) :=
(aU (x.1.2.2.2.1, x.2.2.1.1, x.2.2.1.2.1, ())).bind fun r1 =>
(aU (x.1.2.2.2.2.2.1, x.2.2.1.1, x.2.2.1.2.1, ())).bind fun r2 =>
(bN (x.1.2.2.2.2.1, x.2.2.1.1, x.2.2.1.2.1, ())).bind fun r3 =>
(gB (X := ByteArray × Y7 × Y8 × Y7 × Int × Int × Bool × Bool × Unit) (fun j16 =>
(if j16.2.2.2.2.2.2.2.1 then
(dm (j16.2.1.2.2.2.1, j16.2.2.2.2.1, ())).bind fun r18 =>
(dT (j16.2.1.2.2.2.2.1, j16.2.2.1, ())).bind fun r19 =>
some (((j16.2.1.1, j16.2.1.2.1, j16.2.1.2.2.1, r18.1.1, r19.1.1, j16.2.1.2.2.2.2.2), true, ()), ())
else
(gB (X := ByteArray × Y7 × Y8 × Y7 × Int × Bool × Bool × Unit) (fun j20 =>
(if j20.2.2.2.2.2.2.1 then
(dm (j20.2.1.2.2.2.2.2.1, j20.2.2.2.2.1, ())).bind fun r22 =>
some (((j20.2.1.1, j20.2.1.2.1, j20.2.1.2.2.1, j20.2.1.2.2.2.1, j20.2.1.2.2.2.2.1, r22.1), true, ()), ())
else
let v23 := ((decide (j20.1 = (B [109, 97, 114, 107]))) && (!j20.2.2.2.2.2.1))
(if v23 then
(dT (j20.2.1.2.2.2.2.1, j20.2.2.1, ())).bind fun r24 =>
some (((j20.2.1.1, j20.2.1.2.1, j20.2.1.2.2.1, j20.2.1.2.2.2.1, r24.1.1, j20.2.1.2.2.2.2.2), true, ()), ())
else
some ((j20.2.1, false, ()), ()))))
((if (decide (j16.1 = (B [101, 97, 116]))) then
(if (aF (decide (0 ≤ j16.2.2.2.2.2.1)) (inb j16.2.2.2.2.2.1 j16.2.1.2.2.2.2.2.1.length)) then
let v21 := ((decide (0 ≤ j16.2.2.2.2.2.1)) && (decide ((rd (dfl .note) j16.2.1.2.2.2.2.2.1 j16.2.2.2.2.2.1).un = j16.2.2.1.2.2.1)))
some (.inr (j16.1, j16.2.1, j16.2.2.1, j16.2.2.2.1, j16.2.2.2.2.2.1, j16.2.2.2.2.2.2.1, v21, ()))
else none)
else
(if (aF false (inb j16.2.2.2.2.2.1 j16.2.1.2.2.2.2.2.1.length)) then
some (.inr (j16.1, j16.2.1, j16.2.2.1, j16.2.2.2.1, j16.2.2.2.2.2.1, j16.2.2.2.2.2.2.1, false, ()))
else none))))))
((if (decide (x.2.1 = (B [108, 101, 116]))) then
(if (aF (decide (0 ≤ r1.1.1)) (inb r1.1.1 x.1.2.2.2.1.length)) then
let v17 := ((decide (0 ≤ r1.1.1)) && (decide ((rd (dfl .note) x.1.2.2.2.1 r1.1.1).un = x.2.2.1.2.2.1)))
some (.inr (x.2.1, x.1, x.2.2.1, (0, 0, 0, ([] : List Note), ([] : List Mark), ([] : List Note), ()), r1.1.1, r2.1.1, (decide (0 ≤ r3.1.1)), v17, ()))
else none)
else
(if (aF false (inb r1.1.1 x.1.2.2.2.1.length)) then
some (.inr (x.2.1, x.1, x.2.2.1, (0, 0, 0, ([] : List Note), ([] : List Mark), ([] : List Note), ()), r1.1.1, r2.1.1, (decide (0 ≤ r3.1.1)), false, ()))
else none))))
noncomputable def wV : Ent := (104, none, ⟨[Z10, .str, Z13], [Z10, .bool], gS⟩)
theorem zM : SQ Tryz.prog wV := so (v := .two (.nil) (.two (.nil) (.two (.nil) (.two (.one (.join [(1, .str), (3, Z9), (5, Z12), (6, Z11), (8, .int .i64), (9, .int .i64), (10, .bool), (33, .bool)] (.nil) (.two (.nil) (.join [(1, .str), (3, Z9), (5, Z12), (6, Z11), (9, .int .i64), (10, .bool), (62, .bool)] (.nil) (.nil))))) (.nil))))) (fn := Tryz.f104) IF (by kernel_rfl) (by kernel_rfl) (by kernel_rfl) (kN) (fun _ => by kernel_rfl)
noncomputable def Im : Cx := cX [k9, wC, Ab, si, wU, mF, rN, wV] [] [(69, 71)]
theorem KD : OKC Tryz.prog Im ae := okc mixed (gC ji (gC yx (gC Be (gC vS (gC zL (gC mP (gC vz (gC zM (an)))))))))
noncomputable def kO (x : Y7 × ByteArray × Unit) : Option ((Y7 × Bool × Unit) × Unit) :=
(gK (x.2.1, (B [32]), ())).bind fun r1 =>
(if (!r1.1.2.2.1) then
some ((x.1, false, ()), ())
else
(gB (X := Y7 × Y7 × ByteArray × ByteArray × ByteArray × Bool × Unit) (fun j30 =>
(if j30.2.2.2.2.2.1 then
(cu (j30.2.2.2.1, ())).bind fun r33 =>
(if r33.1.2.1 then
(kM (j30.1, j30.2.2.1, r33.1.1, ())).bind fun r34 =>
some (r34.1, ())
else
some ((j30.1, false, ()), ()))
else
(gB (X := Y7 × Y7 × ByteArray × ByteArray × ByteArray × Bool × Unit) (fun j35 =>
(if j35.2.2.2.2.2.1 then
(dO (j35.2.2.2.1, ())).bind fun r40 =>
(if r40.1.2.1 then
(gR (j35.1, j35.2.2.1, r40.1.1, ())).bind fun r41 =>
some (r41.1, ())
else
some ((j35.1, false, ()), ()))
else
(gB (X := Y7 × Y7 × ByteArray × ByteArray × Bool × Unit) (fun j42 =>
(if j42.2.2.2.2.1 then
(g8 (j42.2.2.2.1, (B [32]), ())).bind fun r46 =>
(cG r46.1).bind fun r47 =>
(if (r47.1.2.1 && (decide ((r47.1.1.length : Int) = 3))) then
(if inb 0 r47.1.1.length then
(if inb 1 r47.1.1.length then
(if inb 2 r47.1.1.length then
(gS (j42.1, j42.2.2.1, ((rd (dfl .int) r47.1.1 0), (rd (dfl .int) r47.1.1 1), (rd (dfl .int) r47.1.1 2), ()), ())).bind fun r48 =>
some (r48.1, ())
else none)
else none)
else none)
else
some ((j42.1, false, ()), ()))
else
some ((j42.1, false, ()), ())))
(let v43 := (decide (j35.2.2.2.2.1 = (B [108, 101, 116])))
(if v43 then
some (.inr (j35.1, j35.2.1, j35.2.2.1, j35.2.2.2.1, v43, ()))
else
let v44 := (decide (j35.2.2.2.2.1 = (B [101, 97, 116])))
(if v44 then
some (.inr (j35.1, j35.2.1, j35.2.2.1, j35.2.2.2.1, v44, ()))
else
let v45 := (decide (j35.2.2.2.2.1 = (B [109, 97, 114, 107])))
some (.inr (j35.1, j35.2.1, j35.2.2.1, j35.2.2.2.1, v45, ()))))))))
(let v36 := (decide (j30.2.2.2.2.1 = (B [111, 119, 110])))
(if v36 then
some (.inr (j30.1, j30.2.1, j30.2.2.1, j30.2.2.2.1, j30.2.2.2.2.1, v36, ()))
else
let v37 := (decide (j30.2.2.2.2.1 = (B [116, 97, 107, 101])))
(if v37 then
some (.inr (j30.1, j30.2.1, j30.2.2.1, j30.2.2.2.1, j30.2.2.2.2.1, v37, ()))
else
let v38 := (decide (j30.2.2.2.2.1 = (B [104, 101, 108, 100])))
(if v38 then
some (.inr (j30.1, j30.2.1, j30.2.2.1, j30.2.2.2.1, j30.2.2.2.2.1, v38, ()))
else
let v39 := (decide (j30.2.2.2.2.1 = (B [105, 110, 98, 111, 120])))
some (.inr (j30.1, j30.2.1, j30.2.2.1, j30.2.2.2.1, j30.2.2.2.2.1, v39, ())))))))))
(let v31 := (decide (r1.1.1 = (B [116, 105, 109, 101])))
(if v31 then
some (.inr (x.1, (0, 0, 0, ([] : List Note), ([] : List Mark), ([] : List Note), ()), r1.1.1, r1.1.2.1, r1.1.1, v31, ()))
else
let v32 := (decide (r1.1.1 = (B [110, 101, 120, 116])))
some (.inr (x.1, (0, 0, 0, ([] : List Note), ([] : List Mark), ([] : List Note), ()), r1.1.1, r1.1.2.1, r1.1.1, v32, ()))))))
noncomputable def Ac : Ent := (84, none, ⟨[Z10, .str], [Z10, .bool], kO⟩)
theorem Bf : SQ Tryz.prog Ac := so (v := .two (.nil) (.two (.nil) (.two (.nil) (.two (.two (.nil) (.one (.join [(2, Z9), (4, Z11), (6, .str), (7, .str), (24, .str), (25, .bool)] (.nil) (.two (.nil) (.join [(2, Z9), (4, Z11), (6, .str), (7, .str), (24, .str), (40, .bool)] (.nil) (.two (.nil) (.join [(2, Z9), (4, Z11), (6, .str), (7, .str), (57, .bool)] (.nil) (.nil)))))))) (.nil))))) (fn := Tryz.f84) KD (by kernel_rfl) (by kernel_rfl) (by kernel_rfl) (kN) (fun _ => by kernel_rfl)
noncomputable def vV : Cx := cX [] [] []
theorem yj : OKC Tryz.prog vV ae := okc mixed (an)
noncomputable def dE (x : List Note × Unit) : Option ((List Note × Unit) × Unit) :=
(if (decide ((x.1.length : Int) = 0)) then
some ((([] : List Note), ()), ())
else
(if decide (0 ≤ (x.1.length : Int)) && decide ((x.1.length : Int) ≤ 4294967296) then
some (((List.take (List.replicate (Int.toNat (x.1.length : Int)) (dfl .note)).length x.1 ++ List.drop x.1.length (List.replicate (Int.toNat (x.1.length : Int)) (dfl .note))), ()), ())
else none))
noncomputable def ow : Ent := (105, none, ⟨[.fz .note], [.row 43 .note], dE⟩)
theorem qW : SQ Tryz.prog ow := so (v := .nil) (fn := Tryz.f105) yj (by kernel_rfl) (by kernel_rfl) (by kernel_rfl) (kN) (fun _ => by kernel_rfl)
noncomputable def vW : Cx := cX [] [] []
theorem yk : OKC Tryz.prog vW ae := okc mixed (an)
noncomputable def jn (x : List Mark × Unit) : Option ((List Mark × Unit) × Unit) :=
(if (decide ((x.1.length : Int) = 0)) then
some ((([] : List Mark), ()), ())
else
(if decide (0 ≤ (x.1.length : Int)) && decide ((x.1.length : Int) ≤ 4294967296) then
some (((List.take (List.replicate (Int.toNat (x.1.length : Int)) (dfl .mark)).length x.1 ++ List.drop x.1.length (List.replicate (Int.toNat (x.1.length : Int)) (dfl .mark))), ()), ())
else none))
noncomputable def oy : Ent := (106, none, ⟨[.fz .mark], [.row 139 .mark], jn⟩)
theorem qX : SQ Tryz.prog oy := so (v := .nil) (fn := Tryz.f106) yk (by kernel_rfl) (by kernel_rfl) (by kernel_rfl) (kN) (fun _ => by kernel_rfl)
noncomputable def BK : Cx := cX [ow, oy] [] []
theorem DZ : OKC Tryz.prog BK ae := okc mixed (gC qW (gC qX (an)))
noncomputable def cH (x : Y7 × Unit) : Option ((Y7 × Unit) × Unit) :=
(dE (x.1.2.2.2.1, ())).bind fun r1 =>
(jn (x.1.2.2.2.2.1, ())).bind fun r2 =>
(dE x.1.2.2.2.2.2).bind fun r3 =>
some (((x.1.1, x.1.2.1, x.1.2.2.1, r1.1.1, r2.1.1, r3.1), ()), ())
noncomputable def sg : Ent := (85, none, ⟨[Z10], [Z7], cH⟩)
theorem vR : SQ Tryz.prog sg := so (v := .nil) (fn := Tryz.f85) DZ (by kernel_rfl) (by kernel_rfl) (by kernel_rfl) (kN) (fun _ => by kernel_rfl)
noncomputable def GZ : Cx := cX [wX, Ac, sg] [] [(22, 24)]
theorem IJ : OKC Tryz.prog GZ ae := okc mixed (gC zQ (gC Bf (gC vR (an))))
noncomputable def l7 (x : Y7 × ByteArray × Unit) : Option ((Y7 × Bool × Unit) × Unit) :=
(dV (x.1, ())).bind fun r2 =>
(if (!r2.1.1) then
some (((0, 0, 0, ([] : List Note), ([] : List Mark), ([] : List Note), ()), false, ()), ())
else
(cH (x.1, ())).bind fun r3 =>
(kO (r3.1.1, x.2)).bind fun r4 =>
(if (aF (!(!r4.1.2.1)) ((dV (r4.1.1, ())).isSome)) then
(if ((!r4.1.2.1) || (!(((dV (r4.1.1, ())).getD ((false, ()), ())).1.1))) then
(cH (x.1, ())).bind fun r6 =>
some ((r6.1.1, false, ()), ())
else
(cH (r4.1.1, ())).bind fun r7 =>
some ((r7.1.1, true, ()), ()))
else none))
noncomputable def wZ : Ent := (71, none, ⟨[Z10, .str], [Z7, .bool], l7⟩)
theorem zS : SQ Tryz.prog wZ := so (v := .nil) (fn := Tryz.f71) IJ (by kernel_rfl) (by kernel_rfl) (by kernel_rfl) (kN) (fun _ => by kernel_rfl)
noncomputable def GY : Cx := cX [bn, qo, wZ] [] []
theorem xi : OKC Tryz.prog GY ae := okc mixed (gC aW (gC tI (gC zS (an))))
noncomputable def fN (x : Y7 × Y7 × List ByteArray × Int × Int × Unit) : Rnd (Y7 × Y7 × List ByteArray × Int × Int × Unit) (Y7 × Bool × Unit) (Y7 × Y7 × Unit) :=
(if (decide (x.2.2.2.2.1 < x.2.2.2.1)) then
(if inb x.2.2.2.2.1 x.2.2.1.length then
let v15 := (rd (dfl .str) x.2.2.1 x.2.2.2.2.1)
(l7 (x.2.1, v15, ())).bind fun r16 =>
(if (!r16.1.2.1) then
some (.inr (.inl ((0, 0, 0, ([] : List Note), ([] : List Mark), ([] : List Note), ()), false, ())))
else
some (.inl (x.1, r16.1.1, x.2.2.1, x.2.2.2.1, (w64 (x.2.2.2.2.1 + 1)), ())))
else none)
else
some (.inr (.inr (x.1, x.2.1, ()))))
noncomputable def k0 := ax fN
noncomputable def rM : Loop := ⟨[(4, Z11), (6, Z11), (17, .sl .str), (18, .int .i64), (19, .int .i64)], [(4, Z11), (6, Z11)], 0, [(4, Z11), (5, .bool)], k0⟩
theorem F2 : LF Tryz.f51 [] [1, 1, 1, 0, 1, 0, 0] rM := lk (v := .nil) xi (b := fN) (fun _ => by kernel_rfl) rfl (by kernel_rfl) (kN)
noncomputable def l6 (x : Int × List ByteArray × Unit) : Option ((Y7 × Bool × Unit) × Unit) :=
(aN (x.1, ())).bind fun r2 =>
(if (!r2.1.1) then
some (((0, 0, 0, ([] : List Note), ([] : List Mark), ([] : List Note), ()), false, ()), ())
else
(gw (x.1, ())).bind fun r3 =>
(au (k0 ((0, 0, 0, ([] : List Note), ([] : List Mark), ([] : List Note), ()), r3.1.1, x.2.1, (x.2.1.length : Int), 0, ()))
(fun y17 => some (y17, ()))
(fun y17 => some ((y17.2.1, true, ()), ()))))
noncomputable def wY : Ent := (51, none, ⟨[.int .i64, .fz .str], [Z7, .bool], l6⟩)
theorem zR : SQ Tryz.prog wY := so (v := .two (.nil) (.two (.nil) (.two (.nil) (.two (.two (.nil) (.one (.loop rM))) (.nil))))) (fn := Tryz.f51) xi (by kernel_rfl) (by kernel_rfl) (by kernel_rfl) (kC F2 (kN)) (fun _ => by kernel_rfl)
noncomputable def DF : Cx := cX [lE, wY] [] []
theorem Hk : OKC Tryz.prog DF ae := okc mixed (gC mm (gC zR (an)))
noncomputable def bu (x : Int × ByteArray × Unit) : Option ((Y7 × Bool × Unit) × Unit) :=
(cq x.2).bind fun r1 =>
(l6 (x.1, r1.1.1, ())).bind fun r2 =>
some (r2.1, ())
noncomputable def ov : Ent := (24, none, ⟨[.int .i64, .str], [Z7, .bool], bu⟩)
theorem n7 : SQ Tryz.prog ov := so (v := .nil) (fn := Tryz.f24) Hk (by kernel_rfl) (by kernel_rfl) (by kernel_rfl) (kN) (fun _ => by kernel_rfl)
noncomputable def DL : Cx := cX [cI, lE] [] [(12, 18), (41, 44)]
theorem Hn : OKC Tryz.prog DL ae := okc mixed (gC bf (gC mm (an)))
noncomputable def kS (x : Y0 × Unit) : Option ((Bool × Unit) × Unit) :=
(if (aF (!(decide (2400 < (x.1.1.size : Int)))) ((aE (x.1.2.1, 0, (x.1.1.size : Int), ())).isSome)) then
(if ((decide (2400 < (x.1.1.size : Int))) || (!(((aE (x.1.2.1, 0, (x.1.1.size : Int), ())).getD ((false, ()), ())).1.1))) then
some ((false, ()), ())
else
(cq (x.1.1, ())).bind fun r1 =>
(if (decide (0 ≤ x.1.2.1) && decide (x.1.2.1 ≤ (x.1.1.size : Int))) then
(cq ((x.1.1.extract (0) (Int.toNat x.1.2.1)), ())).bind fun r2 =>
let v4 := ((decide (r1.1.2.1 = (x.1.1.size : Int))) && (decide (r2.1.2.1 = x.1.2.1)))
some ((v4, ()), ())
else none))
else none)
noncomputable def uz : Ent := (65, none, ⟨[Z0], [.bool], kS⟩)
theorem ya : SQ Tryz.prog uz := so (v := .nil) (fn := Tryz.f65) Hn (by kernel_rfl) (by kernel_rfl) (by kernel_rfl) (kN) (fun _ => by kernel_rfl)
noncomputable def GP : Cx := cX [cI, bn] [] [(54, 57)]
theorem pv : OKC Tryz.prog GP ae := okc mixed (gC bf (gC aW (an)))
noncomputable def kJ (x : Y2 × Y1 × List Mixed × Int × Int × List Mixed × Int × Int × Unit) : Rnd (Y2 × Y1 × List Mixed × Int × Int × List Mixed × Int × Int × Unit) (Bool × Unit) (Y2 × List Mixed × Int × Int × Unit) :=
(if (decide (x.2.2.2.2.2.2.2.1 < x.2.2.2.2.2.2.1)) then
(if inb x.2.2.2.2.2.2.2.1 x.2.2.2.2.2.1.length then
let v72 := (rd (dfl .mixed) x.2.2.2.2.2.1 x.2.2.2.2.2.2.2.1).nu
let v73 := (rd (dfl .mixed) x.2.2.2.2.2.1 x.2.2.2.2.2.2.2.1).da
(if (decide (v72 = x.2.1.1)) then
some (.inr (.inl (false, ())))
else
some (.inl (x.1, x.2.1, x.2.2.1, x.2.2.2.1, x.2.2.2.2.1, x.2.2.2.2.2.1, x.2.2.2.2.2.2.1, (w64 (x.2.2.2.2.2.2.2.1 + 1)), ())))
else none)
else
some (.inr (.inr (x.1, x.2.2.1, x.2.2.2.1, x.2.2.2.2.1, ()))))
noncomputable def kH := ax kJ
noncomputable def rF : Loop := ⟨[(1, Z14), (4, Z21), (42, .sl .mixed), (43, .int .i64), (44, .int .i64), (62, .sl .mixed), (63, .int .i64), (64, .int .i64)], [(1, Z14), (42, .sl .mixed), (43, .int .i64), (44, .int .i64)], 2, [(2, .bool)], kH⟩
theorem FM : LF Tryz.f66 [] [1, 1, 0, 1, 0, 0, 1, 1, 0, 0, 1, 1, 1, 0, 0] rF := lk (v := .nil) pv (b := kJ) (fun _ => by kernel_rfl) rfl (by kernel_rfl) (kN)
noncomputable def kK (x : Y2 × List Mixed × Int × Int × Unit) : Rnd (Y2 × List Mixed × Int × Int × Unit) (Bool × Unit) (Unit) :=
(if (decide (x.2.2.2.1 < x.2.2.1)) then
(if inb x.2.2.2.1 x.2.1.length then
let v63 := (rd (dfl .mixed) x.2.1 x.2.2.2.1).nu
let v64 := (rd (dfl .mixed) x.2.1 x.2.2.2.1).da
(aE (v63, 0, 999, ())).bind fun r65 =>
(if ((!r65.1.1) || (!decide ((v64.size : Int) = 4))) then
some (.inr (.inl (false, ())))
else
(if (decide (0 ≤ x.2.2.2.1) && decide (x.2.2.2.1 ≤ (x.1.2.2.2.2.2.1.length : Int))) then
(au (kH (x.1, (v63, v64, ()), x.2.1, x.2.2.1, x.2.2.2.1, (List.take (Int.toNat x.2.2.2.1) x.1.2.2.2.2.2.1), ((List.take (Int.toNat x.2.2.2.1) x.1.2.2.2.2.2.1).length : Int), 0, ()))
(fun y74 => some (.inr (.inl y74)))
(fun y74 => some (.inl (y74.1, y74.2.1, y74.2.2.1, (w64 (y74.2.2.2.1 + 1)), ()))))
else none))
else none)
else
some (.inr (.inr ())))
noncomputable def kI := ax kK
noncomputable def rG : Loop := ⟨[(1, Z14), (42, .sl .mixed), (43, .int .i64), (44, .int .i64)], [], 0, [(2, .bool)], kI⟩
theorem FZ : LF Tryz.f66 [] [1, 1, 0, 1, 0, 0] rG := lk (v := .two (.nil) (.two (.nil) (.two (.one (.two (.nil) (.two (.nil) (.two (.nil) (.one (.loop rF)))))) (.nil)))) pv (b := kK) (fun _ => by kernel_rfl) rfl (by kernel_rfl) (kC FM (kN))
noncomputable def lZ (x : Y2 × Unit) : Option ((Bool × Unit) × Unit) :=
(aN (x.1.1, ())).bind fun r11 =>
(if (!r11.1.1) then
some ((false, ()), ())
else
(aN (x.1.2.2.1, ())).bind fun r12 =>
(if (!r12.1.1) then
some ((false, ()), ())
else
(aE (x.1.2.1, 1, 99, ())).bind fun r13 =>
(if (!r13.1.1) then
some ((false, ()), ())
else
(aE (x.1.2.2.2.1, 1, 999, ())).bind fun r14 =>
(if (!r14.1.1) then
some ((false, ()), ())
else
(aE (x.1.2.2.2.2.1, 1, 24, ())).bind fun r15 =>
(if (!r15.1.1) then
some ((false, ()), ())
else
(if (decide (14 < (x.1.2.2.2.2.2.1.length : Int))) then
some ((false, ()), ())
else
(au (kI (x.1, x.1.2.2.2.2.2.1, (x.1.2.2.2.2.2.1.length : Int), 0, ()))
(fun y75 => some (y75, ()))
(fun y75 => some ((true, ()), ())))))))))
noncomputable def wS : Ent := (66, none, ⟨[Z2], [.bool], lZ⟩)
theorem zI : SQ Tryz.prog wS := so (v := .two (.nil) (.two (.nil) (.two (.two (.nil) (.one (.loop rG))) (.nil)))) (fn := Tryz.f66) pv (by kernel_rfl) (by kernel_rfl) (by kernel_rfl) (kC FZ (kN)) (fun _ => by kernel_rfl)
noncomputable def GQ : Cx := cX [] [] [(21, 24)]
theorem xh : OKC Tryz.prog GQ ae := okc mixed (an)
noncomputable def fD (x : Int × Int × List Half × Int × Int × Unit) : Rnd (Int × Int × List Half × Int × Int × Unit) (Int × Unit) (Unit) :=
(if (decide (x.2.2.2.2.1 < x.2.2.2.1)) then
(if inb x.2.2.2.2.1 x.2.2.1.length then
let v32 := (rd (dfl .half) x.2.2.1 x.2.2.2.2.1).fr
let v33 := (rd (dfl .half) x.2.2.1 x.2.2.2.2.1).nu
let v34 := (rd (dfl .half) x.2.2.1 x.2.2.2.2.1).to
let v35 := (rd (dfl .half) x.2.2.1 x.2.2.2.2.1).un
let v36 := (rd (dfl .half) x.2.2.1 x.2.2.2.2.1).sz
let v37 := (rd (dfl .half) x.2.2.1 x.2.2.2.2.1).got
(if ((decide (v32 = x.1)) && (decide (v33 = x.2.1))) then
some (.inr (.inl x.2.2.2.2))
else
some (.inl (x.1, x.2.1, x.2.2.1, x.2.2.2.1, (w64 (x.2.2.2.2.1 + 1)), ())))
else none)
else
some (.inr (.inr ())))
noncomputable def kL := ax fD
noncomputable def rH : Loop := ⟨[(1, .int .i64), (2, .int .i64), (9, .sl .half), (10, .int .i64), (11, .int .i64)], [], 0, [(6, .int .i64)], kL⟩
theorem F0 : LF Tryz.f67 [] [1, 0, 1, 0, 0] rH := lk (v := .nil) xh (b := fD) (fun _ => by kernel_rfl) rfl (by kernel_rfl) (kN)
noncomputable def gQ (x : List Half × Int × Int × Unit) : Option ((Int × Unit) × Unit) :=
(au (kL (x.2.1, x.2.2.1, x.1, (x.1.length : Int), 0, ()))
(fun y38 => some (y38, ()))
(fun y38 => some (((-1), ()), ())))
noncomputable def wT : Ent := (67, none, ⟨[.fz .half, .int .i64, .int .i64], [.int .i64], gQ⟩)
theorem zJ : SQ Tryz.prog wT := so (v := .two (.nil) (.two (.two (.nil) (.one (.loop rH))) (.nil))) (fn := Tryz.f67) xh (by kernel_rfl) (by kernel_rfl) (by kernel_rfl) (kC F0 (kN)) (fun _ => by kernel_rfl)
noncomputable def BN : Cx := cX [ov, bn, uz, wS, wT] [] [(61, 62), (76, 84)]
theorem sB : OKC Tryz.prog BN ae := okc mixed (gC n7 (gC aW (gC ya (gC zI (gC zJ (an))))))
noncomputable def gv (x : Y3 × List Half × Int × Int × Unit) : Rnd (Y3 × List Half × Int × Int × Unit) (Bool × Unit) (Unit) :=
(if (decide (x.2.2.2.1 < x.2.2.1)) then
(if inb x.2.2.2.1 x.2.1.length then
let v49 := (rd (dfl .half) x.2.1 x.2.2.2.1).fr
let v50 := (rd (dfl .half) x.2.1 x.2.2.2.1).nu
let v51 := (rd (dfl .half) x.2.1 x.2.2.2.1).to
let v52 := (rd (dfl .half) x.2.1 x.2.2.2.1).un
let v53 := (rd (dfl .half) x.2.1 x.2.2.2.1).sz
let v54 := (rd (dfl .half) x.2.1 x.2.2.2.1).got
(lZ ((v49, v50, v51, v52, v53, v54, ()), ())).bind fun r55 =>
(if (aF (!(!r55.1.1)) ((gQ (x.1.2.2.2.2.1, v49, v50, ())).isSome)) then
(if ((!r55.1.1) || (decide (((gQ (x.1.2.2.2.2.1, v49, v50, ())).getD ((0, ()), ())).1.1 < x.2.2.2.1))) then
some (.inr (.inl (false, ())))
else
some (.inl (x.1, x.2.1, x.2.2.1, (w64 (x.2.2.2.1 + 1)), ())))
else none)
else none)
else
some (.inr (.inr ())))
noncomputable def c6 := ax gv
noncomputable def oZ : Loop := ⟨[(1, Z15), (65, .sl .half), (66, .int .i64), (67, .int .i64)], [], 0, [(2, .bool)], c6⟩
theorem Ba : LF Tryz.f48 [] [1, 1, 1, 1, 1, 0, 1, 0, 0] oZ := lk (v := .nil) sB (b := gv) (fun _ => by kernel_rfl) rfl (by kernel_rfl) (kN)
noncomputable def dP (x : Y3 × Unit) : Option ((Bool × Unit) × Unit) :=
(gB (X := Y3 × Unit) (fun j5 =>
(bu (j5.1.1, j5.1.2.2.1, ())).bind fun r8 =>
(if (decide (0 ≤ j5.1.2.2.2.1) && decide (j5.1.2.2.2.1 ≤ (j5.1.2.2.1.size : Int))) then
(bu (j5.1.1, (j5.1.2.2.1.extract (0) (Int.toNat j5.1.2.2.2.1)), ())).bind fun r9 =>
(if ((!r8.1.2.1) || (!r9.1.2.1)) then
some ((false, ()), ())
else
(au (c6 (j5.1, j5.1.2.2.2.2.1, (j5.1.2.2.2.2.1.length : Int), 0, ()))
(fun y56 => some (y56, ()))
(fun y56 => some ((true, ()), ()))))
else none))
((aN (x.1.1, ())).bind fun r6 =>
(if (!r6.1.1) then
some (.inl ((false, ()), ()))
else
(kS ((x.1.2.2.1, x.1.2.2.2.1, ()), ())).bind fun r7 =>
(if (!r7.1.1) then
some (.inl ((false, ()), ()))
else
(if (decide (3 < (x.1.2.2.2.2.1.length : Int))) then
some (.inl ((false, ()), ()))
else
(if (!x.1.2.1) then
(if (decide (0 < (x.1.2.2.2.2.1.length : Int))) then
some (.inl ((false, ()), ()))
else
some (.inr x))
else
some (.inr x)))))))
noncomputable def sn : Ent := (48, none, ⟨[Z3], [.bool], dP⟩)
theorem vU : SQ Tryz.prog sn := so (v := .two (.nil) (.join [(1, Z15)] (.nil) (.two (.nil) (.two (.nil) (.two (.nil) (.two (.two (.nil) (.one (.loop oZ))) (.nil))))))) (fn := Tryz.f48) sB (by kernel_rfl) (by kernel_rfl) (by kernel_rfl) (kC Ba (kN)) (fun _ => by kernel_rfl)
noncomputable def DM : Cx := cX [cI, Ae, sn, bn] [] [(54, 56)]
theorem oD : OKC Tryz.prog DM ae := okc mixed (gC bf (gC Bh (gC vU (gC aW (an)))))
noncomputable def iM (x : List Parcel × Int × Int × Unit) : Rnd (List Parcel × Int × Int × Unit) (Bool × Unit) (Unit) :=
(if (decide (x.2.2.1 < x.2.1)) then
(if inb x.2.2.1 x.1.length then
let v79 := (rd (dfl .parcel) x.1 x.2.2.1).src
let v80 := (rd (dfl .parcel) x.1 x.2.2.1).dst
let v81 := (rd (dfl .parcel) x.1 x.2.2.1).data
let v82 := (rd (dfl .parcel) x.1 x.2.2.1).sp
(aN (v79, ())).bind fun r83 =>
(if (!r83.1.1) then
some (.inr (.inl (false, ())))
else
(aN (v80, ())).bind fun r84 =>
(if (!r84.1.1) then
some (.inr (.inl (false, ())))
else
(if (!decide ((w64 (v79 - v80)) = 1)) then
(if (!decide ((w64 (v80 - v79)) = 1)) then
some (.inr (.inl (false, ())))
else
(if (decide (40 < (v81.size : Int))) then
some (.inr (.inl (false, ())))
else
some (.inl (x.1, x.2.1, (w64 (x.2.2.1 + 1)), ()))))
else
(if (decide (40 < (v81.size : Int))) then
some (.inr (.inl (false, ())))
else
some (.inl (x.1, x.2.1, (w64 (x.2.2.1 + 1)), ()))))))
else none)
else
some (.inr (.inr ())))
noncomputable def jq := ax iM
noncomputable def pZ : Loop := ⟨[(60, .sl .parcel), (61, .int .i64), (62, .int .i64)], [], 2, [(2, .bool)], jq⟩
theorem CJ : LF Tryz.f22 [] [1, 1, 1, 0, 1, 0, 0] pZ := lk (v := .nil) oD (b := iM) (fun _ => by kernel_rfl) rfl (by kernel_rfl) (kN)
noncomputable def iN (x : Y6 × List Keeper × Int × Int × Unit) : Rnd (Y6 × List Keeper × Int × Int × Unit) (Bool × Unit) (Y6 × Unit) :=
(if (decide (x.2.2.2.1 < x.2.2.1)) then
(if inb x.2.2.2.1 x.2.1.length then
let v36 := (rd (dfl .keeper) x.2.1 x.2.2.2.1).id
let v37 := (rd (dfl .keeper) x.2.1 x.2.2.2.1).up
let v38 := (rd (dfl .keeper) x.2.1 x.2.2.2.1).log
let v39 := (rd (dfl .keeper) x.2.1 x.2.2.2.1).fo
let v40 := (rd (dfl .keeper) x.2.1 x.2.2.2.1).halves
(if (aF (!(!decide (v36 = x.2.2.2.1))) ((dP ((v36, v37, v38, v39, v40, ()), ())).isSome)) then
(if ((!decide (v36 = x.2.2.2.1)) || (!(((dP ((v36, v37, v38, v39, v40, ()), ())).getD ((false, ()), ())).1.1))) then
some (.inr (.inl (false, ())))
else
some (.inl (x.1, x.2.1, x.2.2.1, (w64 (x.2.2.2.1 + 1)), ())))
else none)
else none)
else
some (.inr (.inr (x.1, ()))))
noncomputable def jr := ax iN
noncomputable def p5 : Loop := ⟨[(1, Z16), (42, .sl .keeper), (43, .int .i64), (44, .int .i64)], [(1, Z16)], 0, [(2, .bool)], jr⟩
theorem C3 : LF Tryz.f22 [] [1, 1, 0, 1, 0, 0] p5 := lk (v := .nil) oD (b := iN) (fun _ => by kernel_rfl) rfl (by kernel_rfl) (kN)
noncomputable def kT (x : Y6 × Unit) : Option ((Bool × Unit) × Unit) :=
(aE (x.1.1, 0, 99999, ())).bind fun r7 =>
(if (!r7.1.1) then
some ((false, ()), ())
else
(if (!decide ((x.1.2.1.length : Int) = 4)) then
some ((false, ()), ())
else
(if (!decide ((x.1.2.2.1.length : Int) = 3)) then
some ((false, ()), ())
else
(if (decide (30 < (x.1.2.2.2.1.length : Int))) then
some ((false, ()), ())
else
(kQ (x.1.2.2.2.2.1, ())).bind fun r8 =>
(if (!r8.1.1) then
some ((false, ()), ())
else
(kQ x.1.2.2.2.2.2).bind fun r9 =>
(if (!r9.1.1) then
some ((false, ()), ())
else
(au (jr (x.1, x.1.2.1, (x.1.2.1.length : Int), 0, ()))
(fun y41 => some (y41, ()))
(fun y41 => (au (jq (y41.1.2.2.2.1, (y41.1.2.2.2.1.length : Int), 0, ()))
(fun y85 => some (y85, ()))
(fun y85 => some ((true, ()), ())))))))))))
noncomputable def uA : Ent := (22, none, ⟨[Z6], [.bool], kT⟩)
theorem yb : SQ Tryz.prog uA := so (v := .two (.nil) (.two (.nil) (.two (.two (.nil) (.one (.loop p5))) (.two (.two (.nil) (.one (.loop pZ))) (.nil))))) (fn := Tryz.f22) oD (by kernel_rfl) (by kernel_rfl) (by kernel_rfl) (kC C3 (kC CJ (kN))) (fun _ => by kernel_rfl)
noncomputable def In : Cx := cX [dW] [] []
theorem Az : OKC Tryz.prog In ae := okc mixed (gC cO (an))
noncomputable def l4 (x : List Note × List Note × Int × Int × Unit) : Rnd (List Note × List Note × Int × Int × Unit) (Bool × Unit) (Unit) :=
(if (decide (x.2.2.2.1 < x.2.2.1)) then
(if inb x.2.2.2.1 x.2.1.length then
let v32 := (rd (dfl .note) x.2.1 x.2.2.2.1).fr
let v33 := (rd (dfl .note) x.2.1 x.2.2.2.1).nu
let v34 := (rd (dfl .note) x.2.1 x.2.2.2.1).to
let v35 := (rd (dfl .note) x.2.1 x.2.2.2.1).un
let v36 := (rd (dfl .note) x.2.1 x.2.2.2.1).tx
(aU (x.1, v32, v33, ())).bind fun r37 =>
(if (decide (r37.1.1 < x.2.2.2.1)) then
some (.inr (.inl (false, ())))
else
some (.inl (x.1, x.2.1, x.2.2.1, (w64 (x.2.2.2.1 + 1)), ())))
else none)
else
some (.inr (.inr ())))
noncomputable def lA := ax l4
noncomputable def tE : Loop := ⟨[(0, .sl .note), (5, .sl .note), (6, .int .i64), (7, .int .i64)], [], 0, [(2, .bool)], lA⟩
theorem H6 : LF Tryz.f23 [] [1, 0, 1, 0, 0] tE := lk (v := .nil) Az (b := l4) (fun _ => by kernel_rfl) rfl (by kernel_rfl) (kN)
noncomputable def kP (x : List Note × Unit) : Option ((Bool × Unit) × Unit) :=
(au (lA (x.1, x.1, (x.1.length : Int), 0, ()))
(fun y38 => some (y38, ()))
(fun y38 => some ((true, ()), ())))
noncomputable def Ad : Ent := (23, none, ⟨[.fz .note], [.bool], kP⟩)
theorem Bg : SQ Tryz.prog Ad := so (v := .two (.nil) (.two (.two (.nil) (.one (.loop tE))) (.nil))) (fn := Tryz.f23) Az (by kernel_rfl) (by kernel_rfl) (by kernel_rfl) (kC H6 (kN)) (fun _ => by kernel_rfl)
noncomputable def L1 : Cx := cX [] [] []
theorem Hm : OKC Tryz.prog L1 ae := okc mixed (an)
noncomputable def oY (x : Y5 × List Note × Int × Int × Unit) : Rnd (Y5 × List Note × Int × Int × Unit) (Bool × Unit) (Unit) :=
(if (decide (x.2.2.2.1 < x.2.2.1)) then
(if inb x.2.2.2.1 x.2.1.length then
let v27 := (rd (dfl .note) x.2.1 x.2.2.2.1).fr
let v28 := (rd (dfl .note) x.2.1 x.2.2.2.1).nu
let v29 := (rd (dfl .note) x.2.1 x.2.2.2.1).to
let v30 := (rd (dfl .note) x.2.1 x.2.2.2.1).un
let v31 := (rd (dfl .note) x.2.1 x.2.2.2.1).tx
(if (MX v27 v28 v29 v30 v31 x.1.1 x.1.2.1 x.1.2.2.1 x.1.2.2.2.1 x.1.2.2.2.2.1) then
some (.inr (.inl (true, ())))
else
some (.inl (x.1, x.2.1, x.2.2.1, (w64 (x.2.2.2.1 + 1)), ())))
else none)
else
some (.inr (.inr ())))
noncomputable def n8 := ax oY
noncomputable def zH : Loop := ⟨[(3, Z8), (7, .sl .note), (8, .int .i64), (9, .int .i64)], [], 0, [(4, .bool)], n8⟩
theorem Ly : LF Tryz.f26 [] [1, 0, 1, 0, 0] zH := lk (v := .nil) Hm (b := oY) (fun _ => by kernel_rfl) rfl (by kernel_rfl) (kN)
noncomputable def cw (x : List Note × Y5 × Unit) : Option ((Bool × Unit) × Unit) :=
(au (n8 (x.2.1, x.1, (x.1.length : Int), 0, ()))
(fun y32 => some (y32, ()))
(fun y32 => some ((false, ()), ())))
noncomputable def yg : Ent := (26, none, ⟨[.fz .note, Z5], [.bool], cw⟩)
theorem tC : SQ Tryz.prog yg := so (v := .two (.nil) (.two (.two (.nil) (.one (.loop zH))) (.nil))) (fn := Tryz.f26) Hm (by kernel_rfl) (by kernel_rfl) (by kernel_rfl) (kC Ly (kN)) (fun _ => by kernel_rfl)
noncomputable def BM : Cx := cX [bn] [] []
theorem D1 : OKC Tryz.prog BM ae := okc mixed (gC aW (an))
noncomputable def iO (x : Int × Int × Unit) : Option ((Int × Unit) × Unit) :=
(gB (X := Int × Int × Bool × Unit) (fun j6 =>
(if j6.2.2.1 then
some (((-1), ()), ())
else
(if (decide (j6.1 < j6.2.1)) then
some (((w64 (j6.1 + 1)), ()), ())
else
some (((w64 (j6.1 - 1)), ()), ()))))
((aN (x.1, ())).bind fun r7 =>
(if (!r7.1.1) then
some (.inr (x.1, x.2.1, true, ()))
else
(aN x.2).bind fun r8 =>
(if (!r8.1.1) then
some (.inr (x.1, x.2.1, true, ()))
else
some (.inr (x.1, x.2.1, (decide (x.1 = x.2.1)), ()))))))
noncomputable def sj : Ent := (72, none, ⟨[.int .i64, .int .i64], [.int .i64], iO⟩)
theorem vT : SQ Tryz.prog sj := so (v := .two (.nil) (.two (.one (.join [(0, .int .i64), (1, .int .i64), (5, .bool)] (.nil) (.nil))) (.nil))) (fn := Tryz.f72) D1 (by kernel_rfl) (by kernel_rfl) (by kernel_rfl) (kN) (fun _ => by kernel_rfl)
noncomputable def Ij : Cx := cX [sj] [] []
theorem Ay : OKC Tryz.prog Ij ae := okc mixed (gC vT (an))
noncomputable def gO (x : Y5 × List Int × Int × Unit) : Rnd (Y5 × List Int × Int × Unit) (Unit) (List Int × Unit) :=
(if (!decide (x.2.2.1 = x.1.2.2.1)) then
(iO (x.2.2.1, x.1.2.2.1, ())).bind fun r4 =>
(if de (x.2.1.length + ([r4.1.1] : List Int).length) then
some (.inl (x.1, (x.2.1 ++ ([r4.1.1] : List Int)), r4.1))
else none)
else
some (.inr (.inr (x.2.1, ()))))
noncomputable def gq := ax gO
noncomputable def tA : Loop := ⟨[(1, Z8), (3, .row 3 .int), (4, .int .i64)], [(3, .row 3 .int)], 0, [], gq⟩
theorem H5 : LF Tryz.f52 [] [1, 1, 0, 1, 0, 0] tA := lk (v := .nil) Ay (b := gO) (fun _ => by kernel_rfl) rfl (by kernel_rfl) (kN)
noncomputable def mZ (x : Y5 × Unit) : Option ((List Int × Unit) × Unit) :=
(au (gq (x.1, ([x.1.1] : List Int), x.1.1, ()))
(fun _ => none)
(fun y5 => some (y5, ())))
noncomputable def z8 : Ent := (52, none, ⟨[Z5], [.row 3 .int], mZ⟩)
theorem Bc : SQ Tryz.prog z8 := so (v := .two (.nil) (.two (.nil) (.two (.two (.nil) (.one (.loop tA))) (.nil)))) (fn := Tryz.f52) Ay (by kernel_rfl) (by kernel_rfl) (by kernel_rfl) (kC H5 (kN)) (fun _ => by kernel_rfl)
noncomputable def Kw : Cx := cX [yg, z8] [] [(16, 23), (49, 56)]
theorem Cc : OKC Tryz.prog Kw ae := okc mixed (gC tC (gC Bc (an)))
noncomputable def m5 (x : List Keep × List Keep × Y5 × List Int × Int × Int × Unit) : Rnd (List Keep × List Keep × Y5 × List Int × Int × Int × Unit) (Bool × Unit) (Unit) :=
(if (decide (x.2.2.2.2.2.1 < x.2.2.2.2.1)) then
(if inb x.2.2.2.2.2.1 x.2.2.2.1.length then
let v28 := (rd (dfl .int) x.2.2.2.1 x.2.2.2.2.2.1)
(if inb v28 x.1.length then
(cw ((rd (dfl .keep) x.1 v28).held, x.2.2.1, ())).bind fun r29 =>
(if r29.1.1 then
(if inb v28 x.2.1.length then
(cw ((rd (dfl .keep) x.2.1 v28).held, x.2.2.1, ())).bind fun r30 =>
(if (aF (!r30.1.1) (inb v28 x.1.length)) then
(if (r30.1.1 || (decide (x.2.2.1.2.2.2.1 ≤ (rd (dfl .keep) x.1 v28).ti))) then
some (.inr (.inl (true, ())))
else
some (.inl (x.1, x.2.1, x.2.2.1, x.2.2.2.1, x.2.2.2.2.1, (w64 (x.2.2.2.2.2.1 + 1)), ())))
else none)
else none)
else
(if (aF (!false) (inb v28 x.1.length)) then
(if (decide (x.2.2.1.2.2.2.1 ≤ (rd (dfl .keep) x.1 v28).ti)) then
some (.inr (.inl (true, ())))
else
some (.inl (x.1, x.2.1, x.2.2.1, x.2.2.2.1, x.2.2.2.2.1, (w64 (x.2.2.2.2.2.1 + 1)), ())))
else none))
else none)
else none)
else
some (.inr (.inr ())))
noncomputable def mD := ax m5
noncomputable def wz : Loop := ⟨[(1, .sl .keep), (2, .sl .keep), (7, Z8), (26, .row 3 .int), (27, .int .i64), (28, .int .i64)], [], 0, [(8, .bool)], mD⟩
theorem J8 : LF Tryz.f25 [] [1, 1, 0, 1, 0, 0] wz := lk (v := .nil) Cc (b := m5) (fun _ => by kernel_rfl) rfl (by kernel_rfl) (kN)
noncomputable def oX (x : Y6 × List Keep × List Keep × Y5 × Unit) : Option ((Bool × Unit) × Unit) :=
(cw (x.1.2.2.2.2.2.1, x.2.2.2)).bind fun r3 =>
(if (aF (!r3.1.1) (inb x.2.2.2.1.2.2.1 x.2.1.length)) then
(if (aF (!r3.1.1) ((cw ((rd (dfl .keep) x.2.1 x.2.2.2.1.2.2.1).inbox, x.2.2.2)).isSome)) then
(if (r3.1.1 || (((cw ((rd (dfl .keep) x.2.1 x.2.2.2.1.2.2.1).inbox, x.2.2.2)).getD ((false, ()), ())).1.1)) then
some ((true, ()), ())
else
(mZ x.2.2.2).bind fun r14 =>
(au (mD (x.2.1, x.2.2.1, x.2.2.2.1, r14.1.1, (r14.1.1.length : Int), 0, ()))
(fun y31 => some (y31, ()))
(fun y31 => some ((false, ()), ()))))
else none)
else none)
noncomputable def B8 : Ent := (25, none, ⟨[Z6, .fz .keep, .fz .keep, Z5], [.bool], oX⟩)
theorem C4 : SQ Tryz.prog B8 := so (v := .two (.nil) (.two (.nil) (.two (.two (.nil) (.one (.loop wz))) (.nil)))) (fn := Tryz.f25) Cc (by kernel_rfl) (by kernel_rfl) (by kernel_rfl) (kC J8 (kN)) (fun _ => by kernel_rfl)
noncomputable def At : Cx := cX [uA, Ad, ov, B8, yg, dW] [] [(131, 138)]
theorem bJ : OKC Tryz.prog At ae := okc mixed (gC yb (gC Bg (gC n7 (gC C4 (gC tC (gC cO (an)))))))
noncomputable def eL (x : Y6 × Y7 × List Keep × Int × Int × List Note × Int × Int × Unit) : Rnd (Y6 × Y7 × List Keep × Int × Int × List Note × Int × Int × Unit) (Bool × Unit) (Y6 × Y7 × List Keep × Int × Int × Unit) :=
(if (decide (x.2.2.2.2.2.2.2.1 < x.2.2.2.2.2.2.1)) then
(if inb x.2.2.2.2.2.2.2.1 x.2.2.2.2.2.1.length then
let v387 := (rd (dfl .note) x.2.2.2.2.2.1 x.2.2.2.2.2.2.2.1).fr
let v388 := (rd (dfl .note) x.2.2.2.2.2.1 x.2.2.2.2.2.2.2.1).nu
let v389 := (rd (dfl .note) x.2.2.2.2.2.1 x.2.2.2.2.2.2.2.1).to
let v390 := (rd (dfl .note) x.2.2.2.2.2.1 x.2.2.2.2.2.2.2.1).un
let v391 := (rd (dfl .note) x.2.2.2.2.2.1 x.2.2.2.2.2.2.2.1).tx
(cw (x.1.2.2.2.2.1, (v387, v388, v389, v390, v391, ()), ())).bind fun r392 =>
(if (!r392.1.1) then
some (.inr (.inl (false, ())))
else
some (.inl (x.1, x.2.1, x.2.2.1, x.2.2.2.1, x.2.2.2.2.1, x.2.2.2.2.2.1, x.2.2.2.2.2.2.1, (w64 (x.2.2.2.2.2.2.2.1 + 1)), ())))
else none)
else
some (.inr (.inr (x.1, x.2.1, x.2.2.1, x.2.2.2.1, x.2.2.2.2.1, ()))))
noncomputable def fI := ax eL
noncomputable def oh : Loop := ⟨[(1, Z16), (14, Z9), (99, .row 59 .keep), (100, .int .i64), (101, .int .i64), (106, .sl .note), (107, .int .i64), (108, .int .i64)], [(1, Z16), (14, Z9), (99, .row 59 .keep), (100, .int .i64), (101, .int .i64)], 8, [(2, .bool)], fI⟩
theorem zd : LF Tryz.f7 [] [1, 1, 1, 1, 1, 1, 0, 1, 0, 0, 1, 1, 0, 0, 1, 0, 1, 0, 0] oh := lk (v := .nil) bJ (b := eL) (fun _ => by kernel_rfl) rfl (by kernel_rfl) (kN)
noncomputable def eK (x : Y6 × List Keep × Int × Int × List Note × Int × Int × Unit) : Rnd (Y6 × List Keep × Int × Int × List Note × Int × Int × Unit) (Bool × Unit) (Y6 × List Keep × Int × Int × Unit) :=
(if (decide (x.2.2.2.2.2.2.1 < x.2.2.2.2.2.1)) then
(if inb x.2.2.2.2.2.2.1 x.2.2.2.2.1.length then
let v414 := (rd (dfl .note) x.2.2.2.2.1 x.2.2.2.2.2.2.1).fr
let v415 := (rd (dfl .note) x.2.2.2.2.1 x.2.2.2.2.2.2.1).nu
let v416 := (rd (dfl .note) x.2.2.2.2.1 x.2.2.2.2.2.2.1).to
let v417 := (rd (dfl .note) x.2.2.2.2.1 x.2.2.2.2.2.2.1).un
let v418 := (rd (dfl .note) x.2.2.2.2.1 x.2.2.2.2.2.2.1).tx
(cw (x.1.2.2.2.2.1, (v414, v415, v416, v417, v418, ()), ())).bind fun r419 =>
(if (aF (!(!r419.1.1)) ((aU (x.1.2.2.2.2.2.1, v414, v415, ())).isSome)) then
(if ((!r419.1.1) || (decide (0 ≤ ((aU (x.1.2.2.2.2.2.1, v414, v415, ())).getD ((0, ()), ())).1.1))) then
some (.inr (.inl (false, ())))
else
some (.inl (x.1, x.2.1, x.2.2.1, x.2.2.2.1, x.2.2.2.2.1, x.2.2.2.2.2.1, (w64 (x.2.2.2.2.2.2.1 + 1)), ())))
else none)
else none)
else
some (.inr (.inr (x.1, x.2.1, x.2.2.1, x.2.2.2.1, ()))))
noncomputable def fH := ax eK
noncomputable def og : Loop := ⟨[(1, Z16), (99, .row 59 .keep), (100, .int .i64), (101, .int .i64), (119, .sl .note), (120, .int .i64), (121, .int .i64)], [(1, Z16), (99, .row 59 .keep), (100, .int .i64), (101, .int .i64)], 10, [(2, .bool)], fH⟩
theorem za : LF Tryz.f7 [] [1, 1, 1, 1, 1, 1, 0, 1, 0, 0, 1, 1, 0, 0, 1, 1, 1, 0, 0] og := lk (v := .nil) bJ (b := eK) (fun _ => by kernel_rfl) rfl (by kernel_rfl) (kN)
noncomputable def eO (x : Y6 × List Keep × Int × Int × Unit) : Rnd (Y6 × List Keep × Int × Int × Unit) (Bool × Unit) (Unit) :=
(if (decide (x.2.2.2.1 < x.2.2.1)) then
(if inb x.2.2.2.1 x.2.1.length then
let v363 := (rd (dfl .keep) x.2.1 x.2.2.2.1).id
let v364 := (rd (dfl .keep) x.2.1 x.2.2.2.1).ti
let v365 := (rd (dfl .keep) x.2.1 x.2.2.2.1).nx
let v366 := (rd (dfl .keep) x.2.1 x.2.2.2.1).held
let v367 := (rd (dfl .keep) x.2.1 x.2.2.2.1).marks
let v368 := (rd (dfl .keep) x.2.1 x.2.2.2.1).inbox
(au (fI (x.1, (v363, v364, v365, v366, v367, v368, ()), x.2.1, x.2.2.1, x.2.2.2.1, v366, (v366.length : Int), 0, ()))
(fun y393 => some (.inr (.inl y393)))
(fun y393 => (au (fH (y393.1, y393.2.2.1, y393.2.2.2.1, y393.2.2.2.2.1, y393.2.1.2.2.2.2.2.1, (y393.2.1.2.2.2.2.2.1.length : Int), 0, ()))
(fun y420 => some (.inr (.inl y420)))
(fun y420 => some (.inl (y420.1, y420.2.1, y420.2.2.1, (w64 (y420.2.2.2.1 + 1)), ()))))))
else none)
else
some (.inr (.inr ())))
noncomputable def fJ := ax eO
noncomputable def ol : Loop := ⟨[(1, Z16), (99, .row 59 .keep), (100, .int .i64), (101, .int .i64)], [], 6, [(2, .bool)], fJ⟩
theorem zf : LF Tryz.f7 [] [1, 1, 1, 1, 1, 1, 0, 1, 0, 0] ol := lk (v := .two (.nil) (.two (.nil) (.two (.one (.two (.nil) (.two (.two (.nil) (.one (.loop oh))) (.two (.nil) (.one (.loop og)))))) (.nil)))) bJ (b := eO) (fun _ => by kernel_rfl) rfl (by kernel_rfl) (kC zd (kC za (kN)))
noncomputable def eP (x : Y6 × List Keep × List Note × Int × Int × Unit) : Rnd (Y6 × List Keep × List Note × Int × Int × Unit) (Bool × Unit) (Y6 × List Keep × Unit) :=
(if (decide (x.2.2.2.2.1 < x.2.2.2.1)) then
(if inb x.2.2.2.2.1 x.2.2.1.length then
let v151 := (rd (dfl .note) x.2.2.1 x.2.2.2.2.1).fr
let v152 := (rd (dfl .note) x.2.2.1 x.2.2.2.2.1).nu
let v153 := (rd (dfl .note) x.2.2.1 x.2.2.2.2.1).to
let v154 := (rd (dfl .note) x.2.2.1 x.2.2.2.2.1).un
let v155 := (rd (dfl .note) x.2.2.1 x.2.2.2.2.1).tx
(cw (x.1.2.2.2.2.1, (v151, v152, v153, v154, v155, ()), ())).bind fun r156 =>
(if (!r156.1.1) then
some (.inr (.inl (false, ())))
else
some (.inl (x.1, x.2.1, x.2.2.1, x.2.2.2.1, (w64 (x.2.2.2.2.1 + 1)), ())))
else none)
else
some (.inr (.inr (x.1, x.2.1, ()))))
noncomputable def fK := ax eP
noncomputable def om : Loop := ⟨[(1, Z16), (3, .row 59 .keep), (87, .sl .note), (88, .int .i64), (89, .int .i64)], [(1, Z16), (3, .row 59 .keep)], 4, [(2, .bool)], fK⟩
theorem zi : LF Tryz.f7 [] [1, 1, 1, 1, 1, 0, 1, 0, 0] om := lk (v := .nil) bJ (b := eP) (fun _ => by kernel_rfl) rfl (by kernel_rfl) (kN)
noncomputable def eQ (x : Y6 × List Keep × List Keep × List Note × Int × Int × Unit) : Rnd (Y6 × List Keep × List Keep × List Note × Int × Int × Unit) (Bool × Unit) (Y6 × List Keep × Unit) :=
(if (decide (x.2.2.2.2.2.1 < x.2.2.2.2.1)) then
(if inb x.2.2.2.2.2.1 x.2.2.2.1.length then
let v113 := (rd (dfl .note) x.2.2.2.1 x.2.2.2.2.2.1).fr
let v114 := (rd (dfl .note) x.2.2.2.1 x.2.2.2.2.2.1).nu
let v115 := (rd (dfl .note) x.2.2.2.1 x.2.2.2.2.2.1).to
let v116 := (rd (dfl .note) x.2.2.2.1 x.2.2.2.2.2.1).un
let v117 := (rd (dfl .note) x.2.2.2.1 x.2.2.2.2.2.1).tx
(oX (x.1, x.2.1, x.2.2.1, (v113, v114, v115, v116, v117, ()), ())).bind fun r118 =>
(if (!r118.1.1) then
some (.inr (.inl (false, ())))
else
some (.inl (x.1, x.2.1, x.2.2.1, x.2.2.2.1, x.2.2.2.2.1, (w64 (x.2.2.2.2.2.1 + 1)), ())))
else none)
else
some (.inr (.inr (x.1, x.2.1, ()))))
noncomputable def fL := ax eQ
noncomputable def oo : Loop := ⟨[(1, Z16), (3, .row 59 .keep), (4, .row 59 .keep), (73, .sl .note), (74, .int .i64), (75, .int .i64)], [(1, Z16), (3, .row 59 .keep)], 2, [(2, .bool)], fL⟩
theorem zp : LF Tryz.f7 [] [1, 1, 1, 1, 0, 1, 0, 0] oo := lk (v := .nil) bJ (b := eQ) (fun _ => by kernel_rfl) rfl (by kernel_rfl) (kN)
noncomputable def cP (x : Y6 × List Keep × List Keep × List Keeper × Int × Int × Unit) : Rnd (Y6 × List Keep × List Keep × List Keeper × Int × Int × Unit) (Unit) (Y6 × List Keep × List Keep × Unit) :=
(if (decide (x.2.2.2.2.2.1 < x.2.2.2.2.1)) then
(if inb x.2.2.2.2.2.1 x.2.2.2.1.length then
let v74 := (rd (dfl .keeper) x.2.2.2.1 x.2.2.2.2.2.1).id
let v75 := (rd (dfl .keeper) x.2.2.2.1 x.2.2.2.2.2.1).up
let v76 := (rd (dfl .keeper) x.2.2.2.1 x.2.2.2.2.2.1).log
let v77 := (rd (dfl .keeper) x.2.2.2.1 x.2.2.2.2.2.1).fo
let v78 := (rd (dfl .keeper) x.2.2.2.1 x.2.2.2.2.2.1).halves
(bu (v74, v76, ())).bind fun r79 =>
(if de (x.2.1.length + ([(Keep.mk r79.1.1.1 r79.1.1.2.1 r79.1.1.2.2.1 r79.1.1.2.2.2.1 r79.1.1.2.2.2.2.1 r79.1.1.2.2.2.2.2.1)] : List Keep).length) then
(if (decide (0 ≤ v77) && decide (v77 ≤ (v76.size : Int))) then
(bu (v74, (v76.extract (0) (Int.toNat v77)), ())).bind fun r80 =>
(if de (x.2.2.1.length + ([(Keep.mk r80.1.1.1 r80.1.1.2.1 r80.1.1.2.2.1 r80.1.1.2.2.2.1 r80.1.1.2.2.2.2.1 r80.1.1.2.2.2.2.2.1)] : List Keep).length) then
some (.inl (x.1, (x.2.1 ++ ([(Keep.mk r79.1.1.1 r79.1.1.2.1 r79.1.1.2.2.1 r79.1.1.2.2.2.1 r79.1.1.2.2.2.2.1 r79.1.1.2.2.2.2.2.1)] : List Keep)), (x.2.2.1 ++ ([(Keep.mk r80.1.1.1 r80.1.1.2.1 r80.1.1.2.2.1 r80.1.1.2.2.2.1 r80.1.1.2.2.2.2.1 r80.1.1.2.2.2.2.2.1)] : List Keep)), x.2.2.2.1, x.2.2.2.2.1, (w64 (x.2.2.2.2.2.1 + 1)), ()))
else none)
else none)
else none)
else none)
else
some (.inr (.inr (x.1, x.2.1, x.2.2.1, ()))))
noncomputable def fM := ax cP
noncomputable def oq : Loop := ⟨[(1, Z16), (3, .row 59 .keep), (4, .row 59 .keep), (35, .sl .keeper), (36, .int .i64), (37, .int .i64)], [(1, Z16), (3, .row 59 .keep), (4, .row 59 .keep)], 0, [], fM⟩
theorem zC : LF Tryz.f7 [] [1, 1, 1, 0, 1, 0, 0] oq := lk (v := .nil) bJ (b := cP) (fun _ => by kernel_rfl) rfl (by kernel_rfl) (kN)
noncomputable def gu (x : Y6 × Unit) : Option ((Bool × Unit) × Unit) :=
(kT x).bind fun r7 =>
(if (!r7.1.1) then
some ((false, ()), ())
else
(kP (x.1.2.2.2.2.1, ())).bind fun r8 =>
(if (!r8.1.1) then
some ((false, ()), ())
else
(kP x.1.2.2.2.2.2).bind fun r9 =>
(if (!r9.1.1) then
some ((false, ()), ())
else
(au (fM (x.1, ([] : List Keep), ([] : List Keep), x.1.2.1, (x.1.2.1.length : Int), 0, ()))
(fun _ => none)
(fun y81 => (au (fL (y81.1, y81.2.1, y81.2.2.1, y81.1.2.2.2.2.1, (y81.1.2.2.2.2.1.length : Int), 0, ()))
(fun y119 => some (y119, ()))
(fun y119 => (au (fK (y119.1, y119.2.1, y119.1.2.2.2.2.2.1, (y119.1.2.2.2.2.2.1.length : Int), 0, ()))
(fun y157 => some (y157, ()))
(fun y157 => (au (fJ (y157.1, y157.2.1, (y157.2.1.length : Int), 0, ()))
(fun y421 => some (y421, ()))
(fun y421 => some ((true, ()), ()))))))))))))
noncomputable def qm : Ent := (7, none, ⟨[Z6], [.bool], gu⟩)
theorem tG : SQ Tryz.prog qm := so (v := .two (.nil) (.two (.nil) (.two (.nil) (.two (.two (.nil) (.one (.loop oq))) (.two (.two (.nil) (.one (.loop oo))) (.two (.two (.nil) (.one (.loop om))) (.two (.two (.nil) (.one (.loop ol))) (.nil)))))))) (fn := Tryz.f7) bJ (by kernel_rfl) (by kernel_rfl) (by kernel_rfl) (kC zC (kC zp (kC zi (kC zf (kN))))) (fun _ => by kernel_rfl)
noncomputable def Dz : Cx := cX [] [] []
theorem Hh : OKC Tryz.prog Dz ae := okc mixed (an)
noncomputable def nW (x : Y0 × Y0 × Unit) : Option ((Bool × Unit) × Unit) :=
(if (!decide (x.1.1 = x.2.1.1)) then
some ((false, ()), ())
else
(if (!decide (x.1.2.1 = x.2.1.2.1)) then
some ((false, ()), ())
else
some ((true, ()), ())))
noncomputable def um : Ent := (73, none, ⟨[Z0, Z0], [.bool], nW⟩)
theorem xT : SQ Tryz.prog um := so (v := .nil) (fn := Tryz.f73) Hh (by kernel_rfl) (by kernel_rfl) (by kernel_rfl) (kN) (fun _ => by kernel_rfl)
noncomputable def DC : Cx := cX [] [] []
theorem Hj : OKC Tryz.prog DC ae := okc mixed (an)
noncomputable def kg (x : Y1 × Y1 × Unit) : Option ((Bool × Unit) × Unit) :=
(if (!decide (x.1.1 = x.2.1.1)) then
some ((false, ()), ())
else
(if (!decide (x.1.2.1 = x.2.1.2.1)) then
some ((false, ()), ())
else
some ((true, ()), ())))
noncomputable def ur : Ent := (135, none, ⟨[Z1, Z1], [.bool], kg⟩)
theorem xW : SQ Tryz.prog ur := so (v := .nil) (fn := Tryz.f135) Hj (by kernel_rfl) (by kernel_rfl) (by kernel_rfl) (kN) (fun _ => by kernel_rfl)
noncomputable def BH : Cx := cX [ur] [] []
theorem sy : OKC Tryz.prog BH ae := okc mixed (gC xW (an))
noncomputable def gk (x : List Mixed × List Mixed × Int × Unit) : Rnd (List Mixed × List Mixed × Int × Unit) (Bool × Unit) (Unit) :=
(if (decide (x.2.2.1 < (x.1.length : Int))) then
(if inb x.2.2.1 x.1.length then
(if inb x.2.2.1 x.2.1.length then
(kg (((rd (dfl .mixed) x.1 x.2.2.1).nu, (rd (dfl .mixed) x.1 x.2.2.1).da, ()), ((rd (dfl .mixed) x.2.1 x.2.2.1).nu, (rd (dfl .mixed) x.2.1 x.2.2.1).da, ()), ())).bind fun r7 =>
(if (!r7.1.1) then
some (.inr (.inl (false, ())))
else
some (.inl (x.1, x.2.1, (w64 (x.2.2.1 + 1)), ())))
else none)
else none)
else
some (.inr (.inr ())))
noncomputable def gI := ax gk
noncomputable def oT : Loop := ⟨[(0, .sl .mixed), (1, .sl .mixed), (5, .int .i64)], [], 0, [(4, .bool)], gI⟩
theorem A8 : LF Tryz.f107 [] [1, 1, 0, 1, 0, 0] oT := lk (v := .nil) sy (b := gk) (fun _ => by kernel_rfl) rfl (by kernel_rfl) (kN)
noncomputable def iD (x : List Mixed × List Mixed × Unit) : Option ((Bool × Unit) × Unit) :=
(if (!decide ((x.1.length : Int) = (x.2.1.length : Int))) then
some ((false, ()), ())
else
(au (gI (x.1, x.2.1, 0, ()))
(fun y8 => some (y8, ()))
(fun y8 => some ((true, ()), ()))))
noncomputable def sd : Ent := (107, none, ⟨[.fz .mixed, .fz .mixed], [.bool], iD⟩)
theorem vO : SQ Tryz.prog sd := so (v := .two (.nil) (.two (.nil) (.two (.two (.nil) (.one (.loop oT))) (.nil)))) (fn := Tryz.f107) sy (by kernel_rfl) (by kernel_rfl) (by kernel_rfl) (kC A8 (kN)) (fun _ => by kernel_rfl)
noncomputable def GH : Cx := cX [sd] [] []
theorem IB : OKC Tryz.prog GH ae := okc mixed (gC vO (an))
noncomputable def lT (x : Y2 × Y2 × Unit) : Option ((Bool × Unit) × Unit) :=
(if (!decide (x.1.1 = x.2.1.1)) then
some ((false, ()), ())
else
(if (!decide (x.1.2.1 = x.2.1.2.1)) then
some ((false, ()), ())
else
(if (!decide (x.1.2.2.1 = x.2.1.2.2.1)) then
some ((false, ()), ())
else
(if (!decide (x.1.2.2.2.1 = x.2.1.2.2.2.1)) then
some ((false, ()), ())
else
(if (!decide (x.1.2.2.2.2.1 = x.2.1.2.2.2.2.1)) then
some ((false, ()), ())
else
(iD (x.1.2.2.2.2.2.1, x.2.1.2.2.2.2.2)).bind fun r2 =>
(if (!r2.1.1) then
some ((false, ()), ())
else
some ((true, ()), ())))))))
noncomputable def wP : Ent := (86, none, ⟨[Z2, Z2], [.bool], lT⟩)
theorem y6 : SQ Tryz.prog wP := so (v := .nil) (fn := Tryz.f86) IB (by kernel_rfl) (by kernel_rfl) (by kernel_rfl) (kN) (fun _ => by kernel_rfl)
noncomputable def DD : Cx := cX [wP] [] []
theorem uP : OKC Tryz.prog DD ae := okc mixed (gC y6 (an))
noncomputable def iF (x : List Half × List Half × Int × Unit) : Rnd (List Half × List Half × Int × Unit) (Bool × Unit) (Unit) :=
(if (decide (x.2.2.1 < (x.1.length : Int))) then
(if inb x.2.2.1 x.1.length then
(if inb x.2.2.1 x.2.1.length then
(lT (((rd (dfl .half) x.1 x.2.2.1).fr, (rd (dfl .half) x.1 x.2.2.1).nu, (rd (dfl .half) x.1 x.2.2.1).to, (rd (dfl .half) x.1 x.2.2.1).un, (rd (dfl .half) x.1 x.2.2.1).sz, (rd (dfl .half) x.1 x.2.2.1).got, ()), ((rd (dfl .half) x.2.1 x.2.2.1).fr, (rd (dfl .half) x.2.1 x.2.2.1).nu, (rd (dfl .half) x.2.1 x.2.2.1).to, (rd (dfl .half) x.2.1 x.2.2.1).un, (rd (dfl .half) x.2.1 x.2.2.1).sz, (rd (dfl .half) x.2.1 x.2.2.1).got, ()), ())).bind fun r7 =>
(if (!r7.1.1) then
some (.inr (.inl (false, ())))
else
some (.inl (x.1, x.2.1, (w64 (x.2.2.1 + 1)), ())))
else none)
else none)
else
some (.inr (.inr ())))
noncomputable def je := ax iF
noncomputable def pR : Loop := ⟨[(0, .sl .half), (1, .sl .half), (5, .int .i64)], [], 0, [(4, .bool)], je⟩
theorem CX : LF Tryz.f74 [] [1, 1, 0, 1, 0, 0] pR := lk (v := .nil) uP (b := iF) (fun _ => by kernel_rfl) rfl (by kernel_rfl) (kN)
noncomputable def kh (x : List Half × List Half × Unit) : Option ((Bool × Unit) × Unit) :=
(if (!decide ((x.1.length : Int) = (x.2.1.length : Int))) then
some ((false, ()), ())
else
(au (je (x.1, x.2.1, 0, ()))
(fun y8 => some (y8, ()))
(fun y8 => some ((true, ()), ()))))
noncomputable def ut : Ent := (74, none, ⟨[.fz .half, .fz .half], [.bool], kh⟩)
theorem xX : SQ Tryz.prog ut := so (v := .two (.nil) (.two (.nil) (.two (.two (.nil) (.one (.loop pR))) (.nil)))) (fn := Tryz.f74) uP (by kernel_rfl) (by kernel_rfl) (by kernel_rfl) (kC CX (kN)) (fun _ => by kernel_rfl)
noncomputable def BI : Cx := cX [um, ut] [] []
theorem DY : OKC Tryz.prog BI ae := okc mixed (gC xT (gC xX (an)))
noncomputable def iE (x : Y3 × Y3 × Unit) : Option ((Bool × Unit) × Unit) :=
(if (!decide (x.1.1 = x.2.1.1)) then
some ((false, ()), ())
else
(if (!decide (x.1.2.1 = x.2.1.2.1)) then
some ((false, ()), ())
else
(nW ((x.1.2.2.1, x.1.2.2.2.1, ()), (x.2.1.2.2.1, x.2.1.2.2.2.1, ()), ())).bind fun r2 =>
(if (!r2.1.1) then
some ((false, ()), ())
else
(kh (x.1.2.2.2.2.1, x.2.1.2.2.2.2)).bind fun r4 =>
(if (!r4.1.1) then
some ((false, ()), ())
else
some ((true, ()), ())))))
noncomputable def sf : Ent := (53, none, ⟨[Z3, Z3], [.bool], iE⟩)
theorem vP : SQ Tryz.prog sf := so (v := .nil) (fn := Tryz.f53) DY (by kernel_rfl) (by kernel_rfl) (by kernel_rfl) (kN) (fun _ => by kernel_rfl)
noncomputable def Ar : Cx := cX [sf] [] []
theorem qz : OKC Tryz.prog Ar ae := okc mixed (gC vP (an))
noncomputable def eG (x : List Keeper × List Keeper × Int × Unit) : Rnd (List Keeper × List Keeper × Int × Unit) (Bool × Unit) (Unit) :=
(if (decide (x.2.2.1 < (x.1.length : Int))) then
(if inb x.2.2.1 x.1.length then
(if inb x.2.2.1 x.2.1.length then
(iE (((rd (dfl .keeper) x.1 x.2.2.1).id, (rd (dfl .keeper) x.1 x.2.2.1).up, (rd (dfl .keeper) x.1 x.2.2.1).log, (rd (dfl .keeper) x.1 x.2.2.1).fo, (rd (dfl .keeper) x.1 x.2.2.1).halves, ()), ((rd (dfl .keeper) x.2.1 x.2.2.1).id, (rd (dfl .keeper) x.2.1 x.2.2.1).up, (rd (dfl .keeper) x.2.1 x.2.2.1).log, (rd (dfl .keeper) x.2.1 x.2.2.1).fo, (rd (dfl .keeper) x.2.1 x.2.2.1).halves, ()), ())).bind fun r7 =>
(if (!r7.1.1) then
some (.inr (.inl (false, ())))
else
some (.inl (x.1, x.2.1, (w64 (x.2.2.1 + 1)), ())))
else none)
else none)
else
some (.inr (.inr ())))
noncomputable def fB := ax eG
noncomputable def nY : Loop := ⟨[(0, .sl .keeper), (1, .sl .keeper), (5, .int .i64)], [], 0, [(4, .bool)], fB⟩
theorem zA : LF Tryz.f28 [] [1, 1, 0, 1, 0, 0] nY := lk (v := .nil) qz (b := eG) (fun _ => by kernel_rfl) rfl (by kernel_rfl) (kN)
noncomputable def gn (x : List Keeper × List Keeper × Unit) : Option ((Bool × Unit) × Unit) :=
(if (!decide ((x.1.length : Int) = (x.2.1.length : Int))) then
some ((false, ()), ())
else
(au (fB (x.1, x.2.1, 0, ()))
(fun y8 => some (y8, ()))
(fun y8 => some ((true, ()), ()))))
noncomputable def qk : Ent := (28, none, ⟨[.fz .keeper, .fz .keeper], [.bool], gn⟩)
theorem tv : SQ Tryz.prog qk := so (v := .two (.nil) (.two (.nil) (.two (.two (.nil) (.one (.loop nY))) (.nil)))) (fn := Tryz.f28) qz (by kernel_rfl) (by kernel_rfl) (by kernel_rfl) (kC zA (kN)) (fun _ => by kernel_rfl)
noncomputable def DE : Cx := cX [] [] []
theorem uQ : OKC Tryz.prog DE ae := okc mixed (an)
noncomputable def iG (x : List Bool × List Bool × Int × Unit) : Rnd (List Bool × List Bool × Int × Unit) (Bool × Unit) (Unit) :=
(if (decide (x.2.2.1 < (x.1.length : Int))) then
(if inb x.2.2.1 x.1.length then
(if inb x.2.2.1 x.2.1.length then
(if (!decide ((rd (dfl .bool) x.1 x.2.2.1) = (rd (dfl .bool) x.2.1 x.2.2.1))) then
some (.inr (.inl (false, ())))
else
some (.inl (x.1, x.2.1, (w64 (x.2.2.1 + 1)), ())))
else none)
else none)
else
some (.inr (.inr ())))
noncomputable def jf := ax iG
noncomputable def pS : Loop := ⟨[(0, .sl .bool), (1, .sl .bool), (5, .int .i64)], [], 0, [(4, .bool)], jf⟩
theorem CY : LF Tryz.f29 [] [1, 1, 0, 1, 0, 0] pS := lk (v := .nil) uQ (b := iG) (fun _ => by kernel_rfl) rfl (by kernel_rfl) (kN)
noncomputable def kj (x : List Bool × List Bool × Unit) : Option ((Bool × Unit) × Unit) :=
(if (!decide ((x.1.length : Int) = (x.2.1.length : Int))) then
some ((false, ()), ())
else
(au (jf (x.1, x.2.1, 0, ()))
(fun y2 => some (y2, ()))
(fun y2 => some ((true, ()), ()))))
noncomputable def uu : Ent := (29, none, ⟨[.fz .bool, .fz .bool], [.bool], kj⟩)
theorem xY : SQ Tryz.prog uu := so (v := .two (.nil) (.two (.nil) (.two (.two (.nil) (.one (.loop pS))) (.nil)))) (fn := Tryz.f29) uQ (by kernel_rfl) (by kernel_rfl) (by kernel_rfl) (kC CY (kN)) (fun _ => by kernel_rfl)
noncomputable def BG : Cx := cX [] [] []
theorem DX : OKC Tryz.prog BG ae := okc mixed (an)
noncomputable def iB (x : Y4 × Y4 × Unit) : Option ((Bool × Unit) × Unit) :=
(if (!decide (x.1.1 = x.2.1.1)) then
some ((false, ()), ())
else
(if (!decide (x.1.2.1 = x.2.1.2.1)) then
some ((false, ()), ())
else
(if (!decide (x.1.2.2.1 = x.2.1.2.2.1)) then
some ((false, ()), ())
else
(if (!decide (x.1.2.2.2.1 = x.2.1.2.2.2.1)) then
some ((false, ()), ())
else
some ((true, ()), ())))))
noncomputable def sb : Ent := (54, none, ⟨[Z4, Z4], [.bool], iB⟩)
theorem vN : SQ Tryz.prog sb := so (v := .nil) (fn := Tryz.f54) DX (by kernel_rfl) (by kernel_rfl) (by kernel_rfl) (kN) (fun _ => by kernel_rfl)
noncomputable def Aq : Cx := cX [sb] [] []
theorem qy : OKC Tryz.prog Aq ae := okc mixed (gC vN (an))
noncomputable def eF (x : List Parcel × List Parcel × Int × Unit) : Rnd (List Parcel × List Parcel × Int × Unit) (Bool × Unit) (Unit) :=
(if (decide (x.2.2.1 < (x.1.length : Int))) then
(if inb x.2.2.1 x.1.length then
(if inb x.2.2.1 x.2.1.length then
(iB (((rd (dfl .parcel) x.1 x.2.2.1).src, (rd (dfl .parcel) x.1 x.2.2.1).dst, (rd (dfl .parcel) x.1 x.2.2.1).data, (rd (dfl .parcel) x.1 x.2.2.1).sp, ()), ((rd (dfl .parcel) x.2.1 x.2.2.1).src, (rd (dfl .parcel) x.2.1 x.2.2.1).dst, (rd (dfl .parcel) x.2.1 x.2.2.1).data, (rd (dfl .parcel) x.2.1 x.2.2.1).sp, ()), ())).bind fun r7 =>
(if (!r7.1.1) then
some (.inr (.inl (false, ())))
else
some (.inl (x.1, x.2.1, (w64 (x.2.2.1 + 1)), ())))
else none)
else none)
else
some (.inr (.inr ())))
noncomputable def fy := ax eF
noncomputable def nX : Loop := ⟨[(0, .sl .parcel), (1, .sl .parcel), (5, .int .i64)], [], 0, [(4, .bool)], fy⟩
theorem zz : LF Tryz.f30 [] [1, 1, 0, 1, 0, 0] nX := lk (v := .nil) qy (b := eF) (fun _ => by kernel_rfl) rfl (by kernel_rfl) (kN)
noncomputable def gj (x : List Parcel × List Parcel × Unit) : Option ((Bool × Unit) × Unit) :=
(if (!decide ((x.1.length : Int) = (x.2.1.length : Int))) then
some ((false, ()), ())
else
(au (fy (x.1, x.2.1, 0, ()))
(fun y8 => some (y8, ()))
(fun y8 => some ((true, ()), ()))))
noncomputable def qj : Ent := (30, none, ⟨[.fz .parcel, .fz .parcel], [.bool], gj⟩)
theorem tu : SQ Tryz.prog qj := so (v := .two (.nil) (.two (.nil) (.two (.two (.nil) (.one (.loop nX))) (.nil)))) (fn := Tryz.f30) qy (by kernel_rfl) (by kernel_rfl) (by kernel_rfl) (kC zz (kN)) (fun _ => by kernel_rfl)
noncomputable def GG : Cx := cX [] [] []
theorem IA : OKC Tryz.prog GG ae := okc mixed (an)
noncomputable def lS (x : Y5 × Y5 × Unit) : Option ((Bool × Unit) × Unit) :=
(if (!decide (x.1.1 = x.2.1.1)) then
some ((false, ()), ())
else
(if (!decide (x.1.2.1 = x.2.1.2.1)) then
some ((false, ()), ())
else
(if (!decide (x.1.2.2.1 = x.2.1.2.2.1)) then
some ((false, ()), ())
else
(if (!decide (x.1.2.2.2.1 = x.2.1.2.2.2.1)) then
some ((false, ()), ())
else
(if (!decide (x.1.2.2.2.2.1 = x.2.1.2.2.2.2.1)) then
some ((false, ()), ())
else
some ((true, ()), ()))))))
noncomputable def wO : Ent := (55, none, ⟨[Z5, Z5], [.bool], lS⟩)
theorem y4 : SQ Tryz.prog wO := so (v := .nil) (fn := Tryz.f55) IA (by kernel_rfl) (by kernel_rfl) (by kernel_rfl) (kN) (fun _ => by kernel_rfl)
noncomputable def DB : Cx := cX [wO] [] []
theorem uO : OKC Tryz.prog DB ae := okc mixed (gC y4 (an))
noncomputable def iC (x : List Note × List Note × Int × Unit) : Rnd (List Note × List Note × Int × Unit) (Bool × Unit) (Unit) :=
(if (decide (x.2.2.1 < (x.1.length : Int))) then
(if inb x.2.2.1 x.1.length then
(if inb x.2.2.1 x.2.1.length then
(lS (((rd (dfl .note) x.1 x.2.2.1).fr, (rd (dfl .note) x.1 x.2.2.1).nu, (rd (dfl .note) x.1 x.2.2.1).to, (rd (dfl .note) x.1 x.2.2.1).un, (rd (dfl .note) x.1 x.2.2.1).tx, ()), ((rd (dfl .note) x.2.1 x.2.2.1).fr, (rd (dfl .note) x.2.1 x.2.2.1).nu, (rd (dfl .note) x.2.1 x.2.2.1).to, (rd (dfl .note) x.2.1 x.2.2.1).un, (rd (dfl .note) x.2.1 x.2.2.1).tx, ()), ())).bind fun r7 =>
(if (!r7.1.1) then
some (.inr (.inl (false, ())))
else
some (.inl (x.1, x.2.1, (w64 (x.2.2.1 + 1)), ())))
else none)
else none)
else
some (.inr (.inr ())))
noncomputable def jd := ax iC
noncomputable def pQ : Loop := ⟨[(0, .sl .note), (1, .sl .note), (5, .int .i64)], [], 0, [(4, .bool)], jd⟩
theorem CW : LF Tryz.f31 [] [1, 1, 0, 1, 0, 0] pQ := lk (v := .nil) uO (b := iC) (fun _ => by kernel_rfl) rfl (by kernel_rfl) (kN)
noncomputable def fA (x : List Note × List Note × Unit) : Option ((Bool × Unit) × Unit) :=
(if (!decide ((x.1.length : Int) = (x.2.1.length : Int))) then
some ((false, ()), ())
else
(au (jd (x.1, x.2.1, 0, ()))
(fun y8 => some (y8, ()))
(fun y8 => some ((true, ()), ()))))
noncomputable def uq : Ent := (31, none, ⟨[.fz .note, .fz .note], [.bool], fA⟩)
theorem xV : SQ Tryz.prog uq := so (v := .two (.nil) (.two (.nil) (.two (.two (.nil) (.one (.loop pQ))) (.nil)))) (fn := Tryz.f31) uO (by kernel_rfl) (by kernel_rfl) (by kernel_rfl) (kC CW (kN)) (fun _ => by kernel_rfl)
noncomputable def DA : Cx := cX [qk, uu, qj, uq] [] []
theorem Hi : OKC Tryz.prog DA ae := okc mixed (gC tv (gC xY (gC tu (gC xV (an)))))
noncomputable def kf (x : Y6 × Y6 × Unit) : Option ((Bool × Unit) × Unit) :=
(if (!decide (x.1.1 = x.2.1.1)) then
some ((false, ()), ())
else
(gn (x.1.2.1, x.2.1.2.1, ())).bind fun r2 =>
(if (!r2.1.1) then
some ((false, ()), ())
else
(kj (x.1.2.2.1, x.2.1.2.2.1, ())).bind fun r4 =>
(if (!r4.1.1) then
some ((false, ()), ())
else
(gj (x.1.2.2.2.1, x.2.1.2.2.2.1, ())).bind fun r6 =>
(if (!r6.1.1) then
some ((false, ()), ())
else
(fA (x.1.2.2.2.2.1, x.2.1.2.2.2.2.1, ())).bind fun r8 =>
(if (!r8.1.1) then
some ((false, ()), ())
else
(fA (x.1.2.2.2.2.2.1, x.2.1.2.2.2.2.2)).bind fun r10 =>
(if (!r10.1.1) then
some ((false, ()), ())
else
some ((true, ()), ())))))))
noncomputable def uo : Ent := (8, none, ⟨[Z6, Z6], [.bool], kf⟩)
theorem xU : SQ Tryz.prog uo := so (v := .nil) (fn := Tryz.f8) Hi (by kernel_rfl) (by kernel_rfl) (by kernel_rfl) (kN) (fun _ => by kernel_rfl)
noncomputable def pt : Cx := cX [uh, qc, t8, qm, uo] [] []
theorem qA : OKC Tryz.prog pt ae := okc mixed (gC xO (gC sR (gC xI (gC tG (gC xU (an))))))
noncomputable def bg (x : Y6 × Unit) : Option ((Bool × Unit) × Unit) :=
(kc (x.1, 1048576, ())).bind fun r1 =>
(if (decide (r1.1.1 < 0)) then
some ((true, ()), ())
else
(dk x).bind fun r2 =>
(fX r2.1).bind fun r3 =>
(dk x).bind fun r4 =>
(gu r4.1).bind fun r5 =>
(if (!decide (r5.1.1 = r3.1.1)) then
some ((false, ()), ())
else
(dk x).bind fun r8 =>
(kf (r4.1.1, r8.1)).bind fun r9 =>
(if (!r9.1.1) then
some ((false, ()), ())
else
some ((true, ()), ()))))
noncomputable def ql : Ent := (3, none, ⟨[Z6], [.bool], bg⟩)
theorem mX : SQ Tryz.prog ql := so (v := .nil) (fn := Tryz.f3) qA (by kernel_rfl) (by kernel_rfl) (by kernel_rfl) (kN) (fun _ => by kernel_rfl)
end Go.VS
namespace Go.VS
open Go
section
variable {σ ρ β γ : Type} {b : σ → Option (σ ⊕ ρ)}
theorem bH {x : σ} {y : ρ} (h : b x = some (.inr y)) : ax b x = some y := F3 (n := 1) (by simp [n6, h])
theorem gp {x x' : σ} {y : ρ} (h : b x = some (.inl x')) (hy : ax b x' = some y) : ax b x = some y := by
  obtain ⟨n, hn⟩ := Jd hy
  exact F3 (n := n + 1) (by simp [n6, h, hn])
theorem dD (st : Nat → σ) (n : Nat) {y : ρ} (h : ∀ i, i < n → b (st i) = some (.inl (st (i + 1)))) (hn : b (st n) = some (.inr y)) : ax b (st 0) = some y := by
  have : ∀ k, k ≤ n → ax b (st (n - k)) = some y := by
    intro k
    induction k with
    | zero => intro _; exact bH hn
    | succ k ih =>
      intro hk
      refine gp (h (n - (k + 1)) (by omega)) ?_
      rw [show n - (k + 1) + 1 = n - k by omega]
      exact ih (by omega)
  have := this n (Nat.le_refl _)
  rwa [Nat.sub_self] at this
theorem Rk (Inv : Nat → σ → Prop) (Post : ρ → Prop) (n : Nat) (hstep : ∀ i s, i < n → Inv i s → (∃ s', b s = some (.inl s') ∧ Inv (i + 1) s') ∨ (∃ r, b s = some (.inr r) ∧ Post r))
    (hend : ∀ s, Inv n s → ∃ r, b s = some (.inr r) ∧ Post r) {s0 : σ} (h0 : Inv 0 s0) : ∃ r, ax b s0 = some r ∧ Post r := by
  have : ∀ k, k ≤ n → ∀ s, Inv (n - k) s → ∃ r, ax b s = some r ∧ Post r := by
    intro k
    induction k with
    | zero =>
      intro _ s hs
      obtain ⟨r, h1, h2⟩ := hend s hs
      exact ⟨r, bH h1, h2⟩
    | succ k ih =>
      intro hk s hs
      rcases hstep _ s (by omega) hs with ⟨s', h1, h2⟩ | ⟨r, h1, h2⟩
      · rw [show n - (k + 1) + 1 = n - k by omega] at h2
        obtain ⟨r, h3, h4⟩ := ih (by omega) s' h2
        exact ⟨r, gp h1 h3, h4⟩
      · exact ⟨r, bH h1, h2⟩
  exact this n (Nat.le_refl _) s0 (by rwa [Nat.sub_self])
end
def sX {β : Type} (q : Nat → Option β) : Nat → Nat → Option β
  | 0, _ => none
  | k + 1, i => match q i with
    | some r => some r
    | none => sX q k (i + 1)
section
variable {σ β γ : Type} {b : σ → Option (σ ⊕ (β ⊕ γ))}
theorem Je (st : Nat → σ) (n : Nat) (q : Nat → Option β) (fin : γ)
    (h : ∀ i, i < n → b (st i) = some (match q i with | none => .inl (st (i + 1)) | some r => .inr (.inl r)))
    (hn : b (st n) = some (.inr (.inr fin))) : ax b (st 0) = some (match sX q n 0 with | none => .inr fin | some r => .inl r) := by
  have : ∀ k, k ≤ n → ax b (st (n - k)) = some (match sX q k (n - k) with | none => .inr fin | some r => .inl r) := by
    intro k
    induction k with
    | zero => intro _; exact bH hn
    | succ k ih =>
      intro hk
      have h1 := h (n - (k + 1)) (by omega)
      unfold sX
      cases hq : q (n - (k + 1)) with
      | some r => rw [hq] at h1; exact bH h1
      | none =>
        rw [hq] at h1
        refine gp h1 ?_
        rw [show n - (k + 1) + 1 = n - k by omega]
        exact ih (by omega)
  have := this n (Nat.le_refl _)
  rwa [Nat.sub_self] at this
def md (p : Nat → Bool) : Nat → Nat → Bool
  | 0, _ => true
  | k + 1, i => p i && md p k (i + 1)
def ao (n : Nat) (p : Nat → Bool) : Bool := md p n 0
theorem Lc {p : Nat → Bool} {r : β} : ∀ (k i : Nat), sX (fun i => if p i then none else some r) k i = if md p k i then none else some r
  | 0, _ => rfl
  | k + 1, i => by
    unfold sX md
    cases hp : p i
    · simp
    · simpa using Lc k (i + 1)
theorem am (st : Nat → σ) (n : Nat) (p : Nat → Bool) (r : β) (fin : γ)
    (h : ∀ i, i < n → b (st i) = some (if p i then .inl (st (i + 1)) else .inr (.inl r)))
    (hn : b (st n) = some (.inr (.inr fin))) : ax b (st 0) = some (if ao n p then .inr fin else .inl r) := by
  rw [Je st n (fun i => if p i then none else some r) fin (fun i hi => by rw [h i hi]; cases p i <;> rfl) hn, Lc, ao]
  cases md p n 0 <;> rfl
def gV (n : Nat) (p : Nat → Bool) : Int := (sX (fun i => if p i then some (i : Int) else none) n 0).getD (-1)
theorem La {p : Nat → Bool} {f : Int → β} : ∀ (k i : Nat), sX (fun i => if p i then some (f (i : Int)) else none) k i = (sX (fun i => if p i then some (i : Int) else none) k i).map f
  | 0, _ => rfl
  | k + 1, i => by
    unfold sX
    cases hp : p i
    · simpa using La k (i + 1)
    · simp
theorem AN {q : Nat → Option β} {r : β} : ∀ (k i : Nat), sX q k i = some r → ∃ j, i ≤ j ∧ j < i + k ∧ q j = some r ∧ ∀ l, i ≤ l → l < j → q l = none
  | 0, _, h => by cases h
  | k + 1, i, h => by
    unfold sX at h
    split at h
    · rename_i r' hr
      cases h
      exact ⟨i, Nat.le_refl _, by omega, hr, fun l h1 h2 => by omega⟩
    · rename_i hr
      obtain ⟨j, h1, h2, h3, h4⟩ := AN k (i + 1) h
      exact ⟨j, by omega, by omega, h3, fun l h5 h6 => by
        rcases Nat.lt_or_ge i l with h7 | h7
        · exact h4 l h7 h6
        · rw [show l = i by omega]; exact hr⟩
theorem IW {q : Nat → Option β} : ∀ (k i : Nat), sX q k i = none → ∀ l, i ≤ l → l < i + k → q l = none
  | 0, _, _, l, h1, h2 => by omega
  | k + 1, i, h, l, h1, h2 => by
    unfold sX at h
    split at h
    · cases h
    · rename_i hr
      rcases Nat.lt_or_ge i l with h7 | h7
      · exact IW k (i + 1) h l h7 (by omega)
      · rw [show l = i by omega]; exact hr
theorem bE (n : Nat) (p : Nat → Bool) : (gV n p = -1 ∧ ∀ i, i < n → p i = false) ∨ ∃ i : Nat, gV n p = i ∧ i < n ∧ p i = true ∧ ∀ l, l < i → p l = false := by
  unfold gV
  cases h : sX (fun i => if p i then some (i : Int) else none) n 0 with
  | none =>
    refine .inl ⟨rfl, fun i hi => ?_⟩
    have := IW n 0 h i (Nat.zero_le _) (by omega)
    cases hp : p i <;> simp [hp] at this ⊢
  | some r =>
    obtain ⟨j, h1, h2, h3, h4⟩ := AN n 0 h
    refine .inr ⟨j, ?_, by omega, ?_, fun l hl => ?_⟩
    · cases hp : p j <;> simp [hp] at h3
      simp [h3]
    · cases hp : p j <;> simp [hp] at h3 ⊢
    · have := h4 l (Nat.zero_le _) hl
      cases hp : p l <;> simp [hp] at this ⊢
theorem nh (st : Nat → σ) (n : Nat) (p : Nat → Bool) (f : Int → β) (fin : γ)
    (h : ∀ i, i < n → b (st i) = some (if p i then .inr (.inl (f (i : Int))) else .inl (st (i + 1))))
    (hn : b (st n) = some (.inr (.inr fin))) : ax b (st 0) = some (if gV n p < 0 then .inr fin else .inl (f (gV n p))) := by
  rw [Je st n (fun i => if p i then some (f (i : Int)) else none) fin (fun i hi => by rw [h i hi]; cases p i <;> rfl) hn, La]
  rcases bE n p with ⟨h1, _⟩ | ⟨i, h1, _⟩
  · rw [h1]
    unfold gV at h1
    cases h2 : sX (fun i => if p i then some (i : Int) else none) n 0 with
    | none => simp
    | some r =>
      obtain ⟨j, _, _, h3, _⟩ := AN n 0 h2
      cases hp : p j <;> simp [hp] at h3
      rw [h2] at h1
      simp at h1
      omega
  · rw [h1]
    unfold gV at h1
    cases h2 : sX (fun i => if p i then some (i : Int) else none) n 0 with
    | none => rw [h2] at h1; simp at h1
    | some r =>
      rw [h2] at h1
      simp at h1
      subst h1
      simp
end
theorem Cf {p : Nat → Bool} : ∀ (k i : Nat), md p k i = true ↔ ∀ j, i ≤ j → j < i + k → p j = true
  | 0, _ => by simp only [md, true_iff]; intro j h1 h2; omega
  | k + 1, i => by
    unfold md
    rw [Bool.and_eq_true, Cf k (i + 1)]
    constructor
    · rintro ⟨h1, h2⟩ j h3 h4
      rcases Nat.lt_or_ge i j with h7 | h7
      · exact h2 j h7 (by omega)
      · rw [show j = i by omega]; exact h1
    · intro h
      exact ⟨h i (Nat.le_refl _) (by omega), fun j h1 h2 => h j (by omega) (by omega)⟩
theorem bT {n : Nat} {p : Nat → Bool} : ao n p = true ↔ ∀ i, i < n → p i = true := by
  unfold ao
  rw [Cf]
  exact ⟨fun h i hi => h i (Nat.zero_le _) (by omega), fun h j _ h2 => h j (by omega)⟩
theorem av {A D Ω : Type} {f : A → Option Ω} {g : D → Option Ω} {y : D} : au (some (.inr y)) f g = g y := rfl
theorem aS {A D Ω : Type} {f : A → Option Ω} {g : D → Option Ω} {y : A} : au (some (.inl y)) f g = f y := rfl
theorem cn {X Ω : Type} {f : X → Option Ω} {y : X} : gB f (some (.inr y)) = f y := rfl
theorem jx {X Ω : Type} {f : X → Option Ω} {y : Ω} : gB f (some (.inl y)) = some y := rfl
theorem aR {n : Int} (h0 : -9223372036854775808 ≤ n) (h1 : n ≤ 9223372036854775807) : w64 n = n := by
  unfold w64
  rw [IntKind.wrap_i64]
  omega
theorem Pn (n : Int) : w8 n = n % 256 := by
  unfold w8 IntKind.wrap
  simp [IntKind.signed, IntKind.bits]
theorem ab {i n : Nat} (h : i < n) (hn : n ≤ 9223372036854775807) : w64 ((i : Int) + 1) = ((i + 1 : Nat) : Int) := by
  rw [aR (by omega) (by omega)]; omega
theorem dg {α : Type} (d : α) (xs : List α) (i : Nat) : rd d xs (i : Int) = xs.getD i d := rfl
theorem Rm (i n : Nat) : inb (i : Int) n = decide (i < n) := by
  unfold inb
  by_cases h : i < n
  · simp [h]
  · simp [h]
theorem ac {i n : Nat} (h : i < n) : inb (i : Int) n = true := by rw [Rm]; simpa using h
abbrev L (s : ByteArray) : List UInt8 := s.data.toList
theorem ms (s : ByteArray) : (L s).length = s.size := rfl
theorem u7 {s t : ByteArray} (h : L s = L t) : s = t := by
  cases s; cases t
  simp [L] at h
  exact congrArg _ h
theorem QR (s t : ByteArray) : L (s ++ t) = L s ++ L t := by simp [L, ByteArray.data_append]
theorem Hz (s : ByteArray) (a b : Nat) : L (s.extract a b) = ((L s).drop a).take (b - a) := by
  simp [L, ByteArray.data_extract, Array.toList_extract, List.extract_eq_take_drop]
theorem dL (s t : ByteArray) : (s ++ t).size = s.size + t.size := ByteArray.size_append ..
theorem L_B (l : List UInt8) : L (B l) = l := rfl
theorem AM (l : List UInt8) : (B l).size = l.length := rfl
theorem SJ (l : List UInt8) : L ⟨l.toArray⟩ = l := rfl
theorem Ho (s : ByteArray) (i : Nat) : bt s (i : Int) = (((L s).getD i 0).toNat : Int) := rfl
theorem SH (s : ByteArray) (i : Int) : 0 ≤ bt s i := by unfold bt; omega
theorem SI (s : ByteArray) (i : Int) : bt s i ≤ 255 := by
  unfold bt
  have := (s.data.toList.getD i.toNat 0).toNat_lt
  omega
end Go.VS
namespace Go.VS
open Go
theorem yn {α : Type} {p : α → Prop} {l : List α} (h : wfL p l) : l.length ≤ 9223372036854775807 := h.1
theorem D8 {s : ByteArray} (h : wfS s) : s.size ≤ 9223372036854775807 := h
def Sz (f : Option ((Int × Unit) × Unit)) (left : Int) (p : Prop) : Prop := ∃ r, f = some ((r, ()), ()) ∧ -1 ≤ r ∧ r ≤ left ∧ (0 ≤ r → p)
theorem Hw {left : Int} {n : Nat} (h0 : 0 ≤ left) (h1 : left ≤ 1048576) (hn : n ≤ 9223372036854775807) :
    Sz (let v1 := (w64 (left - (n : Int))); if decide (v1 < 0) then some (((-1), ()), ()) else some ((v1, ()), ())) left (n ≤ 1048576) := by
  rw [aR (by omega) (by omega)]
  by_cases h : left - (n : Int) < 0
  · exact ⟨-1, by simp [h], by omega, by omega, by omega⟩
  · exact ⟨left - n, by simp [h], by omega, by omega, by omega⟩
theorem yw {α : Type} {l : List α} {b : (List α × Int × Int × Unit) → Option ((List α × Int × Int × Unit) ⊕ ((Int × Unit) ⊕ (Int × Unit)))} (p : α → Prop)
    (h : ∀ (i : Nat) (x : α) (lf : Int), l[i]? = some x → 0 ≤ lf → lf ≤ 1048576 → ∃ r, b (l, lf, (i : Int), ()) = some (if r < 0 then .inr (.inl (-1, ())) else .inl (l, r, ((i + 1 : Nat) : Int), ())) ∧ -1 ≤ r ∧ r ≤ lf ∧ (0 ≤ r → p x))
    (hn : ∀ lf, b (l, lf, (l.length : Int), ()) = some (.inr (.inr (lf, ())))) {left : Int} (h0 : 0 ≤ left) (h1 : left ≤ 1048576) :
    ∃ y, ax b (l, left, 0, ()) = some y ∧ (y = .inl (-1, ()) ∨ ∃ r, y = .inr (r, ()) ∧ 0 ≤ r ∧ r ≤ left ∧ ∀ x ∈ l, p x) := by
  refine Rk (fun i s => ∃ lf, s = (l, lf, (i : Int), ()) ∧ 0 ≤ lf ∧ lf ≤ left ∧ ∀ (j : Nat) (x : α), j < i → l[j]? = some x → p x) _ l.length ?_ ?_ ⟨left, rfl, h0, by omega, fun j x hj => by omega⟩
  · rintro i s hi ⟨lf, rfl, h2, h3, h4⟩
    obtain ⟨r, e, h5, h6, h7⟩ := h i l[i] lf (List.getElem?_eq_getElem hi) h2 (by omega)
    by_cases hr : r < 0
    · rw [if_pos hr] at e
      exact .inr ⟨_, e, .inl rfl⟩
    · rw [if_neg hr] at e
      refine .inl ⟨_, e, r, rfl, by omega, by omega, fun j x hj hx => ?_⟩
      rcases Nat.lt_or_ge j i with hl | hl
      · exact h4 j x hl hx
      · rw [show j = i by omega, List.getElem?_eq_getElem hi] at hx
        cases hx
        exact h7 (by omega)
  · rintro s ⟨lf, rfl, h2, h3, h4⟩
    exact ⟨_, hn lf, .inr ⟨lf, rfl, h2, h3, fun x hx => by
      obtain ⟨j, hj, rfl⟩ := List.getElem_of_mem hx
      exact h4 j _ hj (List.getElem?_eq_getElem hj)⟩⟩
theorem AD {α : Type} {l : List α} {p : α → Prop} {left : Int} {it : Option ((Int × Unit) ⊕ (Int × Unit))} (h0 : 0 ≤ left) (h1 : left ≤ 1048576) (hl : l.length ≤ 9223372036854775807)
    (h : ∀ lf : Int, 0 ≤ lf → lf ≤ left → w64 (left - (l.length : Int)) = lf → ∃ y, it = some y ∧ (y = .inl (-1, ()) ∨ ∃ r, y = .inr (r, ()) ∧ 0 ≤ r ∧ r ≤ lf ∧ ∀ x ∈ l, p x)) :
    Sz (let v1 := (w64 (left - (l.length : Int))); if decide (v1 < 0) then some (((-1), ()), ()) else au it (fun y9 => some ((y9.1, ()), ())) (fun y9 => some ((y9.1, ()), ()))) left (l.length ≤ 1048576 ∧ ∀ x ∈ l, p x) := by
  have hw := aR (n := left - (l.length : Int)) (by omega) (by omega)
  by_cases hc : left - (l.length : Int) < 0
  · rw [hw]
    exact ⟨-1, by simp [hc], by omega, by omega, by omega⟩
  · obtain ⟨y, rfl, hy⟩ := h (left - l.length) (by omega) (by omega) hw
    rw [hw]
    rcases hy with rfl | ⟨r, rfl, h2, h3, h4⟩
    · exact ⟨-1, by simp [hc, au], by omega, by omega, by omega⟩
    · exact ⟨r, by simp [hc, au], by omega, by omega, fun _ => ⟨by omega, h4⟩⟩
def yH (m : Mixed) : Prop := m.da.size ≤ 1048576
def lw (h : Half) : Prop := h.got.length ≤ 1048576 ∧ ∀ m ∈ h.got, yH m
def ct (k : Keeper) : Prop := k.log.size ≤ 1048576 ∧ k.halves.length ≤ 1048576 ∧ ∀ h ∈ k.halves, lw h
def sW (p : Parcel) : Prop := p.data.size ≤ 1048576
def cW (n : Note) : Prop := n.tx.size ≤ 1048576
theorem aT {α : Type} {l : List α} {i : Nat} {x d : α} (h : l[i]? = some x) : l.getD i d = x := by simp [h]
theorem N4 {x : Mixed} {left : Int} (hw : D9 x) (h0 : 0 ≤ left) (h1 : left ≤ 1048576) : Sz (nR ((x.nu, x.da, ()), left, ())) left (yH x) := Hw h0 h1 (D8 hw.2)
theorem Pv {x : Note} {left : Int} (hw : xm x) (h0 : 0 ≤ left) (h1 : left ≤ 1048576) : Sz (ph ((x.fr, x.nu, x.to, x.un, x.tx, ()), left, ())) left (cW x) := Hw h0 h1 (D8 hw.2.2.2.2)
theorem Ml {x : Parcel} {left : Int} (hw : ym x) (h0 : 0 ≤ left) (h1 : left ≤ 1048576) : Sz (my ((x.src, x.dst, x.data, x.sp, ()), left, ())) left (sW x) := Hw h0 h1 (D8 hw.2.2)
theorem N2 {lg : ByteArray} {fo : Int} {left : Int} (hw : wfS lg) (h0 : 0 ≤ left) (h1 : left ≤ 1048576) : Sz (nO ((lg, fo, ()), left, ())) left (lg.size ≤ 1048576) := Hw h0 h1 (D8 hw)
theorem N6 {l : List Bool} {left : Int} (hw : l.length ≤ 9223372036854775807) (h0 : 0 ≤ left) (h1 : left ≤ 1048576) : Sz (nV (l, left, ())) left (l.length ≤ 1048576) := Hw h0 h1 hw
theorem pa {f : Option ((Int × Unit) × Unit)} {left : Int} {p q : Prop} {g : (Int × Unit) × Unit → Option ((Int × Unit) × Unit)} (hf : Sz f left p)
    (hg : ∀ lf, 0 ≤ lf → lf ≤ left → Sz (g ((lf, ()), ())) lf q) : Sz (f.bind fun r => if decide (r.1.1 < 0) then some (((-1), ()), ()) else g r) left (p ∧ q) := by
  obtain ⟨r, rfl, h1, h2, h3⟩ := hf
  by_cases hr : r < 0
  · exact ⟨-1, by simp [hr], by omega, by omega, by omega⟩
  · obtain ⟨r', e, h4, h5, h6⟩ := hg r (by omega) h2
    refine ⟨r', ?_, h4, by omega, fun h => ⟨h3 (by omega), h6 h⟩⟩
    simp only [Option.bind_some, hr, decide_false]
    exact e
theorem Ng {lf : Int} (h : 0 ≤ lf) : Sz (some ((lf, ()), ())) lf True := ⟨lf, rfl, by omega, by omega, fun _ => trivial⟩
theorem Sz.mono {f : Option ((Int × Unit) × Unit)} {left : Int} {p q : Prop} (h : Sz f left p) (hpq : p → q) : Sz f left q := by
  obtain ⟨r, h1, h2, h3, h4⟩ := h
  exact ⟨r, h1, h2, h3, fun h => hpq (h4 h)⟩
theorem af {i n : Nat} (h : i < n) : decide ((i : Int) < (n : Int)) = true := by simpa using h
theorem Mn {l : List Mixed} {left : Int} (hw : wfL D9 l) (h0 : 0 ≤ left) (h1 : left ≤ 1048576) : Sz (mz (l, left, ())) left (l.length ≤ 1048576 ∧ ∀ x ∈ l, yH x) := by
  have hl := yn hw
  refine AD (p := yH) h0 h1 hl fun lf h2 h3 e => ?_
  have h3 : lf ≤ left := h3
  simp only [e]
  refine yw yH (fun i x lf hx h4 h5 => ?_) (fun lf => ?_) h2 (by omega)
  · have hi := (List.getElem?_eq_some_iff.1 hx).1
    obtain ⟨r, e, h6, h7, h8⟩ := N4  (hw.2 x (List.mem_of_getElem? hx)) h4 h5
    refine ⟨r, ?_, h6, h7, h8⟩
    unfold gi
    simp only [dg, aT hx, ac hi, e, Option.bind_some, af hi, ab hi hl]
    by_cases hr : r < 0 <;> simp [hr]
  · simp [gi]
theorem Pw {x : Half} {left : Int} (hw : JG x) (h0 : 0 ≤ left) (h1 : left ≤ 1048576) : Sz (pj ((x.fr, x.nu, x.to, x.un, x.sz, x.got, ()), left, ())) left (lw x) :=
  (pa (Mn hw.2.2.2.2.2 h0 h1) fun _ h2 _ => Ng h2).mono fun h => h.1
theorem N5 {l : List Half} {left : Int} (hw : wfL JG l) (h0 : 0 ≤ left) (h1 : left ≤ 1048576) : Sz (nT (l, left, ())) left (l.length ≤ 1048576 ∧ ∀ x ∈ l, lw x) := by
  have hl := yn hw
  refine AD (p := lw) h0 h1 hl fun lf h2 h3 e => ?_
  have h3 : lf ≤ left := h3
  simp only [e]
  refine yw lw (fun i x lf hx h4 h5 => ?_) (fun lf => ?_) h2 (by omega)
  · have hi := (List.getElem?_eq_some_iff.1 hx).1
    obtain ⟨r, e, h6, h7, h8⟩ := Pw  (hw.2 x (List.mem_of_getElem? hx)) h4 h5
    refine ⟨r, ?_, h6, h7, h8⟩
    unfold iA
    simp only [dg, aT hx, ac hi, e, Option.bind_some, af hi, ab hi hl]
    by_cases hr : r < 0 <;> simp [hr]
  · simp [iA]
theorem Mo {x : Keeper} {left : Int} (hw : yo x) (h0 : 0 ≤ left) (h1 : left ≤ 1048576) : Sz (mB ((x.id, x.up, x.log, x.fo, x.halves, ()), left, ())) left (ct x) :=
  (pa (N2 (fo := x.fo) hw.2.1 h0 h1) fun _ h2 h3 => pa (N5 hw.2.2.2 h2 (by omega)) fun _ h4 _ => Ng h4).mono fun h => ⟨h.1, h.2.1.1, h.2.1.2⟩
theorem KX {l : List Keeper} {left : Int} (hw : wfL yo l) (h0 : 0 ≤ left) (h1 : left ≤ 1048576) : Sz (lz (l, left, ())) left (l.length ≤ 1048576 ∧ ∀ x ∈ l, ct x) := by
  have hl := yn hw
  refine AD (p := ct) h0 h1 hl fun lf h2 h3 e => ?_
  have h3 : lf ≤ left := h3
  simp only [e]
  refine yw ct (fun i x lf hx h4 h5 => ?_) (fun lf => ?_) h2 (by omega)
  · have hi := (List.getElem?_eq_some_iff.1 hx).1
    obtain ⟨r, e, h6, h7, h8⟩ := Mo  (hw.2 x (List.mem_of_getElem? hx)) h4 h5
    refine ⟨r, ?_, h6, h7, h8⟩
    unfold eE
    simp only [dg, aT hx, ac hi, e, Option.bind_some, af hi, ab hi hl]
    by_cases hr : r < 0 <;> simp [hr]
  · simp [eE]
theorem KW {l : List Parcel} {left : Int} (hw : wfL ym l) (h0 : 0 ≤ left) (h1 : left ≤ 1048576) : Sz (ly (l, left, ())) left (l.length ≤ 1048576 ∧ ∀ x ∈ l, sW x) := by
  have hl := yn hw
  refine AD (p := sW) h0 h1 hl fun lf h2 h3 e => ?_
  have h3 : lf ≤ left := h3
  simp only [e]
  refine yw sW (fun i x lf hx h4 h5 => ?_) (fun lf => ?_) h2 (by omega)
  · have hi := (List.getElem?_eq_some_iff.1 hx).1
    obtain ⟨r, e, h6, h7, h8⟩ := Ml  (hw.2 x (List.mem_of_getElem? hx)) h4 h5
    refine ⟨r, ?_, h6, h7, h8⟩
    unfold eD
    simp only [dg, aT hx, ac hi, e, Option.bind_some, af hi, ab hi hl]
    by_cases hr : r < 0 <;> simp [hr]
  · simp [eD]
theorem IT {l : List Note} {left : Int} (hw : wfL xm l) (h0 : 0 ≤ left) (h1 : left ≤ 1048576) : Sz (ke (l, left, ())) left (l.length ≤ 1048576 ∧ ∀ x ∈ l, cW x) := by
  have hl := yn hw
  refine AD (p := cW) h0 h1 hl fun lf h2 h3 e => ?_
  have h3 : lf ≤ left := h3
  simp only [e]
  refine yw cW (fun i x lf hx h4 h5 => ?_) (fun lf => ?_) h2 (by omega)
  · have hi := (List.getElem?_eq_some_iff.1 hx).1
    obtain ⟨r, e, h6, h7, h8⟩ := Pv  (hw.2 x (List.mem_of_getElem? hx)) h4 h5
    refine ⟨r, ?_, h6, h7, h8⟩
    unfold iz
    simp only [dg, aT hx, ac hi, e, Option.bind_some, af hi, ab hi hl]
    by_cases hr : r < 0 <;> simp [hr]
  · simp [iz]
structure SmRiver (ks : List Keeper) (ls : List Bool) (ra : List Parcel) (se go : List Note) : Prop where
  kl : ks.length ≤ 1048576
  k : ∀ x ∈ ks, ct x
  l : ls.length ≤ 1048576
  rl : ra.length ≤ 1048576
  r : ∀ x ∈ ra, sW x
  sl : se.length ≤ 1048576
  s : ∀ x ∈ se, cW x
  gl : go.length ≤ 1048576
  g : ∀ x ∈ go, cW x
theorem N3 {ti : Int} {ks : List Keeper} {ls : List Bool} {ra : List Parcel} {se go : List Note} {left : Int} (hk : wfL yo ks) (hl : ls.length ≤ 9223372036854775807) (hr : wfL ym ra) (hs : wfL xm se) (hg : wfL xm go)
    (h0 : 0 ≤ left) (h1 : left ≤ 1048576) : Sz (kc ((ti, ks, ls, ra, se, go, ()), left, ())) left (SmRiver ks ls ra se go) :=
  (pa (KX hk h0 h1) fun _ a2 _ => pa (N6 hl a2 (by omega)) fun _ b2 _ => pa (KW hr b2 (by omega)) fun _ c2 _ => pa (IT hs c2 (by omega)) fun _ d2 _ => pa (IT hg d2 (by omega)) fun _ e2 _ =>
    Ng e2).mono fun h => ⟨h.1.1, h.1.2, h.2.1, h.2.2.1.1, h.2.2.1.2, h.2.2.2.1.1, h.2.2.2.1.2, h.2.2.2.2.1.1, h.2.2.2.2.1.2⟩
end Go.VS
namespace Go.VS
open Go
theorem PG {α : Type} {l : List α} {i : Nat} {x d : α} (h : l[i]? = some x) : (l.take i ++ List.replicate (l.length - i) d).set i x = l.take (i + 1) ++ List.replicate (l.length - (i + 1)) d := by
  obtain ⟨hi, rfl⟩ := List.getElem?_eq_some_iff.1 h
  apply List.ext_getElem
  · simp; omega
  · intro j h1 h2
    simp at h1 h2
    rw [List.getElem_set]
    split
    · rename_i e
      subst e
      rw [List.getElem_append_left (by simp; omega)]
      simp
    · rename_i hne
      rcases Nat.lt_trichotomy j i with hj | hj | hj
      · rw [List.getElem_append_left (by simp; omega), List.getElem_append_left (by simp; omega)]
        simp
      · omega
      · rw [List.getElem_append_right (by simp; omega), List.getElem_append_right (by simp; omega)]
        simp
theorem vb {α ρ : Type} {l : List α} {d : α} {b : (List α × List α × Int × Unit) → Option ((List α × List α × Int × Unit) ⊕ (ρ ⊕ (List α × Unit)))}
    (h : ∀ (i : Nat) (x : α) (out : List α), l[i]? = some x → i < l.length → i < out.length → b (l, out, (i : Int), ()) = some (.inl (l, out.set i x, ((i + 1 : Nat) : Int), ())))
    (hn : ∀ out, b (l, out, (l.length : Int), ()) = some (.inr (.inr (out, ())))) : ax b (l, List.replicate (Int.toNat (l.length : Int)) d, 0, ()) = some (.inr (l, ())) := by
  have := dD (b := b) (fun i => (l, l.take i ++ List.replicate (l.length - i) d, (i : Int), ())) l.length (y := .inr (l, ())) (fun i hi => by
    have hx := List.getElem?_eq_getElem hi
    rw [h i _ _ hx hi (by simp; omega), PG hx]) (by simp [hn])
  simpa using this
theorem vt {α ρ : Type} {l : List α} {b : (List α × List α × Int × Unit) → Option ((List α × List α × Int × Unit) ⊕ (ρ ⊕ Unit))}
    (h : ∀ (i : Nat) (x : α), l[i]? = some x → i < l.length → b (l, l, (i : Int), ()) = some (.inl (l, l, ((i + 1 : Nat) : Int), ())))
    (hn : b (l, l, (l.length : Int), ()) = some (.inr (.inr ()))) : ax b (l, l, 0, ()) = some (.inr ()) :=
  dD (b := b) (fun i => (l, l, (i : Int), ())) l.length (fun i hi => h i _ (List.getElem?_eq_getElem hi) hi) hn
theorem NY {x : Mixed} : nM ((x.nu, x.da, ()), ()) = some (((x.nu, x.da, ()), ()), ()) := rfl
theorem OV {x : Mixed} : kg ((x.nu, x.da, ()), (x.nu, x.da, ()), ()) = some ((true, ()), ()) := by
  unfold kg
  simp
theorem Mj {l : List Mixed} (hl : l.length ≤ 1048576) : iu (l, ()) = some ((l, ()), ()) := by
  have h1 : (decide (0 ≤ (l.length : Int)) && decide ((l.length : Int) ≤ 4294967296)) = true := by simp; omega
  have h2 : gH (l, List.replicate (Int.toNat (l.length : Int)) (dfl .mixed), 0, ()) = some (.inr (l, ())) := by
    refine vb (fun i x out hx hi ho => ?_) (fun out => by simp [gf])
    unfold gf
    simp only [dg, aT hx, ac hi, ac ho, NY, Option.bind_some, af hi, ab hi (by omega : l.length ≤ 9223372036854775807)]
    rfl
  unfold iu
  simp only [h1, h2, au, Option.bind_some, if_true]
theorem MY {l : List Mixed} (hl : l.length ≤ 1048576) : iD (l, l, ()) = some ((true, ()), ()) := by
  have h2 : gI (l, l, 0, ()) = some (.inr ()) := by
    refine vt (fun i x hx hi => ?_) (by simp [gk])
    unfold gk
    simp only [dg, aT hx, ac hi, OV, Option.bind_some, af hi, ab hi (by omega : l.length ≤ 9223372036854775807)]
    rfl
  unfold iD
  simp [h2, au]
theorem Pq {x : Note} : pg ((x.fr, x.nu, x.to, x.un, x.tx, ()), ()) = some (((x.fr, x.nu, x.to, x.un, x.tx, ()), ()), ()) := rfl
theorem Qs {x : Note} : lS ((x.fr, x.nu, x.to, x.un, x.tx, ()), (x.fr, x.nu, x.to, x.un, x.tx, ()), ()) = some ((true, ()), ()) := by
  unfold lS
  simp
theorem IR {l : List Note} (hl : l.length ≤ 1048576) : fv (l, ()) = some ((l, ()), ()) := by
  have h1 : (decide (0 ≤ (l.length : Int)) && decide ((l.length : Int) ≤ 4294967296)) = true := by simp; omega
  have h2 : ja (l, List.replicate (Int.toNat (l.length : Int)) (dfl .note), 0, ()) = some (.inr (l, ())) := by
    refine vb (fun i x out hx hi ho => ?_) (fun out => by simp [is])
    unfold is
    simp only [dg, aT hx, ac hi, ac ho, Pq, Option.bind_some, af hi, ab hi (by omega : l.length ≤ 9223372036854775807)]
    rfl
  unfold fv
  simp only [h1, h2, au, Option.bind_some, if_true]
theorem Ju {l : List Note} (hl : l.length ≤ 1048576) : fA (l, l, ()) = some ((true, ()), ()) := by
  have h2 : jd (l, l, 0, ()) = some (.inr ()) := by
    refine vt (fun i x hx hi => ?_) (by simp [iC])
    unfold iC
    simp only [dg, aT hx, ac hi, Qs, Option.bind_some, af hi, ab hi (by omega : l.length ≤ 9223372036854775807)]
    rfl
  unfold fA
  simp [h2, au]
theorem Mi {x : Parcel} : mw ((x.src, x.dst, x.data, x.sp, ()), ()) = some (((x.src, x.dst, x.data, x.sp, ()), ()), ()) := rfl
theorem MW {x : Parcel} : iB ((x.src, x.dst, x.data, x.sp, ()), (x.src, x.dst, x.data, x.sp, ()), ()) = some ((true, ()), ()) := by
  unfold iB
  simp
theorem KR {l : List Parcel} (hl : l.length ≤ 1048576) : gc (l, ()) = some ((l, ()), ()) := by
  have h1 : (decide (0 ≤ (l.length : Int)) && decide ((l.length : Int) ≤ 4294967296)) = true := by simp; omega
  have h2 : fu (l, List.replicate (Int.toNat (l.length : Int)) (dfl .parcel), 0, ()) = some (.inr (l, ())) := by
    refine vb (fun i x out hx hi ho => ?_) (fun out => by simp [eB])
    unfold eB
    simp only [dg, aT hx, ac hi, ac ho, Mi, Option.bind_some, af hi, ab hi (by omega : l.length ≤ 9223372036854775807)]
    rfl
  unfold gc
  simp only [h1, h2, au, Option.bind_some, if_true]
theorem LS {l : List Parcel} (hl : l.length ≤ 1048576) : gj (l, l, ()) = some ((true, ()), ()) := by
  have h2 : fy (l, l, 0, ()) = some (.inr ()) := by
    refine vt (fun i x hx hi => ?_) (by simp [eF])
    unfold eF
    simp only [dg, aT hx, ac hi, MW, Option.bind_some, af hi, ab hi (by omega : l.length ≤ 9223372036854775807)]
    rfl
  unfold gj
  simp [h2, au]
theorem Pr {x : Half} (h : lw x) : lR ((x.fr, x.nu, x.to, x.un, x.sz, x.got, ()), ()) = some (((x.fr, x.nu, x.to, x.un, x.sz, x.got, ()), ()), ()) := by
  unfold lR
  simp [Mj h.1]
theorem Qt {x : Half} (h : lw x) : lT ((x.fr, x.nu, x.to, x.un, x.sz, x.got, ()), (x.fr, x.nu, x.to, x.un, x.sz, x.got, ()), ()) = some ((true, ()), ()) := by
  unfold lT
  simp [MY h.1]
theorem NZ {l : List Half} (hl : l.length ≤ 1048576) (h : ∀ x ∈ l, lw x) : ka (l, ()) = some ((l, ()), ()) := by
  have h1 : (decide (0 ≤ (l.length : Int)) && decide ((l.length : Int) ≤ 4294967296)) = true := by simp; omega
  have h2 : jb (l, List.replicate (Int.toNat (l.length : Int)) (dfl .half), 0, ()) = some (.inr (l, ())) := by
    refine vb (fun i x out hx hi ho => ?_) (fun out => by simp [iw])
    unfold iw
    simp only [dg, aT hx, ac hi, ac ho, Pr (h x (List.mem_of_getElem? hx)), Option.bind_some, af hi, ab hi (by omega : l.length ≤ 9223372036854775807)]
    rfl
  unfold ka
  simp only [h1, h2, au, Option.bind_some, if_true]
theorem OW {l : List Half} (hl : l.length ≤ 1048576) (h : ∀ x ∈ l, lw x) : kh (l, l, ()) = some ((true, ()), ()) := by
  have h2 : je (l, l, 0, ()) = some (.inr ()) := by
    refine vt (fun i x hx hi => ?_) (by simp [iF])
    unfold iF
    simp only [dg, aT hx, ac hi, Qt (h x (List.mem_of_getElem? hx)), Option.bind_some, af hi, ab hi (by omega : l.length ≤ 9223372036854775807)]
    rfl
  unfold kh
  simp [h2, au]
theorem Mk {x : Keeper} (h : ct x) : iv ((x.id, x.up, x.log, x.fo, x.halves, ()), ()) = some (((x.id, x.up, x.log, x.fo, x.halves, ()), ()), ()) := by
  unfold iv
  simp [NZ h.2.1 h.2.2, nK]
theorem M0 {x : Keeper} (h : ct x) : iE ((x.id, x.up, x.log, x.fo, x.halves, ()), (x.id, x.up, x.log, x.fo, x.halves, ()), ()) = some ((true, ()), ()) := by
  unfold iE
  simp [OW h.2.1 h.2.2, nW]
theorem KS {l : List Keeper} (hl : l.length ≤ 1048576) (h : ∀ x ∈ l, ct x) : gh (l, ()) = some ((l, ()), ()) := by
  have h1 : (decide (0 ≤ (l.length : Int)) && decide ((l.length : Int) ≤ 4294967296)) = true := by simp; omega
  have h2 : fw (l, List.replicate (Int.toNat (l.length : Int)) (dfl .keeper), 0, ()) = some (.inr (l, ())) := by
    refine vb (fun i x out hx hi ho => ?_) (fun out => by simp [eC])
    unfold eC
    simp only [dg, aT hx, ac hi, ac ho, Mk (h x (List.mem_of_getElem? hx)), Option.bind_some, af hi, ab hi (by omega : l.length ≤ 9223372036854775807)]
    rfl
  unfold gh
  simp only [h1, h2, au, Option.bind_some, if_true]
theorem LU {l : List Keeper} (hl : l.length ≤ 1048576) (h : ∀ x ∈ l, ct x) : gn (l, l, ()) = some ((true, ()), ()) := by
  have h2 : fB (l, l, 0, ()) = some (.inr ()) := by
    refine vt (fun i x hx hi => ?_) (by simp [eG])
    unfold eG
    simp only [dg, aT hx, ac hi, M0 (h x (List.mem_of_getElem? hx)), Option.bind_some, af hi, ab hi (by omega : l.length ≤ 9223372036854775807)]
    rfl
  unfold gn
  simp [h2, au]
theorem N0 {l : List Bool} (hl : l.length ≤ 1048576) : kb (l, ()) = some ((l, ()), ()) := by
  have h1 : (decide (0 ≤ (l.length : Int)) && decide ((l.length : Int) ≤ 4294967296)) = true := by simp; omega
  have h2 : jc (l, List.replicate (Int.toNat (l.length : Int)) (dfl .bool), 0, ()) = some (.inr (l, ())) := by
    refine vb (fun i x out hx hi ho => ?_) (fun out => by simp [iy])
    unfold iy
    simp only [dg, aT hx, ac hi, ac ho, Option.bind_some, af hi, ab hi (by omega : l.length ≤ 9223372036854775807)]
    rfl
  unfold kb
  simp only [h1, h2, au, Option.bind_some, if_true]
theorem OX {l : List Bool} (hl : l.length ≤ 1048576) : kj (l, l, ()) = some ((true, ()), ()) := by
  have h2 : jf (l, l, 0, ()) = some (.inr ()) := by
    refine vt (fun i x hx hi => ?_) (by simp [iG])
    unfold iG
    simp only [dg, aT hx, ac hi, af hi, ab hi (by omega : l.length ≤ 9223372036854775807)]
    simp
  unfold kj
  simp [h2, au]
theorem NX {ti : Int} {ks : List Keeper} {ls : List Bool} {ra : List Parcel} {se go : List Note} (h : SmRiver ks ls ra se go) : dk ((ti, ks, ls, ra, se, go, ()), ()) = some (((ti, ks, ls, ra, se, go, ()), ()), ()) := by
  unfold dk
  simp [KS h.kl h.k, N0 h.l, KR h.rl, IR h.sl, IR h.gl]
theorem OU {ti : Int} {ks : List Keeper} {ls : List Bool} {ra : List Parcel} {se go : List Note} (h : SmRiver ks ls ra se go) : kf ((ti, ks, ls, ra, se, go, ()), (ti, ks, ls, ra, se, go, ()), ()) = some ((true, ()), ()) := by
  unfold kf
  simp [LU h.kl h.k, OX h.l, LS h.rl, Ju h.sl, Ju h.gl]
end Go.VS
namespace Go.VS
open Go
@[simp] theorem bw (q : Bool) : aF false q = true := by cases q <;> rfl
@[simp] theorem bZ (q : Bool) : aF true q = q := by cases q <;> rfl
theorem tf (b : Bool) : b = true ∨ b = false := by cases b <;> simp
def inB (n lo hi : Int) : Bool := decide (lo ≤ n) && decide (n ≤ hi)
theorem ba {n lo hi : Int} : inB n lo hi = true ↔ lo ≤ n ∧ n ≤ hi := by simp [inB]
abbrev isN (n : Int) : Bool := inB n 0 3
@[simp] theorem co {n lo hi : Int} : aE (n, lo, hi, ()) = some ((inB n lo hi, ()), ()) := rfl
@[simp] theorem lv {n lo hi : Int} : aO (n, lo, hi, ()) = some ((inB n lo hi, ()), ()) := rfl
@[simp] theorem bO {n : Int} : aN (n, ()) = some ((isN n, ()), ()) := rfl
@[simp] theorem bK {n : Int} : aB (n, ()) = some ((isN n, ()), ()) := rfl
abbrev tin (s : ByteArray) : Bool := ao s.size fun i => inB (bt s i) 32 126
def Pp (s : ByteArray) : Bool := inB s.size 1 24 && tin s
theorem Po {s : ByteArray} {i : Int} : w64 (bt s i) = bt s i := aR (by have := SH s i; omega) (by have := SI s i; omega)
@[simp] theorem H9 {s : ByteArray} (hs : s.size ≤ 1048576) : cj (s, ()) = some ((Pp s, ()), ()) := by
  have h : kn (s, 0, ()) = some (if tin s then .inr (s, ()) else .inl (false, ())) :=
    am (fun i => (s, (i : Int), ())) s.size (fun i => inB (bt s i) 32 126) (false, ()) (s, ()) (fun i hi => by
      unfold ko
      simp only [ac hi, af hi, Po, co, Option.bind_some, ab hi (by omega : s.size ≤ 9223372036854775807)]
      cases inB (bt s i) 32 126 <;> rfl) (by simp [ko])
  unfold cj
  simp only [h]
  unfold Pp
  cases tin s <;> simp [au]
def aK (n : Note) : Bool := isN n.fr && (isN n.to && (inB n.nu 1 99 && (inB n.un 1 999 && Pp n.tx)))
@[simp] theorem gU {fr nu tt un : Int} {tx : ByteArray} (hs : tx.size ≤ 1048576) : cl ((fr, nu, tt, un, tx, ()), ()) = some ((aK ⟨fr, nu, tt, un, tx⟩, ()), ()) := by
  unfold cl aK
  simp only [H9 hs, co, bO, Option.bind_some]
  cases isN fr <;> cases isN tt <;> cases inB nu 1 99 <;> cases inB un 1 999 <;> simp [aF]
@[simp] theorem gM {fr nu tt un : Int} {tx : ByteArray} (hs : tx.size ≤ 1048576) : cg ((fr, nu, tt, un, tx, ()), ()) = some ((aK ⟨fr, nu, tt, un, tx⟩, ()), ()) := by
  have h : jM ((fr, nu, tt, un, tx, ()), 0, ()) = some (if tin tx then .inr () else .inl (false, ())) :=
    am (fun i => ((fr, nu, tt, un, tx, ()), (i : Int), ())) tx.size (fun i => inB (bt tx i) 32 126) (false, ()) () (fun i hi => by
      unfold jN
      simp only [ac hi, af hi, ab hi (by omega : tx.size ≤ 9223372036854775807)]
      unfold inB
      by_cases h1 : bt tx i < 32 <;> by_cases h2 : 126 < bt tx i <;> simp [h1, h2, aF] <;> omega) (by simp [jN])
  unfold cg aK
  simp only [h, lv, bK, Option.bind_some]
  unfold Pp
  by_cases h1 : (tx.size : Int) < 1 <;> by_cases h2 : (24 : Int) < tx.size <;> cases isN fr <;> cases isN tt <;> cases inB nu 1 99 <;> cases inB un 1 999 <;> cases tin tx <;> simp [h1, h2, au, inB] <;> omega
def qS (m : Mark) : Bool := isN m.mf && (inB m.mn 1 99 && inB m.mu 1 999)
@[simp] theorem Ia {a b c : Int} : lY ((a, b, c, ()), ()) = some ((qS ⟨a, b, c⟩, ()), ()) := by
  unfold lY qS
  simp only [co, bO, Option.bind_some]
  cases isN a <;> cases inB b 1 99 <;> simp [aF]
def bef (a b c d : Int) : Bool := decide (a < c) || (decide (a = c) && decide (b < d))
@[simp] theorem dU {a b c d : Int} : bm (a, b, c, d, ()) = some ((bef a b c d, ()), ()) := rfl
@[simp] theorem oH {a b c d : Int} : bq (a, b, c, d, ()) = some ((bef a b c d, ()), ()) := rfl
def nA (l : List Note) (i : Nat) : Note := l.getD i (dfl .note)
def mA (l : List Mark) (i : Nat) : Mark := l.getD i (dfl .mark)
theorem aG (l : List Note) (i : Nat) : @rd Note (dfl .note) l (i : Int) = nA l i := rfl
theorem bX (l : List Mark) (i : Nat) : @rd Mark (dfl .mark) l (i : Int) = mA l i := rfl
def bM (l : List Note) : Bool := ao l.length fun i => aK (nA l i) && (decide (i = 0) || bef (nA l (i - 1)).fr (nA l (i - 1)).nu (nA l i).fr (nA l i).nu)
def ir (l : List Mark) : Bool := ao l.length fun i => qS (mA l i) && (decide (i = 0) || bef (mA l (i - 1)).mf (mA l (i - 1)).mn (mA l i).mf (mA l i).mn)
theorem K7 {l : List Note} (h : ∀ x ∈ l, cW x) (i : Nat) : (nA l i).tx.size ≤ 1048576 := by
  unfold nA
  cases hx : l[i]? with
  | none => simp [hx, dfl]; decide
  | some x =>
    have h1 : x.tx.size ≤ 1048576 := h x (List.mem_of_getElem? hx)
    rw [List.getD_eq_getElem?_getD, hx]
    exact h1
theorem yu {i n : Nat} (h : i < n) (hn : n ≤ 9223372036854775807) : w64 ((i : Int) - 1) = (i : Int) - 1 := aR (by omega) (by omega)
theorem tB {l : List Note} (hl : l.length ≤ 1048576) (h : ∀ x ∈ l, cW x) : fC (l, ()) = some ((bM l, ()), ()) := by
  have h : jh (l, l, (l.length : Int), 0, ()) = some (if bM l then .inr () else .inl (false, ())) :=
    am (fun i => (l, l, (l.length : Int), (i : Int), ())) l.length (fun i => aK (nA l i) && (decide (i = 0) || bef (nA l (i - 1)).fr (nA l (i - 1)).nu (nA l i).fr (nA l i).nu)) (false, ()) () (fun i hi => by
      unfold iH
      simp only [ac hi, af hi, aG, gU (K7 h i), Option.bind_some, dU, ab hi (by omega : l.length ≤ 9223372036854775807)]
      cases i with
      | zero => rcases tf (aK (nA l 0)) with h1 | h1 <;> simp only [h1] <;> simp
      | succ j =>
        rw [yu hi (by omega), show ((j + 1 : Nat) : Int) - 1 = (j : Int) by omega, ac (show j < l.length by omega)]
        simp only [aG]
        rcases tf (aK (nA l (j + 1))) with h1 | h1 <;> rcases tf (bef (nA l j).fr (nA l j).nu (nA l (j + 1)).fr (nA l (j + 1)).nu) with h2 | h2 <;> simp only [h1, h2] <;> simp [h2]) (by simp [iH])
  unfold fC
  simp only [h]
  cases bM l <;> simp [au]
theorem rj {l : List Note} {most : Int} (hl : l.length ≤ 1048576) (h : ∀ x ∈ l, cW x) : dK (l, most, ()) = some ((decide ((l.length : Int) ≤ most) && bM l, ()), ()) := by
  have h : gE (l, 0, ()) = some (if bM l then .inr () else .inl (false, ())) :=
    am (fun i => (l, (i : Int), ())) l.length (fun i => aK (nA l i) && (decide (i = 0) || bef (nA l (i - 1)).fr (nA l (i - 1)).nu (nA l i).fr (nA l i).nu)) (false, ()) () (fun i hi => by
      unfold fV
      simp only [ac hi, af hi, aG, gM (K7 h i), Option.bind_some, oH, ab hi (by omega : l.length ≤ 9223372036854775807)]
      cases i with
      | zero => rcases tf (aK (nA l 0)) with h1 | h1 <;> simp only [h1] <;> simp
      | succ j =>
        rw [yu hi (by omega), show ((j + 1 : Nat) : Int) - 1 = (j : Int) by omega, ac (show j < l.length by omega)]
        simp only [aG]
        rcases tf (aK (nA l (j + 1))) with h1 | h1 <;> rcases tf (bef (nA l j).fr (nA l j).nu (nA l (j + 1)).fr (nA l (j + 1)).nu) with h2 | h2 <;> simp only [h1, h2] <;> simp [h2]) (by simp [fV])
  unfold dK
  simp only [h]
  by_cases hm : (l.length : Int) ≤ most
  · rw [show decide (most < (l.length : Int)) = false by simpa using hm]
    cases bM l <;> simp [au, hm]
  · rw [show decide (most < (l.length : Int)) = true by simpa using hm]
    simp [hm]
theorem F9 {l : List Mark} (hl : l.length ≤ 1048576) : ky (l, ()) = some ((ir l, ()), ()) := by
  have h : jl (l, l, (l.length : Int), 0, ()) = some (if ir l then .inr () else .inl (false, ())) :=
    am (fun i => (l, l, (l.length : Int), (i : Int), ())) l.length (fun i => qS (mA l i) && (decide (i = 0) || bef (mA l (i - 1)).mf (mA l (i - 1)).mn (mA l i).mf (mA l i).mn)) (false, ()) () (fun i hi => by
      unfold iJ
      simp only [ac hi, af hi, bX, Ia, Option.bind_some, dU, ab hi (by omega : l.length ≤ 9223372036854775807)]
      cases i with
      | zero => rcases tf (qS (mA l 0)) with h1 | h1 <;> simp only [h1] <;> simp
      | succ j =>
        rw [yu hi (by omega), show ((j + 1 : Nat) : Int) - 1 = (j : Int) by omega, ac (show j < l.length by omega)]
        simp only [bX]
        rcases tf (qS (mA l (j + 1))) with h1 | h1 <;> rcases tf (bef (mA l j).mf (mA l j).mn (mA l (j + 1)).mf (mA l (j + 1)).mn) with h2 | h2 <;> simp only [h1, h2] <;> simp [h2]) (by simp [iJ])
  unfold ky
  simp only [h]
  cases ir l <;> simp [au]
theorem Cj {l : List Mark} (hl : l.length ≤ 1048576) : ib (l, ()) = some ((decide ((l.length : Int) ≤ 12) && ir l, ()), ()) := by
  have h : gF (l, 0, ()) = some (if ir l then .inr () else .inl (false, ())) :=
    am (fun i => (l, (i : Int), ())) l.length (fun i => qS (mA l i) && (decide (i = 0) || bef (mA l (i - 1)).mf (mA l (i - 1)).mn (mA l i).mf (mA l i).mn)) (false, ()) () (fun i hi => by
      unfold fW qS
      simp only [ac hi, af hi, bX, lv, bK, Option.bind_some, oH, ab hi (by omega : l.length ≤ 9223372036854775807)]
      cases i with
      | zero => rcases tf (isN (mA l 0).mf) with h1 | h1 <;> rcases tf (inB (mA l 0).mn 1 99) with h2 | h2 <;> rcases tf (inB (mA l 0).mu 1 999) with h3 | h3 <;> simp only [h1, h2, h3] <;> simp
      | succ j =>
        rw [yu hi (by omega), show ((j + 1 : Nat) : Int) - 1 = (j : Int) by omega, ac (show j < l.length by omega)]
        simp only [bX]
        rcases tf (isN (mA l (j + 1)).mf) with h1 | h1 <;> rcases tf (inB (mA l (j + 1)).mn 1 99) with h2 | h2 <;> rcases tf (inB (mA l (j + 1)).mu 1 999) with h3 | h3 <;> rcases tf (bef (mA l j).mf (mA l j).mn (mA l (j + 1)).mf (mA l (j + 1)).mn) with h4 | h4 <;> simp only [h1, h2, h3] <;> simp [h4] <;> omega) (by simp [fW])
  unfold ib
  simp only [h]
  by_cases hm : (l.length : Int) ≤ 12
  · rw [show decide ((12 : Int) < (l.length : Int)) = false by simpa using hm]
    cases ir l <;> simp [au, hm]
  · rw [show decide ((12 : Int) < (l.length : Int)) = true by simpa using hm]
    simp [hm]
def aD (l : List Note) (f n : Int) : Int := gV l.length fun i => decide ((nA l i).fr = f) && decide ((nA l i).nu = n)
def li (l : List Mark) (f n : Int) : Int := gV l.length fun i => decide ((mA l i).mf = f) && decide ((mA l i).mn = n)
theorem px {n : Nat} {p : Nat → Bool} : au (some (if gV n p < 0 then (.inr () : (Int × Unit) ⊕ Unit) else .inl (gV n p, ()))) (fun y => some ((y.1, ()), ())) (fun _ => some ((-1, ()), ())) = some ((gV n p, ()), ()) := by
  rcases bE n p with ⟨h, _⟩ | ⟨i, h, _⟩
  · rw [h]; rfl
  · rw [if_neg (by omega)]; rfl
theorem ck {l : List Note} {f n : Int} (hl : l.length ≤ 1048576) : aU (l, f, n, ()) = some ((aD l f n, ()), ()) := by
  have h : kv (f, n, l, (l.length : Int), 0, ()) = some (if aD l f n < 0 then .inr () else .inl (aD l f n, ())) :=
    nh (fun i => (f, n, l, (l.length : Int), (i : Int), ())) l.length (fun i => decide ((nA l i).fr = f) && decide ((nA l i).nu = n)) (fun i => (i, ())) () (fun i hi => by
      unfold kw
      simp only [ac hi, af hi, aG, ab hi (by omega : l.length ≤ 9223372036854775807)]
      by_cases h1 : (nA l i).fr = f <;> by_cases h2 : (nA l i).nu = n <;> simp [h1, h2]) (by simp [kw])
  unfold aU
  simp only [h]
  exact px
theorem aY {l : List Note} {f n : Int} (hl : l.length ≤ 1048576) : aw (l, f, n, ()) = some ((aD l f n, ()), ()) := by
  have h : iW (l, f, n, 0, ()) = some (if aD l f n < 0 then .inr () else .inl (aD l f n, ())) :=
    nh (fun i => (l, f, n, (i : Int), ())) l.length (fun i => decide ((nA l i).fr = f) && decide ((nA l i).nu = n)) (fun i => (i, ())) () (fun i hi => by
      unfold ie
      simp only [ac hi, af hi, aG, ab hi (by omega : l.length ≤ 9223372036854775807)]
      by_cases h1 : (nA l i).fr = f <;> by_cases h2 : (nA l i).nu = n <;> simp [h1, h2]) (by simp [ie])
  unfold aw
  simp only [h]
  exact px
theorem gP {l : List Mark} {f n : Int} (hl : l.length ≤ 1048576) : bN (l, f, n, ()) = some ((li l f n, ()), ()) := by
  have h : kF (f, n, l, (l.length : Int), 0, ()) = some (if li l f n < 0 then .inr () else .inl (li l f n, ())) :=
    nh (fun i => (f, n, l, (l.length : Int), (i : Int), ())) l.length (fun i => decide ((mA l i).mf = f) && decide ((mA l i).mn = n)) (fun i => (i, ())) () (fun i hi => by
      unfold kG
      simp only [ac hi, af hi, bX, ab hi (by omega : l.length ≤ 9223372036854775807)]
      by_cases h1 : (mA l i).mf = f <;> by_cases h2 : (mA l i).mn = n <;> simp [h1, h2]) (by simp [kG])
  unfold bN
  simp only [h]
  exact px
theorem fb {l : List Mark} {f n : Int} (hl : l.length ≤ 1048576) : bp (l, f, n, ()) = some ((li l f n, ()), ()) := by
  have h : iV (l, f, n, 0, ()) = some (if li l f n < 0 then .inr () else .inl (li l f n, ())) :=
    nh (fun i => (l, f, n, (i : Int), ())) l.length (fun i => decide ((mA l i).mf = f) && decide ((mA l i).mn = n)) (fun i => (i, ())) () (fun i hi => by
      unfold ic
      simp only [ac hi, af hi, bX, ab hi (by omega : l.length ≤ 9223372036854775807)]
      by_cases h1 : (mA l i).mf = f <;> by_cases h2 : (mA l i).mn = n <;> simp [h1, h2]) (by simp [ic])
  unfold bp
  simp only [h]
  exact px
def EZ (id : Int) (fr tt : Int) : Bool := !decide (id = tt) && (inB id fr tt || inB id tt fr)
theorem qV {id fr nu tt un : Int} {tx : ByteArray} : kr (id, (fr, nu, tt, un, tx, ()), ()) = some ((EZ id fr tt, ()), ()) := by
  unfold kr EZ
  simp only [co]
  by_cases h : id = tt <;> cases inB id fr tt <;> simp [h]
theorem pb {id fr nu tt un : Int} {tx : ByteArray} : lK ((fr, nu, tt, un, tx, ()), id, ()) = some ((EZ id fr tt, ()), ()) := by
  unfold lK EZ inB
  by_cases h1 : fr ≤ id
  · simp only [h1, decide_true, if_true]
    congr 3
    rw [Bool.eq_iff_iff]
    simp
    omega
  · have e : (decide (tt < id) && decide (id ≤ fr)) = (!decide (id = tt) && (decide (fr ≤ id) && decide (id ≤ tt) || decide (tt ≤ id) && decide (id ≤ fr))) := by
      rw [Bool.eq_iff_iff]
      simp only [Bool.and_eq_true, Bool.or_eq_true, Bool.not_eq_true', decide_eq_true_eq, decide_eq_false_iff_not]
      omega
    rw [← e]
    simp [h1]
end Go.VS
