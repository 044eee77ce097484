/- An evaluator of the program's own code with its soundness, the printed texts of the functions, and plain laws of them (part 14). -/
import Derived.Shelf.Utf8.RuneCount
import Derived.Shelf.Strconv.Itoa0
import Derived.Shelf.Strconv.Itoa1
import Derived.Shelf.LaysM
import Derived.Shelf.Strconv.Itoa2
import Derived.Shelf.Strconv.Itoa3
import Derived.Shelf.Strings.Search1
import Derived.Shelf.Strings.Search2
import Derived.Shelf.Strings.Search3
import Derived.Shelf.Strings.Cut
import Derived.Shelf.Strings.Count
import Derived.Shelf.Strings.Shaped
import Derived.Shelf.Strings.Split
import Derived.Shelf.Strings.SplitShaped
import Derived.Shelf.Unicode.Decode
import Derived.Shelf.Strings.RuneCount
import Derived.Shelf.Strings.Explode
import Derived.Shelf.Unicode.DecodeSlow
import Derived.Shelf.Unicode.DecodeAny
import Derived.Test.YtglanhfbbbcjbaaGreatDoorProg
import Derived.Test.YtglanhfbbbcjbaaGreatDoorQAM
set_option linter.unusedVariables false
set_option linter.unusedSimpArgs false
namespace Go.Proofs
open Go.Shelf
def Tryz.laysM171_ren : Go.Shelf.Ren := ⟨fun | 171 => 133 | 243 => 141 | 246 => 147 | 283 => 149 | 284 => 150 | 285 => 151 | 286 => 152 | 129 => 154 | 317 => 153 | 318 => 155 | 319 => 156 | 320 => 157 | 337 => 158 | 338 => 159 | n => n, fun | 3 => 3 | 9 => 9 | 2 => 2 | 4 => 4 | 171 => 182 | 0 => 0 | 53 => 183 | 37 => 151 | 5 => 5 | 173 => 186 | 212 => 193 | 51 => 178 | 20 => 20 | 213 => 194 | 46 => 175 | 232 => 197 | 233 => 198 | n => n, fun | 17 => 3 | 18 => 4 | 19 => 5 | n => n⟩
theorem Tryz.laysM171 : Go.Proofs.LaysM.n171 Tryz.prog Tryz.laysM171_ren := {
  mixed := by kernel_rfl
  f129 := Tryz.func154.trans (congrArg some (by kernel_rfl))
  f171 := Tryz.func133.trans (congrArg some (by kernel_rfl))
  f243 := Tryz.func141.trans (congrArg some (by kernel_rfl))
  f246 := Tryz.func147.trans (congrArg some (by kernel_rfl))
  f283 := Tryz.func149.trans (congrArg some (by kernel_rfl))
  f284 := Tryz.func150.trans (congrArg some (by kernel_rfl))
  f285 := Tryz.func151.trans (congrArg some (by kernel_rfl))
  f286 := Tryz.func152.trans (congrArg some (by kernel_rfl))
  f317 := Tryz.func153.trans (congrArg some (by kernel_rfl))
  f318 := Tryz.func155.trans (congrArg some (by kernel_rfl))
  f319 := Tryz.func156.trans (congrArg some (by kernel_rfl))
  f320 := Tryz.func157.trans (congrArg some (by kernel_rfl))
  f337 := Tryz.func158.trans (congrArg some (by kernel_rfl))
  f338 := Tryz.func159.trans (congrArg some (by kernel_rfl))
  t0 := Tryz.underlying0
  a0 := Tryz.isAgg0
  z0 := Tryz.sizeOf0
  v0 := Tryz.zeroValue0
  t2 := Tryz.underlying2
  a2 := Tryz.isAgg2
  z2 := Tryz.sizeOf2
  v2 := Tryz.zeroValue2
  t3 := Tryz.underlying3
  a3 := Tryz.isAgg3
  z3 := Tryz.sizeOf3
  v3 := Tryz.zeroValue3
  t4 := Tryz.underlying4
  a4 := Tryz.isAgg4
  z4 := Tryz.sizeOf4
  v4 := Tryz.zeroValue4
  t5 := Tryz.underlying5
  a5 := Tryz.isAgg5
  z5 := Tryz.sizeOf5
  v5 := Tryz.zeroValue5
  t9 := Tryz.underlying9
  a9 := Tryz.isAgg9
  z9 := Tryz.sizeOf9
  v9 := Tryz.zeroValue9
  t20 := Tryz.underlying20
  a20 := Tryz.isAgg20
  z20 := Tryz.sizeOf20
  v20 := Tryz.zeroValue20
  t37 := Tryz.underlying151
  a37 := Tryz.isAgg151
  z37 := Tryz.sizeOf151
  v37 := Tryz.zeroValue151
  t46 := Tryz.underlying175
  a46 := Tryz.isAgg175
  z46 := Tryz.sizeOf175
  v46 := Tryz.zeroValue175
  t51 := Tryz.underlying178
  a51 := Tryz.isAgg178
  z51 := Tryz.sizeOf178
  v51 := Tryz.zeroValue178
  t53 := Tryz.underlying183
  a53 := Tryz.isAgg183
  z53 := Tryz.sizeOf183
  v53 := Tryz.zeroValue183
  t171 := Tryz.underlying182
  a171 := Tryz.isAgg182
  z171 := Tryz.sizeOf182
  v171 := Tryz.zeroValue182
  t173 := Tryz.underlying186
  a173 := Tryz.isAgg186
  z173 := Tryz.sizeOf186
  v173 := Tryz.zeroValue186
  t212 := Tryz.underlying193
  a212 := Tryz.isAgg193
  z212 := Tryz.sizeOf193
  v212 := Tryz.zeroValue193
  t213 := Tryz.underlying194
  a213 := Tryz.isAgg194
  z213 := Tryz.sizeOf194
  t232 := Tryz.underlying197
  a232 := Tryz.isAgg197
  z232 := Tryz.sizeOf197
  v232 := Tryz.zeroValue197
  t233 := Tryz.underlying198
  a233 := Tryz.isAgg198
  z233 := Tryz.sizeOf198
  v233 := Tryz.zeroValue198
  g17 := by kernel_rfl
  g18 := by kernel_rfl
  g19 := by kernel_rfl
  i0 := by kernel_rfl
  i2 := by kernel_rfl
  i3 := by kernel_rfl
  i4 := by kernel_rfl
  i5 := by kernel_rfl
  i9 := by kernel_rfl
  i20 := by kernel_rfl
  i37 := by kernel_rfl
  i46 := by kernel_rfl
  i51 := by kernel_rfl
  i53 := by kernel_rfl
  i171 := by kernel_rfl
  i173 := by kernel_rfl
  i212 := by kernel_rfl
  i232 := by kernel_rfl
  i233 := by kernel_rfl
  m17 := by kernel_rfl
  m18 := by kernel_rfl
  m19 := by kernel_rfl }
def Tryz.lays145_ren : Go.Shelf.Ren := ⟨fun | 145 => 110 | 220 => 122 | 219 => 132 | 217 => 137 | 225 => 138 | 224 => 139 | 267 => 140 | 266 => 145 | 314 => 146 | n => n, fun | 9 => 9 | 4 => 4 | 59 => 157 | 3 => 3 | 5 => 5 | 46 => 175 | 146 => 179 | 51 => 178 | n => n, fun | 1 => 0 | n => n⟩
theorem Tryz.lays145 : Go.Proofs.Lays.n145 Tryz.prog Tryz.lays145_ren := {
  mixed := by kernel_rfl
  f145 := Tryz.func110.trans (congrArg some (by kernel_rfl))
  f217 := Tryz.func137.trans (congrArg some (by kernel_rfl))
  f219 := Tryz.func132.trans (congrArg some (by kernel_rfl))
  f220 := Tryz.func122.trans (congrArg some (by kernel_rfl))
  f224 := Tryz.func139.trans (congrArg some (by kernel_rfl))
  f225 := Tryz.func138.trans (congrArg some (by kernel_rfl))
  f266 := Tryz.func145.trans (congrArg some (by kernel_rfl))
  f267 := Tryz.func140.trans (congrArg some (by kernel_rfl))
  f314 := Tryz.func146.trans (congrArg some (by kernel_rfl))
  t3 := Tryz.underlying3
  a3 := Tryz.isAgg3
  z3 := Tryz.sizeOf3
  v3 := Tryz.zeroValue3
  t4 := Tryz.underlying4
  a4 := Tryz.isAgg4
  z4 := Tryz.sizeOf4
  v4 := Tryz.zeroValue4
  t5 := Tryz.underlying5
  a5 := Tryz.isAgg5
  z5 := Tryz.sizeOf5
  v5 := Tryz.zeroValue5
  t9 := Tryz.underlying9
  a9 := Tryz.isAgg9
  z9 := Tryz.sizeOf9
  v9 := Tryz.zeroValue9
  t46 := Tryz.underlying175
  a46 := Tryz.isAgg175
  z46 := Tryz.sizeOf175
  v46 := Tryz.zeroValue175
  t51 := Tryz.underlying178
  a51 := Tryz.isAgg178
  z51 := Tryz.sizeOf178
  v51 := Tryz.zeroValue178
  t59 := Tryz.underlying157
  a59 := Tryz.isAgg157
  z59 := Tryz.sizeOf157
  v59 := Tryz.zeroValue157
  t146 := Tryz.underlying179
  a146 := Tryz.isAgg179
  z146 := Tryz.sizeOf179
  v146 := Tryz.zeroValue179
  g1 := by kernel_rfl }
def Tryz.laysM145_ren : Go.Shelf.Ren := ⟨fun | 145 => 110 | 220 => 122 | 219 => 132 | 217 => 137 | 225 => 138 | 224 => 139 | 267 => 140 | 266 => 145 | 314 => 146 | n => n, fun | 9 => 9 | 4 => 4 | 59 => 157 | 3 => 3 | 5 => 5 | 46 => 175 | 146 => 179 | 51 => 178 | n => n, fun | 1 => 0 | n => n⟩
theorem Tryz.laysM145 : Go.Proofs.LaysM.n145 Tryz.prog Tryz.laysM145_ren := {
  mixed := by kernel_rfl
  f145 := Tryz.func110.trans (congrArg some (by kernel_rfl))
  f217 := Tryz.func137.trans (congrArg some (by kernel_rfl))
  f219 := Tryz.func132.trans (congrArg some (by kernel_rfl))
  f220 := Tryz.func122.trans (congrArg some (by kernel_rfl))
  f224 := Tryz.func139.trans (congrArg some (by kernel_rfl))
  f225 := Tryz.func138.trans (congrArg some (by kernel_rfl))
  f266 := Tryz.func145.trans (congrArg some (by kernel_rfl))
  f267 := Tryz.func140.trans (congrArg some (by kernel_rfl))
  f314 := Tryz.func146.trans (congrArg some (by kernel_rfl))
  t3 := Tryz.underlying3
  a3 := Tryz.isAgg3
  z3 := Tryz.sizeOf3
  v3 := Tryz.zeroValue3
  t4 := Tryz.underlying4
  a4 := Tryz.isAgg4
  z4 := Tryz.sizeOf4
  v4 := Tryz.zeroValue4
  t5 := Tryz.underlying5
  a5 := Tryz.isAgg5
  z5 := Tryz.sizeOf5
  v5 := Tryz.zeroValue5
  t9 := Tryz.underlying9
  a9 := Tryz.isAgg9
  z9 := Tryz.sizeOf9
  v9 := Tryz.zeroValue9
  t46 := Tryz.underlying175
  a46 := Tryz.isAgg175
  z46 := Tryz.sizeOf175
  v46 := Tryz.zeroValue175
  t51 := Tryz.underlying178
  a51 := Tryz.isAgg178
  z51 := Tryz.sizeOf178
  v51 := Tryz.zeroValue178
  t59 := Tryz.underlying157
  a59 := Tryz.isAgg157
  z59 := Tryz.sizeOf157
  v59 := Tryz.zeroValue157
  t146 := Tryz.underlying179
  a146 := Tryz.isAgg179
  z146 := Tryz.sizeOf179
  v146 := Tryz.zeroValue179
  g1 := by kernel_rfl
  i3 := by kernel_rfl
  i4 := by kernel_rfl
  i5 := by kernel_rfl
  i9 := by kernel_rfl
  i46 := by kernel_rfl
  i51 := by kernel_rfl
  i59 := by kernel_rfl
  i146 := by kernel_rfl
  m1 := by kernel_rfl
  s1_3 := fun w h => Go.Proofs.cell_of_shapedOpen_int (zero := #[.int .i64 0]) (t := 3) h (of_decide_eq_true (by kernel_rfl)) (by kernel_rfl) rfl (by kernel_rfl) (by kernel_rfl) Tryz.underlying3 }
def Tryz.lays146_ren : Go.Shelf.Ren := ⟨fun | 146 => 115 | 221 => 129 | 268 => 134 | 138 => 135 | 143 => 136 | 195 => 142 | 197 => 143 | 218 => 144 | 219 => 132 | 260 => 148 | 217 => 137 | 225 => 138 | 224 => 139 | 267 => 140 | 266 => 145 | 314 => 146 | n => n, fun | 9 => 9 | 31 => 80 | 3 => 3 | 4 => 4 | 0 => 0 | 105 => 176 | 21 => 21 | 5 => 5 | 46 => 175 | 119 => 188 | 139 => 191 | 138 => 190 | 146 => 179 | 51 => 178 | n => n, fun | 1 => 0 | 3 => 1 | 4 => 2 | n => n⟩
theorem Tryz.lays146 : Go.Proofs.Lays.n146 Tryz.prog Tryz.lays146_ren := {
  mixed := by kernel_rfl
  f138 := Tryz.func135.trans (congrArg some (by kernel_rfl))
  f143 := Tryz.func136.trans (congrArg some (by kernel_rfl))
  f146 := Tryz.func115.trans (congrArg some (by kernel_rfl))
  f195 := Tryz.func142.trans (congrArg some (by kernel_rfl))
  f197 := Tryz.func143.trans (congrArg some (by kernel_rfl))
  f217 := Tryz.func137.trans (congrArg some (by kernel_rfl))
  f218 := Tryz.func144.trans (congrArg some (by kernel_rfl))
  f219 := Tryz.func132.trans (congrArg some (by kernel_rfl))
  f221 := Tryz.func129.trans (congrArg some (by kernel_rfl))
  f224 := Tryz.func139.trans (congrArg some (by kernel_rfl))
  f225 := Tryz.func138.trans (congrArg some (by kernel_rfl))
  f260 := Tryz.func148.trans (congrArg some (by kernel_rfl))
  f266 := Tryz.func145.trans (congrArg some (by kernel_rfl))
  f267 := Tryz.func140.trans (congrArg some (by kernel_rfl))
  f268 := Tryz.func134.trans (congrArg some (by kernel_rfl))
  f314 := Tryz.func146.trans (congrArg some (by kernel_rfl))
  t0 := Tryz.underlying0
  a0 := Tryz.isAgg0
  z0 := Tryz.sizeOf0
  v0 := Tryz.zeroValue0
  t3 := Tryz.underlying3
  a3 := Tryz.isAgg3
  z3 := Tryz.sizeOf3
  v3 := Tryz.zeroValue3
  t4 := Tryz.underlying4
  a4 := Tryz.isAgg4
  z4 := Tryz.sizeOf4
  v4 := Tryz.zeroValue4
  t5 := Tryz.underlying5
  a5 := Tryz.isAgg5
  z5 := Tryz.sizeOf5
  v5 := Tryz.zeroValue5
  t9 := Tryz.underlying9
  a9 := Tryz.isAgg9
  z9 := Tryz.sizeOf9
  v9 := Tryz.zeroValue9
  t21 := Tryz.underlying21
  a21 := Tryz.isAgg21
  z21 := Tryz.sizeOf21
  v21 := Tryz.zeroValue21
  t31 := Tryz.underlying80
  a31 := Tryz.isAgg80
  z31 := Tryz.sizeOf80
  v31 := Tryz.zeroValue80
  t46 := Tryz.underlying175
  a46 := Tryz.isAgg175
  z46 := Tryz.sizeOf175
  v46 := Tryz.zeroValue175
  t51 := Tryz.underlying178
  a51 := Tryz.isAgg178
  z51 := Tryz.sizeOf178
  v51 := Tryz.zeroValue178
  t105 := Tryz.underlying176
  a105 := Tryz.isAgg176
  z105 := Tryz.sizeOf176
  v105 := Tryz.zeroValue176
  t119 := Tryz.underlying188
  a119 := Tryz.isAgg188
  z119 := Tryz.sizeOf188
  t138 := Tryz.underlying190
  a138 := Tryz.isAgg190
  z138 := Tryz.sizeOf190
  v138 := Tryz.zeroValue190
  t139 := Tryz.underlying191
  a139 := Tryz.isAgg191
  z139 := Tryz.sizeOf191
  v139 := Tryz.zeroValue191
  t146 := Tryz.underlying179
  a146 := Tryz.isAgg179
  z146 := Tryz.sizeOf179
  v146 := Tryz.zeroValue179
  g1 := by kernel_rfl
  g3 := by kernel_rfl
  g4 := by kernel_rfl }
def Tryz.lays147_ren : Go.Shelf.Ren := ⟨fun | 147 => 124 | 221 => 129 | 268 => 134 | 138 => 135 | 143 => 136 | 195 => 142 | 197 => 143 | 218 => 144 | 219 => 132 | 260 => 148 | 217 => 137 | 225 => 138 | 224 => 139 | 267 => 140 | 266 => 145 | 314 => 146 | n => n, fun | 9 => 9 | 3 => 3 | 31 => 80 | 4 => 4 | 0 => 0 | 105 => 176 | 21 => 21 | 5 => 5 | 46 => 175 | 119 => 188 | 139 => 191 | 138 => 190 | 146 => 179 | 51 => 178 | n => n, fun | 1 => 0 | 3 => 1 | 4 => 2 | n => n⟩
theorem Tryz.lays147 : Go.Proofs.Lays.n147 Tryz.prog Tryz.lays147_ren := {
  mixed := by kernel_rfl
  f138 := Tryz.func135.trans (congrArg some (by kernel_rfl))
  f143 := Tryz.func136.trans (congrArg some (by kernel_rfl))
  f147 := Tryz.func124.trans (congrArg some (by kernel_rfl))
  f195 := Tryz.func142.trans (congrArg some (by kernel_rfl))
  f197 := Tryz.func143.trans (congrArg some (by kernel_rfl))
  f217 := Tryz.func137.trans (congrArg some (by kernel_rfl))
  f218 := Tryz.func144.trans (congrArg some (by kernel_rfl))
  f219 := Tryz.func132.trans (congrArg some (by kernel_rfl))
  f221 := Tryz.func129.trans (congrArg some (by kernel_rfl))
  f224 := Tryz.func139.trans (congrArg some (by kernel_rfl))
  f225 := Tryz.func138.trans (congrArg some (by kernel_rfl))
  f260 := Tryz.func148.trans (congrArg some (by kernel_rfl))
  f266 := Tryz.func145.trans (congrArg some (by kernel_rfl))
  f267 := Tryz.func140.trans (congrArg some (by kernel_rfl))
  f268 := Tryz.func134.trans (congrArg some (by kernel_rfl))
  f314 := Tryz.func146.trans (congrArg some (by kernel_rfl))
  t0 := Tryz.underlying0
  a0 := Tryz.isAgg0
  z0 := Tryz.sizeOf0
  v0 := Tryz.zeroValue0
  t3 := Tryz.underlying3
  a3 := Tryz.isAgg3
  z3 := Tryz.sizeOf3
  v3 := Tryz.zeroValue3
  t4 := Tryz.underlying4
  a4 := Tryz.isAgg4
  z4 := Tryz.sizeOf4
  v4 := Tryz.zeroValue4
  t5 := Tryz.underlying5
  a5 := Tryz.isAgg5
  z5 := Tryz.sizeOf5
  v5 := Tryz.zeroValue5
  t9 := Tryz.underlying9
  a9 := Tryz.isAgg9
  z9 := Tryz.sizeOf9
  v9 := Tryz.zeroValue9
  t21 := Tryz.underlying21
  a21 := Tryz.isAgg21
  z21 := Tryz.sizeOf21
  v21 := Tryz.zeroValue21
  t31 := Tryz.underlying80
  a31 := Tryz.isAgg80
  z31 := Tryz.sizeOf80
  v31 := Tryz.zeroValue80
  t46 := Tryz.underlying175
  a46 := Tryz.isAgg175
  z46 := Tryz.sizeOf175
  v46 := Tryz.zeroValue175
  t51 := Tryz.underlying178
  a51 := Tryz.isAgg178
  z51 := Tryz.sizeOf178
  v51 := Tryz.zeroValue178
  t105 := Tryz.underlying176
  a105 := Tryz.isAgg176
  z105 := Tryz.sizeOf176
  v105 := Tryz.zeroValue176
  t119 := Tryz.underlying188
  a119 := Tryz.isAgg188
  z119 := Tryz.sizeOf188
  t138 := Tryz.underlying190
  a138 := Tryz.isAgg190
  z138 := Tryz.sizeOf190
  v138 := Tryz.zeroValue190
  t139 := Tryz.underlying191
  a139 := Tryz.isAgg191
  z139 := Tryz.sizeOf191
  v139 := Tryz.zeroValue191
  t146 := Tryz.underlying179
  a146 := Tryz.isAgg179
  z146 := Tryz.sizeOf179
  v146 := Tryz.zeroValue179
  g1 := by kernel_rfl
  g3 := by kernel_rfl
  g4 := by kernel_rfl }
open Go.RowKit Go.Sort Go.Lib in
theorem Tryz.strconv_Itoa (n : Int) (h0 : -9223372036854775808 ≤ n) (h1 : n ≤ 9223372036854775807) (w : World) (htab : Lib.TabIs Tryz.prog w "internal/strconv.uint64pow10" .u64 Lib.pow10Tab) :
    Calls Tryz.prog 133 #[.int .i64 n] w fun e w' => e = .returned (.string ⟨(Lib.itoa n).toArray⟩) ∧ ∃ k os, w' = grow (w.drewN k) os := Any.strconv_Itoa Tryz.laysM171 n h0 h1 w htab
open Go.RowKit Go.Lib in
theorem Tryz.strings_Cut (s sep : ByteArray) (m : Int) (w : World) (hs : s.size < 4294967281) (hm : w.cell? ⟨0, 0, none⟩ = some (.int .i64 m)) :
    Calls Tryz.prog 110 #[.string s, .string sep] w fun e w' => e = .returned (.tuple #[.string ⟨(Lib.cut s.data.toList sep.data.toList).1.toArray⟩, .string ⟨(Lib.cut s.data.toList sep.data.toList).2.1.toArray⟩, .bool (Lib.cut s.data.toList sep.data.toList).2.2]) ∧ ∃ n, w' = w.drewN n := Any.strings_Cut Tryz.lays145 s sep m w hs hm
open Go.RowKit Go.Lib in
theorem Tryz.strings_Split (s sep : ByteArray) (m : Int) (w : World) (hs : s.size < 4294967281) (hm : w.cell? ⟨0, 0, none⟩ = some (.int .i64 m)) (h1 : 1 ≤ sep.size) :
    Calls Tryz.prog 115 #[.string s, .string sep] w fun e w' =>
      e = .returned (.slice (some ⟨w.heap.size, 0, none⟩) (Lib.countB s sep + 1) (Lib.countB s sep + 1)) ∧ w' = w.alloc (.cells ((Lib.splitB sep 0 (Lib.countB s sep) s).map Value.string).toArray 9) := Any.strings_Split Tryz.lays146 (by kernel_rfl) s sep m w hs hm h1
open Go.RowKit Go.Lib in
theorem Tryz.strings_SplitN (s sep : ByteArray) (n : Nat) (m : Int) (w : World) (hs : s.size < 4294967281) (hm : w.cell? ⟨0, 0, none⟩ = some (.int .i64 m)) (h1 : 1 ≤ sep.size) (hn : 1 ≤ n) (hn63 : n ≤ 9223372036854775807) :
    Calls Tryz.prog 124 #[.string s, .string sep, .int .i64 n] w fun e w' =>
      e = .returned (.slice (some ⟨w.heap.size, 0, none⟩) (Lib.splitB sep 0 (min n (s.size + 1) - 1) s).length (min n (s.size + 1))) ∧ w' = w.alloc (.cells (Lib.cellsOf (Lib.splitB sep 0 (min n (s.size + 1) - 1) s) (min n (s.size + 1))) 9) := Any.strings_SplitN Tryz.lays147 (by kernel_rfl) s sep n m w hs hm h1 hn hn63
end Go.Proofs
namespace Go.VS
open Go Go.Proofs
set_option linter.unusedVariables false
set_option maxRecDepth 100000
def kd : TypeId → Option K
  | 2 => some .int
  | 3 => some .int
  | 4 => some .bool
  | 5 => some .u8
  | 9 => some .str
  | 10 => some .str
  | 11 => some .str
  | 44 => some .keep
  | 51 => some .keeper
  | 54 => some .note
  | 69 => some .keeper
  | 72 => some .parcel
  | 74 => some .note
  | 77 => some .parcel
  | 98 => some .half
  | 111 => some .half
  | 115 => some .mixed
  | 133 => some .mark
  | 150 => some .mixed
  | _ => none
abbrev Y0 : Type := ByteArray × Int × Unit
abbrev Z0 : Sh := .agg [.str, .int .i64]
abbrev Y1 : Type := Int × ByteArray × Unit
abbrev Z1 : Sh := .agg [.int .i64, .str]
abbrev Y2 : Type := Int × Int × Int × Int × Int × List Mixed × Unit
abbrev Z2 : Sh := .agg [.int .i64, .int .i64, .int .i64, .int .i64, .int .i64, .fz .mixed]
abbrev Y3 : Type := Int × Bool × ByteArray × Int × List Half × Unit
abbrev Z3 : Sh := .agg [.int .i64, .bool, .str, .int .i64, .fz .half]
abbrev Y4 : Type := Int × Int × ByteArray × Bool × Unit
abbrev Z4 : Sh := .agg [.int .i64, .int .i64, .str, .bool]
abbrev Y5 : Type := Int × Int × Int × Int × ByteArray × Unit
abbrev Z5 : Sh := .agg [.int .i64, .int .i64, .int .i64, .int .i64, .str]
abbrev Y6 : Type := Int × List Keeper × List Bool × List Parcel × List Note × List Note × Unit
abbrev Z6 : Sh := .agg [.int .i64, .fz .keeper, .fz .bool, .fz .parcel, .fz .note, .fz .note]
abbrev Y7 : Type := Int × Int × Int × List Note × List Mark × List Note × Unit
abbrev Z7 : Sh := .agg [.int .i64, .int .i64, .int .i64, .row 54 .note, .row 133 .mark, .row 54 .note]
abbrev Z8 : Sh := .box 54 [.int .i64, .int .i64, .int .i64, .int .i64, .str]
abbrev Z9 : Sh := .box 44 [.int .i64, .int .i64, .int .i64, .sl .note, .sl .mark, .sl .note]
abbrev Z10 : Sh := .agg [.int .i64, .int .i64, .int .i64, .fz .note, .fz .mark, .fz .note]
abbrev Z11 : Sh := .box 44 [.int .i64, .int .i64, .int .i64, .row 54 .note, .row 133 .mark, .row 54 .note]
abbrev Y8 : Type := Int × Int × Int × Unit
abbrev Z12 : Sh := .box 133 [.int .i64, .int .i64, .int .i64]
abbrev Z13 : Sh := .agg [.int .i64, .int .i64, .int .i64]
abbrev Z14 : Sh := .box 98 [.int .i64, .int .i64, .int .i64, .int .i64, .int .i64, .sl .mixed]
abbrev Z15 : Sh := .box 51 [.int .i64, .bool, .str, .int .i64, .sl .half]
abbrev Z16 : Sh := .box 34 [.int .i64, .sl .keeper, .sl .bool, .sl .parcel, .sl .note, .sl .note]
abbrev Z17 : Sh := .agg [.int .i64, .int .i64, .int .i64, .int .i64, .int .i64, .row 115 .mixed]
abbrev Z18 : Sh := .agg [.int .i64, .bool, .str, .int .i64, .row 98 .half]
abbrev Z19 : Sh := .agg [.int .i64, .row 51 .keeper, .row 4 .bool, .row 77 .parcel, .row 54 .note, .row 54 .note]
abbrev Z20 : Sh := .box 44 [.int .i64, .int .i64, .int .i64, .row 54 .note, .row 133 .mark, .sl .note]
abbrev Z21 : Sh := .box 115 [.int .i64, .str]
abbrev Rnd (a b c : Type) := Option (a ⊕ (b ⊕ c))
noncomputable abbrev cX (l : List Ent) (cz sp : List (Nat × Nat)) : Cx := ⟨Tryz.prog, kd, gam l, inR cz, inR sp⟩
abbrev LF (fn : Func) (pins path : List Nat) (l : Loop) := LpK Tryz.prog fn.ntmps pins [(J5 path (td fn), l)]
theorem mixed : Tryz.prog.follows .mixedOrders = true := by kernel_rfl
noncomputable def cM : (Int × Unit) → Option ((ByteArray × Unit) × (Unit)) := IV
noncomputable def sb : Ent := (133, none, ⟨[.int .i64], [.str], cM⟩)
theorem vC : SQ Tryz.prog sb := ⟨JZ (mi Tryz.func133 (by kernel_rfl) (by kernel_rfl : Tryz.f133.body = some (td Tryz.f133))) (by kernel_rfl) Tryz.strconv_Itoa, by kernel_rfl⟩
noncomputable def fO : (ByteArray × ByteArray × Unit) → Option ((ByteArray × ByteArray × Bool × Unit) × (Unit)) := Kh
noncomputable def uJ : Ent := (110, none, ⟨[.str, .str], [.str, .str, .bool], fO⟩)
theorem w9 : SQ Tryz.prog uJ := ⟨Mc (gm := 0) (mi Tryz.func110 (by kernel_rfl) (by kernel_rfl : Tryz.f110.body = some (td Tryz.f110))) (of_decide_eq_true (by kernel_rfl)) (fun w h => Tryz.laysM145.s1_3 w h) Tryz.strings_Cut, by kernel_rfl⟩
noncomputable def gc : (ByteArray × ByteArray × Unit) → Option ((List ByteArray × Unit) × (Unit)) := CE
noncomputable def qs : Ent := (115, none, ⟨[.str, .str], [.row 9 .str], gc⟩)
theorem tP : SQ Tryz.prog qs := ⟨Ix (gm := 0) (mi Tryz.func115 (by kernel_rfl) (by kernel_rfl : Tryz.f115.body = some (td Tryz.f115))) (of_decide_eq_true (by kernel_rfl)) (fun w h => Tryz.laysM145.s1_3 w h) Tryz.strings_Split, by kernel_rfl⟩
noncomputable def kh : (ByteArray × ByteArray × Int × Unit) → Option ((List ByteArray × Unit) × (Unit)) := xa
noncomputable def oR : Ent := (124, none, ⟨[.str, .str, .int .i64], [.row 9 .str], kh⟩)
theorem q4 : SQ Tryz.prog oR := ⟨HA (gm := 0) (mi Tryz.func124 (by kernel_rfl) (by kernel_rfl : Tryz.f124.body = some (td Tryz.f124))) (of_decide_eq_true (by kernel_rfl)) (fun w h => Tryz.laysM145.s1_3 w h) Tryz.strings_SplitN, by kernel_rfl⟩
noncomputable def Bw : Cx := cX [] [] []
theorem EY : OKC Tryz.prog Bw ac := okc mixed (am)
noncomputable def mE (x : Y0 × Int × Unit) : Option ((Int × Unit) × Unit) :=
let v1 := (w64 (x.2.1 - (x.1.1.size : Int)))
(if (decide (v1 < 0)) then
some (((-1), ()), ())
else
some ((v1, ()), ()))
noncomputable def sx : Ent := (48, none, ⟨[Z0, .int .i64], [.int .i64], mE⟩)
theorem vW : SQ Tryz.prog sx := so (v := .nil) (fn := Tryz.f48) EY (by kernel_rfl) (by kernel_rfl) (by kernel_rfl) (kN) (fun _ => by kernel_rfl)
noncomputable def BA : Cx := cX [] [] []
theorem E0 : OKC Tryz.prog BA ac := okc mixed (am)
noncomputable def mH (x : Y1 × Int × Unit) : Option ((Int × Unit) × Unit) :=
let v1 := (w64 (x.2.1 - (x.1.2.1.size : Int)))
(if (decide (v1 < 0)) then
some (((-1), ()), ())
else
some ((v1, ()), ()))
noncomputable def sB : Ent := (101, none, ⟨[Z1, .int .i64], [.int .i64], mH⟩)
theorem vZ : SQ Tryz.prog sB := so (v := .nil) (fn := Tryz.f101) E0 (by kernel_rfl) (by kernel_rfl) (by kernel_rfl) (kN) (fun _ => by kernel_rfl)
noncomputable def zI : Cx := cX [sB] [] []
theorem qQ : OKC Tryz.prog zI ac := okc mixed (gC vZ (am))
noncomputable def fv (x : List Mixed × Int × Int × Unit) : Rnd (List Mixed × Int × Int × Unit) (Int × Unit) (Int × Unit) :=
(if (decide (x.2.2.1 < (x.1.length : Int))) then
(if inb x.2.2.1 x.1.length then
(mH (((rd (dfl .mixed) x.1 x.2.2.1).nu, (rd (dfl .mixed) x.1 x.2.2.1).da, ()), x.2.1, ())).bind fun r8 =>
(if (decide (r8.1.1 < 0)) then
some (.inr (.inl ((-1), ())))
else
some (.inl (x.1, r8.1.1, (w64 (x.2.2.1 + 1)), ())))
else none)
else
some (.inr (.inr (x.2.1, ()))))
noncomputable def lO := aA fv
noncomputable def ns : Loop := ⟨[(0, .sl .mixed), (1, .int .i64), (5, .int .i64)], [(1, .int .i64)], 0, [(4, .int .i64)], lO⟩
theorem ze : LF Tryz.f79 [] [1, 1, 1, 0, 1, 0, 0] ns := lk (v := .nil) qQ (b := fv) (fun _ => by kernel_rfl) rfl (by kernel_rfl) (kN)
noncomputable def lw (x : List Mixed × Int × Unit) : Option ((Int × Unit) × Unit) :=
let v1 := (w64 (x.2.1 - (x.1.length : Int)))
(if (decide (v1 < 0)) then
some (((-1), ()), ())
else
(aw (lO (x.1, v1, 0, ()))
(fun y9 => some (y9, ()))
(fun y9 => some (y9, ()))))
noncomputable def qE : Ent := (79, none, ⟨[.fz .mixed, .int .i64], [.int .i64], lw⟩)
theorem t7 : SQ Tryz.prog qE := so (v := .two (.nil) (.two (.nil) (.two (.nil) (.two (.two (.nil) (.one (.loop ns))) (.nil))))) (fn := Tryz.f79) qQ (by kernel_rfl) (by kernel_rfl) (by kernel_rfl) (kC ze (kN)) (fun _ => by kernel_rfl)
noncomputable def Es : Cx := cX [qE] [] []
theorem Gi : OKC Tryz.prog Es ac := okc mixed (gC t7 (am))
noncomputable def nR (x : Y2 × Int × Unit) : Option ((Int × Unit) × Unit) :=
(lw (x.1.2.2.2.2.2.1, x.2)).bind fun r1 =>
(if (decide (r1.1.1 < 0)) then
some (((-1), ()), ())
else
some (r1.1, ()))
noncomputable def uU : Ent := (65, none, ⟨[Z2, .int .i64], [.int .i64], nR⟩)
theorem xG : SQ Tryz.prog uU := so (v := .nil) (fn := Tryz.f65) Gi (by kernel_rfl) (by kernel_rfl) (by kernel_rfl) (kN) (fun _ => by kernel_rfl)
noncomputable def BB : Cx := cX [uU] [] []
theorem s4 : OKC Tryz.prog BB ac := okc mixed (gC xG (am))
noncomputable def gF (x : List Half × Int × Int × Unit) : Rnd (List Half × Int × Int × Unit) (Int × Unit) (Int × Unit) :=
(if (decide (x.2.2.1 < (x.1.length : Int))) then
(if inb x.2.2.1 x.1.length then
(nR (((rd (dfl .half) x.1 x.2.2.1).fr, (rd (dfl .half) x.1 x.2.2.1).nu, (rd (dfl .half) x.1 x.2.2.1).to, (rd (dfl .half) x.1 x.2.2.1).un, (rd (dfl .half) x.1 x.2.2.1).sz, (rd (dfl .half) x.1 x.2.2.1).got, ()), x.2.1, ())).bind fun r8 =>
(if (decide (r8.1.1 < 0)) then
some (.inr (.inl ((-1), ())))
else
some (.inl (x.1, r8.1.1, (w64 (x.2.2.1 + 1)), ())))
else none)
else
some (.inr (.inr (x.2.1, ()))))
noncomputable def mK := aA gF
noncomputable def oz : Loop := ⟨[(0, .sl .half), (1, .int .i64), (5, .int .i64)], [(1, .int .i64)], 0, [(4, .int .i64)], mK⟩
theorem A2 : LF Tryz.f49 [] [1, 1, 1, 0, 1, 0, 0] oz := lk (v := .nil) s4 (b := gF) (fun _ => by kernel_rfl) rfl (by kernel_rfl) (kN)
noncomputable def mJ (x : List Half × Int × Unit) : Option ((Int × Unit) × Unit) :=
let v1 := (w64 (x.2.1 - (x.1.length : Int)))
(if (decide (v1 < 0)) then
some (((-1), ()), ())
else
(aw (mK (x.1, v1, 0, ()))
(fun y9 => some (y9, ()))
(fun y9 => some (y9, ()))))
noncomputable def sC : Ent := (49, none, ⟨[.fz .half, .int .i64], [.int .i64], mJ⟩)
theorem wa : SQ Tryz.prog sC := so (v := .two (.nil) (.two (.nil) (.two (.nil) (.two (.two (.nil) (.one (.loop oz))) (.nil))))) (fn := Tryz.f49) s4 (by kernel_rfl) (by kernel_rfl) (by kernel_rfl) (kC A2 (kN)) (fun _ => by kernel_rfl)
noncomputable def zJ : Cx := cX [sx, sC] [] []
theorem B0 : OKC Tryz.prog zJ ac := okc mixed (gC vW (gC wa (am)))
noncomputable def lx (x : Y3 × Int × Unit) : Option ((Int × Unit) × Unit) :=
(mE ((x.1.2.2.1, x.1.2.2.2.1, ()), x.2)).bind fun r1 =>
(if (decide (r1.1.1 < 0)) then
some (((-1), ()), ())
else
(mJ (x.1.2.2.2.2.1, r1.1)).bind fun r2 =>
(if (decide (r2.1.1 < 0)) then
some (((-1), ()), ())
else
some (r2.1, ())))
noncomputable def qF : Ent := (27, none, ⟨[Z3, .int .i64], [.int .i64], lx⟩)
theorem t8 : SQ Tryz.prog qF := so (v := .nil) (fn := Tryz.f27) B0 (by kernel_rfl) (by kernel_rfl) (by kernel_rfl) (kN) (fun _ => by kernel_rfl)
noncomputable def yy : Cx := cX [qF] [] []
theorem pe : OKC Tryz.prog yy ac := okc mixed (gC t8 (am))
noncomputable def d9 (x : List Keeper × Int × Int × Unit) : Rnd (List Keeper × Int × Int × Unit) (Int × Unit) (Int × Unit) :=
(if (decide (x.2.2.1 < (x.1.length : Int))) then
(if inb x.2.2.1 x.1.length then
(lx (((rd (dfl .keeper) x.1 x.2.2.1).id, (rd (dfl .keeper) x.1 x.2.2.1).up, (rd (dfl .keeper) x.1 x.2.2.1).log, (rd (dfl .keeper) x.1 x.2.2.1).fo, (rd (dfl .keeper) x.1 x.2.2.1).halves, ()), x.2.1, ())).bind fun r8 =>
(if (decide (r8.1.1 < 0)) then
some (.inr (.inl ((-1), ())))
else
some (.inl (x.1, r8.1.1, (w64 (x.2.2.1 + 1)), ())))
else none)
else
some (.inr (.inr (x.2.1, ()))))
noncomputable def li := aA d9
noncomputable def mI : Loop := ⟨[(0, .sl .keeper), (1, .int .i64), (5, .int .i64)], [(1, .int .i64)], 0, [(4, .int .i64)], li⟩
theorem xR : LF Tryz.f9 [] [1, 1, 1, 0, 1, 0, 0] mI := lk (v := .nil) pe (b := d9) (fun _ => by kernel_rfl) rfl (by kernel_rfl) (kN)
noncomputable def ku (x : List Keeper × Int × Unit) : Option ((Int × Unit) × Unit) :=
let v1 := (w64 (x.2.1 - (x.1.length : Int)))
(if (decide (v1 < 0)) then
some (((-1), ()), ())
else
(aw (li (x.1, v1, 0, ()))
(fun y9 => some (y9, ()))
(fun y9 => some (y9, ()))))
noncomputable def oY : Ent := (9, none, ⟨[.fz .keeper, .int .i64], [.int .i64], ku⟩)
theorem rK : SQ Tryz.prog oY := so (v := .two (.nil) (.two (.nil) (.two (.nil) (.two (.two (.nil) (.one (.loop mI))) (.nil))))) (fn := Tryz.f9) pe (by kernel_rfl) (by kernel_rfl) (by kernel_rfl) (kC xR (kN)) (fun _ => by kernel_rfl)
noncomputable def BC : Cx := cX [] [] []
theorem E3 : OKC Tryz.prog BC ac := okc mixed (am)
noncomputable def mL (x : List Bool × Int × Unit) : Option ((Int × Unit) × Unit) :=
let v1 := (w64 (x.2.1 - (x.1.length : Int)))
(if (decide (v1 < 0)) then
some (((-1), ()), ())
else
some ((v1, ()), ()))
noncomputable def sD : Ent := (10, none, ⟨[.fz .bool, .int .i64], [.int .i64], mL⟩)
theorem wb : SQ Tryz.prog sD := so (v := .nil) (fn := Tryz.f10) E3 (by kernel_rfl) (by kernel_rfl) (by kernel_rfl) (kN) (fun _ => by kernel_rfl)
noncomputable def zH : Cx := cX [] [] []
theorem BZ : OKC Tryz.prog zH ac := okc mixed (am)
noncomputable def lv (x : Y4 × Int × Unit) : Option ((Int × Unit) × Unit) :=
let v1 := (w64 (x.2.1 - (x.1.2.2.1.size : Int)))
(if (decide (v1 < 0)) then
some (((-1), ()), ())
else
some ((v1, ()), ()))
noncomputable def qD : Ent := (28, none, ⟨[Z4, .int .i64], [.int .i64], lv⟩)
theorem t6 : SQ Tryz.prog qD := so (v := .nil) (fn := Tryz.f28) BZ (by kernel_rfl) (by kernel_rfl) (by kernel_rfl) (kN) (fun _ => by kernel_rfl)
noncomputable def yx : Cx := cX [qD] [] []
theorem pd : OKC Tryz.prog yx ac := okc mixed (gC t6 (am))
noncomputable def d8 (x : List Parcel × Int × Int × Unit) : Rnd (List Parcel × Int × Int × Unit) (Int × Unit) (Int × Unit) :=
(if (decide (x.2.2.1 < (x.1.length : Int))) then
(if inb x.2.2.1 x.1.length then
(lv (((rd (dfl .parcel) x.1 x.2.2.1).src, (rd (dfl .parcel) x.1 x.2.2.1).dst, (rd (dfl .parcel) x.1 x.2.2.1).data, (rd (dfl .parcel) x.1 x.2.2.1).sp, ()), x.2.1, ())).bind fun r8 =>
(if (decide (r8.1.1 < 0)) then
some (.inr (.inl ((-1), ())))
else
some (.inl (x.1, r8.1.1, (w64 (x.2.2.1 + 1)), ())))
else none)
else
some (.inr (.inr (x.2.1, ()))))
noncomputable def lh := aA d8
noncomputable def mF : Loop := ⟨[(0, .sl .parcel), (1, .int .i64), (5, .int .i64)], [(1, .int .i64)], 0, [(4, .int .i64)], lh⟩
theorem xQ : LF Tryz.f11 [] [1, 1, 1, 0, 1, 0, 0] mF := lk (v := .nil) pd (b := d8) (fun _ => by kernel_rfl) rfl (by kernel_rfl) (kN)
noncomputable def kt (x : List Parcel × Int × Unit) : Option ((Int × Unit) × Unit) :=
let v1 := (w64 (x.2.1 - (x.1.length : Int)))
(if (decide (v1 < 0)) then
some (((-1), ()), ())
else
(aw (lh (x.1, v1, 0, ()))
(fun y9 => some (y9, ()))
(fun y9 => some (y9, ()))))
noncomputable def oX : Ent := (11, none, ⟨[.fz .parcel, .int .i64], [.int .i64], kt⟩)
theorem rJ : SQ Tryz.prog oX := so (v := .two (.nil) (.two (.nil) (.two (.nil) (.two (.two (.nil) (.one (.loop mF))) (.nil))))) (fn := Tryz.f11) pd (by kernel_rfl) (by kernel_rfl) (by kernel_rfl) (kC xQ (kN)) (fun _ => by kernel_rfl)
noncomputable def Er : Cx := cX [] [] []
theorem Gh : OKC Tryz.prog Er ac := okc mixed (am)
noncomputable def nQ (x : Y5 × Int × Unit) : Option ((Int × Unit) × Unit) :=
let v1 := (w64 (x.2.1 - (x.1.2.2.2.2.1.size : Int)))
(if (decide (v1 < 0)) then
some (((-1), ()), ())
else
some ((v1, ()), ()))
noncomputable def uT : Ent := (29, none, ⟨[Z5, .int .i64], [.int .i64], nQ⟩)
theorem xF : SQ Tryz.prog uT := so (v := .nil) (fn := Tryz.f29) Gh (by kernel_rfl) (by kernel_rfl) (by kernel_rfl) (kN) (fun _ => by kernel_rfl)
noncomputable def Bz : Cx := cX [uT] [] []
theorem sZ : OKC Tryz.prog Bz ac := okc mixed (gC xF (am))
noncomputable def gE (x : List Note × Int × Int × Unit) : Rnd (List Note × Int × Int × Unit) (Int × Unit) (Int × Unit) :=
(if (decide (x.2.2.1 < (x.1.length : Int))) then
(if inb x.2.2.1 x.1.length then
(nQ (((rd (dfl .note) x.1 x.2.2.1).fr, (rd (dfl .note) x.1 x.2.2.1).nu, (rd (dfl .note) x.1 x.2.2.1).to, (rd (dfl .note) x.1 x.2.2.1).un, (rd (dfl .note) x.1 x.2.2.1).tx, ()), x.2.1, ())).bind fun r8 =>
(if (decide (r8.1.1 < 0)) then
some (.inr (.inl ((-1), ())))
else
some (.inl (x.1, r8.1.1, (w64 (x.2.2.1 + 1)), ())))
else none)
else
some (.inr (.inr (x.2.1, ()))))
noncomputable def mG := aA gE
noncomputable def oy : Loop := ⟨[(0, .sl .note), (1, .int .i64), (5, .int .i64)], [(1, .int .i64)], 0, [(4, .int .i64)], mG⟩
theorem A1 : LF Tryz.f12 [] [1, 1, 1, 0, 1, 0, 0] oy := lk (v := .nil) sZ (b := gE) (fun _ => by kernel_rfl) rfl (by kernel_rfl) (kN)
noncomputable def jg (x : List Note × Int × Unit) : Option ((Int × Unit) × Unit) :=
let v1 := (w64 (x.2.1 - (x.1.length : Int)))
(if (decide (v1 < 0)) then
some (((-1), ()), ())
else
(aw (mG (x.1, v1, 0, ()))
(fun y9 => some (y9, ()))
(fun y9 => some (y9, ()))))
noncomputable def sA : Ent := (12, none, ⟨[.fz .note, .int .i64], [.int .i64], jg⟩)
theorem vY : SQ Tryz.prog sA := so (v := .two (.nil) (.two (.nil) (.two (.nil) (.two (.two (.nil) (.one (.loop oy))) (.nil))))) (fn := Tryz.f12) sZ (by kernel_rfl) (by kernel_rfl) (by kernel_rfl) (kC A1 (kN)) (fun _ => by kernel_rfl)
noncomputable def By : Cx := cX [oY, sD, oX, sA] [] []
theorem EZ : OKC Tryz.prog By ac := okc mixed (gC rK (gC wb (gC rJ (gC vY (am)))))
noncomputable def jf (x : Y6 × Int × Unit) : Option ((Int × Unit) × Unit) :=
(ku (x.1.2.1, x.2)).bind fun r1 =>
(if (decide (r1.1.1 < 0)) then
some (((-1), ()), ())
else
(mL (x.1.2.2.1, r1.1)).bind fun r2 =>
(if (decide (r2.1.1 < 0)) then
some (((-1), ()), ())
else
(kt (x.1.2.2.2.1, r2.1)).bind fun r3 =>
(if (decide (r3.1.1 < 0)) then
some (((-1), ()), ())
else
(jg (x.1.2.2.2.2.1, r3.1)).bind fun r4 =>
(if (decide (r4.1.1 < 0)) then
some (((-1), ()), ())
else
(jg (x.1.2.2.2.2.2.1, r4.1)).bind fun r5 =>
(if (decide (r5.1.1 < 0)) then
some (((-1), ()), ())
else
some (r5.1, ()))))))
noncomputable def sy : Ent := (4, none, ⟨[Z6, .int .i64], [.int .i64], jf⟩)
theorem vX : SQ Tryz.prog sy := so (v := .nil) (fn := Tryz.f4) EZ (by kernel_rfl) (by kernel_rfl) (by kernel_rfl) (kN) (fun _ => by kernel_rfl)
noncomputable def HY : Cx := cX [] [] [(11, 13)]
theorem Jn : OKC Tryz.prog HY ac := okc mixed (am)
noncomputable def aK (x : Int × Int × Int × Unit) : Option ((Bool × Unit) × Unit) :=
let v2 := ((decide (x.2.1 ≤ x.1)) && (decide (x.1 ≤ x.2.2.1)))
some ((v2, ()), ())
noncomputable def cC : Ent := (30, none, ⟨[.int .i64, .int .i64, .int .i64], [.bool], aK⟩)
theorem bw : SQ Tryz.prog cC := so (v := .nil) (fn := Tryz.f30) Jn (by kernel_rfl) (by kernel_rfl) (by kernel_rfl) (kN) (fun _ => by kernel_rfl)
noncomputable def aC (spec_l6Dec : (Int × Unit) → Option ((ByteArray × Unit) × (Unit))) (x : Int × Unit) : Option ((ByteArray × Unit) × Unit) :=
(if (decide (x.1 < (-9223372036854775807))) then
let v2 := (B [45, 57, 50, 50, 51, 51, 55, 50, 48, 51, 54, 56, 53, 52, 55, 55, 53, 56, 48, 56])
some ((v2, ()), ())
else
(if (decide (x.1 < 0)) then
(spec_l6Dec ((w64 (0 - x.1)), ())).bind fun r4 =>
(if decide ((B [45]).size + r4.1.1.size ≤ 4611686018427387904) then
some ((((B [45]) ++ r4.1.1), ()), ())
else none)
else
(if (decide (x.1 < 10)) then
let v6 := (Fj ([(w8 (w64 (48 + x.1)))] : List Int))
some ((v6, ()), ())
else
(spec_l6Dec ((w64 (Int.tdiv x.1 10)), ())).bind fun r7 =>
(if decide (r7.1.1.size + (Fj ([(w8 (w64 (48 + (Int.tmod x.1 10))))] : List Int)).size ≤ 4611686018427387904) then
let v8 := (r7.1.1 ++ (Fj ([(w8 (w64 (48 + (Int.tmod x.1 10))))] : List Int)))
some ((v8, ()), ())
else none))))
noncomputable def ap := I5 aC
noncomputable def F2 (g : (Int × Unit) → Option ((ByteArray × Unit) × (Unit))) : Cx := cX [(81, none, ⟨[.int .i64], [.str], g⟩)] [] []
theorem H6 (g : (Int × Unit) → Option ((ByteArray × Unit) × (Unit))) (h : SQ Tryz.prog (81, none, ⟨[.int .i64], [.str], g⟩)) : OKC Tryz.prog (F2 g) ac := okc mixed (gC h (am))
noncomputable def l8 : Ent := (81, none, ⟨[.int .i64], [.str], ap⟩)
theorem kj : SQ Tryz.prog l8 := soR (mi (by kernel_rfl : Tryz.prog.funcs[81]? = some Tryz.f81) (by kernel_rfl) (by kernel_rfl : Tryz.f81.body = some (td Tryz.f81))) (fun _ => by kernel_rfl) fun g h => so (v := .nil) (fn := Tryz.f81) (H6 g h) (by kernel_rfl) (by kernel_rfl) (by kernel_rfl) kN (fun _ => by kernel_rfl)
noncomputable def F3 : Cx := cX [l8] [] [(9, 11), (24, 27)]
theorem yG : OKC Tryz.prog F3 ac := okc mixed (gC kj (am))
noncomputable def kG (x : ByteArray × Int × Int × Unit) : Rnd (ByteArray × Int × Int × Unit) (Int × Unit) (ByteArray × Int × Unit) :=
(if (decide (x.2.2.1 < (x.1.size : Int))) then
(if inb x.2.2.1 x.1.size then
(if (aE (!(decide ((bt x.1 x.2.2.1) < 48))) (inb x.2.2.1 x.1.size)) then
(if ((decide ((bt x.1 x.2.2.1) < 48)) || (decide (57 < (bt x.1 x.2.2.1)))) then
some (.inr (.inl ((-1), ())))
else
(if inb x.2.2.1 x.1.size then
let v7 := (w64 ((w64 (x.2.1 * 10)) + (w64 (w8 ((bt x.1 x.2.2.1) - 48)))))
some (.inl (x.1, v7, (w64 (x.2.2.1 + 1)), ()))
else none))
else none)
else none)
else
some (.inr (.inr (x.1, x.2.1, ()))))
noncomputable def kn := aA kG
noncomputable def q7 : Loop := ⟨[(0, .str), (3, .int .i64), (4, .int .i64)], [(0, .str), (3, .int .i64)], 0, [(2, .int .i64)], kn⟩
theorem FP : LF Tryz.f68 [] [1, 1, 1, 0, 1, 0, 0] q7 := lk (v := .nil) yG (b := kG) (fun _ => by kernel_rfl) rfl (by kernel_rfl) (kN)
noncomputable def dd (x : ByteArray × Unit) : Option ((Int × Unit) × Unit) :=
(if ((decide ((x.1.size : Int) < 1)) || (decide (4 < (x.1.size : Int)))) then
some (((-1), ()), ())
else
(aw (kn (x.1, 0, 0, ()))
(fun y8 => some (y8, ()))
(fun y8 => (ap y8.2).bind fun r10 =>
(if (!decide (r10.1.1 = y8.1)) then
some (((-1), ()), ())
else
some (y8.2, ())))))
noncomputable def l9 : Ent := (68, none, ⟨[.str], [.int .i64], dd⟩)
theorem km : SQ Tryz.prog l9 := so (v := .two (.nil) (.two (.nil) (.two (.nil) (.two (.two (.nil) (.one (.loop q7))) (.nil))))) (fn := Tryz.f68) yG (by kernel_rfl) (by kernel_rfl) (by kernel_rfl) (kC FP (kN)) (fun _ => by kernel_rfl)
noncomputable def Ej : Cx := cX [l9] [] [(11, 12)]
theorem vi : OKC Tryz.prog Ej ac := okc mixed (gC km (am))
noncomputable def bK (x : ByteArray × Int × Unit) : Rnd (ByteArray × Int × Unit) (ByteArray × Int × Unit) (Unit) :=
(if ((decide (x.2.1 < (x.1.size : Int))) && (decide (x.2.1 < 3))) then
(if inb x.2.1 x.1.size then
(if (!decide ((bt x.1 x.2.1) = 58)) then
some (.inl (x.1, (w64 (x.2.1 + 1)), ()))
else
(if (decide (0 ≤ x.2.1) && decide (x.2.1 ≤ (x.1.size : Int))) then
(dd ((x.1.extract (0) (Int.toNat x.2.1)), ())).bind fun r17 =>
(if (decide (r17.1.1 < 1)) then
some (.inr (.inl (noB, 0, ())))
else
(if (decide (60 < r17.1.1)) then
some (.inr (.inl (noB, 0, ())))
else
(if (decide ((x.1.size : Int) < (w64 ((w64 (x.2.1 + 2)) + r17.1.1)))) then
some (.inr (.inl (noB, 0, ())))
else
(if inb (w64 ((w64 (x.2.1 + 1)) + r17.1.1)) x.1.size then
(if (!decide ((bt x.1 (w64 ((w64 (x.2.1 + 1)) + r17.1.1))) = 59)) then
some (.inr (.inl (noB, 0, ())))
else
(if ((decide (0 ≤ (w64 ((w64 (x.2.1 + 1)) + r17.1.1))) && decide ((w64 ((w64 (x.2.1 + 1)) + r17.1.1)) ≤ (x.1.size : Int))) && (decide (0 ≤ (w64 (x.2.1 + 1))) && decide ((w64 (x.2.1 + 1)) ≤ (w64 ((w64 (x.2.1 + 1)) + r17.1.1))))) then
let v18 := (x.1.extract (Int.toNat (w64 (x.2.1 + 1))) (Int.toNat (w64 ((w64 (x.2.1 + 1)) + r17.1.1))))
let v19 := (w64 ((w64 (x.2.1 + 2)) + r17.1.1))
some (.inr (.inl (v18, v19, ())))
else none))
else none))))
else none))
else none)
else
some (.inr (.inr ())))
noncomputable def iO := aA bK
noncomputable def pZ : Loop := ⟨[(0, .str), (4, .int .i64)], [], 0, [(2, .str), (3, .int .i64)], iO⟩
theorem DE : LF Tryz.f52 [] [1, 0, 1, 0, 0] pZ := lk (v := .nil) vi (b := bK) (fun _ => by kernel_rfl) rfl (by kernel_rfl) (kN)
noncomputable def kK (x : ByteArray × Unit) : Option ((ByteArray × Int × Unit) × Unit) :=
(aw (iO (x.1, 0, ()))
(fun y20 => some (y20, ()))
(fun y20 => some ((noB, 0, ()), ())))
noncomputable def uO : Ent := (52, none, ⟨[.str], [.str, .int .i64], kK⟩)
theorem xf : SQ Tryz.prog uO := so (v := .two (.nil) (.two (.two (.nil) (.one (.loop pZ))) (.nil))) (fn := Tryz.f52) vi (by kernel_rfl) (by kernel_rfl) (by kernel_rfl) (kC DE (kN)) (fun _ => by kernel_rfl)
noncomputable def yr : Cx := cX [uO] [] []
theorem o9 : OKC Tryz.prog yr ac := okc mixed (gC xf (am))
noncomputable def bQ (x : ByteArray × List ByteArray × Int × Unit) : Rnd (ByteArray × List ByteArray × Int × Unit) (List ByteArray × Int × Unit) (List ByteArray × Int × Unit) :=
(if (decide (x.2.2.1 < (x.1.size : Int))) then
(if (decide (0 ≤ x.2.2.1) && decide (x.2.2.1 ≤ (x.1.size : Int))) then
(kK ((x.1.extract (Int.toNat x.2.2.1) (x.1.size)), ())).bind fun r6 =>
(if (decide (r6.1.2.1 = 0)) then
some (.inr (.inl x.2))
else
(if dA (x.2.1.length + ([r6.1.1] : List ByteArray).length) then
let v7 := (w64 (x.2.2.1 + r6.1.2.1))
some (.inl (x.1, (x.2.1 ++ ([r6.1.1] : List ByteArray)), v7, ()))
else none))
else none)
else
some (.inr (.inr x.2)))
noncomputable def eC := aA bQ
noncomputable def ms : Loop := ⟨[(0, .str), (4, .row 9 .str), (5, .int .i64)], [(4, .row 9 .str), (5, .int .i64)], 0, [(2, .row 9 .str), (3, .int .i64)], eC⟩
theorem xN : LF Tryz.f34 [] [1, 1, 1, 0, 0, 0] ms := lk (v := .nil) o9 (b := bQ) (fun _ => by kernel_rfl) rfl (by kernel_rfl) (kN)
noncomputable def a7 (x : ByteArray × Unit) : Option ((List ByteArray × Int × Unit) × Unit) :=
(aw (eC (x.1, ([] : List ByteArray), 0, ()))
(fun y8 => some (y8, ()))
(fun y8 => some (y8, ())))
noncomputable def fE : Ent := (34, none, ⟨[.str], [.row 9 .str, .int .i64], a7⟩)
theorem eB : SQ Tryz.prog fE := so (v := .two (.nil) (.two (.nil) (.two (.nil) (.two (.one (.loop ms)) (.nil))))) (fn := Tryz.f34) o9 (by kernel_rfl) (by kernel_rfl) (by kernel_rfl) (kC xN (kN)) (fun _ => by kernel_rfl)
noncomputable def zw : Cx := cX [cC] [] []
theorem BS : OKC Tryz.prog zw ac := okc mixed (gC bw (am))
noncomputable def au (x : Int × Unit) : Option ((Bool × Unit) × Unit) :=
(aK (x.1, 0, 3, ())).bind fun r1 =>
some (r1.1, ())
noncomputable def aT : Ent := (32, none, ⟨[.int .i64], [.bool], au⟩)
theorem aL : SQ Tryz.prog aT := so (v := .nil) (fn := Tryz.f32) BS (by kernel_rfl) (by kernel_rfl) (by kernel_rfl) (kN) (fun _ => by kernel_rfl)
noncomputable def yu : Cx := cX [aT] [] []
theorem zW : OKC Tryz.prog yu ac := okc mixed (gC aL (am))
noncomputable def fj (x : Int × Unit) : Option ((Y7 × Unit) × Unit) :=
(au x).bind fun r2 =>
(if (!r2.1.1) then
some (((0, 0, 0, ([] : List Note), ([] : List Mark), ([] : List Note), ()), ()), ())
else
some (((x.1, 0, 1, ([] : List Note), ([] : List Mark), ([] : List Note), ()), ()), ()))
noncomputable def oU : Ent := (53, none, ⟨[.int .i64], [Z7], fj⟩)
theorem rf : SQ Tryz.prog oU := so (v := .nil) (fn := Tryz.f53) zW (by kernel_rfl) (by kernel_rfl) (by kernel_rfl) (kN) (fun _ => by kernel_rfl)
noncomputable def Ek : Cx := cX [cC, aT] [] [(51, 55)]
theorem vj : OKC Tryz.prog Ek ac := okc mixed (gC bw (gC aL (am)))
noncomputable def iS (x : Y5 × Int × Unit) : Rnd (Y5 × Int × Unit) (Bool × Unit) (Unit) :=
(if (decide (x.2.1 < (x.1.2.2.2.2.1.size : Int))) then
(if inb x.2.1 x.1.2.2.2.2.1.size then
(if (aE (!(decide ((bt x.1.2.2.2.2.1 x.2.1) < 32))) (inb x.2.1 x.1.2.2.2.2.1.size)) then
(if ((decide ((bt x.1.2.2.2.2.1 x.2.1) < 32)) || (decide (126 < (bt x.1.2.2.2.2.1 x.2.1)))) then
some (.inr (.inl (false, ())))
else
some (.inl (x.1, (w64 (x.2.1 + 1)), ())))
else none)
else none)
else
some (.inr (.inr ())))
noncomputable def iR := aA iS
noncomputable def p6 : Loop := ⟨[(1, Z8), (3, .int .i64)], [], 0, [(2, .bool)], iR⟩
theorem DF : LF Tryz.f33 [] [1, 1, 0, 1, 0, 0] p6 := lk (v := .nil) vj (b := iS) (fun _ => by kernel_rfl) rfl (by kernel_rfl) (kN)
noncomputable def b9 (x : Y5 × Unit) : Option ((Bool × Unit) × Unit) :=
(au (x.1.1, ())).bind fun r9 =>
(if (!r9.1.1) then
some ((false, ()), ())
else
(au (x.1.2.2.1, ())).bind fun r10 =>
(if (!r10.1.1) then
some ((false, ()), ())
else
(aK (x.1.2.1, 1, 99, ())).bind fun r11 =>
(if (!r11.1.1) then
some ((false, ()), ())
else
(aK (x.1.2.2.2.1, 1, 999, ())).bind fun r12 =>
(if (!r12.1.1) then
some ((false, ()), ())
else
(if (decide ((x.1.2.2.2.2.1.size : Int) < 1)) then
some ((false, ()), ())
else
(if (decide (24 < (x.1.2.2.2.2.1.size : Int))) then
some ((false, ()), ())
else
(aw (iR (x.1, 0, ()))
(fun y14 => some (y14, ()))
(fun y14 => some ((true, ()), ())))))))))
noncomputable def fZ : Ent := (33, none, ⟨[Z5], [.bool], b9⟩)
theorem d5 : SQ Tryz.prog fZ := so (v := .two (.nil) (.two (.nil) (.two (.two (.nil) (.one (.loop p6))) (.nil)))) (fn := Tryz.f33) vj (by kernel_rfl) (by kernel_rfl) (by kernel_rfl) (kC DF (kN)) (fun _ => by kernel_rfl)
noncomputable def Bl : Cx := cX [] [] [(13, 20)]
theorem ES : OKC Tryz.prog Bl ac := okc mixed (am)
noncomputable def bo (x : Int × Int × Int × Int × Unit) : Option ((Bool × Unit) × Unit) :=
let v2 := ((decide (x.1 < x.2.2.1)) || ((decide (x.1 = x.2.2.1)) && (decide (x.2.1 < x.2.2.2.1))))
some ((v2, ()), ())
noncomputable def eY : Ent := (102, none, ⟨[.int .i64, .int .i64, .int .i64, .int .i64], [.bool], bo⟩)
theorem dg : SQ Tryz.prog eY := so (v := .nil) (fn := Tryz.f102) ES (by kernel_rfl) (by kernel_rfl) (by kernel_rfl) (kN) (fun _ => by kernel_rfl)
noncomputable def zy : Cx := cX [fZ, eY] [] [(23, 50)]
theorem qN : OKC Tryz.prog zy ac := okc mixed (gC d5 (gC dg (am)))
noncomputable def fc (x : List Note × Int × Unit) : Rnd (List Note × Int × Unit) (Bool × Unit) (Unit) :=
(if (decide (x.2.1 < (x.1.length : Int))) then
(if inb x.2.1 x.1.length then
(b9 (((rd (dfl .note) x.1 x.2.1).fr, (rd (dfl .note) x.1 x.2.1).nu, (rd (dfl .note) x.1 x.2.1).to, (rd (dfl .note) x.1 x.2.1).un, (rd (dfl .note) x.1 x.2.1).tx, ()), ())).bind fun r10 =>
(if (aE ((!(!r10.1.1)) && (decide (0 < x.2.1))) (inb (w64 (x.2.1 - 1)) x.1.length)) then
(if (aE ((!(!r10.1.1)) && (decide (0 < x.2.1))) (inb (w64 (x.2.1 - 1)) x.1.length)) then
(if (aE ((!(!r10.1.1)) && (decide (0 < x.2.1))) (inb x.2.1 x.1.length)) then
(if (aE ((!(!r10.1.1)) && (decide (0 < x.2.1))) (inb x.2.1 x.1.length)) then
(if (aE ((!(!r10.1.1)) && (decide (0 < x.2.1))) ((bo ((rd (dfl .note) x.1 (w64 (x.2.1 - 1))).fr, (rd (dfl .note) x.1 (w64 (x.2.1 - 1))).nu, (rd (dfl .note) x.1 x.2.1).fr, (rd (dfl .note) x.1 x.2.1).nu, ())).isSome)) then
(if ((!r10.1.1) || ((decide (0 < x.2.1)) && (!(((bo ((rd (dfl .note) x.1 (w64 (x.2.1 - 1))).fr, (rd (dfl .note) x.1 (w64 (x.2.1 - 1))).nu, (rd (dfl .note) x.1 x.2.1).fr, (rd (dfl .note) x.1 x.2.1).nu, ())).getD ((false, ()), ())).1.1)))) then
some (.inr (.inl (false, ())))
else
some (.inl (x.1, (w64 (x.2.1 + 1)), ())))
else none)
else none)
else none)
else none)
else none)
else none)
else
some (.inr (.inr ())))
noncomputable def fI := aA fc
noncomputable def ni : Loop := ⟨[(0, .sl .note), (5, .int .i64)], [], 0, [(4, .bool)], fI⟩
theorem y7 : LF Tryz.f82 [] [1, 1, 0, 1, 0, 0] ni := lk (v := .nil) qN (b := fc) (fun _ => by kernel_rfl) rfl (by kernel_rfl) (kN)
noncomputable def dx (x : List Note × Int × Unit) : Option ((Bool × Unit) × Unit) :=
(if (decide (x.2.1 < (x.1.length : Int))) then
some ((false, ()), ())
else
(aw (fI (x.1, 0, ()))
(fun y11 => some (y11, ()))
(fun y11 => some ((true, ()), ()))))
noncomputable def qu : Ent := (82, none, ⟨[.fz .note, .int .i64], [.bool], dx⟩)
theorem tR : SQ Tryz.prog qu := so (v := .two (.nil) (.two (.nil) (.two (.two (.nil) (.one (.loop ni))) (.nil)))) (fn := Tryz.f82) qN (by kernel_rfl) (by kernel_rfl) (by kernel_rfl) (kC y7 (kN)) (fun _ => by kernel_rfl)
noncomputable def zz : Cx := cX [cC, aT, eY] [] []
theorem qO : OKC Tryz.prog zz ac := okc mixed (gC bw (gC aL (gC dg (am))))
noncomputable def fe (x : List Mark × Int × Unit) : Rnd (List Mark × Int × Unit) (Bool × Unit) (Unit) :=
(if (decide (x.2.1 < (x.1.length : Int))) then
(if inb x.2.1 x.1.length then
let v49 := (rd (dfl .mark) x.1 x.2.1).mf
let v50 := (rd (dfl .mark) x.1 x.2.1).mn
let v51 := (rd (dfl .mark) x.1 x.2.1).mu
(au (v49, ())).bind fun r52 =>
(if (!r52.1.1) then
some (.inr (.inl (false, ())))
else
(aK (v50, 1, 99, ())).bind fun r53 =>
(if (!r53.1.1) then
some (.inr (.inl (false, ())))
else
(aK (v51, 1, 999, ())).bind fun r54 =>
(if (!r54.1.1) then
some (.inr (.inl (false, ())))
else
(if (decide (0 < x.2.1)) then
(if inb (w64 (x.2.1 - 1)) x.1.length then
(if inb (w64 (x.2.1 - 1)) x.1.length then
(bo ((rd (dfl .mark) x.1 (w64 (x.2.1 - 1))).mf, (rd (dfl .mark) x.1 (w64 (x.2.1 - 1))).mn, v49, v50, ())).bind fun r55 =>
(if (!r55.1.1) then
some (.inr (.inl (false, ())))
else
some (.inl (x.1, (w64 (x.2.1 + 1)), ())))
else none)
else none)
else
some (.inl (x.1, (w64 (x.2.1 + 1)), ()))))))
else none)
else
some (.inr (.inr ())))
noncomputable def fJ := aA fe
noncomputable def nj : Loop := ⟨[(0, .sl .mark), (3, .int .i64)], [], 0, [(2, .bool)], fJ⟩
theorem za : LF Tryz.f83 [] [1, 1, 0, 1, 0, 0] nj := lk (v := .nil) qO (b := fe) (fun _ => by kernel_rfl) rfl (by kernel_rfl) (kN)
noncomputable def gi (x : List Mark × Unit) : Option ((Bool × Unit) × Unit) :=
(if (decide (12 < (x.1.length : Int))) then
some ((false, ()), ())
else
(aw (fJ (x.1, 0, ()))
(fun y56 => some (y56, ()))
(fun y56 => some ((true, ()), ()))))
noncomputable def qv : Ent := (83, none, ⟨[.fz .mark], [.bool], gi⟩)
theorem tS : SQ Tryz.prog qv := so (v := .two (.nil) (.two (.nil) (.two (.two (.nil) (.one (.loop nj))) (.nil)))) (fn := Tryz.f83) qO (by kernel_rfl) (by kernel_rfl) (by kernel_rfl) (kC za (kN)) (fun _ => by kernel_rfl)
noncomputable def Ef : Cx := cX [] [] [(16, 25)]
theorem Ga : OKC Tryz.prog Ef ac := okc mixed (am)
noncomputable def kH (x : Y5 × Int × Unit) : Option ((Bool × Unit) × Unit) :=
(if (decide (x.1.1 ≤ x.2.1)) then
let v3 := ((decide (x.2.1 < x.1.2.2.1)) || ((decide (x.1.2.2.1 < x.2.1)) && (decide (x.2.1 ≤ x.1.1))))
some ((v3, ()), ())
else
let v4 := ((decide (x.1.2.2.1 < x.2.1)) && (decide (x.2.1 ≤ x.1.1)))
some ((v4, ()), ()))
noncomputable def uK : Ent := (84, none, ⟨[Z5, .int .i64], [.bool], kH⟩)
theorem xb : SQ Tryz.prog uK := so (v := .nil) (fn := Tryz.f84) Ga (by kernel_rfl) (by kernel_rfl) (by kernel_rfl) (kN) (fun _ => by kernel_rfl)
noncomputable def Bk : Cx := cX [] [] [(22, 28)]
theorem sU : OKC Tryz.prog Bk ac := okc mixed (am)
noncomputable def gj (x : List Mark × Int × Int × Int × Unit) : Rnd (List Mark × Int × Int × Int × Unit) (Int × Unit) (Unit) :=
(if (decide (x.2.2.2.1 < (x.1.length : Int))) then
(if inb x.2.2.2.1 x.1.length then
(if (aE (decide ((rd (dfl .mark) x.1 x.2.2.2.1).mf = x.2.1)) (inb x.2.2.2.1 x.1.length)) then
(if ((decide ((rd (dfl .mark) x.1 x.2.2.2.1).mf = x.2.1)) && (decide ((rd (dfl .mark) x.1 x.2.2.2.1).mn = x.2.2.1))) then
some (.inr (.inl x.2.2.2))
else
some (.inl (x.1, x.2.1, x.2.2.1, (w64 (x.2.2.2.1 + 1)), ())))
else none)
else none)
else
some (.inr (.inr ())))
noncomputable def gY := aA gj
noncomputable def od : Loop := ⟨[(0, .sl .mark), (1, .int .i64), (2, .int .i64), (7, .int .i64)], [], 0, [(6, .int .i64)], gY⟩
theorem AU : LF Tryz.f85 [] [1, 0, 1, 0, 0] od := lk (v := .nil) sU (b := gj) (fun _ => by kernel_rfl) rfl (by kernel_rfl) (kN)
noncomputable def bn (x : List Mark × Int × Int × Unit) : Option ((Int × Unit) × Unit) :=
(aw (gY (x.1, x.2.1, x.2.2.1, 0, ()))
(fun y2 => some (y2, ()))
(fun y2 => some (((-1), ()), ())))
noncomputable def jY : Ent := (85, none, ⟨[.fz .mark, .int .i64, .int .i64], [.int .i64], bn⟩)
theorem gX : SQ Tryz.prog jY := so (v := .two (.nil) (.two (.two (.nil) (.one (.loop od))) (.nil))) (fn := Tryz.f85) sU (by kernel_rfl) (by kernel_rfl) (by kernel_rfl) (kC AU (kN)) (fun _ => by kernel_rfl)
noncomputable def El : Cx := cX [cC, aT, qu, qv, uK, jY] [] [(109, 120)]
theorem k7 : OKC Tryz.prog El ac := okc mixed (gC bw (gC aL (gC tR (gC tS (gC xb (gC gX (am)))))))
noncomputable def iW (x : Y7 × Int × Unit) : Rnd (Y7 × Int × Unit) (Bool × Unit) (Unit) :=
(if (decide (x.2.1 < (x.1.2.2.2.2.2.1.length : Int))) then
(if inb x.2.1 x.1.2.2.2.2.2.1.length then
let v140 := (rd (dfl .note) x.1.2.2.2.2.2.1 x.2.1).fr
let v141 := (rd (dfl .note) x.1.2.2.2.2.2.1 x.2.1).nu
let v142 := (rd (dfl .note) x.1.2.2.2.2.2.1 x.2.1).to
let v143 := (rd (dfl .note) x.1.2.2.2.2.2.1 x.2.1).un
let v144 := (rd (dfl .note) x.1.2.2.2.2.2.1 x.2.1).tx
(if (!decide (v142 = x.1.1)) then
some (.inr (.inl (false, ())))
else
(if (decide (v140 = x.1.1)) then
(if (decide (x.1.2.2.1 ≤ v141)) then
some (.inr (.inl (false, ())))
else
(if (decide (x.1.2.1 < v143)) then
(bn (x.1.2.2.2.2.1, v140, v141, ())).bind fun r145 =>
(if (decide (r145.1.1 < 0)) then
some (.inr (.inl (false, ())))
else
some (.inl (x.1, (w64 (x.2.1 + 1)), ())))
else
some (.inl (x.1, (w64 (x.2.1 + 1)), ()))))
else
(if (decide (x.1.2.1 < v143)) then
(bn (x.1.2.2.2.2.1, v140, v141, ())).bind fun r146 =>
(if (decide (r146.1.1 < 0)) then
some (.inr (.inl (false, ())))
else
some (.inl (x.1, (w64 (x.2.1 + 1)), ())))
else
some (.inl (x.1, (w64 (x.2.1 + 1)), ())))))
else none)
else
some (.inr (.inr ())))
noncomputable def iT := aA iW
noncomputable def p7 : Loop := ⟨[(1, Z9), (7, .int .i64)], [], 4, [(2, .bool)], iT⟩
theorem Dx : LF Tryz.f69 [] [1, 1, 1, 1, 0, 1, 0, 0] p7 := lk (v := .nil) k7 (b := iW) (fun _ => by kernel_rfl) rfl (by kernel_rfl) (kN)
noncomputable def iX (x : Y7 × Int × Unit) : Rnd (Y7 × Int × Unit) (Bool × Unit) (Y7 × Unit) :=
(if (decide (x.2.1 < (x.1.2.2.2.2.1.length : Int))) then
(if inb x.2.1 x.1.2.2.2.2.1.length then
let v94 := (rd (dfl .mark) x.1.2.2.2.2.1 x.2.1).mf
let v95 := (rd (dfl .mark) x.1.2.2.2.2.1 x.2.1).mn
let v96 := (rd (dfl .mark) x.1.2.2.2.2.1 x.2.1).mu
(if ((decide (v96 ≤ x.1.2.1)) || ((decide (v94 = x.1.1)) && (decide (x.1.2.2.1 ≤ v95)))) then
some (.inr (.inl (false, ())))
else
some (.inl (x.1, (w64 (x.2.1 + 1)), ())))
else none)
else
some (.inr (.inr (x.1, ()))))
noncomputable def iU := aA iX
noncomputable def p8 : Loop := ⟨[(1, Z9), (5, .int .i64)], [(1, Z9)], 2, [(2, .bool)], iU⟩
theorem Dz : LF Tryz.f69 [] [1, 1, 1, 0, 1, 0, 0] p8 := lk (v := .nil) k7 (b := iX) (fun _ => by kernel_rfl) rfl (by kernel_rfl) (kN)
noncomputable def iY (x : Y7 × Int × Unit) : Rnd (Y7 × Int × Unit) (Bool × Unit) (Y7 × Unit) :=
(if (decide (x.2.1 < (x.1.2.2.2.1.length : Int))) then
(if inb x.2.1 x.1.2.2.2.1.length then
let v69 := (rd (dfl .note) x.1.2.2.2.1 x.2.1).fr
let v70 := (rd (dfl .note) x.1.2.2.2.1 x.2.1).nu
let v71 := (rd (dfl .note) x.1.2.2.2.1 x.2.1).to
let v72 := (rd (dfl .note) x.1.2.2.2.1 x.2.1).un
let v73 := (rd (dfl .note) x.1.2.2.2.1 x.2.1).tx
(if (decide (v72 ≤ x.1.2.1)) then
some (.inr (.inl (false, ())))
else
(kH ((v69, v70, v71, v72, v73, ()), x.1.1, ())).bind fun r74 =>
(if (!r74.1.1) then
some (.inr (.inl (false, ())))
else
(if (decide (v69 = x.1.1)) then
(if (decide (x.1.2.2.1 ≤ v70)) then
some (.inr (.inl (false, ())))
else
(bn (x.1.2.2.2.2.1, v69, v70, ())).bind fun r75 =>
(if (decide (0 ≤ r75.1.1)) then
some (.inr (.inl (false, ())))
else
some (.inl (x.1, (w64 (x.2.1 + 1)), ()))))
else
(bn (x.1.2.2.2.2.1, v69, v70, ())).bind fun r76 =>
(if (decide (0 ≤ r76.1.1)) then
some (.inr (.inl (false, ())))
else
some (.inl (x.1, (w64 (x.2.1 + 1)), ()))))))
else none)
else
some (.inr (.inr (x.1, ()))))
noncomputable def iV := aA iY
noncomputable def p9 : Loop := ⟨[(1, Z9), (3, .int .i64)], [(1, Z9)], 0, [(2, .bool)], iV⟩
theorem DG : LF Tryz.f69 [] [1, 1, 0, 1, 0, 0] p9 := lk (v := .nil) k7 (b := iY) (fun _ => by kernel_rfl) rfl (by kernel_rfl) (kN)
noncomputable def dF (x : Y7 × Unit) : Option ((Bool × Unit) × Unit) :=
(au (x.1.1, ())).bind fun r13 =>
(if (!r13.1.1) then
some ((false, ()), ())
else
(aK (x.1.2.1, 0, 999, ())).bind fun r14 =>
(if (!r14.1.1) then
some ((false, ()), ())
else
(aK (x.1.2.2.1, 1, 100, ())).bind fun r15 =>
(if (!r15.1.1) then
some ((false, ()), ())
else
(dx (x.1.2.2.2.1, 6, ())).bind fun r16 =>
(if (!r16.1.1) then
some ((false, ()), ())
else
(gi (x.1.2.2.2.2.1, ())).bind fun r17 =>
(if (!r17.1.1) then
some ((false, ()), ())
else
(dx (x.1.2.2.2.2.2.1, 6, ())).bind fun r18 =>
(if (!r18.1.1) then
some ((false, ()), ())
else
(aw (iV (x.1, 0, ()))
(fun y77 => some (y77, ()))
(fun y77 => (aw (iU (y77.1, 0, ()))
(fun y97 => some (y97, ()))
(fun y97 => (aw (iT (y97.1, 0, ()))
(fun y147 => some (y147, ()))
(fun y147 => some ((true, ()), ())))))))))))))
noncomputable def uP : Ent := (69, none, ⟨[Z10], [.bool], dF⟩)
theorem xh : SQ Tryz.prog uP := so (v := .two (.nil) (.two (.nil) (.two (.two (.nil) (.one (.loop p9))) (.two (.two (.nil) (.one (.loop p8))) (.two (.two (.nil) (.one (.loop p7))) (.nil)))))) (fn := Tryz.f69) k7 (by kernel_rfl) (by kernel_rfl) (by kernel_rfl) (kC DG (kC Dz (kC Dx (kN)))) (fun _ => by kernel_rfl)
noncomputable def Ec : Cx := cX [] [] []
theorem vg : OKC Tryz.prog Ec ac := okc mixed (am)
noncomputable def iI (x : ByteArray × Int × Unit) : Rnd (ByteArray × Int × Unit) (ByteArray × ByteArray × Unit) (ByteArray × Unit) :=
(if (decide (x.2.1 < (x.1.size : Int))) then
(if inb x.2.1 x.1.size then
(if (decide ((bt x.1 x.2.1) = 32)) then
(if (decide (0 ≤ x.2.1) && decide (x.2.1 ≤ (x.1.size : Int))) then
(if (decide (0 ≤ (w64 (x.2.1 + 1))) && decide ((w64 (x.2.1 + 1)) ≤ (x.1.size : Int))) then
let v12 := (x.1.extract (0) (Int.toNat x.2.1))
let v13 := (x.1.extract (Int.toNat (w64 (x.2.1 + 1))) (x.1.size))
some (.inr (.inl (v12, v13, ())))
else none)
else none)
else
some (.inl (x.1, (w64 (x.2.1 + 1)), ())))
else none)
else
some (.inr (.inr (x.1, ()))))
noncomputable def iH := aA iI
noncomputable def pW : Loop := ⟨[(0, .str), (4, .int .i64)], [(0, .str)], 0, [(2, .str), (3, .str)], iH⟩
theorem DC : LF Tryz.f86 [] [1, 0, 1, 0, 0] pW := lk (v := .nil) vg (b := iI) (fun _ => by kernel_rfl) rfl (by kernel_rfl) (kN)
noncomputable def b8 (x : ByteArray × Unit) : Option ((ByteArray × ByteArray × Unit) × Unit) :=
(aw (iH (x.1, 0, ()))
(fun y14 => some (y14, ()))
(fun y14 => some ((y14.1, noB, ()), ())))
noncomputable def nU : Ent := (86, none, ⟨[.str], [.str, .str], b8⟩)
theorem ng : SQ Tryz.prog nU := so (v := .two (.nil) (.two (.two (.nil) (.one (.loop pW))) (.nil))) (fn := Tryz.f86) vg (by kernel_rfl) (by kernel_rfl) (by kernel_rfl) (kC DC (kN)) (fun _ => by kernel_rfl)
noncomputable def Bi : Cx := cX [] [] []
theorem m5 : OKC Tryz.prog Bi ac := okc mixed (am)
noncomputable def gf (x : Int × Y7 × Y7 × List Note × List Mark × Int × Unit) : Rnd (Int × Y7 × Y7 × List Note × List Mark × Int × Unit) (Unit) (Int × Y7 × Y7 × List Note × List Mark × Unit) :=
(if (decide (x.2.2.2.2.2.1 < (x.2.1.2.2.2.2.1.length : Int))) then
(if inb x.2.2.2.2.2.1 x.2.1.2.2.2.2.1.length then
(if (decide (x.1 < (rd (dfl .mark) x.2.1.2.2.2.2.1 x.2.2.2.2.2.1).mu)) then
(if inb x.2.2.2.2.2.1 x.2.1.2.2.2.2.1.length then
(if dA (x.2.2.2.2.1.length + ([(rd (dfl .mark) x.2.1.2.2.2.2.1 x.2.2.2.2.2.1)] : List Mark).length) then
let v8 := (w64 (x.2.2.2.2.2.1 + 1))
some (.inl (x.1, x.2.1, x.2.2.1, x.2.2.2.1, (x.2.2.2.2.1 ++ ([(rd (dfl .mark) x.2.1.2.2.2.2.1 x.2.2.2.2.2.1)] : List Mark)), v8, ()))
else none)
else none)
else
let v9 := (w64 (x.2.2.2.2.2.1 + 1))
some (.inl (x.1, x.2.1, x.2.2.1, x.2.2.2.1, x.2.2.2.2.1, v9, ())))
else none)
else
some (.inr (.inr (x.1, x.2.1, x.2.2.1, x.2.2.2.1, x.2.2.2.2.1, ()))))
noncomputable def gV := aA gf
noncomputable def oa : Loop := ⟨[(1, .int .i64), (2, Z9), (4, Z11), (5, .row 54 .note), (7, .row 133 .mark), (8, .int .i64)], [(1, .int .i64), (2, Z9), (4, Z11), (5, .row 54 .note), (7, .row 133 .mark)], 2, [], gV⟩
theorem AP : LF Tryz.f87 [] [1, 1, 1, 1, 0, 1, 0, 0] oa := lk (v := .nil) m5 (b := gf) (fun _ => by kernel_rfl) rfl (by kernel_rfl) (kN)
noncomputable def gh (x : Int × Y7 × Y7 × List Note × Int × Unit) : Rnd (Int × Y7 × Y7 × List Note × Int × Unit) (Unit) (Int × Y7 × Y7 × List Note × Unit) :=
(if (decide (x.2.2.2.2.1 < (x.2.1.2.2.2.1.length : Int))) then
(if inb x.2.2.2.2.1 x.2.1.2.2.2.1.length then
(if (decide (x.1 < (rd (dfl .note) x.2.1.2.2.2.1 x.2.2.2.2.1).un)) then
(if inb x.2.2.2.2.1 x.2.1.2.2.2.1.length then
(if dA (x.2.2.2.1.length + ([(rd (dfl .note) x.2.1.2.2.2.1 x.2.2.2.2.1)] : List Note).length) then
some (.inl (x.1, x.2.1, x.2.2.1, (x.2.2.2.1 ++ ([(rd (dfl .note) x.2.1.2.2.2.1 x.2.2.2.2.1)] : List Note)), (w64 (x.2.2.2.2.1 + 1)), ()))
else none)
else none)
else
some (.inl (x.1, x.2.1, x.2.2.1, x.2.2.2.1, (w64 (x.2.2.2.2.1 + 1)), ())))
else none)
else
some (.inr (.inr (x.1, x.2.1, x.2.2.1, x.2.2.2.1, ()))))
noncomputable def gW := aA gh
noncomputable def oc : Loop := ⟨[(1, .int .i64), (2, Z9), (4, Z11), (5, .row 54 .note), (6, .int .i64)], [(1, .int .i64), (2, Z9), (4, Z11), (5, .row 54 .note)], 0, [], gW⟩
theorem AT : LF Tryz.f87 [] [1, 1, 0, 1, 0, 0] oc := lk (v := .nil) m5 (b := gh) (fun _ => by kernel_rfl) rfl (by kernel_rfl) (kN)
noncomputable def iM (x : Y7 × Int × Unit) : Option ((Y7 × Unit) × Unit) :=
(aw (gW (x.2.1, x.1, (0, 0, 0, ([] : List Note), ([] : List Mark), ([] : List Note), ()), ([] : List Note), 0, ()))
(fun _ => none)
(fun y2 => (aw (gV (y2.1, y2.2.1, y2.2.2.1, y2.2.2.2.1, ([] : List Mark), 0, ()))
(fun _ => none)
(fun y10 => some (((y10.2.1.1, y10.1, y10.2.1.2.2.1, y10.2.2.2.1, y10.2.2.2.2.1, y10.2.1.2.2.2.2.2), ()), ())))))
noncomputable def sg : Ent := (87, none, ⟨[Z10, .int .i64], [Z10], iM⟩)
theorem vH : SQ Tryz.prog sg := so (v := .two (.nil) (.two (.nil) (.two (.two (.nil) (.one (.loop oc))) (.two (.nil) (.two (.two (.nil) (.one (.loop oa))) (.nil)))))) (fn := Tryz.f87) m5 (by kernel_rfl) (by kernel_rfl) (by kernel_rfl) (kC AT (kC AP (kN))) (fun _ => by kernel_rfl)
noncomputable def Ed : Cx := cX [l9, nU] [] []
theorem vh : OKC Tryz.prog Ed ac := okc mixed (gC km (gC ng (am)))
noncomputable def iK (x : ByteArray × Int × List Int × Int × Unit) : Rnd (ByteArray × Int × List Int × Int × Unit) (Unit) (ByteArray × List Int × Unit) :=
(if (decide (x.2.2.2.1 < x.2.1)) then
(b8 (x.1, ())).bind fun r12 =>
(dd (r12.1.1, ())).bind fun r13 =>
(if dA (x.2.2.1.length + ([r13.1.1] : List Int).length) then
some (.inl (r12.1.2.1, x.2.1, (x.2.2.1 ++ ([r13.1.1] : List Int)), (w64 (x.2.2.2.1 + 1)), ()))
else none)
else
some (.inr (.inr (x.1, x.2.2.1, ()))))
noncomputable def iJ := aA iK
noncomputable def pX : Loop := ⟨[(0, .str), (1, .int .i64), (6, .row 3 .int), (7, .int .i64)], [(0, .str), (6, .row 3 .int)], 0, [], iJ⟩
theorem DD : LF Tryz.f92 [] [1, 1, 0, 1, 0, 0] pX := lk (v := .nil) vh (b := iK) (fun _ => by kernel_rfl) rfl (by kernel_rfl) (kN)
noncomputable def cF (x : ByteArray × Int × Unit) : Option ((List Int × ByteArray × Unit) × Unit) :=
(aw (iJ (x.1, x.2.1, ([] : List Int), 0, ()))
(fun _ => none)
(fun y14 => some ((y14.2.1, y14.1, ()), ())))
noncomputable def nV : Ent := (92, none, ⟨[.str, .int .i64], [.row 3 .int, .str], cF⟩)
theorem nh : SQ Tryz.prog nV := so (v := .two (.nil) (.two (.nil) (.two (.two (.nil) (.one (.loop pX))) (.nil)))) (fn := Tryz.f92) vh (by kernel_rfl) (by kernel_rfl) (by kernel_rfl) (kC DD (kN)) (fun _ => by kernel_rfl)
noncomputable def yt : Cx := cX [fZ, l8] [] []
theorem zV : OKC Tryz.prog yt ac := okc mixed (gC d5 (gC kj (am)))
noncomputable def cO (x : Y5 × Unit) : Option ((ByteArray × Unit) × Unit) :=
(b9 x).bind fun r2 =>
(if (!r2.1.1) then
some ((noB, ()), ())
else
(ap (x.1.1, ())).bind fun r3 =>
(if decide (r3.1.1.size + (B [32]).size ≤ 4611686018427387904) then
(ap (x.1.2.1, ())).bind fun r4 =>
(if decide ((r3.1.1 ++ (B [32])).size + r4.1.1.size ≤ 4611686018427387904) then
(if decide (((r3.1.1 ++ (B [32])) ++ r4.1.1).size + (B [32]).size ≤ 4611686018427387904) then
(ap (x.1.2.2.1, ())).bind fun r5 =>
(if decide ((((r3.1.1 ++ (B [32])) ++ r4.1.1) ++ (B [32])).size + r5.1.1.size ≤ 4611686018427387904) then
(if decide (((((r3.1.1 ++ (B [32])) ++ r4.1.1) ++ (B [32])) ++ r5.1.1).size + (B [32]).size ≤ 4611686018427387904) then
(ap (x.1.2.2.2.1, ())).bind fun r6 =>
(if decide ((((((r3.1.1 ++ (B [32])) ++ r4.1.1) ++ (B [32])) ++ r5.1.1) ++ (B [32])).size + r6.1.1.size ≤ 4611686018427387904) then
(if decide (((((((r3.1.1 ++ (B [32])) ++ r4.1.1) ++ (B [32])) ++ r5.1.1) ++ (B [32])) ++ r6.1.1).size + (B [32]).size ≤ 4611686018427387904) then
(if decide ((((((((r3.1.1 ++ (B [32])) ++ r4.1.1) ++ (B [32])) ++ r5.1.1) ++ (B [32])) ++ r6.1.1) ++ (B [32])).size + x.1.2.2.2.2.1.size ≤ 4611686018427387904) then
let v7 := ((((((((r3.1.1 ++ (B [32])) ++ r4.1.1) ++ (B [32])) ++ r5.1.1) ++ (B [32])) ++ r6.1.1) ++ (B [32])) ++ x.1.2.2.2.2.1)
some ((v7, ()), ())
else none)
else none)
else none)
else none)
else none)
else none)
else none)
else none))
noncomputable def oT : Ent := (103, none, ⟨[Z5], [.str], cO⟩)
theorem re : SQ Tryz.prog oT := so (v := .nil) (fn := Tryz.f103) zV (by kernel_rfl) (by kernel_rfl) (by kernel_rfl) (kN) (fun _ => by kernel_rfl)
noncomputable def zB : Cx := cX [nV, oT] [] [(29, 32)]
theorem BV : OKC Tryz.prog zB ac := okc mixed (gC nh (gC re (am)))
noncomputable def cm (x : ByteArray × Unit) : Option ((Y5 × Bool × Unit) × Unit) :=
(cF (x.1, 4, ())).bind fun r1 =>
(if inb 0 r1.1.1.length then
(if inb 1 r1.1.1.length then
(if inb 2 r1.1.1.length then
(if inb 3 r1.1.1.length then
(if (aE (!(decide (x.1 = noB))) ((cO (((rd (dfl .int) r1.1.1 0), (rd (dfl .int) r1.1.1 1), (rd (dfl .int) r1.1.1 2), (rd (dfl .int) r1.1.1 3), r1.1.2), ())).isSome)) then
(if ((decide (x.1 = noB)) || (!decide (((cO (((rd (dfl .int) r1.1.1 0), (rd (dfl .int) r1.1.1 1), (rd (dfl .int) r1.1.1 2), (rd (dfl .int) r1.1.1 3), r1.1.2), ())).getD ((noB, ()), ())).1.1 = x.1))) then
some (((0, 0, 0, 0, noB, ()), false, ()), ())
else
some ((((rd (dfl .int) r1.1.1 0), (rd (dfl .int) r1.1.1 1), (rd (dfl .int) r1.1.1 2), (rd (dfl .int) r1.1.1 3), r1.1.2), true, ()), ()))
else none)
else none)
else none)
else none)
else none)
noncomputable def qx : Ent := (88, none, ⟨[.str], [Z5, .bool], cm⟩)
theorem tU : SQ Tryz.prog qx := so (v := .nil) (fn := Tryz.f88) BV (by kernel_rfl) (by kernel_rfl) (by kernel_rfl) (kN) (fun _ => by kernel_rfl)
noncomputable def wM : Cx := cX [eY] [] [(18, 32)]
theorem nH : OKC Tryz.prog wM ac := okc mixed (gC dg (am))
noncomputable def de (x : List Note × Y5 × List Note × Bool × Int × Unit) : Rnd (List Note × Y5 × List Note × Bool × Int × Unit) (Unit) (Y5 × List Note × Bool × Unit) :=
(if (decide (x.2.2.2.2.1 < (x.1.length : Int))) then
(fH (X := List Note × Y5 × List Note × Bool × Int × Unit) (fun j7 =>
(if inb j7.2.2.2.2.1 j7.1.length then
(if dA (j7.2.2.1.length + ([(rd (dfl .note) j7.1 j7.2.2.2.2.1)] : List Note).length) then
some (.inl (j7.1, j7.2.1, (j7.2.2.1 ++ ([(rd (dfl .note) j7.1 j7.2.2.2.2.1)] : List Note)), j7.2.2.2.1, (w64 (j7.2.2.2.2.1 + 1)), ()))
else none)
else none))
((if (aE (!x.2.2.2.1) (inb x.2.2.2.2.1 x.1.length)) then
(if (aE (!x.2.2.2.1) (inb x.2.2.2.2.1 x.1.length)) then
(if (aE (!x.2.2.2.1) ((bo (x.2.1.1, x.2.1.2.1, (rd (dfl .note) x.1 x.2.2.2.2.1).fr, (rd (dfl .note) x.1 x.2.2.2.2.1).nu, ())).isSome)) then
(if ((!x.2.2.2.1) && (((bo (x.2.1.1, x.2.1.2.1, (rd (dfl .note) x.1 x.2.2.2.2.1).fr, (rd (dfl .note) x.1 x.2.2.2.2.1).nu, ())).getD ((false, ()), ())).1.1)) then
(if dA (x.2.2.1.length + ([(Note.mk x.2.1.1 x.2.1.2.1 x.2.1.2.2.1 x.2.1.2.2.2.1 x.2.1.2.2.2.2.1)] : List Note).length) then
some (.inr (x.1, x.2.1, (x.2.2.1 ++ ([(Note.mk x.2.1.1 x.2.1.2.1 x.2.1.2.2.1 x.2.1.2.2.2.1 x.2.1.2.2.2.2.1)] : List Note)), true, x.2.2.2.2))
else none)
else
some (.inr x))
else none)
else none)
else none)))
else
some (.inr (.inr (x.2.1, x.2.2.1, x.2.2.2.1, ()))))
noncomputable def dM := aA de
noncomputable def lE : Loop := ⟨[(0, .sl .note), (3, Z8), (5, .row 54 .note), (6, .bool), (7, .int .i64)], [(3, Z8), (5, .row 54 .note), (6, .bool)], 0, [], dM⟩
theorem ww : LF Tryz.f91 [] [1, 1, 1, 0, 1, 0, 0] lE := lk (v := .two (.nil) (.two (.one (.join [(0, .sl .note), (3, Z8), (5, .row 54 .note), (6, .bool), (7, .int .i64)] (.nil) (.nil))) (.nil))) nH (b := de) (fun _ => by kernel_rfl) rfl (by kernel_rfl) (kN)
noncomputable def bm (x : List Note × Y5 × Unit) : Option ((List Note × Unit) × Unit) :=
(aw (dM (x.1, x.2.1, ([] : List Note), false, 0, ()))
(fun _ => none)
(fun y8 => (if (!y8.2.2.1) then
(if dA (y8.2.1.length + ([(Note.mk y8.1.1 y8.1.2.1 y8.1.2.2.1 y8.1.2.2.2.1 y8.1.2.2.2.2.1)] : List Note).length) then
some (((y8.2.1 ++ ([(Note.mk y8.1.1 y8.1.2.1 y8.1.2.2.1 y8.1.2.2.2.1 y8.1.2.2.2.2.1)] : List Note)), ()), ())
else none)
else
some ((y8.2.1, ()), ()))))
noncomputable def jX : Ent := (91, none, ⟨[.fz .note, Z5], [.row 54 .note], bm⟩)
theorem kg : SQ Tryz.prog jX := so (v := .two (.nil) (.two (.nil) (.two (.nil) (.two (.two (.nil) (.one (.loop lE))) (.nil))))) (fn := Tryz.f91) nH (by kernel_rfl) (by kernel_rfl) (by kernel_rfl) (kC ww (kN)) (fun _ => by kernel_rfl)
noncomputable def wN : Cx := cX [eY] [] [(18, 32)]
theorem nI : OKC Tryz.prog wN ac := okc mixed (gC dg (am))
noncomputable def df (x : List Mark × Y8 × List Mark × Bool × Int × Unit) : Rnd (List Mark × Y8 × List Mark × Bool × Int × Unit) (Unit) (Y8 × List Mark × Bool × Unit) :=
(if (decide (x.2.2.2.2.1 < (x.1.length : Int))) then
(fH (X := List Mark × Y8 × List Mark × Bool × Int × Unit) (fun j7 =>
(if inb j7.2.2.2.2.1 j7.1.length then
(if dA (j7.2.2.1.length + ([(rd (dfl .mark) j7.1 j7.2.2.2.2.1)] : List Mark).length) then
some (.inl (j7.1, j7.2.1, (j7.2.2.1 ++ ([(rd (dfl .mark) j7.1 j7.2.2.2.2.1)] : List Mark)), j7.2.2.2.1, (w64 (j7.2.2.2.2.1 + 1)), ()))
else none)
else none))
((if (aE (!x.2.2.2.1) (inb x.2.2.2.2.1 x.1.length)) then
(if (aE (!x.2.2.2.1) (inb x.2.2.2.2.1 x.1.length)) then
(if (aE (!x.2.2.2.1) ((bo (x.2.1.1, x.2.1.2.1, (rd (dfl .mark) x.1 x.2.2.2.2.1).mf, (rd (dfl .mark) x.1 x.2.2.2.2.1).mn, ())).isSome)) then
(if ((!x.2.2.2.1) && (((bo (x.2.1.1, x.2.1.2.1, (rd (dfl .mark) x.1 x.2.2.2.2.1).mf, (rd (dfl .mark) x.1 x.2.2.2.2.1).mn, ())).getD ((false, ()), ())).1.1)) then
(if dA (x.2.2.1.length + ([(Mark.mk x.2.1.1 x.2.1.2.1 x.2.1.2.2.1)] : List Mark).length) then
some (.inr (x.1, x.2.1, (x.2.2.1 ++ ([(Mark.mk x.2.1.1 x.2.1.2.1 x.2.1.2.2.1)] : List Mark)), true, x.2.2.2.2))
else none)
else
some (.inr x))
else none)
else none)
else none)))
else
some (.inr (.inr (x.2.1, x.2.2.1, x.2.2.2.1, ()))))
noncomputable def dO := aA df
noncomputable def lF : Loop := ⟨[(0, .sl .mark), (3, Z12), (5, .row 133 .mark), (6, .bool), (7, .int .i64)], [(3, Z12), (5, .row 133 .mark), (6, .bool)], 0, [], dO⟩
theorem wx : LF Tryz.f95 [] [1, 1, 1, 0, 1, 0, 0] lF := lk (v := .two (.nil) (.two (.one (.join [(0, .sl .mark), (3, Z12), (5, .row 133 .mark), (6, .bool), (7, .int .i64)] (.nil) (.nil))) (.nil))) nI (b := df) (fun _ => by kernel_rfl) rfl (by kernel_rfl) (kN)
noncomputable def bP (x : List Mark × Y8 × Unit) : Option ((List Mark × Unit) × Unit) :=
(aw (dO (x.1, x.2.1, ([] : List Mark), false, 0, ()))
(fun _ => none)
(fun y8 => (if (!y8.2.2.1) then
(if dA (y8.2.1.length + ([(Mark.mk y8.1.1 y8.1.2.1 y8.1.2.2.1)] : List Mark).length) then
some (((y8.2.1 ++ ([(Mark.mk y8.1.1 y8.1.2.1 y8.1.2.2.1)] : List Mark)), ()), ())
else none)
else
some ((y8.2.1, ()), ()))))
noncomputable def em : Ent := (95, none, ⟨[.fz .mark, Z13], [.row 133 .mark], bP⟩)
theorem dN : SQ Tryz.prog em := so (v := .two (.nil) (.two (.nil) (.two (.nil) (.two (.two (.nil) (.one (.loop lF))) (.nil))))) (fn := Tryz.f95) nI (by kernel_rfl) (by kernel_rfl) (by kernel_rfl) (kC wx (kN)) (fun _ => by kernel_rfl)
noncomputable def Bm : Cx := cX [] [] [(22, 28)]
theorem sV : OKC Tryz.prog Bm ac := okc mixed (am)
noncomputable def gk (x : List Note × Int × Int × Int × Unit) : Rnd (List Note × Int × Int × Int × Unit) (Int × Unit) (Unit) :=
(if (decide (x.2.2.2.1 < (x.1.length : Int))) then
(if inb x.2.2.2.1 x.1.length then
(if (aE (decide ((rd (dfl .note) x.1 x.2.2.2.1).fr = x.2.1)) (inb x.2.2.2.1 x.1.length)) then
(if ((decide ((rd (dfl .note) x.1 x.2.2.2.1).fr = x.2.1)) && (decide ((rd (dfl .note) x.1 x.2.2.2.1).nu = x.2.2.1))) then
some (.inr (.inl x.2.2.2))
else
some (.inl (x.1, x.2.1, x.2.2.1, (w64 (x.2.2.2.1 + 1)), ())))
else none)
else none)
else
some (.inr (.inr ())))
noncomputable def gZ := aA gk
noncomputable def oe : Loop := ⟨[(0, .sl .note), (1, .int .i64), (2, .int .i64), (7, .int .i64)], [], 0, [(6, .int .i64)], gZ⟩
theorem AW : LF Tryz.f90 [] [1, 0, 1, 0, 0] oe := lk (v := .nil) sV (b := gk) (fun _ => by kernel_rfl) rfl (by kernel_rfl) (kN)
noncomputable def aB (x : List Note × Int × Int × Unit) : Option ((Int × Unit) × Unit) :=
(aw (gZ (x.1, x.2.1, x.2.2.1, 0, ()))
(fun y2 => some (y2, ()))
(fun y2 => some (((-1), ()), ())))
noncomputable def eZ : Ent := (90, none, ⟨[.fz .note, .int .i64, .int .i64], [.int .i64], aB⟩)
theorem dh : SQ Tryz.prog eZ := so (v := .two (.nil) (.two (.two (.nil) (.one (.loop oe))) (.nil))) (fn := Tryz.f90) sV (by kernel_rfl) (by kernel_rfl) (by kernel_rfl) (kC AW (kN)) (fun _ => by kernel_rfl)
noncomputable def zA : Cx := cX [fZ, jY, eZ] [] [(35, 42)]
theorem BU : OKC Tryz.prog zA ac := okc mixed (gC d5 (gC gX (gC dh (am))))
noncomputable def gn (x : Y7 × Y5 × Unit) : Option ((Bool × Unit) × Unit) :=
(b9 x.2).bind fun r5 =>
(if r5.1.1 then
(if (decide (x.1.2.1 < x.2.1.2.2.2.1)) then
(aB (x.1.2.2.2.1, x.2.1.1, x.2.1.2.1, ())).bind fun r6 =>
(if (decide (r6.1.1 < 0)) then
(bn (x.1.2.2.2.2.1, x.2.1.1, x.2.1.2.1, ())).bind fun r7 =>
(if (aE (decide (r7.1.1 < 0)) ((aB (x.1.2.2.2.2.2.1, x.2.1.1, x.2.1.2.1, ())).isSome)) then
let v8 := ((decide (r7.1.1 < 0)) && (decide (((aB (x.1.2.2.2.2.2.1, x.2.1.1, x.2.1.2.1, ())).getD ((0, ()), ())).1.1 < 0)))
some ((v8, ()), ())
else none)
else
(if (aE false ((aB (x.1.2.2.2.2.2.1, x.2.1.1, x.2.1.2.1, ())).isSome)) then
some ((false, ()), ())
else none))
else
(if (aE false ((aB (x.1.2.2.2.2.2.1, x.2.1.1, x.2.1.2.1, ())).isSome)) then
some ((false, ()), ())
else none))
else
(if (aE false ((aB (x.1.2.2.2.2.2.1, x.2.1.1, x.2.1.2.1, ())).isSome)) then
some ((false, ()), ())
else none))
noncomputable def qw : Ent := (104, none, ⟨[Z10, Z5], [.bool], gn⟩)
theorem tT : SQ Tryz.prog qw := so (v := .nil) (fn := Tryz.f104) BU (by kernel_rfl) (by kernel_rfl) (by kernel_rfl) (kN) (fun _ => by kernel_rfl)
noncomputable def Bj : Cx := cX [jX, em, qw] [] []
theorem ER : OKC Tryz.prog Bj ac := okc mixed (gC kg (gC dN (gC tT (am))))
noncomputable def ez (x : Y7 × Y5 × Unit) : Option ((Y7 × Bool × Unit) × Unit) :=
(gn x).bind fun r2 =>
(if (!r2.1.1) then
some ((x.1, false, ()), ())
else
(if (!decide (x.2.1.2.2.1 = x.1.1)) then
(bm (x.1.2.2.2.1, x.2)).bind fun r5 =>
let v6 := (decide ((w64 ((r5.1.1.length : Int) + (x.1.2.2.2.2.1.length : Int))) ≤ 12))
some (((x.1.1, x.1.2.1, x.1.2.2.1, r5.1.1, x.1.2.2.2.2), v6, ()), ())
else
(bm (x.1.2.2.2.2.2.1, x.2)).bind fun r7 =>
(bP (x.1.2.2.2.2.1, (x.2.1.1, x.2.1.2.1, x.2.1.2.2.2.1, ()), ())).bind fun r8 =>
let v9 := (decide ((w64 ((x.1.2.2.2.1.length : Int) + (r8.1.1.length : Int))) ≤ 12))
some (((x.1.1, x.1.2.1, x.1.2.2.1, x.1.2.2.2.1, r8.1.1, r7.1), v9, ()), ())))
noncomputable def si : Ent := (89, none, ⟨[Z10, Z5], [Z10, .bool], ez⟩)
theorem vI : SQ Tryz.prog si := so (v := .nil) (fn := Tryz.f89) ER (by kernel_rfl) (by kernel_rfl) (by kernel_rfl) (kN) (fun _ => by kernel_rfl)
noncomputable def Eh : Cx := cX [eZ, em] [] []
theorem Gc : OKC Tryz.prog Eh ac := okc mixed (gC dh (gC dN (am)))
noncomputable def kI (x : Y7 × Int × Int × Unit) : Option ((Y7 × Bool × Unit) × Unit) :=
(aB (x.1.2.2.2.1, x.2)).bind fun r1 =>
(if (decide (r1.1.1 < 0)) then
some ((x.1, false, ()), ())
else
(if inb r1.1.1 x.1.2.2.2.1.length then
let v2 := (rd (dfl .note) x.1.2.2.2.1 r1.1.1).fr
let v3 := (rd (dfl .note) x.1.2.2.2.1 r1.1.1).nu
let v4 := (rd (dfl .note) x.1.2.2.2.1 r1.1.1).to
let v5 := (rd (dfl .note) x.1.2.2.2.1 r1.1.1).un
let v6 := (rd (dfl .note) x.1.2.2.2.1 r1.1.1).tx
(if (decide (0 ≤ r1.1.1) && decide (r1.1.1 ≤ (x.1.2.2.2.1.length : Int))) then
(if dA (([] : List Note).length + (List.take (Int.toNat r1.1.1) x.1.2.2.2.1).length) then
(if (decide (0 ≤ (w64 (r1.1.1 + 1))) && decide ((w64 (r1.1.1 + 1)) ≤ (x.1.2.2.2.1.length : Int))) then
(if dA ((([] : List Note) ++ (List.take (Int.toNat r1.1.1) x.1.2.2.2.1)).length + (List.drop (Int.toNat (w64 (r1.1.1 + 1))) x.1.2.2.2.1).length) then
(bP (x.1.2.2.2.2.1, (x.2.1, x.2.2.1, v5, ()), ())).bind fun r7 =>
some (((x.1.1, x.1.2.1, x.1.2.2.1, ((([] : List Note) ++ (List.take (Int.toNat r1.1.1) x.1.2.2.2.1)) ++ (List.drop (Int.toNat (w64 (r1.1.1 + 1))) x.1.2.2.2.1)), r7.1.1, x.1.2.2.2.2.2), true, ()), ())
else none)
else none)
else none)
else none)
else none))
noncomputable def uM : Ent := (93, none, ⟨[Z10, .int .i64, .int .i64], [Z10, .bool], kI⟩)
theorem xd : SQ Tryz.prog uM := so (v := .nil) (fn := Tryz.f93) Gc (by kernel_rfl) (by kernel_rfl) (by kernel_rfl) (kN) (fun _ => by kernel_rfl)
noncomputable def Ei : Cx := cX [eZ] [] []
theorem Gd : OKC Tryz.prog Ei ac := okc mixed (gC dh (am))
noncomputable def kJ (x : Y7 × Int × Int × Unit) : Option ((Y7 × Bool × Unit) × Unit) :=
(aB (x.1.2.2.2.2.2.1, x.2)).bind fun r1 =>
(if (decide (r1.1.1 < 0)) then
some ((x.1, false, ()), ())
else
(if (decide (0 ≤ r1.1.1) && decide (r1.1.1 ≤ (x.1.2.2.2.2.2.1.length : Int))) then
(if dA (([] : List Note).length + (List.take (Int.toNat r1.1.1) x.1.2.2.2.2.2.1).length) then
(if (decide (0 ≤ (w64 (r1.1.1 + 1))) && decide ((w64 (r1.1.1 + 1)) ≤ (x.1.2.2.2.2.2.1.length : Int))) then
(if dA ((([] : List Note) ++ (List.take (Int.toNat r1.1.1) x.1.2.2.2.2.2.1)).length + (List.drop (Int.toNat (w64 (r1.1.1 + 1))) x.1.2.2.2.2.2.1).length) then
some (((x.1.1, x.1.2.1, x.1.2.2.1, x.1.2.2.2.1, x.1.2.2.2.2.1, ((([] : List Note) ++ (List.take (Int.toNat r1.1.1) x.1.2.2.2.2.2.1)) ++ (List.drop (Int.toNat (w64 (r1.1.1 + 1))) x.1.2.2.2.2.2.1)), ()), true, ()), ())
else none)
else none)
else none)
else none))
noncomputable def uN : Ent := (94, none, ⟨[Z10, .int .i64, .int .i64], [Z10, .bool], kJ⟩)
theorem xe : SQ Tryz.prog uN := so (v := .nil) (fn := Tryz.f94) Gd (by kernel_rfl) (by kernel_rfl) (by kernel_rfl) (kN) (fun _ => by kernel_rfl)
noncomputable def Eg : Cx := cX [l9, l8, jY, nU, sg, qx, si, eZ, jX, nV, uM, uN, em] [] [(81, 85), (157, 174), (192, 201), (228, 237)]
theorem Gb : OKC Tryz.prog Eg ac := okc mixed (gC km (gC kj (gC gX (gC ng (gC vH (gC tU (gC vI (gC dh (gC kg (gC nh (gC xd (gC xe (gC dN (am))))))))))))))
noncomputable def fP (x : Y7 × ByteArray × Unit) : Option ((Y7 × Bool × Unit) × Unit) :=
(b8 x.2).bind fun r1 =>
let v29 := (decide (r1.1.1 = (B [116, 105, 109, 101])))
(if v29 then
(dd r1.1.2).bind fun r30 =>
(if (decide (r30.1.1 ≤ x.1.2.1)) then
some ((x.1, false, ()), ())
else
(iM (x.1, r30.1)).bind fun r31 =>
some ((r31.1.1, true, ()), ()))
else
let v32 := (decide (r1.1.1 = (B [111, 119, 110])))
(if v32 then
(cm r1.1.2).bind fun r33 =>
(if (!r33.1.2.1) then
some ((x.1, false, ()), ())
else
(if (!decide (r33.1.1.1 = x.1.1)) then
some ((x.1, false, ()), ())
else
(if (!decide (r33.1.1.2.1 = x.1.2.2.1)) then
some ((x.1, false, ()), ())
else
(ez ((x.1.1, x.1.2.1, (w64 (x.1.2.2.1 + 1)), x.1.2.2.2), r33.1.1, ())).bind fun r34 =>
some (r34.1, ()))))
else
let v35 := (decide (r1.1.1 = (B [116, 97, 107, 101])))
(if v35 then
(cm r1.1.2).bind fun r36 =>
(if ((!r36.1.2.1) || (decide (r36.1.1.1 = x.1.1))) then
some ((x.1, false, ()), ())
else
(ez (x.1, r36.1.1, ())).bind fun r37 =>
some (r37.1, ()))
else
let v38 := (decide (r1.1.1 = (B [110, 101, 120, 116])))
(if v38 then
(dd r1.1.2).bind fun r39 =>
(if (decide (r39.1.1 ≤ x.1.2.2.1)) then
some ((x.1, false, ()), ())
else
some (((x.1.1, x.1.2.1, r39.1.1, x.1.2.2.2), true, ()), ()))
else
(fH (X := Y7 × Y7 × ByteArray × ByteArray × Bool × Unit) (fun j40 =>
(if j40.2.2.2.2.1 then
(cm (j40.2.2.2.1, ())).bind fun r43 =>
(if (!r43.1.2.1) then
some ((j40.1, false, ()), ())
else
(aB (j40.1.2.2.2.1, r43.1.1.1, r43.1.1.2.1, ())).bind fun r44 =>
(if (decide (0 ≤ r44.1.1)) then
some ((j40.1, false, ()), ())
else
(aB (j40.1.2.2.2.2.2.1, r43.1.1.1, r43.1.1.2.1, ())).bind fun r45 =>
(if (decide (0 ≤ r45.1.1)) then
some ((j40.1, false, ()), ())
else
(if (decide (j40.2.2.1 = (B [104, 101, 108, 100]))) then
(bm (j40.1.2.2.2.1, r43.1.1, ())).bind fun r46 =>
some (((j40.1.1, j40.1.2.1, j40.1.2.2.1, r46.1.1, j40.1.2.2.2.2), true, ()), ())
else
(bm (j40.1.2.2.2.2.2.1, r43.1.1, ())).bind fun r47 =>
some (((j40.1.1, j40.1.2.1, j40.1.2.2.1, j40.1.2.2.2.1, j40.1.2.2.2.2.1, r47.1), true, ()), ())))))
else
(cF (j40.2.2.2.1, 3, ())).bind fun r48 =>
(if (aE (!(!decide (r48.1.2.1 = noB))) (inb 0 r48.1.1.length)) then
(if (aE (!(!decide (r48.1.2.1 = noB))) ((ap ((rd (dfl .int) r48.1.1 0), ())).isSome)) then
(if (aE (!(!decide (r48.1.2.1 = noB))) (decide ((((ap ((rd (dfl .int) r48.1.1 0), ())).getD ((noB, ()), ())).1.1).size + (B [32]).size ≤ 4611686018427387904))) then
(if (aE (!(!decide (r48.1.2.1 = noB))) (inb 1 r48.1.1.length)) then
(if (aE (!(!decide (r48.1.2.1 = noB))) ((ap ((rd (dfl .int) r48.1.1 1), ())).isSome)) then
(if (aE (!(!decide (r48.1.2.1 = noB))) (decide (((((ap ((rd (dfl .int) r48.1.1 0), ())).getD ((noB, ()), ())).1.1) ++ (B [32])).size + (((ap ((rd (dfl .int) r48.1.1 1), ())).getD ((noB, ()), ())).1.1).size ≤ 4611686018427387904))) then
(if (aE (!(!decide (r48.1.2.1 = noB))) (decide ((((((ap ((rd (dfl .int) r48.1.1 0), ())).getD ((noB, ()), ())).1.1) ++ (B [32])) ++ (((ap ((rd (dfl .int) r48.1.1 1), ())).getD ((noB, ()), ())).1.1)).size + (B [32]).size ≤ 4611686018427387904))) then
(if (aE (!(!decide (r48.1.2.1 = noB))) (inb 2 r48.1.1.length)) then
(if (aE (!(!decide (r48.1.2.1 = noB))) ((ap ((rd (dfl .int) r48.1.1 2), ())).isSome)) then
(if (aE (!(!decide (r48.1.2.1 = noB))) (decide (((((((ap ((rd (dfl .int) r48.1.1 0), ())).getD ((noB, ()), ())).1.1) ++ (B [32])) ++ (((ap ((rd (dfl .int) r48.1.1 1), ())).getD ((noB, ()), ())).1.1)) ++ (B [32])).size + (((ap ((rd (dfl .int) r48.1.1 2), ())).getD ((noB, ()), ())).1.1).size ≤ 4611686018427387904))) then
(if ((!decide (r48.1.2.1 = noB)) || (!decide (j40.2.2.2.1 = (((((((ap ((rd (dfl .int) r48.1.1 0), ())).getD ((noB, ()), ())).1.1) ++ (B [32])) ++ (((ap ((rd (dfl .int) r48.1.1 1), ())).getD ((noB, ()), ())).1.1)) ++ (B [32])) ++ (((ap ((rd (dfl .int) r48.1.1 2), ())).getD ((noB, ()), ())).1.1))))) then
some ((j40.1, false, ()), ())
else
let v59 := (decide (j40.2.2.1 = (B [108, 101, 116])))
(if v59 then
(if inb 0 r48.1.1.length then
(if inb 1 r48.1.1.length then
(aB (j40.1.2.2.2.1, (rd (dfl .int) r48.1.1 0), (rd (dfl .int) r48.1.1 1), ())).bind fun r60 =>
(if (aE (!(decide (r60.1.1 < 0))) (inb r60.1.1 j40.1.2.2.2.1.length)) then
(if (aE (!(decide (r60.1.1 < 0))) (inb 2 r48.1.1.length)) then
(if ((decide (r60.1.1 < 0)) || (!decide ((rd (dfl .note) j40.1.2.2.2.1 r60.1.1).un = (rd (dfl .int) r48.1.1 2)))) then
some ((j40.1, false, ()), ())
else
(if inb 0 r48.1.1.length then
(if inb 1 r48.1.1.length then
(kI (j40.1, (rd (dfl .int) r48.1.1 0), (rd (dfl .int) r48.1.1 1), ())).bind fun r61 =>
some (r61.1, ())
else none)
else none))
else none)
else none)
else none)
else none)
else
let v62 := (decide (j40.2.2.1 = (B [101, 97, 116])))
(if v62 then
(if inb 0 r48.1.1.length then
(if inb 1 r48.1.1.length then
(aB (j40.1.2.2.2.2.2.1, (rd (dfl .int) r48.1.1 0), (rd (dfl .int) r48.1.1 1), ())).bind fun r63 =>
(if (aE (!(decide (r63.1.1 < 0))) (inb r63.1.1 j40.1.2.2.2.2.2.1.length)) then
(if (aE (!(decide (r63.1.1 < 0))) (inb 2 r48.1.1.length)) then
(if ((decide (r63.1.1 < 0)) || (!decide ((rd (dfl .note) j40.1.2.2.2.2.2.1 r63.1.1).un = (rd (dfl .int) r48.1.1 2)))) then
some ((j40.1, false, ()), ())
else
(if inb 0 r48.1.1.length then
(if inb 1 r48.1.1.length then
(kJ (j40.1, (rd (dfl .int) r48.1.1 0), (rd (dfl .int) r48.1.1 1), ())).bind fun r64 =>
some (r64.1, ())
else none)
else none))
else none)
else none)
else none)
else none)
else
let v65 := (decide (j40.2.2.1 = (B [109, 97, 114, 107])))
(if v65 then
(if inb 0 r48.1.1.length then
(if inb 1 r48.1.1.length then
(bn (j40.1.2.2.2.2.1, (rd (dfl .int) r48.1.1 0), (rd (dfl .int) r48.1.1 1), ())).bind fun r66 =>
(if (decide (0 ≤ r66.1.1)) then
some ((j40.1, false, ()), ())
else
(if inb 0 r48.1.1.length then
(if inb 1 r48.1.1.length then
(if inb 2 r48.1.1.length then
(bP (j40.1.2.2.2.2.1, ((rd (dfl .int) r48.1.1 0), (rd (dfl .int) r48.1.1 1), (rd (dfl .int) r48.1.1 2), ()), ())).bind fun r67 =>
some (((j40.1.1, j40.1.2.1, j40.1.2.2.1, j40.1.2.2.2.1, r67.1.1, j40.1.2.2.2.2.2), true, ()), ())
else none)
else none)
else none))
else none)
else none)
else
some ((j40.1, false, ()), ())))))
else none)
else none)
else none)
else none)
else none)
else none)
else none)
else none)
else none)
else none)))
(let v41 := (decide (r1.1.1 = (B [104, 101, 108, 100])))
(if v41 then
some (.inr (x.1, (0, 0, 0, ([] : List Note), ([] : List Mark), ([] : List Note), ()), r1.1.1, r1.1.2.1, v41, ()))
else
let v42 := (decide (r1.1.1 = (B [105, 110, 98, 111, 120])))
some (.inr (x.1, (0, 0, 0, ([] : List Note), ([] : List Mark), ([] : List Note), ()), r1.1.1, r1.1.2.1, v42, ())))))))))
noncomputable def uL : Ent := (70, none, ⟨[Z10, .str], [Z10, .bool], fP⟩)
theorem xc : SQ Tryz.prog uL := so (v := .two (.nil) (.two (.nil) (.two (.two (.nil) (.one (.two (.nil) (.two (.nil) (.two (.nil) (.two (.nil) (.two (.nil) (.two (.nil) (.two (.nil) (.two (.nil) (.join [(2, Z9), (4, Z11), (6, .str), (7, .str), (105, .bool)] (.nil) (.nil)))))))))))) (.nil)))) (fn := Tryz.f70) Gb (by kernel_rfl) (by kernel_rfl) (by kernel_rfl) (kN) (fun _ => by kernel_rfl)
noncomputable def Bn : Cx := cX [] [] []
theorem ET : OKC Tryz.prog Bn ac := okc mixed (am)
noncomputable def cN (x : Y7 × Unit) : Option ((Y7 × Unit) × Unit) :=
(if dA (([] : List Note).length + x.1.2.2.2.1.length) then
(if dA (([] : List Mark).length + x.1.2.2.2.2.1.length) then
(if dA (([] : List Note).length + x.1.2.2.2.2.2.1.length) then
some (((x.1.1, x.1.2.1, x.1.2.2.1, (([] : List Note) ++ x.1.2.2.2.1), (([] : List Mark) ++ x.1.2.2.2.2.1), (([] : List Note) ++ x.1.2.2.2.2.2.1), ()), ()), ())
else none)
else none)
else none)
noncomputable def sj : Ent := (71, none, ⟨[Z10], [Z7], cN⟩)
theorem vJ : SQ Tryz.prog sj := so (v := .nil) (fn := Tryz.f71) ET (by kernel_rfl) (by kernel_rfl) (by kernel_rfl) (kN) (fun _ => by kernel_rfl)
noncomputable def En : Cx := cX [uP, uL, sj] [] [(22, 24)]
theorem Ge : OKC Tryz.prog En ac := okc mixed (gC xh (gC xc (gC vJ (am))))
noncomputable def kL (x : Y7 × ByteArray × Unit) : Option ((Y7 × Bool × Unit) × Unit) :=
(dF (x.1, ())).bind fun r2 =>
(if (!r2.1.1) then
some (((0, 0, 0, ([] : List Note), ([] : List Mark), ([] : List Note), ()), false, ()), ())
else
(cN (x.1, ())).bind fun r3 =>
(fP (r3.1.1, x.2)).bind fun r4 =>
(if (aE (!(!r4.1.2.1)) ((dF (r4.1.1, ())).isSome)) then
(if ((!r4.1.2.1) || (!(((dF (r4.1.1, ())).getD ((false, ()), ())).1.1))) then
(cN (x.1, ())).bind fun r6 =>
some ((r6.1.1, false, ()), ())
else
(cN (r4.1.1, ())).bind fun r7 =>
some ((r7.1.1, true, ()), ()))
else none))
noncomputable def uQ : Ent := (54, none, ⟨[Z10, .str], [Z7, .bool], kL⟩)
theorem xi : SQ Tryz.prog uQ := so (v := .nil) (fn := Tryz.f54) Ge (by kernel_rfl) (by kernel_rfl) (by kernel_rfl) (kN) (fun _ => by kernel_rfl)
noncomputable def Em : Cx := cX [aT, oU, uQ] [] []
theorem vk : OKC Tryz.prog Em ac := okc mixed (gC aL (gC rf (gC xi (am))))
noncomputable def eD (x : List ByteArray × Y7 × Y7 × Int × Unit) : Rnd (List ByteArray × Y7 × Y7 × Int × Unit) (Y7 × Bool × Unit) (Y7 × Y7 × Unit) :=
(if (decide (x.2.2.2.1 < (x.1.length : Int))) then
(if inb x.2.2.2.1 x.1.length then
(kL (x.2.2.1, (rd (dfl .str) x.1 x.2.2.2.1), ())).bind fun r10 =>
(if (!r10.1.2.1) then
some (.inr (.inl ((0, 0, 0, ([] : List Note), ([] : List Mark), ([] : List Note), ()), false, ())))
else
some (.inl (x.1, x.2.1, r10.1.1, (w64 (x.2.2.2.1 + 1)), ())))
else none)
else
some (.inr (.inr (x.2.1, x.2.2.1, ()))))
noncomputable def iZ := aA eD
noncomputable def qa : Loop := ⟨[(1, .sl .str), (4, Z11), (6, Z11), (7, .int .i64)], [(4, Z11), (6, Z11)], 0, [(4, Z11), (5, .bool)], iZ⟩
theorem DH : LF Tryz.f35 [] [1, 1, 1, 0, 1, 0, 0] qa := lk (v := .nil) vk (b := eD) (fun _ => by kernel_rfl) rfl (by kernel_rfl) (kN)
noncomputable def dG (x : Int × List ByteArray × Unit) : Option ((Y7 × Bool × Unit) × Unit) :=
(fj (x.1, ())).bind fun r1 =>
(au (x.1, ())).bind fun r3 =>
(if (!r3.1.1) then
some ((r1.1.1, false, ()), ())
else
(aw (iZ (x.2.1, (0, 0, 0, ([] : List Note), ([] : List Mark), ([] : List Note), ()), r1.1.1, 0, ()))
(fun y11 => some (y11, ()))
(fun y11 => some ((y11.2.1, true, ()), ()))))
noncomputable def nW : Ent := (35, none, ⟨[.int .i64, .fz .str], [Z7, .bool], dG⟩)
theorem np : SQ Tryz.prog nW := so (v := .two (.nil) (.two (.nil) (.two (.nil) (.two (.two (.nil) (.one (.loop qa))) (.nil))))) (fn := Tryz.f35) vk (by kernel_rfl) (by kernel_rfl) (by kernel_rfl) (kC DH (kN)) (fun _ => by kernel_rfl)
noncomputable def Ee : Cx := cX [fE, nW] [] []
theorem F9 : OKC Tryz.prog Ee ac := okc mixed (gC eB (gC np (am)))
noncomputable def cG (x : Y3 × Unit) : Option ((Y7 × Bool × Unit) × Unit) :=
(a7 (x.1.2.2.1, ())).bind fun r1 =>
(dG (x.1.1, r1.1.1, ())).bind fun r2 =>
some (r2.1, ())
noncomputable def kZ : Ent := (14, none, ⟨[Z3], [Z7, .bool], cG⟩)
theorem iL : SQ Tryz.prog kZ := so (v := .nil) (fn := Tryz.f14) F9 (by kernel_rfl) (by kernel_rfl) (by kernel_rfl) (kN) (fun _ => by kernel_rfl)
noncomputable def Bo : Cx := cX [cC, fE] [] [(12, 18), (41, 44)]
theorem EU : OKC Tryz.prog Bo ac := okc mixed (gC bw (gC eB (am)))
noncomputable def iP (x : Y0 × Unit) : Option ((Bool × Unit) × Unit) :=
(if (aE (!(decide (2400 < (x.1.1.size : Int)))) ((aK (x.1.2.1, 0, (x.1.1.size : Int), ())).isSome)) then
(if ((decide (2400 < (x.1.1.size : Int))) || (!(((aK (x.1.2.1, 0, (x.1.1.size : Int), ())).getD ((false, ()), ())).1.1))) then
some ((false, ()), ())
else
(a7 (x.1.1, ())).bind fun r1 =>
(if (decide (0 ≤ x.1.2.1) && decide (x.1.2.1 ≤ (x.1.1.size : Int))) then
(a7 ((x.1.1.extract (0) (Int.toNat x.1.2.1)), ())).bind fun r2 =>
let v4 := ((decide (r1.1.2.1 = (x.1.1.size : Int))) && (decide (r2.1.2.1 = x.1.2.1)))
some ((v4, ()), ())
else none))
else none)
noncomputable def sk : Ent := (50, none, ⟨[Z0], [.bool], iP⟩)
theorem vL : SQ Tryz.prog sk := so (v := .nil) (fn := Tryz.f50) EU (by kernel_rfl) (by kernel_rfl) (by kernel_rfl) (kN) (fun _ => by kernel_rfl)
noncomputable def HZ : Cx := cX [cC] [] [(8, 9)]
theorem Jo : OKC Tryz.prog HZ ac := okc mixed (gC bw (am))
noncomputable def q9 (x : Int × Int × Unit) : Option ((Bool × Unit) × Unit) :=
(aK (x.1, 1, 6, ())).bind fun r3 =>
(if (aE r3.1.1 ((aK (x.2.1, 0, 999, ())).isSome)) then
let v4 := (r3.1.1 && (((aK (x.2.1, 0, 999, ())).getD ((false, ()), ())).1.1))
some ((v4, ()), ())
else none)
noncomputable def Al : Ent := (80, none, ⟨[.int .i64, .int .i64], [.bool], q9⟩)
theorem Au : SQ Tryz.prog Al := so (v := .nil) (fn := Tryz.f80) Jo (by kernel_rfl) (by kernel_rfl) (by kernel_rfl) (kN) (fun _ => by kernel_rfl)
noncomputable def Bh : Cx := cX [Al] [] [(10, 13)]
theorem EQ : OKC Tryz.prog Bh ac := okc mixed (gC Au (am))
noncomputable def mp (x : Int × Y1 × Unit) : Option ((Bool × Unit) × Unit) :=
(q9 (x.1, x.2.1.1, ())).bind fun r3 =>
let v4 := (r3.1.1 && (decide ((x.2.1.2.1.size : Int) = 4)))
some ((v4, ()), ())
noncomputable def sf : Ent := (66, none, ⟨[.int .i64, Z1], [.bool], mp⟩)
theorem vG : SQ Tryz.prog sf := so (v := .nil) (fn := Tryz.f66) EQ (by kernel_rfl) (by kernel_rfl) (by kernel_rfl) (kN) (fun _ => by kernel_rfl)
noncomputable def zx : Cx := cX [] [] []
theorem BT : OKC Tryz.prog zx ac := okc mixed (am)
noncomputable def lr (x : Int × Unit) : Option ((Int × Unit) × Unit) :=
let v1 := (w64 (Int.tdiv (w64 ((w64 (x.1 + 4)) - 1)) 4))
some ((v1, ()), ())
noncomputable def qt : Ent := (67, none, ⟨[.int .i64], [.int .i64], lr⟩)
theorem tQ : SQ Tryz.prog qt := so (v := .nil) (fn := Tryz.f67) BT (by kernel_rfl) (by kernel_rfl) (by kernel_rfl) (kN) (fun _ => by kernel_rfl)
noncomputable def yq : Cx := cX [cC, aT, sf, qt] [] []
theorem kD : OKC Tryz.prog yq ac := okc mixed (gC bw (gC aL (gC vG (gC tQ (am)))))
noncomputable def dW (x : Y2 × Int × Int × Unit) : Rnd (Y2 × Int × Int × Unit) (Bool × Unit) (Y2 × Int × Unit) :=
(if (decide (x.2.2.1 < x.2.1)) then
(if inb x.2.2.1 x.1.2.2.2.2.2.1.length then
(if inb x.2.1 x.1.2.2.2.2.2.1.length then
(if (decide ((rd (dfl .mixed) x.1.2.2.2.2.2.1 x.2.2.1).nu = (rd (dfl .mixed) x.1.2.2.2.2.2.1 x.2.1).nu)) then
some (.inr (.inl (false, ())))
else
some (.inl (x.1, x.2.1, (w64 (x.2.2.1 + 1)), ())))
else none)
else none)
else
some (.inr (.inr (x.1, x.2.1, ()))))
noncomputable def ew := aA dW
noncomputable def mq : Loop := ⟨[(1, Z14), (3, .int .i64), (4, .int .i64)], [(1, Z14), (3, .int .i64)], 2, [(2, .bool)], ew⟩
theorem xK : LF Tryz.f51 [] [1, 1, 0, 1, 0, 0, 1, 0, 0, 1, 1, 0, 0] mq := lk (v := .nil) kD (b := dW) (fun _ => by kernel_rfl) rfl (by kernel_rfl) (kN)
noncomputable def dX (x : Y2 × Int × Unit) : Rnd (Y2 × Int × Unit) (Bool × Unit) (Unit) :=
(if (decide (x.2.1 < (x.1.2.2.2.2.2.1.length : Int))) then
(lr (x.1.2.2.2.2.1, ())).bind fun r38 =>
(if inb x.2.1 x.1.2.2.2.2.2.1.length then
(mp (r38.1.1, ((rd (dfl .mixed) x.1.2.2.2.2.2.1 x.2.1).nu, (rd (dfl .mixed) x.1.2.2.2.2.2.1 x.2.1).da, ()), ())).bind fun r39 =>
(if (!r39.1.1) then
some (.inr (.inl (false, ())))
else
(aw (ew (x.1, x.2.1, 0, ()))
(fun y40 => some (.inr (.inl y40)))
(fun y40 => some (.inl (y40.1, (w64 (y40.2.1 + 1)), ())))))
else none)
else
some (.inr (.inr ())))
noncomputable def ey := aA dX
noncomputable def mr : Loop := ⟨[(1, Z14), (3, .int .i64)], [], 0, [(2, .bool)], ey⟩
theorem xM : LF Tryz.f51 [] [1, 1, 0, 1, 0, 0] mr := lk (v := .two (.nil) (.two (.one (.two (.nil) (.two (.nil) (.one (.loop mq))))) (.nil))) kD (b := dX) (fun _ => by kernel_rfl) rfl (by kernel_rfl) (kC xK (kN))
noncomputable def fb (x : Y2 × Unit) : Option ((Bool × Unit) × Unit) :=
(au (x.1.1, ())).bind fun r11 =>
(if (!r11.1.1) then
some ((false, ()), ())
else
(au (x.1.2.2.1, ())).bind fun r12 =>
(if (!r12.1.1) then
some ((false, ()), ())
else
(aK (x.1.2.1, 1, 99, ())).bind fun r13 =>
(if (!r13.1.1) then
some ((false, ()), ())
else
(aK (x.1.2.2.2.1, 1, 999, ())).bind fun r14 =>
(if (!r14.1.1) then
some ((false, ()), ())
else
(aK (x.1.2.2.2.2.1, 1, 24, ())).bind fun r15 =>
(if (!r15.1.1) then
some ((false, ()), ())
else
(if (decide (14 < (x.1.2.2.2.2.2.1.length : Int))) then
some ((false, ()), ())
else
(aw (ey (x.1, 0, ()))
(fun y41 => some (y41, ()))
(fun y41 => some ((true, ()), ())))))))))
noncomputable def oS : Ent := (51, none, ⟨[Z2], [.bool], fb⟩)
theorem q8 : SQ Tryz.prog oS := so (v := .two (.nil) (.two (.nil) (.two (.two (.nil) (.one (.loop mr))) (.nil)))) (fn := Tryz.f51) kD (by kernel_rfl) (by kernel_rfl) (by kernel_rfl) (kC xM (kN)) (fun _ => by kernel_rfl)
noncomputable def zD : Cx := cX [kZ, aT, fE, nW, sk, oS] [] [(64, 65), (100, 112)]
theorem lD : OKC Tryz.prog zD ac := okc mixed (gC iL (gC aL (gC eB (gC np (gC vL (gC q8 (am)))))))
noncomputable def fg (x : Y3 × Int × Int × Unit) : Rnd (Y3 × Int × Int × Unit) (Bool × Unit) (Y3 × Int × Unit) :=
(if (decide (x.2.2.1 < x.2.1)) then
(if inb x.2.2.1 x.1.2.2.2.2.1.length then
(if inb x.2.1 x.1.2.2.2.2.1.length then
(if (aE (decide ((rd (dfl .half) x.1.2.2.2.2.1 x.2.2.1).fr = (rd (dfl .half) x.1.2.2.2.2.1 x.2.1).fr)) (inb x.2.2.1 x.1.2.2.2.2.1.length)) then
(if (aE (decide ((rd (dfl .half) x.1.2.2.2.2.1 x.2.2.1).fr = (rd (dfl .half) x.1.2.2.2.2.1 x.2.1).fr)) (inb x.2.1 x.1.2.2.2.2.1.length)) then
(if ((decide ((rd (dfl .half) x.1.2.2.2.2.1 x.2.2.1).fr = (rd (dfl .half) x.1.2.2.2.2.1 x.2.1).fr)) && (decide ((rd (dfl .half) x.1.2.2.2.2.1 x.2.2.1).nu = (rd (dfl .half) x.1.2.2.2.2.1 x.2.1).nu))) then
some (.inr (.inl (false, ())))
else
some (.inl (x.1, x.2.1, (w64 (x.2.2.1 + 1)), ())))
else none)
else none)
else none)
else none)
else
some (.inr (.inr (x.1, x.2.1, ()))))
noncomputable def fK := aA fg
noncomputable def nk : Loop := ⟨[(1, Z15), (9, .int .i64), (10, .int .i64)], [(1, Z15), (9, .int .i64)], 2, [(2, .bool)], fK⟩
theorem y6 : LF Tryz.f31 [] [1, 1, 1, 1, 1, 1, 0, 1, 0, 0, 1, 0, 0, 1, 1, 0, 0] nk := lk (v := .nil) lD (b := fg) (fun _ => by kernel_rfl) rfl (by kernel_rfl) (kN)
noncomputable def fh (x : Y3 × Int × Unit) : Rnd (Y3 × Int × Unit) (Bool × Unit) (Unit) :=
(if (decide (x.2.1 < (x.1.2.2.2.2.1.length : Int))) then
(if inb x.2.1 x.1.2.2.2.2.1.length then
(fb (((rd (dfl .half) x.1.2.2.2.2.1 x.2.1).fr, (rd (dfl .half) x.1.2.2.2.2.1 x.2.1).nu, (rd (dfl .half) x.1.2.2.2.2.1 x.2.1).to, (rd (dfl .half) x.1.2.2.2.2.1 x.2.1).un, (rd (dfl .half) x.1.2.2.2.2.1 x.2.1).sz, (rd (dfl .half) x.1.2.2.2.2.1 x.2.1).got, ()), ())).bind fun r25 =>
(if (!r25.1.1) then
some (.inr (.inl (false, ())))
else
(aw (fK (x.1, x.2.1, 0, ()))
(fun y26 => some (.inr (.inl y26)))
(fun y26 => some (.inl (y26.1, (w64 (y26.2.1 + 1)), ())))))
else none)
else
some (.inr (.inr ())))
noncomputable def cJ := aA fh
noncomputable def nl : Loop := ⟨[(1, Z15), (9, .int .i64)], [], 0, [(2, .bool)], cJ⟩
theorem zc : LF Tryz.f31 [] [1, 1, 1, 1, 1, 1, 0, 1, 0, 0] nl := lk (v := .two (.nil) (.two (.one (.two (.nil) (.two (.nil) (.one (.loop nk))))) (.nil))) lD (b := fh) (fun _ => by kernel_rfl) rfl (by kernel_rfl) (kC y6 (kN))
noncomputable def gw (x : Y3 × Unit) : Option ((Bool × Unit) × Unit) :=
(fH (X := Y3 × Unit) (fun j5 =>
(if (decide (0 ≤ j5.1.2.2.2.1) && decide (j5.1.2.2.2.1 ≤ (j5.1.2.2.1.size : Int))) then
(a7 ((j5.1.2.2.1.extract (0) (Int.toNat j5.1.2.2.2.1)), ())).bind fun r8 =>
(dG (j5.1.1, r8.1.1, ())).bind fun r9 =>
(cG j5).bind fun r10 =>
(if ((!r10.1.2.1) || (!r9.1.2.1)) then
some ((false, ()), ())
else
(aw (cJ (j5.1, 0, ()))
(fun y27 => some (y27, ()))
(fun y27 => some ((true, ()), ()))))
else none))
((au (x.1.1, ())).bind fun r6 =>
(if (!r6.1.1) then
some (.inl ((false, ()), ()))
else
(iP ((x.1.2.2.1, x.1.2.2.2.1, ()), ())).bind fun r7 =>
(if (!r7.1.1) then
some (.inl ((false, ()), ()))
else
(if (decide (3 < (x.1.2.2.2.2.1.length : Int))) then
some (.inl ((false, ()), ()))
else
(if (!x.1.2.1) then
(if (decide (0 < (x.1.2.2.2.2.1.length : Int))) then
some (.inl ((false, ()), ()))
else
some (.inr x))
else
some (.inr x)))))))
noncomputable def qz : Ent := (31, none, ⟨[Z3], [.bool], gw⟩)
theorem tW : SQ Tryz.prog qz := so (v := .two (.nil) (.join [(1, Z15)] (.nil) (.two (.nil) (.two (.nil) (.two (.nil) (.two (.nil) (.two (.two (.nil) (.one (.loop nl))) (.nil)))))))) (fn := Tryz.f31) lD (by kernel_rfl) (by kernel_rfl) (by kernel_rfl) (kC zc (kN)) (fun _ => by kernel_rfl)
noncomputable def Bp : Cx := cX [cC, qz, aT, fZ] [] [(57, 64)]
theorem fa : OKC Tryz.prog Bp ac := okc mixed (gC bw (gC tW (gC aL (gC d5 (am)))))
noncomputable def gp (x : Y6 × Int × Unit) : Rnd (Y6 × Int × Unit) (Bool × Unit) (Unit) :=
(if (decide (x.2.1 < (x.1.2.2.2.2.2.1.length : Int))) then
(if inb x.2.1 x.1.2.2.2.2.2.1.length then
(b9 (((rd (dfl .note) x.1.2.2.2.2.2.1 x.2.1).fr, (rd (dfl .note) x.1.2.2.2.2.2.1 x.2.1).nu, (rd (dfl .note) x.1.2.2.2.2.2.1 x.2.1).to, (rd (dfl .note) x.1.2.2.2.2.2.1 x.2.1).un, (rd (dfl .note) x.1.2.2.2.2.2.1 x.2.1).tx, ()), ())).bind fun r73 =>
(if (!r73.1.1) then
some (.inr (.inl (false, ())))
else
some (.inl (x.1, (w64 (x.2.1 + 1)), ())))
else none)
else
some (.inr (.inr ())))
noncomputable def g7 := aA gp
noncomputable def og : Loop := ⟨[(1, Z16), (7, .int .i64)], [], 6, [(2, .bool)], g7⟩
theorem AN : LF Tryz.f13 [] [1, 1, 1, 1, 1, 0, 1, 0, 0] og := lk (v := .nil) fa (b := gp) (fun _ => by kernel_rfl) rfl (by kernel_rfl) (kN)
noncomputable def gq (x : Y6 × Int × Unit) : Rnd (Y6 × Int × Unit) (Bool × Unit) (Y6 × Unit) :=
(if (decide (x.2.1 < (x.1.2.2.2.2.1.length : Int))) then
(if inb x.2.1 x.1.2.2.2.2.1.length then
(b9 (((rd (dfl .note) x.1.2.2.2.2.1 x.2.1).fr, (rd (dfl .note) x.1.2.2.2.2.1 x.2.1).nu, (rd (dfl .note) x.1.2.2.2.2.1 x.2.1).to, (rd (dfl .note) x.1.2.2.2.2.1 x.2.1).un, (rd (dfl .note) x.1.2.2.2.2.1 x.2.1).tx, ()), ())).bind fun r65 =>
(if (!r65.1.1) then
some (.inr (.inl (false, ())))
else
some (.inl (x.1, (w64 (x.2.1 + 1)), ())))
else none)
else
some (.inr (.inr (x.1, ()))))
noncomputable def g8 := aA gq
noncomputable def oh : Loop := ⟨[(1, Z16), (6, .int .i64)], [(1, Z16)], 4, [(2, .bool)], g8⟩
theorem AO : LF Tryz.f13 [] [1, 1, 1, 1, 0, 1, 0, 0] oh := lk (v := .nil) fa (b := gq) (fun _ => by kernel_rfl) rfl (by kernel_rfl) (kN)
noncomputable def gr (x : Y6 × Int × Unit) : Rnd (Y6 × Int × Unit) (Bool × Unit) (Y6 × Unit) :=
(if (decide (x.2.1 < (x.1.2.2.2.1.length : Int))) then
(if inb x.2.1 x.1.2.2.2.1.length then
let v52 := (rd (dfl .parcel) x.1.2.2.2.1 x.2.1).src
let v53 := (rd (dfl .parcel) x.1.2.2.2.1 x.2.1).dst
let v54 := (rd (dfl .parcel) x.1.2.2.2.1 x.2.1).data
let v55 := (rd (dfl .parcel) x.1.2.2.2.1 x.2.1).sp
(au (v52, ())).bind fun r56 =>
(if (!r56.1.1) then
some (.inr (.inl (false, ())))
else
(au (v53, ())).bind fun r57 =>
(if (!r57.1.1) then
some (.inr (.inl (false, ())))
else
(if (!decide ((w64 (v52 - v53)) = 1)) then
(if (!decide ((w64 (v53 - v52)) = 1)) then
some (.inr (.inl (false, ())))
else
(if (decide (40 < (v54.size : Int))) then
some (.inr (.inl (false, ())))
else
some (.inl (x.1, (w64 (x.2.1 + 1)), ()))))
else
(if (decide (40 < (v54.size : Int))) then
some (.inr (.inl (false, ())))
else
some (.inl (x.1, (w64 (x.2.1 + 1)), ()))))))
else none)
else
some (.inr (.inr (x.1, ()))))
noncomputable def g9 := aA gr
noncomputable def ol : Loop := ⟨[(1, Z16), (4, .int .i64)], [(1, Z16)], 2, [(2, .bool)], g9⟩
theorem AQ : LF Tryz.f13 [] [1, 1, 1, 0, 1, 0, 0] ol := lk (v := .nil) fa (b := gr) (fun _ => by kernel_rfl) rfl (by kernel_rfl) (kN)
noncomputable def gu (x : Y6 × Int × Unit) : Rnd (Y6 × Int × Unit) (Bool × Unit) (Y6 × Unit) :=
(if (decide (x.2.1 < (x.1.2.1.length : Int))) then
(if inb x.2.1 x.1.2.1.length then
(gw (((rd (dfl .keeper) x.1.2.1 x.2.1).id, (rd (dfl .keeper) x.1.2.1 x.2.1).up, (rd (dfl .keeper) x.1.2.1 x.2.1).log, (rd (dfl .keeper) x.1.2.1 x.2.1).fo, (rd (dfl .keeper) x.1.2.1 x.2.1).halves, ()), ())).bind fun r13 =>
(if (aE (!(!r13.1.1)) (inb x.2.1 x.1.2.1.length)) then
(if ((!r13.1.1) || (!decide ((rd (dfl .keeper) x.1.2.1 x.2.1).id = x.2.1))) then
some (.inr (.inl (false, ())))
else
some (.inl (x.1, (w64 (x.2.1 + 1)), ())))
else none)
else none)
else
some (.inr (.inr (x.1, ()))))
noncomputable def hD := aA gu
noncomputable def om : Loop := ⟨[(1, Z16), (3, .int .i64)], [(1, Z16)], 0, [(2, .bool)], hD⟩
theorem AX : LF Tryz.f13 [] [1, 1, 0, 1, 0, 0] om := lk (v := .nil) fa (b := gu) (fun _ => by kernel_rfl) rfl (by kernel_rfl) (kN)
noncomputable def iQ (x : Y6 × Unit) : Option ((Bool × Unit) × Unit) :=
(aK (x.1.1, 0, 99999, ())).bind fun r3 =>
(if (!r3.1.1) then
some ((false, ()), ())
else
(if (!decide ((x.1.2.1.length : Int) = 4)) then
some ((false, ()), ())
else
(if (!decide ((x.1.2.2.1.length : Int) = 3)) then
some ((false, ()), ())
else
(if (decide (30 < (x.1.2.2.2.1.length : Int))) then
some ((false, ()), ())
else
(if (decide (6 < (x.1.2.2.2.2.1.length : Int))) then
some ((false, ()), ())
else
(if (decide (6 < (x.1.2.2.2.2.2.1.length : Int))) then
some ((false, ()), ())
else
(aw (hD (x.1, 0, ()))
(fun y14 => some (y14, ()))
(fun y14 => (aw (g9 (y14.1, 0, ()))
(fun y58 => some (y58, ()))
(fun y58 => (aw (g8 (y58.1, 0, ()))
(fun y66 => some (y66, ()))
(fun y66 => (aw (g7 (y66.1, 0, ()))
(fun y74 => some (y74, ()))
(fun y74 => some ((true, ()), ())))))))))))))))
noncomputable def sn : Ent := (13, none, ⟨[Z6], [.bool], iQ⟩)
theorem vM : SQ Tryz.prog sn := so (v := .two (.nil) (.two (.nil) (.two (.two (.nil) (.one (.loop om))) (.two (.two (.nil) (.one (.loop ol))) (.two (.two (.nil) (.one (.loop oh))) (.two (.two (.nil) (.one (.loop og))) (.nil))))))) (fn := Tryz.f13) fa (by kernel_rfl) (by kernel_rfl) (by kernel_rfl) (kC AX (kC AQ (kC AO (kC AN (kN))))) (fun _ => by kernel_rfl)
noncomputable def zC : Cx := cX [aT] [] []
theorem BW : OKC Tryz.prog zC ac := okc mixed (gC aL (am))
noncomputable def gv (x : Int × Int × Unit) : Option ((Int × Unit) × Unit) :=
(fH (X := Int × Int × Bool × Unit) (fun j6 =>
(if j6.2.2.1 then
some (((-1), ()), ())
else
(if (decide (j6.1 < j6.2.1)) then
some (((w64 (j6.1 + 1)), ()), ())
else
some (((w64 (j6.1 - 1)), ()), ()))))
((au (x.1, ())).bind fun r7 =>
(if (!r7.1.1) then
some (.inr (x.1, x.2.1, true, ()))
else
(au x.2).bind fun r8 =>
(if (!r8.1.1) then
some (.inr (x.1, x.2.1, true, ()))
else
some (.inr (x.1, x.2.1, (decide (x.1 = x.2.1)), ()))))))
noncomputable def qy : Ent := (36, none, ⟨[.int .i64, .int .i64], [.int .i64], gv⟩)
theorem tV : SQ Tryz.prog qy := so (v := .two (.nil) (.two (.one (.join [(0, .int .i64), (1, .int .i64), (5, .bool)] (.nil) (.nil))) (.nil))) (fn := Tryz.f36) BW (by kernel_rfl) (by kernel_rfl) (by kernel_rfl) (kN) (fun _ => by kernel_rfl)
noncomputable def Bg : Cx := cX [kZ, qy] [] []
theorem EP : OKC Tryz.prog Bg ac := okc mixed (gC iL (gC tV (am)))
noncomputable def mm (x : Y6 × Int × Y5 × Unit) : Option ((Bool × Unit) × Unit) :=
(gv (x.2.1, x.2.2.1.2.2.1, ())).bind fun r1 =>
(if inb r1.1.1 x.1.2.1.length then
(cG (((rd (dfl .keeper) x.1.2.1 r1.1.1).id, (rd (dfl .keeper) x.1.2.1 r1.1.1).up, (rd (dfl .keeper) x.1.2.1 r1.1.1).log, (rd (dfl .keeper) x.1.2.1 r1.1.1).fo, (rd (dfl .keeper) x.1.2.1 r1.1.1).halves, ()), ())).bind fun r2 =>
let v3 := (decide (x.2.2.1.2.2.2.1 ≤ r2.1.1.2.1))
some ((v3, ()), ())
else none)
noncomputable def sd : Ent := (15, none, ⟨[Z6, .int .i64, Z5], [.bool], mm⟩)
theorem vF : SQ Tryz.prog sd := so (v := .nil) (fn := Tryz.f15) EP (by kernel_rfl) (by kernel_rfl) (by kernel_rfl) (kN) (fun _ => by kernel_rfl)
noncomputable def wO : Cx := cX [sn, kZ, sd] [] [(12, 15)]
theorem er : OKC Tryz.prog wO ac := okc mixed (gC vM (gC iL (gC vF (am))))
noncomputable def dj (x : Y6 × Int × Y7 × Int × Unit) : Rnd (Y6 × Int × Y7 × Int × Unit) (Bool × Unit) (Y6 × Int × Unit) :=
(if (decide (x.2.2.2.1 < (x.2.2.1.2.2.2.1.length : Int))) then
(if inb x.2.2.2.1 x.2.2.1.2.2.2.1.length then
(mm (x.1, x.2.1, ((rd (dfl .note) x.2.2.1.2.2.2.1 x.2.2.2.1).fr, (rd (dfl .note) x.2.2.1.2.2.2.1 x.2.2.2.1).nu, (rd (dfl .note) x.2.2.1.2.2.2.1 x.2.2.2.1).to, (rd (dfl .note) x.2.2.1.2.2.2.1 x.2.2.2.1).un, (rd (dfl .note) x.2.2.1.2.2.2.1 x.2.2.2.1).tx, ()), ())).bind fun r29 =>
(if (!r29.1.1) then
some (.inr (.inl (false, ())))
else
some (.inl (x.1, x.2.1, x.2.2.1, (w64 (x.2.2.2.1 + 1)), ())))
else none)
else
some (.inr (.inr (x.1, x.2.1, ()))))
noncomputable def dQ := aA dj
noncomputable def lH : Loop := ⟨[(1, Z16), (3, .int .i64), (4, Z11), (6, .int .i64)], [(1, Z16), (3, .int .i64)], 2, [(2, .bool)], dQ⟩
theorem wu : LF Tryz.f5 [] [1, 1, 0, 1, 0, 0, 1, 0, 0, 1, 1, 1, 0, 0] lH := lk (v := .nil) er (b := dj) (fun _ => by kernel_rfl) rfl (by kernel_rfl) (kN)
noncomputable def di (x : Y6 × Int × Unit) : Rnd (Y6 × Int × Unit) (Bool × Unit) (Unit) :=
(if (decide (x.2.1 < (x.1.2.2.1.length : Int))) then
(if inb x.2.1 x.1.2.2.1.length then
(if (!(rd (dfl .bool) x.1.2.2.1 x.2.1)) then
some (.inr (.inl (false, ())))
else
some (.inl (x.1, (w64 (x.2.1 + 1)), ())))
else none)
else
some (.inr (.inr ())))
noncomputable def dP := aA di
noncomputable def lG : Loop := ⟨[(1, Z16), (7, .int .i64)], [], 4, [(2, .bool)], dP⟩
theorem wn : LF Tryz.f5 [] [1, 1, 1, 0, 1, 0, 0] lG := lk (v := .nil) er (b := di) (fun _ => by kernel_rfl) rfl (by kernel_rfl) (kN)
noncomputable def dk (x : Y6 × Int × Unit) : Rnd (Y6 × Int × Unit) (Bool × Unit) (Y6 × Unit) :=
(if (decide (x.2.1 < (x.1.2.1.length : Int))) then
(if inb x.2.1 x.1.2.1.length then
(cG (((rd (dfl .keeper) x.1.2.1 x.2.1).id, (rd (dfl .keeper) x.1.2.1 x.2.1).up, (rd (dfl .keeper) x.1.2.1 x.2.1).log, (rd (dfl .keeper) x.1.2.1 x.2.1).fo, (rd (dfl .keeper) x.1.2.1 x.2.1).halves, ()), ())).bind fun r25 =>
(if inb x.2.1 x.1.2.1.length then
(if (!((rd (dfl .keeper) x.1.2.1 x.2.1).up)) then
some (.inr (.inl (false, ())))
else
(aw (dQ (x.1, x.2.1, r25.1.1, 0, ()))
(fun y30 => some (.inr (.inl y30)))
(fun y30 => some (.inl (y30.1, (w64 (y30.2.1 + 1)), ())))))
else none)
else none)
else
some (.inr (.inr (x.1, ()))))
noncomputable def dR := aA dk
noncomputable def lI : Loop := ⟨[(1, Z16), (3, .int .i64)], [(1, Z16)], 0, [(2, .bool)], dR⟩
theorem wy : LF Tryz.f5 [] [1, 1, 0, 1, 0, 0] lI := lk (v := .two (.nil) (.two (.one (.two (.nil) (.two (.nil) (.two (.nil) (.one (.loop lH)))))) (.nil))) er (b := dk) (fun _ => by kernel_rfl) rfl (by kernel_rfl) (kC wu (kN))
noncomputable def dZ (x : Y6 × Unit) : Option ((Bool × Unit) × Unit) :=
(iQ x).bind fun r3 =>
(if ((!r3.1.1) || (decide (0 < (x.1.2.2.2.1.length : Int)))) then
some ((false, ()), ())
else
(aw (dR (x.1, 0, ()))
(fun y31 => some (y31, ()))
(fun y31 => (aw (dP (y31.1, 0, ()))
(fun y33 => some (y33, ()))
(fun y33 => some ((true, ()), ()))))))
noncomputable def nE : Ent := (5, none, ⟨[Z6], [.bool], dZ⟩)
theorem qU : SQ Tryz.prog nE := so (v := .two (.nil) (.two (.nil) (.two (.two (.nil) (.one (.loop lI))) (.two (.two (.nil) (.one (.loop lG))) (.nil))))) (fn := Tryz.f5) er (by kernel_rfl) (by kernel_rfl) (by kernel_rfl) (kC wy (kC wn (kN))) (fun _ => by kernel_rfl)
noncomputable def Bq : Cx := cX [] [] []
theorem EV : OKC Tryz.prog Bq ac := okc mixed (am)
noncomputable def mz (x : Y0 × Unit) : Option ((Y0 × Unit) × Unit) :=
some (x, ())
noncomputable def sq : Ent := (55, none, ⟨[Z0], [Z0], mz⟩)
theorem vQ : SQ Tryz.prog sq := so (v := .nil) (fn := Tryz.f55) EV (by kernel_rfl) (by kernel_rfl) (by kernel_rfl) (kN) (fun _ => by kernel_rfl)
noncomputable def Bt : Cx := cX [] [] []
theorem EX : OKC Tryz.prog Bt ac := okc mixed (am)
noncomputable def mC (x : Y1 × Unit) : Option ((Y1 × Unit) × Unit) :=
some (x, ())
noncomputable def su : Ent := (105, none, ⟨[Z1], [Z1], mC⟩)
theorem vT : SQ Tryz.prog su := so (v := .nil) (fn := Tryz.f105) EX (by kernel_rfl) (by kernel_rfl) (by kernel_rfl) (kN) (fun _ => by kernel_rfl)
noncomputable def zF : Cx := cX [su] [] []
theorem qP : OKC Tryz.prog zF ac := okc mixed (gC vT (am))
noncomputable def ft (x : List Mixed × List Mixed × Int × Unit) : Rnd (List Mixed × List Mixed × Int × Unit) (Unit) (List Mixed × Unit) :=
(if (decide (x.2.2.1 < (x.1.length : Int))) then
(if inb x.2.2.1 x.1.length then
(mC (((rd (dfl .mixed) x.1 x.2.2.1).nu, (rd (dfl .mixed) x.1 x.2.2.1).da, ()), ())).bind fun r7 =>
(if inb x.2.2.1 x.2.1.length then
some (.inl (x.1, (List.set x.2.1 (Int.toNat x.2.2.1) (Mixed.mk r7.1.1.1 r7.1.1.2.1)), (w64 (x.2.2.1 + 1)), ()))
else none)
else none)
else
some (.inr (.inr (x.2.1, ()))))
noncomputable def fL := aA ft
noncomputable def nr : Loop := ⟨[(0, .sl .mixed), (3, .row 115 .mixed), (4, .int .i64)], [(3, .row 115 .mixed)], 0, [], fL⟩
theorem zd : LF Tryz.f96 [] [1, 1, 0, 1, 0, 0] nr := lk (v := .nil) qP (b := ft) (fun _ => by kernel_rfl) rfl (by kernel_rfl) (kN)
noncomputable def gz (x : List Mixed × Unit) : Option ((List Mixed × Unit) × Unit) :=
(if decide (0 ≤ (x.1.length : Int)) && decide ((x.1.length : Int) ≤ 4294967296) then
(aw (fL (x.1, (List.replicate (Int.toNat (x.1.length : Int)) (dfl .mixed)), 0, ()))
(fun _ => none)
(fun y8 => some (y8, ())))
else none)
noncomputable def qB : Ent := (96, none, ⟨[.fz .mixed], [.row 115 .mixed], gz⟩)
theorem tY : SQ Tryz.prog qB := so (v := .two (.nil) (.two (.nil) (.two (.two (.nil) (.one (.loop nr))) (.nil)))) (fn := Tryz.f96) qP (by kernel_rfl) (by kernel_rfl) (by kernel_rfl) (kC zd (kN)) (fun _ => by kernel_rfl)
noncomputable def Ep : Cx := cX [qB] [] []
theorem Gg : OKC Tryz.prog Ep ac := okc mixed (gC tY (am))
noncomputable def kO (x : Y2 × Unit) : Option ((Y2 × Unit) × Unit) :=
(gz x.1.2.2.2.2.2).bind fun r1 =>
some (((x.1.1, x.1.2.1, x.1.2.2.1, x.1.2.2.2.1, x.1.2.2.2.2.1, r1.1), ()), ())
noncomputable def uS : Ent := (72, none, ⟨[Z2], [Z17], kO⟩)
theorem xE : SQ Tryz.prog uS := so (v := .nil) (fn := Tryz.f72) Gg (by kernel_rfl) (by kernel_rfl) (by kernel_rfl) (kN) (fun _ => by kernel_rfl)
noncomputable def Bu : Cx := cX [uS] [] []
theorem sX : OKC Tryz.prog Bu ac := okc mixed (gC xE (am))
noncomputable def gB (x : List Half × List Half × Int × Unit) : Rnd (List Half × List Half × Int × Unit) (Unit) (List Half × Unit) :=
(if (decide (x.2.2.1 < (x.1.length : Int))) then
(if inb x.2.2.1 x.1.length then
(kO (((rd (dfl .half) x.1 x.2.2.1).fr, (rd (dfl .half) x.1 x.2.2.1).nu, (rd (dfl .half) x.1 x.2.2.1).to, (rd (dfl .half) x.1 x.2.2.1).un, (rd (dfl .half) x.1 x.2.2.1).sz, (rd (dfl .half) x.1 x.2.2.1).got, ()), ())).bind fun r7 =>
(if inb x.2.2.1 x.2.1.length then
some (.inl (x.1, (List.set x.2.1 (Int.toNat x.2.2.1) (Half.mk r7.1.1.1 r7.1.1.2.1 r7.1.1.2.2.1 r7.1.1.2.2.2.1 r7.1.1.2.2.2.2.1 r7.1.1.2.2.2.2.2.1)), (w64 (x.2.2.1 + 1)), ()))
else none)
else none)
else
some (.inr (.inr (x.2.1, ()))))
noncomputable def ic := aA gB
noncomputable def ov : Loop := ⟨[(0, .sl .half), (3, .row 98 .half), (4, .int .i64)], [(3, .row 98 .half)], 0, [], ic⟩
theorem AZ : LF Tryz.f56 [] [1, 1, 0, 1, 0, 0] ov := lk (v := .nil) sX (b := gB) (fun _ => by kernel_rfl) rfl (by kernel_rfl) (kN)
noncomputable def jd (x : List Half × Unit) : Option ((List Half × Unit) × Unit) :=
(if decide (0 ≤ (x.1.length : Int)) && decide ((x.1.length : Int) ≤ 4294967296) then
(aw (ic (x.1, (List.replicate (Int.toNat (x.1.length : Int)) (dfl .half)), 0, ()))
(fun _ => none)
(fun y8 => some (y8, ())))
else none)
noncomputable def sv : Ent := (56, none, ⟨[.fz .half], [.row 98 .half], jd⟩)
theorem vU : SQ Tryz.prog sv := so (v := .two (.nil) (.two (.nil) (.two (.two (.nil) (.one (.loop ov))) (.nil)))) (fn := Tryz.f56) sX (by kernel_rfl) (by kernel_rfl) (by kernel_rfl) (kC AZ (kN)) (fun _ => by kernel_rfl)
noncomputable def zG : Cx := cX [sq, sv] [] []
theorem BY : OKC Tryz.prog zG ac := okc mixed (gC vQ (gC vU (am)))
noncomputable def gA (x : Y3 × Unit) : Option ((Y3 × Unit) × Unit) :=
(mz ((x.1.2.2.1, x.1.2.2.2.1, ()), ())).bind fun r1 =>
(jd x.1.2.2.2.2).bind fun r2 =>
some (((x.1.1, x.1.2.1, r1.1.1.1, r1.1.1.2.1, r2.1), ()), ())
noncomputable def qC : Ent := (37, none, ⟨[Z3], [Z18], gA⟩)
theorem tZ : SQ Tryz.prog qC := so (v := .nil) (fn := Tryz.f37) BY (by kernel_rfl) (by kernel_rfl) (by kernel_rfl) (kN) (fun _ => by kernel_rfl)
noncomputable def yw : Cx := cX [qC] [] []
theorem pb : OKC Tryz.prog yw ac := okc mixed (gC tZ (am))
noncomputable def d7 (x : List Keeper × List Keeper × Int × Unit) : Rnd (List Keeper × List Keeper × Int × Unit) (Unit) (List Keeper × Unit) :=
(if (decide (x.2.2.1 < (x.1.length : Int))) then
(if inb x.2.2.1 x.1.length then
(gA (((rd (dfl .keeper) x.1 x.2.2.1).id, (rd (dfl .keeper) x.1 x.2.2.1).up, (rd (dfl .keeper) x.1 x.2.2.1).log, (rd (dfl .keeper) x.1 x.2.2.1).fo, (rd (dfl .keeper) x.1 x.2.2.1).halves, ()), ())).bind fun r7 =>
(if inb x.2.2.1 x.2.1.length then
some (.inl (x.1, (List.set x.2.1 (Int.toNat x.2.2.1) (Keeper.mk r7.1.1.1 r7.1.1.2.1 r7.1.1.2.2.1 r7.1.1.2.2.2.1 r7.1.1.2.2.2.2.1)), (w64 (x.2.2.1 + 1)), ()))
else none)
else none)
else
some (.inr (.inr (x.2.1, ()))))
noncomputable def eK := aA d7
noncomputable def mD : Loop := ⟨[(0, .sl .keeper), (3, .row 51 .keeper), (4, .int .i64)], [(3, .row 51 .keeper)], 0, [], eK⟩
theorem xP : LF Tryz.f16 [] [1, 1, 0, 1, 0, 0] mD := lk (v := .nil) pb (b := d7) (fun _ => by kernel_rfl) rfl (by kernel_rfl) (kN)
noncomputable def fu (x : List Keeper × Unit) : Option ((List Keeper × Unit) × Unit) :=
(if decide (0 ≤ (x.1.length : Int)) && decide ((x.1.length : Int) ≤ 4294967296) then
(aw (eK (x.1, (List.replicate (Int.toNat (x.1.length : Int)) (dfl .keeper)), 0, ()))
(fun _ => none)
(fun y8 => some (y8, ())))
else none)
noncomputable def oW : Ent := (16, none, ⟨[.fz .keeper], [.row 51 .keeper], fu⟩)
theorem rI : SQ Tryz.prog oW := so (v := .two (.nil) (.two (.nil) (.two (.two (.nil) (.one (.loop mD))) (.nil)))) (fn := Tryz.f16) pb (by kernel_rfl) (by kernel_rfl) (by kernel_rfl) (kC xP (kN)) (fun _ => by kernel_rfl)
noncomputable def Bv : Cx := cX [] [] []
theorem sY : OKC Tryz.prog Bv ac := okc mixed (am)
noncomputable def gD (x : List Bool × List Bool × Int × Unit) : Rnd (List Bool × List Bool × Int × Unit) (Unit) (List Bool × Unit) :=
(if (decide (x.2.2.1 < (x.1.length : Int))) then
(if inb x.2.2.1 x.1.length then
(if inb x.2.2.1 x.2.1.length then
let v7 := (rd (dfl .bool) x.1 x.2.2.1)
some (.inl (x.1, (List.set x.2.1 (Int.toNat x.2.2.1) v7), (w64 (x.2.2.1 + 1)), ()))
else none)
else none)
else
some (.inr (.inr (x.2.1, ()))))
noncomputable def ie := aA gD
noncomputable def ow : Loop := ⟨[(0, .sl .bool), (3, .row 4 .bool), (4, .int .i64)], [(3, .row 4 .bool)], 0, [], ie⟩
theorem A0 : LF Tryz.f17 [] [1, 1, 0, 1, 0, 0] ow := lk (v := .nil) sY (b := gD) (fun _ => by kernel_rfl) rfl (by kernel_rfl) (kN)
noncomputable def je (x : List Bool × Unit) : Option ((List Bool × Unit) × Unit) :=
(if decide (0 ≤ (x.1.length : Int)) && decide ((x.1.length : Int) ≤ 4294967296) then
(aw (ie (x.1, (List.replicate (Int.toNat (x.1.length : Int)) (dfl .bool)), 0, ()))
(fun _ => none)
(fun y8 => some (y8, ())))
else none)
noncomputable def sw : Ent := (17, none, ⟨[.fz .bool], [.row 4 .bool], je⟩)
theorem vV : SQ Tryz.prog sw := so (v := .two (.nil) (.two (.nil) (.two (.two (.nil) (.one (.loop ow))) (.nil)))) (fn := Tryz.f17) sY (by kernel_rfl) (by kernel_rfl) (by kernel_rfl) (kC A0 (kN)) (fun _ => by kernel_rfl)
noncomputable def zE : Cx := cX [] [] []
theorem BX : OKC Tryz.prog zE ac := okc mixed (am)
noncomputable def lu (x : Y4 × Unit) : Option ((Y4 × Unit) × Unit) :=
some (x, ())
noncomputable def qA : Ent := (38, none, ⟨[Z4], [Z4], lu⟩)
theorem tX : SQ Tryz.prog qA := so (v := .nil) (fn := Tryz.f38) BX (by kernel_rfl) (by kernel_rfl) (by kernel_rfl) (kN) (fun _ => by kernel_rfl)
noncomputable def yv : Cx := cX [qA] [] []
theorem pa : OKC Tryz.prog yv ac := okc mixed (gC tX (am))
noncomputable def d6 (x : List Parcel × List Parcel × Int × Unit) : Rnd (List Parcel × List Parcel × Int × Unit) (Unit) (List Parcel × Unit) :=
(if (decide (x.2.2.1 < (x.1.length : Int))) then
(if inb x.2.2.1 x.1.length then
(lu (((rd (dfl .parcel) x.1 x.2.2.1).src, (rd (dfl .parcel) x.1 x.2.2.1).dst, (rd (dfl .parcel) x.1 x.2.2.1).data, (rd (dfl .parcel) x.1 x.2.2.1).sp, ()), ())).bind fun r7 =>
(if inb x.2.2.1 x.2.1.length then
some (.inl (x.1, (List.set x.2.1 (Int.toNat x.2.2.1) (Parcel.mk r7.1.1.1 r7.1.1.2.1 r7.1.1.2.2.1 r7.1.1.2.2.2.1)), (w64 (x.2.2.1 + 1)), ()))
else none)
else none)
else
some (.inr (.inr (x.2.1, ()))))
noncomputable def eH := aA d6
noncomputable def mB : Loop := ⟨[(0, .sl .parcel), (3, .row 77 .parcel), (4, .int .i64)], [(3, .row 77 .parcel)], 0, [], eH⟩
theorem xO : LF Tryz.f18 [] [1, 1, 0, 1, 0, 0] mB := lk (v := .nil) pa (b := d6) (fun _ => by kernel_rfl) rfl (by kernel_rfl) (kN)
noncomputable def fq (x : List Parcel × Unit) : Option ((List Parcel × Unit) × Unit) :=
(if decide (0 ≤ (x.1.length : Int)) && decide ((x.1.length : Int) ≤ 4294967296) then
(aw (eH (x.1, (List.replicate (Int.toNat (x.1.length : Int)) (dfl .parcel)), 0, ()))
(fun _ => none)
(fun y8 => some (y8, ())))
else none)
noncomputable def oV : Ent := (18, none, ⟨[.fz .parcel], [.row 77 .parcel], fq⟩)
theorem rH : SQ Tryz.prog oV := so (v := .two (.nil) (.two (.nil) (.two (.two (.nil) (.one (.loop mB))) (.nil)))) (fn := Tryz.f18) pa (by kernel_rfl) (by kernel_rfl) (by kernel_rfl) (kC xO (kN)) (fun _ => by kernel_rfl)
noncomputable def Eo : Cx := cX [] [] []
theorem Gf : OKC Tryz.prog Eo ac := okc mixed (am)
noncomputable def nP (x : Y5 × Unit) : Option ((Y5 × Unit) × Unit) :=
some (x, ())
noncomputable def uR : Ent := (39, none, ⟨[Z5], [Z5], nP⟩)
theorem xD : SQ Tryz.prog uR := so (v := .nil) (fn := Tryz.f39) Gf (by kernel_rfl) (by kernel_rfl) (by kernel_rfl) (kN) (fun _ => by kernel_rfl)
noncomputable def Bs : Cx := cX [uR] [] []
theorem sW : OKC Tryz.prog Bs ac := okc mixed (gC xD (am))
noncomputable def gy (x : List Note × List Note × Int × Unit) : Rnd (List Note × List Note × Int × Unit) (Unit) (List Note × Unit) :=
(if (decide (x.2.2.1 < (x.1.length : Int))) then
(if inb x.2.2.1 x.1.length then
(nP (((rd (dfl .note) x.1 x.2.2.1).fr, (rd (dfl .note) x.1 x.2.2.1).nu, (rd (dfl .note) x.1 x.2.2.1).to, (rd (dfl .note) x.1 x.2.2.1).un, (rd (dfl .note) x.1 x.2.2.1).tx, ()), ())).bind fun r7 =>
(if inb x.2.2.1 x.2.1.length then
some (.inl (x.1, (List.set x.2.1 (Int.toNat x.2.2.1) (Note.mk r7.1.1.1 r7.1.1.2.1 r7.1.1.2.2.1 r7.1.1.2.2.2.1 r7.1.1.2.2.2.2.1)), (w64 (x.2.2.1 + 1)), ()))
else none)
else none)
else
some (.inr (.inr (x.2.1, ()))))
noncomputable def ib := aA gy
noncomputable def ou : Loop := ⟨[(0, .sl .note), (3, .row 54 .note), (4, .int .i64)], [(3, .row 54 .note)], 0, [], ib⟩
theorem AY : LF Tryz.f19 [] [1, 1, 0, 1, 0, 0] ou := lk (v := .nil) sW (b := gy) (fun _ => by kernel_rfl) rfl (by kernel_rfl) (kN)
noncomputable def eJ (x : List Note × Unit) : Option ((List Note × Unit) × Unit) :=
(if decide (0 ≤ (x.1.length : Int)) && decide ((x.1.length : Int) ≤ 4294967296) then
(aw (ib (x.1, (List.replicate (Int.toNat (x.1.length : Int)) (dfl .note)), 0, ()))
(fun _ => none)
(fun y8 => some (y8, ())))
else none)
noncomputable def ss : Ent := (19, none, ⟨[.fz .note], [.row 54 .note], eJ⟩)
theorem vS : SQ Tryz.prog ss := so (v := .two (.nil) (.two (.nil) (.two (.two (.nil) (.one (.loop ou))) (.nil)))) (fn := Tryz.f19) sW (by kernel_rfl) (by kernel_rfl) (by kernel_rfl) (kC AY (kN)) (fun _ => by kernel_rfl)
noncomputable def Br : Cx := cX [oW, sw, oV, ss] [] []
theorem EW : OKC Tryz.prog Br ac := okc mixed (gC rI (gC vV (gC rH (gC vS (am)))))
noncomputable def cV (x : Y6 × Unit) : Option ((Y6 × Unit) × Unit) :=
(fu (x.1.2.1, ())).bind fun r1 =>
(je (x.1.2.2.1, ())).bind fun r2 =>
(fq (x.1.2.2.2.1, ())).bind fun r3 =>
(eJ (x.1.2.2.2.2.1, ())).bind fun r4 =>
(eJ x.1.2.2.2.2.2).bind fun r5 =>
some (((x.1.1, r1.1.1, r2.1.1, r3.1.1, r4.1.1, r5.1), ()), ())
noncomputable def sr : Ent := (6, none, ⟨[Z6], [Z19], cV⟩)
theorem vR : SQ Tryz.prog sr := so (v := .nil) (fn := Tryz.f6) EW (by kernel_rfl) (by kernel_rfl) (by kernel_rfl) (kN) (fun _ => by kernel_rfl)
noncomputable def Kg : Cx := cX [] [] [(11, 13)]
theorem Mn : OKC Tryz.prog Kg ac := okc mixed (am)
noncomputable def ax (x : Int × Int × Int × Unit) : Option ((Bool × Unit) × Unit) :=
let v2 := ((decide (x.2.1 ≤ x.1)) && (decide (x.1 ≤ x.2.2.1)))
some ((v2, ()), ())
noncomputable def ct : Ent := (40, none, ⟨[.int .i64, .int .i64, .int .i64], [.bool], ax⟩)
theorem aY : SQ Tryz.prog ct := so (v := .nil) (fn := Tryz.f40) Mn (by kernel_rfl) (by kernel_rfl) (by kernel_rfl) (kN) (fun _ => by kernel_rfl)
noncomputable def EB : Cx := cX [ct] [] []
theorem Gm : OKC Tryz.prog EB ac := okc mixed (gC aY (am))
noncomputable def aH (x : Int × Unit) : Option ((Bool × Unit) × Unit) :=
(ax (x.1, 0, 3, ())).bind fun r1 =>
some (r1.1, ())
noncomputable def bk : Ent := (43, none, ⟨[.int .i64], [.bool], aH⟩)
theorem aQ : SQ Tryz.prog bk := so (v := .nil) (fn := Tryz.f43) Gm (by kernel_rfl) (by kernel_rfl) (by kernel_rfl) (kN) (fun _ => by kernel_rfl)
noncomputable def Ev : Cx := cX [ct] [] []
theorem vl : OKC Tryz.prog Ev ac := okc mixed (gC aY (am))
noncomputable def jp (x : ByteArray × Int × Unit) : Rnd (ByteArray × Int × Unit) (Bool × Unit) (ByteArray × Unit) :=
(if (decide (x.2.1 < (x.1.size : Int))) then
(if inb x.2.1 x.1.size then
(ax ((w64 (bt x.1 x.2.1)), 32, 126, ())).bind fun r7 =>
(if (!r7.1.1) then
some (.inr (.inl (false, ())))
else
some (.inl (x.1, (w64 (x.2.1 + 1)), ())))
else none)
else
some (.inr (.inr (x.1, ()))))
noncomputable def jo := aA jp
noncomputable def qc : Loop := ⟨[(0, .str), (3, .int .i64)], [(0, .str)], 0, [(2, .bool)], jo⟩
theorem DI : LF Tryz.f73 [] [1, 0, 1, 0, 0] qc := lk (v := .nil) vl (b := jp) (fun _ => by kernel_rfl) rfl (by kernel_rfl) (kN)
noncomputable def cb (x : ByteArray × Unit) : Option ((Bool × Unit) × Unit) :=
(aw (jo (x.1, 0, ()))
(fun y8 => some (y8, ()))
(fun y8 => (ax ((y8.1.size : Int), 1, 24, ())).bind fun r9 =>
some (r9.1, ())))
noncomputable def uX : Ent := (73, none, ⟨[.str], [.bool], cb⟩)
theorem xX : SQ Tryz.prog uX := so (v := .two (.nil) (.two (.two (.nil) (.one (.loop qc))) (.nil))) (fn := Tryz.f73) vl (by kernel_rfl) (by kernel_rfl) (by kernel_rfl) (kC DI (kN)) (fun _ => by kernel_rfl)
noncomputable def EI : Cx := cX [ct, bk, uX] [] [(22, 24)]
theorem Gs : OKC Tryz.prog EI ac := okc mixed (gC aY (gC aQ (gC xX (am))))
noncomputable def cc (x : Y5 × Unit) : Option ((Bool × Unit) × Unit) :=
(aH (x.1.1, ())).bind fun r6 =>
(if r6.1.1 then
(aH (x.1.2.2.1, ())).bind fun r7 =>
(if r7.1.1 then
(ax (x.1.2.1, 1, 99, ())).bind fun r8 =>
(if r8.1.1 then
(ax (x.1.2.2.2.1, 1, 999, ())).bind fun r9 =>
(if (aE r9.1.1 ((cb x.1.2.2.2.2).isSome)) then
let v10 := (r9.1.1 && (((cb x.1.2.2.2.2).getD ((false, ()), ())).1.1))
some ((v10, ()), ())
else none)
else
(if (aE false ((cb x.1.2.2.2.2).isSome)) then
some ((false, ()), ())
else none))
else
(if (aE false ((cb x.1.2.2.2.2).isSome)) then
some ((false, ()), ())
else none))
else
(if (aE false ((cb x.1.2.2.2.2).isSome)) then
some ((false, ()), ())
else none))
noncomputable def dL : Ent := (57, none, ⟨[Z5], [.bool], cc⟩)
theorem cy : SQ Tryz.prog dL := so (v := .nil) (fn := Tryz.f57) Gs (by kernel_rfl) (by kernel_rfl) (by kernel_rfl) (kN) (fun _ => by kernel_rfl)
noncomputable def F7 : Cx := cX [dL] [] []
theorem yH : OKC Tryz.prog F7 ac := okc mixed (gC cy (am))
noncomputable def kV (x : List Note × List Note × Int × Int × Unit) : Rnd (List Note × List Note × Int × Int × Unit) (Bool × Unit) (List Note × Unit) :=
(if (decide (x.2.2.2.1 < x.2.2.1)) then
(if inb x.2.2.2.1 x.2.1.length then
let v32 := (rd (dfl .note) x.2.1 x.2.2.2.1).fr
let v33 := (rd (dfl .note) x.2.1 x.2.2.2.1).nu
let v34 := (rd (dfl .note) x.2.1 x.2.2.2.1).to
let v35 := (rd (dfl .note) x.2.1 x.2.2.2.1).un
let v36 := (rd (dfl .note) x.2.1 x.2.2.2.1).tx
(cc ((v32, v33, v34, v35, v36, ()), ())).bind fun r37 =>
(if (!r37.1.1) then
some (.inr (.inl (false, ())))
else
some (.inl (x.1, x.2.1, x.2.2.1, (w64 (x.2.2.2.1 + 1)), ())))
else none)
else
some (.inr (.inr (x.1, ()))))
noncomputable def kv := aA kV
noncomputable def rQ : Loop := ⟨[(0, .sl .note), (5, .sl .note), (6, .int .i64), (7, .int .i64)], [(0, .sl .note)], 0, [(2, .bool)], kv⟩
theorem FQ : LF Tryz.f41 [] [1, 0, 1, 0, 0] rQ := lk (v := .nil) yH (b := kV) (fun _ => by kernel_rfl) rfl (by kernel_rfl) (kN)
noncomputable def jL (x : List Note × Unit) : Option ((Bool × Unit) × Unit) :=
(aw (kv (x.1, x.1, (x.1.length : Int), 0, ()))
(fun y38 => some (y38, ()))
(fun y38 => let v39 := (decide ((y38.1.length : Int) ≤ 6))
some ((v39, ()), ())))
noncomputable def yo : Ent := (41, none, ⟨[.fz .note], [.bool], jL⟩)
theorem zo : SQ Tryz.prog yo := so (v := .two (.nil) (.two (.two (.nil) (.one (.loop rQ))) (.nil))) (fn := Tryz.f41) yH (by kernel_rfl) (by kernel_rfl) (by kernel_rfl) (kC FQ (kN)) (fun _ => by kernel_rfl)
noncomputable def BM : Cx := cX [ct] [] [(11, 18)]
theorem s9 : OKC Tryz.prog BM ac := okc mixed (gC aY (am))
noncomputable def gN (x : ByteArray × Int × Int × Unit) : Rnd (ByteArray × Int × Int × Unit) (Int × Bool × Unit) (Int × Unit) :=
(if (decide (x.2.2.1 < (x.1.size : Int))) then
(if inb x.2.2.1 x.1.size then
(ax ((w64 (bt x.1 x.2.2.1)), 48, 57, ())).bind fun r18 =>
(if (!r18.1.1) then
some (.inr (.inl (0, false, ())))
else
(if inb x.2.2.1 x.1.size then
let v19 := (w64 ((w64 (10 * x.2.1)) + (w64 (w8 ((bt x.1 x.2.2.1) - 48)))))
some (.inl (x.1, v19, (w64 (x.2.2.1 + 1)), ()))
else none))
else none)
else
some (.inr (.inr (x.2.1, ()))))
noncomputable def iq := aA gN
noncomputable def oF : Loop := ⟨[(0, .str), (4, .int .i64), (5, .int .i64)], [(4, .int .i64)], 0, [(2, .int .i64), (3, .bool)], iq⟩
theorem A7 : LF Tryz.f74 [] [1, 1, 1, 0, 1, 0, 0] oF := lk (v := .nil) s9 (b := gN) (fun _ => by kernel_rfl) rfl (by kernel_rfl) (kN)
noncomputable def cj (x : ByteArray × Unit) : Option ((Int × Bool × Unit) × Unit) :=
(ax ((x.1.size : Int), 1, 5, ())).bind fun r3 =>
(if (aE (!(!r3.1.1)) (inb 0 x.1.size)) then
(if ((!r3.1.1) || ((decide ((bt x.1 0) = 48)) && (decide (1 < (x.1.size : Int))))) then
some ((0, false, ()), ())
else
(aw (iq (x.1, 0, 0, ()))
(fun y20 => some (y20, ()))
(fun y20 => some ((y20.1, true, ()), ()))))
else none)
noncomputable def jZ : Ent := (74, none, ⟨[.str], [.int .i64, .bool], cj⟩)
theorem ip : SQ Tryz.prog jZ := so (v := .two (.nil) (.two (.nil) (.two (.nil) (.two (.two (.nil) (.one (.loop oF))) (.nil))))) (fn := Tryz.f74) s9 (by kernel_rfl) (by kernel_rfl) (by kernel_rfl) (kC A7 (kN)) (fun _ => by kernel_rfl)
noncomputable def qY : Cx := cX [] [] []
theorem tb : OKC Tryz.prog qY ac := okc mixed (am)
noncomputable def eT (x : List ByteArray × Unit) : Option ((List ByteArray × Unit) × Unit) :=
(if (decide ((x.1.length : Int) = 0)) then
some ((([] : List ByteArray), ()), ())
else
(if decide (0 ≤ (x.1.length : Int)) && decide ((x.1.length : Int) ≤ 4294967296) then
some (((List.take (List.replicate (Int.toNat (x.1.length : Int)) (dfl .str)).length x.1 ++ List.drop x.1.length (List.replicate (Int.toNat (x.1.length : Int)) (dfl .str))), ()), ())
else none))
noncomputable def ln : Ent := (75, none, ⟨[.fz .str], [.row 9 .str], eT⟩)
theorem nT : SQ Tryz.prog ln := so (v := .nil) (fn := Tryz.f75) tb (by kernel_rfl) (by kernel_rfl) (by kernel_rfl) (kN) (fun _ => by kernel_rfl)
noncomputable def yB : Cx := cX [ct, jZ, ln] [] [(26, 29), (38, 41)]
theorem kE : OKC Tryz.prog yB ac := okc mixed (gC aY (gC ip (gC nT (am))))
noncomputable def eh (x : ByteArray × List ByteArray × Int × Int × Unit) : Rnd (ByteArray × List ByteArray × Int × Int × Unit) (Unit) (ByteArray × List ByteArray × Int × Int × Unit) :=
(if (decide (x.2.2.2.1 < (x.1.size : Int))) then
(if (aE (decide (x.2.2.2.1 < (w64 (x.2.2.1 + 3)))) (inb x.2.2.2.1 x.1.size)) then
(if ((decide (x.2.2.2.1 < (w64 (x.2.2.1 + 3)))) && (!decide ((bt x.1 x.2.2.2.1) = 58))) then
some (.inl (x.1, x.2.1, x.2.2.1, (w64 (x.2.2.2.1 + 1)), ()))
else
some (.inr (.inr x)))
else none)
else
(if (aE false (inb x.2.2.2.1 x.1.size)) then
some (.inr (.inr x))
else none))
noncomputable def eU := aA eh
noncomputable def mT : Loop := ⟨[(0, .str), (4, .row 9 .str), (5, .int .i64), (6, .int .i64)], [(0, .str), (4, .row 9 .str), (5, .int .i64), (6, .int .i64)], 2, [], eU⟩
theorem xL : LF Tryz.f61 [] [1, 1, 1, 0, 0, 0, 1, 0, 1, 0, 0, 0] mT := lk (v := .nil) kE (b := eh) (fun _ => by kernel_rfl) rfl (by kernel_rfl) (kN)
noncomputable def bT (x : ByteArray × List ByteArray × Int × Unit) : Rnd (ByteArray × List ByteArray × Int × Unit) (Unit) (List ByteArray × Int × Unit) :=
(if (decide (x.2.2.1 < (x.1.size : Int))) then
(aw (eU (x.1, x.2.1, x.2.2.1, x.2.2))
(fun _ => some (.inr (.inl ())))
(fun y31 => (if (aE (!(decide ((y31.1.size : Int) ≤ y31.2.2.2.1))) (inb y31.2.2.2.1 y31.1.size)) then
(if ((decide ((y31.1.size : Int) ≤ y31.2.2.2.1)) || (!decide ((bt y31.1 y31.2.2.2.1) = 58))) then
some (.inr (.inr (y31.2.1, y31.2.2.1, ())))
else
(if ((decide (0 ≤ y31.2.2.2.1) && decide (y31.2.2.2.1 ≤ (y31.1.size : Int))) && (decide (0 ≤ y31.2.2.1) && decide (y31.2.2.1 ≤ y31.2.2.2.1))) then
(cj ((y31.1.extract (Int.toNat y31.2.2.1) (Int.toNat y31.2.2.2.1)), ())).bind fun r32 =>
let v33 := (w64 ((w64 (y31.2.2.2.1 + 1)) + r32.1.1))
(if (!r32.1.2.1) then
some (.inr (.inr (y31.2.1, y31.2.2.1, ())))
else
(ax (r32.1.1, 1, 60, ())).bind fun r36 =>
(if (!r36.1.1) then
some (.inr (.inr (y31.2.1, y31.2.2.1, ())))
else
(if (decide ((y31.1.size : Int) ≤ v33)) then
some (.inr (.inr (y31.2.1, y31.2.2.1, ())))
else
(if inb v33 y31.1.size then
(if (!decide ((bt y31.1 v33) = 59)) then
some (.inr (.inr (y31.2.1, y31.2.2.1, ())))
else
(if ((decide (0 ≤ v33) && decide (v33 ≤ (y31.1.size : Int))) && (decide (0 ≤ (w64 (y31.2.2.2.1 + 1))) && decide ((w64 (y31.2.2.2.1 + 1)) ≤ v33))) then
(if dA (y31.2.1.length + ([(y31.1.extract (Int.toNat (w64 (y31.2.2.2.1 + 1))) (Int.toNat v33))] : List ByteArray).length) then
some (.inl (y31.1, (y31.2.1 ++ ([(y31.1.extract (Int.toNat (w64 (y31.2.2.2.1 + 1))) (Int.toNat v33))] : List ByteArray)), (w64 (v33 + 1)), ()))
else none)
else none))
else none))))
else none))
else none)))
else
some (.inr (.inr x.2)))
noncomputable def eV := aA bT
noncomputable def mU : Loop := ⟨[(0, .str), (4, .row 9 .str), (5, .int .i64)], [(4, .row 9 .str), (5, .int .i64)], 0, [], eV⟩
theorem xU : LF Tryz.f61 [] [1, 1, 1, 0, 0, 0] mU := lk (v := .two (.nil) (.one (.two (.nil) (.two (.one (.loop mT)) (.nil))))) kE (b := bT) (fun _ => by kernel_rfl) rfl (by kernel_rfl) (kC xL (kN))
noncomputable def cg (x : ByteArray × Unit) : Option ((List ByteArray × Int × Unit) × Unit) :=
(aw (eV (x.1, ([] : List ByteArray), 0, ()))
(fun _ => none)
(fun y37 => (eT (y37.1, ())).bind fun r38 =>
some ((r38.1.1, y37.2), ())))
noncomputable def ky : Ent := (61, none, ⟨[.str], [.row 9 .str, .int .i64], cg⟩)
theorem lj : SQ Tryz.prog ky := so (v := .two (.nil) (.two (.nil) (.two (.nil) (.two (.one (.loop mU)) (.nil))))) (fn := Tryz.f61) kE (by kernel_rfl) (by kernel_rfl) (by kernel_rfl) (kC xU (kN)) (fun _ => by kernel_rfl)
noncomputable def yE : Cx := cX [bk] [] []
theorem zZ : OKC Tryz.prog yE ac := okc mixed (gC aQ (am))
noncomputable def fD (x : Int × Unit) : Option ((Y7 × Unit) × Unit) :=
(aH x).bind fun r2 =>
(if (!r2.1.1) then
some (((0, 0, 0, ([] : List Note), ([] : List Mark), ([] : List Note), ()), ()), ())
else
some (((x.1, 0, 1, ([] : List Note), ([] : List Mark), ([] : List Note), ()), ()), ()))
noncomputable def o6 : Ent := (76, none, ⟨[.int .i64], [Z7], fD⟩)
theorem rT : SQ Tryz.prog o6 := so (v := .nil) (fn := Tryz.f76) zZ (by kernel_rfl) (by kernel_rfl) (by kernel_rfl) (kN) (fun _ => by kernel_rfl)
noncomputable def EG : Cx := cX [] [] [(13, 20)]
theorem Gq : OKC Tryz.prog EG ac := okc mixed (am)
noncomputable def bj (x : Int × Int × Int × Int × Unit) : Option ((Bool × Unit) × Unit) :=
let v2 := ((decide (x.1 < x.2.2.1)) || ((decide (x.1 = x.2.2.1)) && (decide (x.2.1 < x.2.2.2.1))))
some ((v2, ()), ())
noncomputable def ga : Ent := (120, none, ⟨[.int .i64, .int .i64, .int .i64, .int .i64], [.bool], bj⟩)
theorem eg : SQ Tryz.prog ga := so (v := .nil) (fn := Tryz.f120) Gq (by kernel_rfl) (by kernel_rfl) (by kernel_rfl) (kN) (fun _ => by kernel_rfl)
noncomputable def BK : Cx := cX [dL, ga] [] [(16, 37)]
theorem s8 : OKC Tryz.prog BK ac := okc mixed (gC cy (gC eg (am)))
noncomputable def gM (x : List Note × List Note × Int × Int × Unit) : Rnd (List Note × List Note × Int × Int × Unit) (Bool × Unit) (Unit) :=
(if (decide (x.2.2.2.1 < x.2.2.1)) then
(if inb x.2.2.2.1 x.2.1.length then
let v35 := (rd (dfl .note) x.2.1 x.2.2.2.1).fr
let v36 := (rd (dfl .note) x.2.1 x.2.2.2.1).nu
let v37 := (rd (dfl .note) x.2.1 x.2.2.2.1).to
let v38 := (rd (dfl .note) x.2.1 x.2.2.2.1).un
let v39 := (rd (dfl .note) x.2.1 x.2.2.2.1).tx
(cc ((v35, v36, v37, v38, v39, ()), ())).bind fun r40 =>
(if (aE ((!(!r40.1.1)) && (decide (0 < x.2.2.2.1))) (inb (w64 (x.2.2.2.1 - 1)) x.1.length)) then
(if (aE ((!(!r40.1.1)) && (decide (0 < x.2.2.2.1))) (inb (w64 (x.2.2.2.1 - 1)) x.1.length)) then
(if (aE ((!(!r40.1.1)) && (decide (0 < x.2.2.2.1))) ((bj ((rd (dfl .note) x.1 (w64 (x.2.2.2.1 - 1))).fr, (rd (dfl .note) x.1 (w64 (x.2.2.2.1 - 1))).nu, v35, v36, ())).isSome)) then
(if ((!r40.1.1) || ((decide (0 < x.2.2.2.1)) && (!(((bj ((rd (dfl .note) x.1 (w64 (x.2.2.2.1 - 1))).fr, (rd (dfl .note) x.1 (w64 (x.2.2.2.1 - 1))).nu, v35, v36, ())).getD ((false, ()), ())).1.1)))) then
some (.inr (.inl (false, ())))
else
some (.inl (x.1, x.2.1, x.2.2.1, (w64 (x.2.2.2.1 + 1)), ())))
else none)
else none)
else none)
else none)
else
some (.inr (.inr ())))
noncomputable def im := aA gM
noncomputable def oE : Loop := ⟨[(0, .sl .note), (5, .sl .note), (6, .int .i64), (7, .int .i64)], [], 0, [(2, .bool)], im⟩
theorem A6 : LF Tryz.f106 [] [1, 0, 1, 0, 0] oE := lk (v := .nil) s8 (b := gM) (fun _ => by kernel_rfl) rfl (by kernel_rfl) (kN)
noncomputable def eR (x : List Note × Unit) : Option ((Bool × Unit) × Unit) :=
(aw (im (x.1, x.1, (x.1.length : Int), 0, ()))
(fun y41 => some (y41, ()))
(fun y41 => some ((true, ()), ())))
noncomputable def sK : Ent := (106, none, ⟨[.fz .note], [.bool], eR⟩)
theorem wB : SQ Tryz.prog sK := so (v := .two (.nil) (.two (.two (.nil) (.one (.loop oE))) (.nil))) (fn := Tryz.f106) s8 (by kernel_rfl) (by kernel_rfl) (by kernel_rfl) (kC A6 (kN)) (fun _ => by kernel_rfl)
noncomputable def Ey : Cx := cX [ct, bk] [] [(12, 14)]
theorem Gl : OKC Tryz.prog Ey ac := okc mixed (gC aY (gC aQ (am)))
noncomputable def kT (x : Y8 × Unit) : Option ((Bool × Unit) × Unit) :=
(aH (x.1.1, ())).bind fun r4 =>
(if r4.1.1 then
(ax (x.1.2.1, 1, 99, ())).bind fun r5 =>
(if (aE r5.1.1 ((ax (x.1.2.2.1, 1, 999, ())).isSome)) then
let v6 := (r5.1.1 && (((ax (x.1.2.2.1, 1, 999, ())).getD ((false, ()), ())).1.1))
some ((v6, ()), ())
else none)
else
(if (aE false ((ax (x.1.2.2.1, 1, 999, ())).isSome)) then
some ((false, ()), ())
else none))
noncomputable def uY : Ent := (121, none, ⟨[Z13], [.bool], kT⟩)
theorem xY : SQ Tryz.prog uY := so (v := .nil) (fn := Tryz.f121) Gl (by kernel_rfl) (by kernel_rfl) (by kernel_rfl) (kN) (fun _ => by kernel_rfl)
noncomputable def BN : Cx := cX [ga, uY] [] [(16, 37)]
theorem ta : OKC Tryz.prog BN ac := okc mixed (gC eg (gC xY (am)))
noncomputable def gO (x : List Mark × List Mark × Int × Int × Unit) : Rnd (List Mark × List Mark × Int × Int × Unit) (Bool × Unit) (Unit) :=
(if (decide (x.2.2.2.1 < x.2.2.1)) then
(if inb x.2.2.2.1 x.2.1.length then
let v25 := (rd (dfl .mark) x.2.1 x.2.2.2.1).mf
let v26 := (rd (dfl .mark) x.2.1 x.2.2.2.1).mn
let v27 := (rd (dfl .mark) x.2.1 x.2.2.2.1).mu
(kT ((v25, v26, v27, ()), ())).bind fun r28 =>
(if (aE ((!(!r28.1.1)) && (decide (0 < x.2.2.2.1))) (inb (w64 (x.2.2.2.1 - 1)) x.1.length)) then
(if (aE ((!(!r28.1.1)) && (decide (0 < x.2.2.2.1))) (inb (w64 (x.2.2.2.1 - 1)) x.1.length)) then
(if (aE ((!(!r28.1.1)) && (decide (0 < x.2.2.2.1))) ((bj ((rd (dfl .mark) x.1 (w64 (x.2.2.2.1 - 1))).mf, (rd (dfl .mark) x.1 (w64 (x.2.2.2.1 - 1))).mn, v25, v26, ())).isSome)) then
(if ((!r28.1.1) || ((decide (0 < x.2.2.2.1)) && (!(((bj ((rd (dfl .mark) x.1 (w64 (x.2.2.2.1 - 1))).mf, (rd (dfl .mark) x.1 (w64 (x.2.2.2.1 - 1))).mn, v25, v26, ())).getD ((false, ()), ())).1.1)))) then
some (.inr (.inl (false, ())))
else
some (.inl (x.1, x.2.1, x.2.2.1, (w64 (x.2.2.2.1 + 1)), ())))
else none)
else none)
else none)
else none)
else
some (.inr (.inr ())))
noncomputable def ir := aA gO
noncomputable def oG : Loop := ⟨[(0, .sl .mark), (5, .sl .mark), (6, .int .i64), (7, .int .i64)], [], 0, [(2, .bool)], ir⟩
theorem A8 : LF Tryz.f107 [] [1, 0, 1, 0, 0] oG := lk (v := .nil) ta (b := gO) (fun _ => by kernel_rfl) rfl (by kernel_rfl) (kN)
noncomputable def jy (x : List Mark × Unit) : Option ((Bool × Unit) × Unit) :=
(aw (ir (x.1, x.1, (x.1.length : Int), 0, ()))
(fun y29 => some (y29, ()))
(fun y29 => some ((true, ()), ())))
noncomputable def sM : Ent := (107, none, ⟨[.fz .mark], [.bool], jy⟩)
theorem wD : SQ Tryz.prog sM := so (v := .two (.nil) (.two (.two (.nil) (.one (.loop oG))) (.nil))) (fn := Tryz.f107) ta (by kernel_rfl) (by kernel_rfl) (by kernel_rfl) (kC A8 (kN)) (fun _ => by kernel_rfl)
noncomputable def F4 : Cx := cX [ct] [] [(10, 23)]
theorem H7 : OKC Tryz.prog F4 ac := okc mixed (gC aY (am))
noncomputable def jq (x : Int × Y5 × Unit) : Option ((Bool × Unit) × Unit) :=
(if (aE (!decide (x.1 = x.2.1.2.2.1)) ((ax (x.1, x.2.1.1, x.2.1.2.2.1, ())).isSome)) then
(if (aE ((!decide (x.1 = x.2.1.2.2.1)) && (!(((ax (x.1, x.2.1.1, x.2.1.2.2.1, ())).getD ((false, ()), ())).1.1))) ((ax (x.1, x.2.1.2.2.1, x.2.1.1, ())).isSome)) then
let v2 := ((!decide (x.1 = x.2.1.2.2.1)) && ((((ax (x.1, x.2.1.1, x.2.1.2.2.1, ())).getD ((false, ()), ())).1.1) || (((ax (x.1, x.2.1.2.2.1, x.2.1.1, ())).getD ((false, ()), ())).1.1)))
some ((v2, ()), ())
else none)
else none)
noncomputable def yl : Ent := (108, none, ⟨[.int .i64, Z5], [.bool], jq⟩)
theorem zj : SQ Tryz.prog yl := so (v := .nil) (fn := Tryz.f108) H7 (by kernel_rfl) (by kernel_rfl) (by kernel_rfl) (kN) (fun _ => by kernel_rfl)
noncomputable def EA : Cx := cX [] [] [(21, 24)]
theorem vq : OKC Tryz.prog EA ac := okc mixed (am)
noncomputable def jD (x : Int × Int × List Mark × Int × Int × Unit) : Rnd (Int × Int × List Mark × Int × Int × Unit) (Int × Unit) (Unit) :=
(if (decide (x.2.2.2.2.1 < x.2.2.2.1)) then
(if inb x.2.2.2.2.1 x.2.2.1.length then
let v17 := (rd (dfl .mark) x.2.2.1 x.2.2.2.2.1).mf
let v18 := (rd (dfl .mark) x.2.2.1 x.2.2.2.2.1).mn
let v19 := (rd (dfl .mark) x.2.2.1 x.2.2.2.2.1).mu
(if ((decide (v17 = x.1)) && (decide (v18 = x.2.1))) then
some (.inr (.inl x.2.2.2.2))
else
some (.inl (x.1, x.2.1, x.2.2.1, x.2.2.2.1, (w64 (x.2.2.2.2.1 + 1)), ())))
else none)
else
some (.inr (.inr ())))
noncomputable def jC := aA jD
noncomputable def qg : Loop := ⟨[(1, .int .i64), (2, .int .i64), (9, .sl .mark), (10, .int .i64), (11, .int .i64)], [], 0, [(6, .int .i64)], jC⟩
theorem DM : LF Tryz.f109 [] [1, 0, 1, 0, 0] qg := lk (v := .nil) vq (b := jD) (fun _ => by kernel_rfl) rfl (by kernel_rfl) (kN)
noncomputable def bG (x : List Mark × Int × Int × Unit) : Option ((Int × Unit) × Unit) :=
(aw (jC (x.2.1, x.2.2.1, x.1, (x.1.length : Int), 0, ()))
(fun y20 => some (y20, ()))
(fun y20 => some (((-1), ()), ())))
noncomputable def k6 : Ent := (109, none, ⟨[.fz .mark, .int .i64, .int .i64], [.int .i64], bG⟩)
theorem jB : SQ Tryz.prog k6 := so (v := .two (.nil) (.two (.two (.nil) (.one (.loop qg))) (.nil))) (fn := Tryz.f109) vq (by kernel_rfl) (by kernel_rfl) (by kernel_rfl) (kC DM (kN)) (fun _ => by kernel_rfl)
noncomputable def EJ : Cx := cX [ct, bk, sK, sM, yl, k6] [] [(123, 127)]
theorem k8 : OKC Tryz.prog EJ ac := okc mixed (gC aY (gC aQ (gC wB (gC wD (gC zj (gC jB (am)))))))
noncomputable def jS (x : Y7 × List Note × Int × Int × Unit) : Rnd (Y7 × List Note × Int × Int × Unit) (Bool × Unit) (Unit) :=
(if (decide (x.2.2.2.1 < x.2.2.1)) then
(if inb x.2.2.2.1 x.2.1.length then
let v149 := (rd (dfl .note) x.2.1 x.2.2.2.1).fr
let v150 := (rd (dfl .note) x.2.1 x.2.2.2.1).nu
let v151 := (rd (dfl .note) x.2.1 x.2.2.2.1).to
let v152 := (rd (dfl .note) x.2.1 x.2.2.2.1).un
let v153 := (rd (dfl .note) x.2.1 x.2.2.2.1).tx
(if (decide (v149 = x.1.1)) then
(if (decide (x.1.2.2.1 ≤ v150)) then
some (.inr (.inl (false, ())))
else
(if (!decide (v151 = x.1.1)) then
some (.inr (.inl (false, ())))
else
(if (decide (x.1.2.1 < v152)) then
(bG (x.1.2.2.2.2.1, v149, v150, ())).bind fun r154 =>
(if (decide (r154.1.1 < 0)) then
some (.inr (.inl (false, ())))
else
some (.inl (x.1, x.2.1, x.2.2.1, (w64 (x.2.2.2.1 + 1)), ())))
else
some (.inl (x.1, x.2.1, x.2.2.1, (w64 (x.2.2.2.1 + 1)), ())))))
else
(if (!decide (v151 = x.1.1)) then
some (.inr (.inl (false, ())))
else
(if (decide (x.1.2.1 < v152)) then
(bG (x.1.2.2.2.2.1, v149, v150, ())).bind fun r155 =>
(if (decide (r155.1.1 < 0)) then
some (.inr (.inl (false, ())))
else
some (.inl (x.1, x.2.1, x.2.2.1, (w64 (x.2.2.2.1 + 1)), ())))
else
some (.inl (x.1, x.2.1, x.2.2.1, (w64 (x.2.2.2.1 + 1)), ())))))
else none)
else
some (.inr (.inr ())))
noncomputable def jP := aA jS
noncomputable def qn : Loop := ⟨[(1, Z9), (131, .sl .note), (132, .int .i64), (133, .int .i64)], [], 4, [(2, .bool)], jP⟩
theorem Dy : LF Tryz.f97 [] [1, 1, 1, 1, 1, 0, 1, 0, 0] qn := lk (v := .nil) k8 (b := jS) (fun _ => by kernel_rfl) rfl (by kernel_rfl) (kN)
noncomputable def jT (x : Y7 × List Mark × Int × Int × Unit) : Rnd (Y7 × List Mark × Int × Int × Unit) (Bool × Unit) (Y7 × Unit) :=
(if (decide (x.2.2.2.1 < x.2.2.1)) then
(if inb x.2.2.2.1 x.2.1.length then
let v103 := (rd (dfl .mark) x.2.1 x.2.2.2.1).mf
let v104 := (rd (dfl .mark) x.2.1 x.2.2.2.1).mn
let v105 := (rd (dfl .mark) x.2.1 x.2.2.2.1).mu
(if (decide (v103 = x.1.1)) then
(if ((decide (x.1.2.2.1 ≤ v104)) || (decide (v105 ≤ x.1.2.1))) then
some (.inr (.inl (false, ())))
else
some (.inl (x.1, x.2.1, x.2.2.1, (w64 (x.2.2.2.1 + 1)), ())))
else
(if (decide (v105 ≤ x.1.2.1)) then
some (.inr (.inl (false, ())))
else
some (.inl (x.1, x.2.1, x.2.2.1, (w64 (x.2.2.2.1 + 1)), ()))))
else none)
else
some (.inr (.inr (x.1, ()))))
noncomputable def jQ := aA jT
noncomputable def qo : Loop := ⟨[(1, Z9), (104, .sl .mark), (105, .int .i64), (106, .int .i64)], [(1, Z9)], 2, [(2, .bool)], jQ⟩
theorem DB : LF Tryz.f97 [] [1, 1, 1, 1, 0, 1, 0, 0] qo := lk (v := .nil) k8 (b := jT) (fun _ => by kernel_rfl) rfl (by kernel_rfl) (kN)
noncomputable def jU (x : Y7 × List Note × Int × Int × Unit) : Rnd (Y7 × List Note × Int × Int × Unit) (Bool × Unit) (Y7 × Unit) :=
(if (decide (x.2.2.2.1 < x.2.2.1)) then
(if inb x.2.2.2.1 x.2.1.length then
let v77 := (rd (dfl .note) x.2.1 x.2.2.2.1).fr
let v78 := (rd (dfl .note) x.2.1 x.2.2.2.1).nu
let v79 := (rd (dfl .note) x.2.1 x.2.2.2.1).to
let v80 := (rd (dfl .note) x.2.1 x.2.2.2.1).un
let v81 := (rd (dfl .note) x.2.1 x.2.2.2.1).tx
(if (decide (v77 = x.1.1)) then
(if (decide (x.1.2.2.1 ≤ v78)) then
some (.inr (.inl (false, ())))
else
(if (decide (v80 ≤ x.1.2.1)) then
some (.inr (.inl (false, ())))
else
(jq (x.1.1, (v77, v78, v79, v80, v81, ()), ())).bind fun r82 =>
(if (!r82.1.1) then
some (.inr (.inl (false, ())))
else
(bG (x.1.2.2.2.2.1, v77, v78, ())).bind fun r83 =>
(if (decide (0 ≤ r83.1.1)) then
some (.inr (.inl (false, ())))
else
some (.inl (x.1, x.2.1, x.2.2.1, (w64 (x.2.2.2.1 + 1)), ()))))))
else
(if (decide (v80 ≤ x.1.2.1)) then
some (.inr (.inl (false, ())))
else
(jq (x.1.1, (v77, v78, v79, v80, v81, ()), ())).bind fun r84 =>
(if (!r84.1.1) then
some (.inr (.inl (false, ())))
else
(bG (x.1.2.2.2.2.1, v77, v78, ())).bind fun r85 =>
(if (decide (0 ≤ r85.1.1)) then
some (.inr (.inl (false, ())))
else
some (.inl (x.1, x.2.1, x.2.2.1, (w64 (x.2.2.2.1 + 1)), ()))))))
else none)
else
some (.inr (.inr (x.1, ()))))
noncomputable def jR := aA jU
noncomputable def qp : Loop := ⟨[(1, Z9), (60, .sl .note), (61, .int .i64), (62, .int .i64)], [(1, Z9)], 0, [(2, .bool)], jR⟩
theorem DP : LF Tryz.f97 [] [1, 1, 1, 0, 1, 0, 0] qp := lk (v := .nil) k8 (b := jU) (fun _ => by kernel_rfl) rfl (by kernel_rfl) (kN)
noncomputable def dK (x : Y7 × Unit) : Option ((Bool × Unit) × Unit) :=
(aH (x.1.1, ())).bind fun r7 =>
(if (!r7.1.1) then
some ((false, ()), ())
else
(ax (x.1.2.1, 0, 999, ())).bind fun r8 =>
(if (!r8.1.1) then
some ((false, ()), ())
else
(ax (x.1.2.2.1, 1, 100, ())).bind fun r9 =>
(if (!r9.1.1) then
some ((false, ()), ())
else
(if (decide (6 < (x.1.2.2.2.1.length : Int))) then
some ((false, ()), ())
else
(if (decide (12 < (x.1.2.2.2.2.1.length : Int))) then
some ((false, ()), ())
else
(if (decide (6 < (x.1.2.2.2.2.2.1.length : Int))) then
some ((false, ()), ())
else
(eR (x.1.2.2.2.1, ())).bind fun r16 =>
(if (!r16.1.1) then
some ((false, ()), ())
else
(jy (x.1.2.2.2.2.1, ())).bind fun r17 =>
(if (!r17.1.1) then
some ((false, ()), ())
else
(eR x.1.2.2.2.2.2).bind fun r18 =>
(if (!r18.1.1) then
some ((false, ()), ())
else
(aw (jR (x.1, x.1.2.2.2.1, (x.1.2.2.2.1.length : Int), 0, ()))
(fun y86 => some (y86, ()))
(fun y86 => (aw (jQ (y86.1, y86.1.2.2.2.2.1, (y86.1.2.2.2.2.1.length : Int), 0, ()))
(fun y106 => some (y106, ()))
(fun y106 => (aw (jP (y106.1, y106.1.2.2.2.2.2.1, (y106.1.2.2.2.2.2.1.length : Int), 0, ()))
(fun y156 => some (y156, ()))
(fun y156 => some ((true, ()), ()))))))))))))))))
noncomputable def vc : Ent := (97, none, ⟨[Z10], [.bool], dK⟩)
theorem x9 : SQ Tryz.prog vc := so (v := .two (.nil) (.two (.nil) (.two (.nil) (.two (.two (.nil) (.one (.loop qp))) (.two (.two (.nil) (.one (.loop qo))) (.two (.two (.nil) (.one (.loop qn))) (.nil))))))) (fn := Tryz.f97) k8 (by kernel_rfl) (by kernel_rfl) (by kernel_rfl) (kC DP (kC DB (kC Dy (kN)))) (fun _ => by kernel_rfl)
noncomputable def BO : Cx := cX [] [] []
theorem m6 : OKC Tryz.prog BO ac := okc mixed (am)
noncomputable def gP (x : Int × Y7 × Y7 × List Mark × Int × Int × Unit) : Rnd (Int × Y7 × Y7 × List Mark × Int × Int × Unit) (Unit) (Y7 × Y7 × Unit) :=
(if (decide (x.2.2.2.2.2.1 < x.2.2.2.2.1)) then
(if inb x.2.2.2.2.2.1 x.2.2.2.1.length then
let v69 := (rd (dfl .mark) x.2.2.2.1 x.2.2.2.2.2.1).mf
let v70 := (rd (dfl .mark) x.2.2.2.1 x.2.2.2.2.2.1).mn
let v71 := (rd (dfl .mark) x.2.2.2.1 x.2.2.2.2.2.1).mu
(if (decide (x.1 < v71)) then
(if dA (x.2.2.1.2.2.2.2.1.length + ([(Mark.mk v69 v70 v71)] : List Mark).length) then
some (.inl (x.1, x.2.1, (x.2.2.1.1, x.2.2.1.2.1, x.2.2.1.2.2.1, x.2.2.1.2.2.2.1, (x.2.2.1.2.2.2.2.1 ++ ([(Mark.mk v69 v70 v71)] : List Mark)), x.2.2.1.2.2.2.2.2), x.2.2.2.1, x.2.2.2.2.1, (w64 (x.2.2.2.2.2.1 + 1)), ()))
else none)
else
some (.inl (x.1, x.2.1, x.2.2.1, x.2.2.2.1, x.2.2.2.2.1, (w64 (x.2.2.2.2.2.1 + 1)), ())))
else none)
else
some (.inr (.inr (x.2.1, x.2.2.1, ()))))
noncomputable def iu := aA gP
noncomputable def oH : Loop := ⟨[(1, .int .i64), (4, Z11), (5, Z20), (37, .sl .mark), (38, .int .i64), (39, .int .i64)], [(4, Z11), (5, Z20)], 2, [], iu⟩
theorem AR : LF Tryz.f123 [] [1, 1, 1, 0, 1, 0, 0] oH := lk (v := .nil) m6 (b := gP) (fun _ => by kernel_rfl) rfl (by kernel_rfl) (kN)
noncomputable def gQ (x : Int × Y7 × Y7 × Y7 × List Note × Int × Int × Unit) : Rnd (Int × Y7 × Y7 × Y7 × List Note × Int × Int × Unit) (Unit) (Int × Y7 × Y7 × Y7 × Unit) :=
(if (decide (x.2.2.2.2.2.2.1 < x.2.2.2.2.2.1)) then
(if inb x.2.2.2.2.2.2.1 x.2.2.2.2.1.length then
let v47 := (rd (dfl .note) x.2.2.2.2.1 x.2.2.2.2.2.2.1).fr
let v48 := (rd (dfl .note) x.2.2.2.2.1 x.2.2.2.2.2.2.1).nu
let v49 := (rd (dfl .note) x.2.2.2.2.1 x.2.2.2.2.2.2.1).to
let v50 := (rd (dfl .note) x.2.2.2.2.1 x.2.2.2.2.2.2.1).un
let v51 := (rd (dfl .note) x.2.2.2.2.1 x.2.2.2.2.2.2.1).tx
(if (decide (x.1 < v50)) then
(if dA (x.2.2.2.1.2.2.2.1.length + ([(Note.mk v47 v48 v49 v50 v51)] : List Note).length) then
some (.inl (x.1, x.2.1, x.2.2.1, (x.2.2.2.1.1, x.2.2.2.1.2.1, x.2.2.2.1.2.2.1, (x.2.2.2.1.2.2.2.1 ++ ([(Note.mk v47 v48 v49 v50 v51)] : List Note)), x.2.2.2.1.2.2.2.2), x.2.2.2.2.1, x.2.2.2.2.2.1, (w64 (x.2.2.2.2.2.2.1 + 1)), ()))
else none)
else
some (.inl (x.1, x.2.1, x.2.2.1, x.2.2.2.1, x.2.2.2.2.1, x.2.2.2.2.2.1, (w64 (x.2.2.2.2.2.2.1 + 1)), ())))
else none)
else
some (.inr (.inr (x.1, x.2.1, x.2.2.1, x.2.2.2.1, ()))))
noncomputable def iv := aA gQ
noncomputable def oI : Loop := ⟨[(1, .int .i64), (2, Z9), (4, Z11), (5, Z20), (19, .sl .note), (20, .int .i64), (21, .int .i64)], [(1, .int .i64), (2, Z9), (4, Z11), (5, Z20)], 0, [], iv⟩
theorem A9 : LF Tryz.f123 [] [1, 1, 0, 1, 0, 0] oI := lk (v := .nil) m6 (b := gQ) (fun _ => by kernel_rfl) rfl (by kernel_rfl) (kN)
noncomputable def jM (x : Y7 × Int × Unit) : Option ((Y7 × Unit) × Unit) :=
(aw (iv (x.2.1, x.1, (0, 0, 0, ([] : List Note), ([] : List Mark), ([] : List Note), ()), (x.1.1, x.2.1, x.1.2.2.1, ([] : List Note), ([] : List Mark), x.1.2.2.2.2.2), x.1.2.2.2.1, (x.1.2.2.2.1.length : Int), 0, ()))
(fun _ => none)
(fun y52 => (aw (iu (y52.1, y52.2.2.1, y52.2.2.2.1, y52.2.1.2.2.2.2.1, (y52.2.1.2.2.2.2.1.length : Int), 0, ()))
(fun _ => none)
(fun y72 => some (y72.2, ())))))
noncomputable def sN : Ent := (123, none, ⟨[Z10, .int .i64], [Z10], jM⟩)
theorem wF : SQ Tryz.prog sN := so (v := .two (.nil) (.two (.nil) (.two (.two (.nil) (.one (.loop oI))) (.two (.two (.nil) (.one (.loop oH))) (.nil))))) (fn := Tryz.f123) m6 (by kernel_rfl) (by kernel_rfl) (by kernel_rfl) (kC A9 (kC AR (kN))) (fun _ => by kernel_rfl)
noncomputable def F5 : Cx := cX [sN] [] [(12, 15), (24, 27)]
theorem H8 : OKC Tryz.prog F5 ac := okc mixed (gC wF (am))
noncomputable def jJ (x : Y7 × ByteArray × Int × Unit) : Option ((Y7 × Bool × Unit) × Unit) :=
let v6 := ((decide (x.2.1 = (B [116, 105, 109, 101]))) && (decide (x.1.2.1 < x.2.2.1)))
(if v6 then
(jM (x.1, x.2.2)).bind fun r7 =>
some ((r7.1.1, true, ()), ())
else
let v8 := ((decide (x.2.1 = (B [110, 101, 120, 116]))) && (decide (x.1.2.2.1 < x.2.2.1)))
(if v8 then
some (((x.1.1, x.1.2.1, x.2.2.1, x.1.2.2.2), true, ()), ())
else
some ((x.1, false, ()), ())))
noncomputable def ym : Ent := (111, none, ⟨[Z10, .str, .int .i64], [Z10, .bool], jJ⟩)
theorem zk : SQ Tryz.prog ym := so (v := .nil) (fn := Tryz.f111) H8 (by kernel_rfl) (by kernel_rfl) (by kernel_rfl) (kN) (fun _ => by kernel_rfl)
noncomputable def zO : Cx := cX [jZ] [] []
theorem qS : OKC Tryz.prog zO ac := okc mixed (gC ip (am))
noncomputable def fB (x : List Int × List ByteArray × Int × Int × Unit) : Rnd (List Int × List ByteArray × Int × Int × Unit) (List Int × Bool × Unit) (List Int × Unit) :=
(if (decide (x.2.2.2.1 < x.2.2.1)) then
(if inb x.2.2.2.1 x.2.1.length then
let v20 := (rd (dfl .str) x.2.1 x.2.2.2.1)
(cj (v20, ())).bind fun r21 =>
(if (!r21.1.2.1) then
some (.inr (.inl (([] : List Int), false, ())))
else
(if dA (x.1.length + ([r21.1.1] : List Int).length) then
some (.inl ((x.1 ++ ([r21.1.1] : List Int)), x.2.1, x.2.2.1, (w64 (x.2.2.2.1 + 1)), ()))
else none))
else none)
else
some (.inr (.inr (x.1, ()))))
noncomputable def fN := aA fB
noncomputable def ny : Loop := ⟨[(4, .row 3 .int), (9, .sl .str), (10, .int .i64), (11, .int .i64)], [(4, .row 3 .int)], 0, [(2, .row 3 .int), (3, .bool)], fN⟩
theorem zg : LF Tryz.f114 [] [1, 1, 0, 1, 0, 0] ny := lk (v := .nil) qS (b := fB) (fun _ => by kernel_rfl) rfl (by kernel_rfl) (kN)
noncomputable def co (x : List ByteArray × Unit) : Option ((List Int × Bool × Unit) × Unit) :=
(aw (fN (([] : List Int), x.1, (x.1.length : Int), 0, ()))
(fun y22 => some (y22, ()))
(fun y22 => some ((y22.1, true, ()), ())))
noncomputable def lB : Ent := (114, none, ⟨[.fz .str], [.row 3 .int, .bool], co⟩)
theorem lP : SQ Tryz.prog lB := so (v := .two (.nil) (.two (.nil) (.two (.two (.nil) (.one (.loop ny))) (.nil)))) (fn := Tryz.f114) qS (by kernel_rfl) (by kernel_rfl) (by kernel_rfl) (kC zg (kN)) (fun _ => by kernel_rfl)
noncomputable def yC : Cx := cX [dL, sb] [] []
theorem zX : OKC Tryz.prog yC ac := okc mixed (gC cy (gC vC (am)))
noncomputable def cZ (x : Y5 × Unit) : Option ((ByteArray × Unit) × Unit) :=
(cc x).bind fun r2 =>
(if (!r2.1.1) then
some ((noB, ()), ())
else
(cM (x.1.1, ())).bind fun r3 =>
(if decide (r3.1.1.size + (B [32]).size ≤ 4611686018427387904) then
(cM (x.1.2.1, ())).bind fun r4 =>
(if decide ((r3.1.1 ++ (B [32])).size + r4.1.1.size ≤ 4611686018427387904) then
(if decide (((r3.1.1 ++ (B [32])) ++ r4.1.1).size + (B [32]).size ≤ 4611686018427387904) then
(cM (x.1.2.2.1, ())).bind fun r5 =>
(if decide ((((r3.1.1 ++ (B [32])) ++ r4.1.1) ++ (B [32])).size + r5.1.1.size ≤ 4611686018427387904) then
(if decide (((((r3.1.1 ++ (B [32])) ++ r4.1.1) ++ (B [32])) ++ r5.1.1).size + (B [32]).size ≤ 4611686018427387904) then
(cM (x.1.2.2.2.1, ())).bind fun r6 =>
(if decide ((((((r3.1.1 ++ (B [32])) ++ r4.1.1) ++ (B [32])) ++ r5.1.1) ++ (B [32])).size + r6.1.1.size ≤ 4611686018427387904) then
(if decide (((((((r3.1.1 ++ (B [32])) ++ r4.1.1) ++ (B [32])) ++ r5.1.1) ++ (B [32])) ++ r6.1.1).size + (B [32]).size ≤ 4611686018427387904) then
(if decide ((((((((r3.1.1 ++ (B [32])) ++ r4.1.1) ++ (B [32])) ++ r5.1.1) ++ (B [32])) ++ r6.1.1) ++ (B [32])).size + x.1.2.2.2.2.1.size ≤ 4611686018427387904) then
let v7 := ((((((((r3.1.1 ++ (B [32])) ++ r4.1.1) ++ (B [32])) ++ r5.1.1) ++ (B [32])) ++ r6.1.1) ++ (B [32])) ++ x.1.2.2.2.2.1)
some ((v7, ()), ())
else none)
else none)
else none)
else none)
else none)
else none)
else none)
else none))
noncomputable def o4 : Ent := (125, none, ⟨[Z5], [.str], cZ⟩)
theorem rR : SQ Tryz.prog o4 := so (v := .nil) (fn := Tryz.f125) zX (by kernel_rfl) (by kernel_rfl) (by kernel_rfl) (kN) (fun _ => by kernel_rfl)
noncomputable def zQ : Cx := cX [dL, lB, oR, o4] [] [(43, 46)]
theorem B4 : OKC Tryz.prog zQ ac := okc mixed (gC cy (gC lP (gC q4 (gC rR (am)))))
noncomputable def dC (x : ByteArray × Unit) : Option ((Y5 × Bool × Unit) × Unit) :=
(kh (x.1, (B [32]), 5, ())).bind fun r1 =>
(if (!decide ((r1.1.1.length : Int) = 5)) then
some (((0, 0, 0, 0, noB, ()), false, ()), ())
else
(if (decide (0 ≤ 4) && decide (4 ≤ (r1.1.1.length : Int))) then
(co ((List.take (Int.toNat 4) r1.1.1), ())).bind fun r2 =>
(if (!r2.1.2.1) then
some (((0, 0, 0, 0, noB, ()), false, ()), ())
else
(if inb 0 r2.1.1.length then
(if inb 1 r2.1.1.length then
(if inb 2 r2.1.1.length then
(if inb 3 r2.1.1.length then
(if inb 4 r1.1.1.length then
(cc (((rd (dfl .int) r2.1.1 0), (rd (dfl .int) r2.1.1 1), (rd (dfl .int) r2.1.1 2), (rd (dfl .int) r2.1.1 3), (rd (dfl .str) r1.1.1 4), ()), ())).bind fun r5 =>
(if (aE (!(!r5.1.1)) ((cZ (((rd (dfl .int) r2.1.1 0), (rd (dfl .int) r2.1.1 1), (rd (dfl .int) r2.1.1 2), (rd (dfl .int) r2.1.1 3), (rd (dfl .str) r1.1.1 4), ()), ())).isSome)) then
(if ((!r5.1.1) || (!decide (((cZ (((rd (dfl .int) r2.1.1 0), (rd (dfl .int) r2.1.1 1), (rd (dfl .int) r2.1.1 2), (rd (dfl .int) r2.1.1 3), (rd (dfl .str) r1.1.1 4), ()), ())).getD ((noB, ()), ())).1.1 = x.1))) then
some (((0, 0, 0, 0, noB, ()), false, ()), ())
else
some ((((rd (dfl .int) r2.1.1 0), (rd (dfl .int) r2.1.1 1), (rd (dfl .int) r2.1.1 2), (rd (dfl .int) r2.1.1 3), (rd (dfl .str) r1.1.1 4), ()), true, ()), ()))
else none)
else none)
else none)
else none)
else none)
else none))
else none))
noncomputable def qK : Ent := (112, none, ⟨[.str], [Z5, .bool], dC⟩)
theorem ug : SQ Tryz.prog qK := so (v := .nil) (fn := Tryz.f112) B4 (by kernel_rfl) (by kernel_rfl) (by kernel_rfl) (kN) (fun _ => by kernel_rfl)
noncomputable def Ex : Cx := cX [] [] [(21, 24)]
theorem vn : OKC Tryz.prog Ex ac := okc mixed (am)
noncomputable def jv (x : Int × Int × List Note × Int × Int × Unit) : Rnd (Int × Int × List Note × Int × Int × Unit) (Int × Unit) (Unit) :=
(if (decide (x.2.2.2.2.1 < x.2.2.2.1)) then
(if inb x.2.2.2.2.1 x.2.2.1.length then
let v27 := (rd (dfl .note) x.2.2.1 x.2.2.2.2.1).fr
let v28 := (rd (dfl .note) x.2.2.1 x.2.2.2.2.1).nu
let v29 := (rd (dfl .note) x.2.2.1 x.2.2.2.2.1).to
let v30 := (rd (dfl .note) x.2.2.1 x.2.2.2.2.1).un
let v31 := (rd (dfl .note) x.2.2.1 x.2.2.2.2.1).tx
(if ((decide (v27 = x.1)) && (decide (v28 = x.2.1))) then
some (.inr (.inl x.2.2.2.2))
else
some (.inl (x.1, x.2.1, x.2.2.1, x.2.2.2.1, (w64 (x.2.2.2.2.1 + 1)), ())))
else none)
else
some (.inr (.inr ())))
noncomputable def ju := aA jv
noncomputable def qe : Loop := ⟨[(1, .int .i64), (2, .int .i64), (9, .sl .note), (10, .int .i64), (11, .int .i64)], [], 0, [(6, .int .i64)], ju⟩
theorem DK : LF Tryz.f127 [] [1, 0, 1, 0, 0] qe := lk (v := .nil) vn (b := jv) (fun _ => by kernel_rfl) rfl (by kernel_rfl) (kN)
noncomputable def bh (x : List Note × Int × Int × Unit) : Option ((Int × Unit) × Unit) :=
(aw (ju (x.2.1, x.2.2.1, x.1, (x.1.length : Int), 0, ()))
(fun y32 => some (y32, ()))
(fun y32 => some (((-1), ()), ())))
noncomputable def k0 : Ent := (127, none, ⟨[.fz .note, .int .i64, .int .i64], [.int .i64], bh⟩)
theorem jt : SQ Tryz.prog k0 := so (v := .two (.nil) (.two (.two (.nil) (.one (.loop qe))) (.nil))) (fn := Tryz.f127) vn (by kernel_rfl) (by kernel_rfl) (by kernel_rfl) (kC DK (kN)) (fun _ => by kernel_rfl)
noncomputable def Ew : Cx := cX [ga] [] [(11, 25)]
theorem vm : OKC Tryz.prog Ew ac := okc mixed (gC eg (am))
noncomputable def js (x : List Note × Y5 × Int × Unit) : Rnd (List Note × Y5 × Int × Unit) (Unit) (List Note × Y5 × Int × Unit) :=
(if (aE (decide (x.2.2.1 < (x.1.length : Int))) (inb x.2.2.1 x.1.length)) then
(if (aE (decide (x.2.2.1 < (x.1.length : Int))) (inb x.2.2.1 x.1.length)) then
(if (aE (decide (x.2.2.1 < (x.1.length : Int))) ((bj ((rd (dfl .note) x.1 x.2.2.1).fr, (rd (dfl .note) x.1 x.2.2.1).nu, x.2.1.1, x.2.1.2.1, ())).isSome)) then
(if ((decide (x.2.2.1 < (x.1.length : Int))) && (((bj ((rd (dfl .note) x.1 x.2.2.1).fr, (rd (dfl .note) x.1 x.2.2.1).nu, x.2.1.1, x.2.1.2.1, ())).getD ((false, ()), ())).1.1)) then
some (.inl (x.1, x.2.1, (w64 (x.2.2.1 + 1)), ()))
else
some (.inr (.inr x)))
else none)
else none)
else none)
noncomputable def jr := aA js
noncomputable def qd : Loop := ⟨[(0, .sl .note), (3, Z8), (5, .int .i64)], [(0, .sl .note), (3, Z8), (5, .int .i64)], 0, [], jr⟩
theorem DJ : LF Tryz.f128 [] [1, 1, 0, 0, 0] qd := lk (v := .nil) vm (b := js) (fun _ => by kernel_rfl) rfl (by kernel_rfl) (kN)
noncomputable def cI (x : List Note × Y5 × Unit) : Option ((List Note × Unit) × Unit) :=
(aw (jr (x.1, x.2.1, 0, ()))
(fun _ => none)
(fun y2 => (if (decide (0 ≤ y2.2.2.1) && decide (y2.2.2.1 ≤ (y2.1.length : Int))) then
(if dA (([] : List Note).length + (List.take (Int.toNat y2.2.2.1) y2.1).length) then
(if dA ((([] : List Note) ++ (List.take (Int.toNat y2.2.2.1) y2.1)).length + ([(Note.mk y2.2.1.1 y2.2.1.2.1 y2.2.1.2.2.1 y2.2.1.2.2.2.1 y2.2.1.2.2.2.2.1)] : List Note).length) then
(if (decide (0 ≤ y2.2.2.1) && decide (y2.2.2.1 ≤ (y2.1.length : Int))) then
(if dA (((([] : List Note) ++ (List.take (Int.toNat y2.2.2.1) y2.1)) ++ ([(Note.mk y2.2.1.1 y2.2.1.2.1 y2.2.1.2.2.1 y2.2.1.2.2.2.1 y2.2.1.2.2.2.2.1)] : List Note)).length + (List.drop (Int.toNat y2.2.2.1) y2.1).length) then
some (((((([] : List Note) ++ (List.take (Int.toNat y2.2.2.1) y2.1)) ++ ([(Note.mk y2.2.1.1 y2.2.1.2.1 y2.2.1.2.2.1 y2.2.1.2.2.2.1 y2.2.1.2.2.2.2.1)] : List Note)) ++ (List.drop (Int.toNat y2.2.2.1) y2.1)), ()), ())
else none)
else none)
else none)
else none)
else none)))
noncomputable def nY : Ent := (128, none, ⟨[.fz .note, Z5], [.row 54 .note], cI⟩)
theorem nv : SQ Tryz.prog nY := so (v := .two (.nil) (.two (.nil) (.two (.one (.loop qd)) (.nil)))) (fn := Tryz.f128) vm (by kernel_rfl) (by kernel_rfl) (by kernel_rfl) (kC DJ (kN)) (fun _ => by kernel_rfl)
noncomputable def Ez : Cx := cX [ga] [] [(11, 25)]
theorem vo : OKC Tryz.prog Ez ac := okc mixed (gC eg (am))
noncomputable def jA (x : List Mark × Y8 × Int × Unit) : Rnd (List Mark × Y8 × Int × Unit) (Unit) (List Mark × Y8 × Int × Unit) :=
(if (aE (decide (x.2.2.1 < (x.1.length : Int))) (inb x.2.2.1 x.1.length)) then
(if (aE (decide (x.2.2.1 < (x.1.length : Int))) (inb x.2.2.1 x.1.length)) then
(if (aE (decide (x.2.2.1 < (x.1.length : Int))) ((bj ((rd (dfl .mark) x.1 x.2.2.1).mf, (rd (dfl .mark) x.1 x.2.2.1).mn, x.2.1.1, x.2.1.2.1, ())).isSome)) then
(if ((decide (x.2.2.1 < (x.1.length : Int))) && (((bj ((rd (dfl .mark) x.1 x.2.2.1).mf, (rd (dfl .mark) x.1 x.2.2.1).mn, x.2.1.1, x.2.1.2.1, ())).getD ((false, ()), ())).1.1)) then
some (.inl (x.1, x.2.1, (w64 (x.2.2.1 + 1)), ()))
else
some (.inr (.inr x)))
else none)
else none)
else none)
noncomputable def jz := aA jA
noncomputable def qf : Loop := ⟨[(0, .sl .mark), (3, Z12), (5, .int .i64)], [(0, .sl .mark), (3, Z12), (5, .int .i64)], 0, [], jz⟩
theorem DL : LF Tryz.f131 [] [1, 1, 0, 0, 0] qf := lk (v := .nil) vo (b := jA) (fun _ => by kernel_rfl) rfl (by kernel_rfl) (kN)
noncomputable def dI (x : List Mark × Y8 × Unit) : Option ((List Mark × Unit) × Unit) :=
(aw (jz (x.1, x.2.1, 0, ()))
(fun _ => none)
(fun y2 => (if (decide (0 ≤ y2.2.2.1) && decide (y2.2.2.1 ≤ (y2.1.length : Int))) then
(if dA (([] : List Mark).length + (List.take (Int.toNat y2.2.2.1) y2.1).length) then
(if dA ((([] : List Mark) ++ (List.take (Int.toNat y2.2.2.1) y2.1)).length + ([(Mark.mk y2.2.1.1 y2.2.1.2.1 y2.2.1.2.2.1)] : List Mark).length) then
(if (decide (0 ≤ y2.2.2.1) && decide (y2.2.2.1 ≤ (y2.1.length : Int))) then
(if dA (((([] : List Mark) ++ (List.take (Int.toNat y2.2.2.1) y2.1)) ++ ([(Mark.mk y2.2.1.1 y2.2.1.2.1 y2.2.1.2.2.1)] : List Mark)).length + (List.drop (Int.toNat y2.2.2.1) y2.1).length) then
some (((((([] : List Mark) ++ (List.take (Int.toNat y2.2.2.1) y2.1)) ++ ([(Mark.mk y2.2.1.1 y2.2.1.2.1 y2.2.1.2.2.1)] : List Mark)) ++ (List.drop (Int.toNat y2.2.2.1) y2.1)), ()), ())
else none)
else none)
else none)
else none)
else none)))
noncomputable def nZ : Ent := (131, none, ⟨[.fz .mark, Z13], [.row 133 .mark], dI⟩)
theorem nz : SQ Tryz.prog nZ := so (v := .two (.nil) (.two (.nil) (.two (.one (.loop qf)) (.nil)))) (fn := Tryz.f131) vo (by kernel_rfl) (by kernel_rfl) (by kernel_rfl) (kC DL (kN)) (fun _ => by kernel_rfl)
noncomputable def EH : Cx := cX [dL, k6, k0, nY, nZ] [] []
theorem Gr : OKC Tryz.prog EH ac := okc mixed (gC cy (gC jB (gC jt (gC nv (gC nz (am))))))
noncomputable def fW (x : Y7 × Y5 × Unit) : Option ((Y7 × Bool × Unit) × Unit) :=
(cc x.2).bind fun r9 =>
(if (!r9.1.1) then
some ((x.1, false, ()), ())
else
(if (decide (x.2.1.2.2.2.1 ≤ x.1.2.1)) then
some ((x.1, false, ()), ())
else
(bh (x.1.2.2.2.1, x.2.1.1, x.2.1.2.1, ())).bind fun r10 =>
(if (decide (0 ≤ r10.1.1)) then
some ((x.1, false, ()), ())
else
(bh (x.1.2.2.2.2.2.1, x.2.1.1, x.2.1.2.1, ())).bind fun r11 =>
(if (decide (0 ≤ r11.1.1)) then
some ((x.1, false, ()), ())
else
(bG (x.1.2.2.2.2.1, x.2.1.1, x.2.1.2.1, ())).bind fun r12 =>
(if (decide (0 ≤ r12.1.1)) then
some ((x.1, false, ()), ())
else
(if (decide (12 < (w64 ((w64 ((x.1.2.2.2.1.length : Int) + (x.1.2.2.2.2.1.length : Int))) + 1)))) then
some ((x.1, false, ()), ())
else
(if (decide (x.2.1.2.2.1 = x.1.1)) then
(cI (x.1.2.2.2.2.2.1, x.2)).bind fun r16 =>
(dI (x.1.2.2.2.2.1, (x.2.1.1, x.2.1.2.1, x.2.1.2.2.2.1, ()), ())).bind fun r17 =>
some (((x.1.1, x.1.2.1, x.1.2.2.1, x.1.2.2.2.1, r17.1.1, r16.1), true, ()), ())
else
(cI (x.1.2.2.2.1, x.2)).bind fun r18 =>
some (((x.1.1, x.1.2.1, x.1.2.2.1, r18.1.1, x.1.2.2.2.2), true, ()), ()))))))))
noncomputable def vb : Ent := (126, none, ⟨[Z10, Z5], [Z10, .bool], fW⟩)
theorem x7 : SQ Tryz.prog vb := so (v := .nil) (fn := Tryz.f126) Gr (by kernel_rfl) (by kernel_rfl) (by kernel_rfl) (kN) (fun _ => by kernel_rfl)
noncomputable def EE : Cx := cX [vb, k0, nY] [] [(19, 23), (38, 42), (59, 66)]
theorem Gn : OKC Tryz.prog EE ac := okc mixed (gC x7 (gC jt (gC nv (am))))
noncomputable def fU (x : Y7 × ByteArray × Y5 × Unit) : Option ((Y7 × Bool × Unit) × Unit) :=
(fH (X := ByteArray × Y7 × Y5 × Y7 × Bool × Unit) (fun j16 =>
(if j16.2.2.2.2.1 then
let v18 := (w64 (j16.2.1.2.2.1 + 1))
(fW ((j16.2.1.1, j16.2.1.2.1, v18, j16.2.1.2.2.2), j16.2.2.1, ())).bind fun r19 =>
some (r19.1, ())
else
let v20 := ((decide (j16.1 = (B [116, 97, 107, 101]))) && (!decide (j16.2.2.1.1 = j16.2.1.1)))
(if v20 then
(fW (j16.2.1, j16.2.2.1, ())).bind fun r21 =>
some (r21.1, ())
else
(bh (j16.2.1.2.2.2.1, j16.2.2.1.1, j16.2.2.1.2.1, ())).bind fun r22 =>
(if (aE (!(decide (0 ≤ r22.1.1))) ((bh (j16.2.1.2.2.2.2.2.1, j16.2.2.1.1, j16.2.2.1.2.1, ())).isSome)) then
let v23 := ((decide (0 ≤ r22.1.1)) || (decide (0 ≤ ((bh (j16.2.1.2.2.2.2.2.1, j16.2.2.1.1, j16.2.2.1.2.1, ())).getD ((0, ()), ())).1.1)))
(if v23 then
some ((j16.2.1, false, ()), ())
else
let v24 := (decide (j16.1 = (B [104, 101, 108, 100])))
(if v24 then
(cI (j16.2.1.2.2.2.1, j16.2.2.1, ())).bind fun r25 =>
some (((j16.2.1.1, j16.2.1.2.1, j16.2.1.2.2.1, r25.1.1, j16.2.1.2.2.2.2), true, ()), ())
else
let v26 := (decide (j16.1 = (B [105, 110, 98, 111, 120])))
(if v26 then
(cI (j16.2.1.2.2.2.2.2.1, j16.2.2.1, ())).bind fun r27 =>
some (((j16.2.1.1, j16.2.1.2.1, j16.2.1.2.2.1, j16.2.1.2.2.2.1, j16.2.1.2.2.2.2.1, r27.1), true, ()), ())
else
some ((j16.2.1, false, ()), ()))))
else none))))
((if (decide (x.2.1 = (B [111, 119, 110]))) then
let v17 := ((decide (x.2.2.1.1 = x.1.1)) && (decide (x.2.2.1.2.1 = x.1.2.2.1)))
some (.inr (x.2.1, x.1, x.2.2.1, (0, 0, 0, ([] : List Note), ([] : List Mark), ([] : List Note), ()), v17, ()))
else
some (.inr (x.2.1, x.1, x.2.2.1, (0, 0, 0, ([] : List Note), ([] : List Mark), ([] : List Note), ()), false, ())))))
noncomputable def u9 : Ent := (113, none, ⟨[Z10, .str, Z5], [Z10, .bool], fU⟩)
theorem x4 : SQ Tryz.prog u9 := so (v := .two (.nil) (.two (.one (.join [(1, .str), (3, Z9), (5, Z8), (6, Z11), (8, .bool)] (.nil) (.nil))) (.nil))) (fn := Tryz.f113) Gn (by kernel_rfl) (by kernel_rfl) (by kernel_rfl) (kN) (fun _ => by kernel_rfl)
noncomputable def BL : Cx := cX [] [] []
theorem E8 : OKC Tryz.prog BL ac := okc mixed (am)
noncomputable def cY (x : List Note × Int × Unit) : Option ((List Note × Unit) × Unit) :=
(if (decide (0 ≤ x.2.1) && decide (x.2.1 ≤ (x.1.length : Int))) then
(if dA (([] : List Note).length + (List.take (Int.toNat x.2.1) x.1).length) then
(if (decide (0 ≤ (w64 (x.2.1 + 1))) && decide ((w64 (x.2.1 + 1)) ≤ (x.1.length : Int))) then
(if dA ((([] : List Note) ++ (List.take (Int.toNat x.2.1) x.1)).length + (List.drop (Int.toNat (w64 (x.2.1 + 1))) x.1).length) then
some ((((([] : List Note) ++ (List.take (Int.toNat x.2.1) x.1)) ++ (List.drop (Int.toNat (w64 (x.2.1 + 1))) x.1)), ()), ())
else none)
else none)
else none)
else none)
noncomputable def sL : Ent := (130, none, ⟨[.fz .note, .int .i64], [.row 54 .note], cY⟩)
theorem wC : SQ Tryz.prog sL := so (v := .nil) (fn := Tryz.f130) E8 (by kernel_rfl) (by kernel_rfl) (by kernel_rfl) (kN) (fun _ => by kernel_rfl)
noncomputable def EF : Cx := cX [k6, k0, sL, nZ] [] [(41, 49), (70, 78), (90, 91)]
theorem Gp : OKC Tryz.prog EF ac := okc mixed (gC jB (gC jt (gC wC (gC nz (am)))))
noncomputable def fV (x : Y7 × ByteArray × Y8 × Unit) : Option ((Y7 × Bool × Unit) × Unit) :=
(bh (x.1.2.2.2.1, x.2.2.1.1, x.2.2.1.2.1, ())).bind fun r1 =>
(bh (x.1.2.2.2.2.2.1, x.2.2.1.1, x.2.2.1.2.1, ())).bind fun r2 =>
(bG (x.1.2.2.2.2.1, x.2.2.1.1, x.2.2.1.2.1, ())).bind fun r3 =>
(fH (X := ByteArray × Y7 × Y8 × Y7 × Int × Int × Bool × Bool × Unit) (fun j16 =>
(if j16.2.2.2.2.2.2.2.1 then
(cY (j16.2.1.2.2.2.1, j16.2.2.2.2.1, ())).bind fun r18 =>
(dI (j16.2.1.2.2.2.2.1, j16.2.2.1, ())).bind fun r19 =>
some (((j16.2.1.1, j16.2.1.2.1, j16.2.1.2.2.1, r18.1.1, r19.1.1, j16.2.1.2.2.2.2.2), true, ()), ())
else
(fH (X := ByteArray × Y7 × Y8 × Y7 × Int × Bool × Bool × Unit) (fun j20 =>
(if j20.2.2.2.2.2.2.1 then
(cY (j20.2.1.2.2.2.2.2.1, j20.2.2.2.2.1, ())).bind fun r22 =>
some (((j20.2.1.1, j20.2.1.2.1, j20.2.1.2.2.1, j20.2.1.2.2.2.1, j20.2.1.2.2.2.2.1, r22.1), true, ()), ())
else
let v23 := ((decide (j20.1 = (B [109, 97, 114, 107]))) && (!j20.2.2.2.2.2.1))
(if v23 then
(dI (j20.2.1.2.2.2.2.1, j20.2.2.1, ())).bind fun r24 =>
some (((j20.2.1.1, j20.2.1.2.1, j20.2.1.2.2.1, j20.2.1.2.2.2.1, r24.1.1, j20.2.1.2.2.2.2.2), true, ()), ())
else
some ((j20.2.1, false, ()), ()))))
((if (decide (j16.1 = (B [101, 97, 116]))) then
(if (aE (decide (0 ≤ j16.2.2.2.2.2.1)) (inb j16.2.2.2.2.2.1 j16.2.1.2.2.2.2.2.1.length)) then
let v21 := ((decide (0 ≤ j16.2.2.2.2.2.1)) && (decide ((rd (dfl .note) j16.2.1.2.2.2.2.2.1 j16.2.2.2.2.2.1).un = j16.2.2.1.2.2.1)))
some (.inr (j16.1, j16.2.1, j16.2.2.1, j16.2.2.2.1, j16.2.2.2.2.2.1, j16.2.2.2.2.2.2.1, v21, ()))
else none)
else
(if (aE false (inb j16.2.2.2.2.2.1 j16.2.1.2.2.2.2.2.1.length)) then
some (.inr (j16.1, j16.2.1, j16.2.2.1, j16.2.2.2.1, j16.2.2.2.2.2.1, j16.2.2.2.2.2.2.1, false, ()))
else none))))))
((if (decide (x.2.1 = (B [108, 101, 116]))) then
(if (aE (decide (0 ≤ r1.1.1)) (inb r1.1.1 x.1.2.2.2.1.length)) then
let v17 := ((decide (0 ≤ r1.1.1)) && (decide ((rd (dfl .note) x.1.2.2.2.1 r1.1.1).un = x.2.2.1.2.2.1)))
some (.inr (x.2.1, x.1, x.2.2.1, (0, 0, 0, ([] : List Note), ([] : List Mark), ([] : List Note), ()), r1.1.1, r2.1.1, (decide (0 ≤ r3.1.1)), v17, ()))
else none)
else
(if (aE false (inb r1.1.1 x.1.2.2.2.1.length)) then
some (.inr (x.2.1, x.1, x.2.2.1, (0, 0, 0, ([] : List Note), ([] : List Mark), ([] : List Note), ()), r1.1.1, r2.1.1, (decide (0 ≤ r3.1.1)), false, ()))
else none))))
noncomputable def va : Ent := (116, none, ⟨[Z10, .str, Z13], [Z10, .bool], fV⟩)
theorem x5 : SQ Tryz.prog va := so (v := .two (.nil) (.two (.nil) (.two (.nil) (.two (.one (.join [(1, .str), (3, Z9), (5, Z12), (6, Z11), (8, .int .i64), (9, .int .i64), (10, .bool), (33, .bool)] (.nil) (.two (.nil) (.join [(1, .str), (3, Z9), (5, Z12), (6, Z11), (9, .int .i64), (10, .bool), (62, .bool)] (.nil) (.nil))))) (.nil))))) (fn := Tryz.f116) Gp (by kernel_rfl) (by kernel_rfl) (by kernel_rfl) (kN) (fun _ => by kernel_rfl)
noncomputable def F6 : Cx := cX [jZ, uJ, ym, qK, u9, lB, qs, va] [] [(69, 71)]
theorem H9 : OKC Tryz.prog F6 ac := okc mixed (gC ip (gC w9 (gC zk (gC ug (gC x4 (gC lP (gC tP (gC x5 (am)))))))))
noncomputable def jK (x : Y7 × ByteArray × Unit) : Option ((Y7 × Bool × Unit) × Unit) :=
(fO (x.2.1, (B [32]), ())).bind fun r1 =>
(if (!r1.1.2.2.1) then
some ((x.1, false, ()), ())
else
(fH (X := Y7 × Y7 × ByteArray × ByteArray × ByteArray × Bool × Unit) (fun j30 =>
(if j30.2.2.2.2.2.1 then
(cj (j30.2.2.2.1, ())).bind fun r33 =>
(if r33.1.2.1 then
(jJ (j30.1, j30.2.2.1, r33.1.1, ())).bind fun r34 =>
some (r34.1, ())
else
some ((j30.1, false, ()), ()))
else
(fH (X := Y7 × Y7 × ByteArray × ByteArray × ByteArray × Bool × Unit) (fun j35 =>
(if j35.2.2.2.2.2.1 then
(dC (j35.2.2.2.1, ())).bind fun r40 =>
(if r40.1.2.1 then
(fU (j35.1, j35.2.2.1, r40.1.1, ())).bind fun r41 =>
some (r41.1, ())
else
some ((j35.1, false, ()), ()))
else
(fH (X := Y7 × Y7 × ByteArray × ByteArray × Bool × Unit) (fun j42 =>
(if j42.2.2.2.2.1 then
(gc (j42.2.2.2.1, (B [32]), ())).bind fun r46 =>
(co r46.1).bind fun r47 =>
(if (r47.1.2.1 && (decide ((r47.1.1.length : Int) = 3))) then
(if inb 0 r47.1.1.length then
(if inb 1 r47.1.1.length then
(if inb 2 r47.1.1.length then
(fV (j42.1, j42.2.2.1, ((rd (dfl .int) r47.1.1 0), (rd (dfl .int) r47.1.1 1), (rd (dfl .int) r47.1.1 2), ()), ())).bind fun r48 =>
some (r48.1, ())
else none)
else none)
else none)
else
some ((j42.1, false, ()), ()))
else
some ((j42.1, false, ()), ())))
(let v43 := (decide (j35.2.2.2.2.1 = (B [108, 101, 116])))
(if v43 then
some (.inr (j35.1, j35.2.1, j35.2.2.1, j35.2.2.2.1, v43, ()))
else
let v44 := (decide (j35.2.2.2.2.1 = (B [101, 97, 116])))
(if v44 then
some (.inr (j35.1, j35.2.1, j35.2.2.1, j35.2.2.2.1, v44, ()))
else
let v45 := (decide (j35.2.2.2.2.1 = (B [109, 97, 114, 107])))
some (.inr (j35.1, j35.2.1, j35.2.2.1, j35.2.2.2.1, v45, ()))))))))
(let v36 := (decide (j30.2.2.2.2.1 = (B [111, 119, 110])))
(if v36 then
some (.inr (j30.1, j30.2.1, j30.2.2.1, j30.2.2.2.1, j30.2.2.2.2.1, v36, ()))
else
let v37 := (decide (j30.2.2.2.2.1 = (B [116, 97, 107, 101])))
(if v37 then
some (.inr (j30.1, j30.2.1, j30.2.2.1, j30.2.2.2.1, j30.2.2.2.2.1, v37, ()))
else
let v38 := (decide (j30.2.2.2.2.1 = (B [104, 101, 108, 100])))
(if v38 then
some (.inr (j30.1, j30.2.1, j30.2.2.1, j30.2.2.2.1, j30.2.2.2.2.1, v38, ()))
else
let v39 := (decide (j30.2.2.2.2.1 = (B [105, 110, 98, 111, 120])))
some (.inr (j30.1, j30.2.1, j30.2.2.1, j30.2.2.2.1, j30.2.2.2.2.1, v39, ())))))))))
(let v31 := (decide (r1.1.1 = (B [116, 105, 109, 101])))
(if v31 then
some (.inr (x.1, (0, 0, 0, ([] : List Note), ([] : List Mark), ([] : List Note), ()), r1.1.1, r1.1.2.1, r1.1.1, v31, ()))
else
let v32 := (decide (r1.1.1 = (B [110, 101, 120, 116])))
some (.inr (x.1, (0, 0, 0, ([] : List Note), ([] : List Mark), ([] : List Note), ()), r1.1.1, r1.1.2.1, r1.1.1, v32, ()))))))
noncomputable def yn : Ent := (98, none, ⟨[Z10, .str], [Z10, .bool], jK⟩)
theorem zm : SQ Tryz.prog yn := so (v := .two (.nil) (.two (.nil) (.two (.nil) (.two (.two (.nil) (.one (.join [(2, Z9), (4, Z11), (6, .str), (7, .str), (24, .str), (25, .bool)] (.nil) (.two (.nil) (.join [(2, Z9), (4, Z11), (6, .str), (7, .str), (24, .str), (40, .bool)] (.nil) (.two (.nil) (.join [(2, Z9), (4, Z11), (6, .str), (7, .str), (57, .bool)] (.nil) (.nil)))))))) (.nil))))) (fn := Tryz.f98) H9 (by kernel_rfl) (by kernel_rfl) (by kernel_rfl) (kN) (fun _ => by kernel_rfl)
noncomputable def ui : Cx := cX [] [] []
theorem wQ : OKC Tryz.prog ui ac := okc mixed (am)
noncomputable def dm (x : List Note × Unit) : Option ((List Note × Unit) × Unit) :=
(if (decide ((x.1.length : Int) = 0)) then
some ((([] : List Note), ()), ())
else
(if decide (0 ≤ (x.1.length : Int)) && decide ((x.1.length : Int) ≤ 4294967296) then
some (((List.take (List.replicate (Int.toNat (x.1.length : Int)) (dfl .note)).length x.1 ++ List.drop x.1.length (List.replicate (Int.toNat (x.1.length : Int)) (dfl .note))), ()), ())
else none))
noncomputable def mW : Ent := (117, none, ⟨[.fz .note], [.row 54 .note], dm⟩)
theorem pJ : SQ Tryz.prog mW := so (v := .nil) (fn := Tryz.f117) wQ (by kernel_rfl) (by kernel_rfl) (by kernel_rfl) (kN) (fun _ => by kernel_rfl)
noncomputable def uj : Cx := cX [] [] []
theorem wR : OKC Tryz.prog uj ac := okc mixed (am)
noncomputable def is (x : List Mark × Unit) : Option ((List Mark × Unit) × Unit) :=
(if (decide ((x.1.length : Int) = 0)) then
some ((([] : List Mark), ()), ())
else
(if decide (0 ≤ (x.1.length : Int)) && decide ((x.1.length : Int) ≤ 4294967296) then
some (((List.take (List.replicate (Int.toNat (x.1.length : Int)) (dfl .mark)).length x.1 ++ List.drop x.1.length (List.replicate (Int.toNat (x.1.length : Int)) (dfl .mark))), ()), ())
else none))
noncomputable def mX : Ent := (118, none, ⟨[.fz .mark], [.row 133 .mark], is⟩)
theorem pK : SQ Tryz.prog mX := so (v := .nil) (fn := Tryz.f118) wR (by kernel_rfl) (by kernel_rfl) (by kernel_rfl) (kN) (fun _ => by kernel_rfl)
noncomputable def zP : Cx := cX [mW, mX] [] []
theorem B3 : OKC Tryz.prog zP ac := okc mixed (gC pJ (gC pK (am)))
noncomputable def cq (x : Y7 × Unit) : Option ((Y7 × Unit) × Unit) :=
(dm (x.1.2.2.2.1, ())).bind fun r1 =>
(is (x.1.2.2.2.2.1, ())).bind fun r2 =>
(dm x.1.2.2.2.2.2).bind fun r3 =>
some (((x.1.1, x.1.2.1, x.1.2.2.1, r1.1.1, r2.1.1, r3.1), ()), ())
noncomputable def qJ : Ent := (99, none, ⟨[Z10], [Z7], cq⟩)
theorem uf : SQ Tryz.prog qJ := so (v := .nil) (fn := Tryz.f99) B3 (by kernel_rfl) (by kernel_rfl) (by kernel_rfl) (kN) (fun _ => by kernel_rfl)
noncomputable def EL : Cx := cX [vc, yn, qJ] [] [(22, 24)]
theorem Gt : OKC Tryz.prog EL ac := okc mixed (gC x9 (gC zm (gC uf (am))))
noncomputable def kX (x : Y7 × ByteArray × Unit) : Option ((Y7 × Bool × Unit) × Unit) :=
(dK (x.1, ())).bind fun r2 =>
(if (!r2.1.1) then
some (((0, 0, 0, ([] : List Note), ([] : List Mark), ([] : List Note), ()), false, ()), ())
else
(cq (x.1, ())).bind fun r3 =>
(jK (r3.1.1, x.2)).bind fun r4 =>
(if (aE (!(!r4.1.2.1)) ((dK (r4.1.1, ())).isSome)) then
(if ((!r4.1.2.1) || (!(((dK (r4.1.1, ())).getD ((false, ()), ())).1.1))) then
(cq (x.1, ())).bind fun r6 =>
some ((r6.1.1, false, ()), ())
else
(cq (r4.1.1, ())).bind fun r7 =>
some ((r7.1.1, true, ()), ()))
else none))
noncomputable def ve : Ent := (77, none, ⟨[Z10, .str], [Z7, .bool], kX⟩)
theorem yb : SQ Tryz.prog ve := so (v := .nil) (fn := Tryz.f77) Gt (by kernel_rfl) (by kernel_rfl) (by kernel_rfl) (kN) (fun _ => by kernel_rfl)
noncomputable def EK : Cx := cX [bk, o6, ve] [] []
theorem vt : OKC Tryz.prog EK ac := okc mixed (gC aQ (gC rT (gC yb (am))))
noncomputable def eW (x : Y7 × Y7 × List ByteArray × Int × Int × Unit) : Rnd (Y7 × Y7 × List ByteArray × Int × Int × Unit) (Y7 × Bool × Unit) (Y7 × Y7 × Unit) :=
(if (decide (x.2.2.2.2.1 < x.2.2.2.1)) then
(if inb x.2.2.2.2.1 x.2.2.1.length then
let v15 := (rd (dfl .str) x.2.2.1 x.2.2.2.2.1)
(kX (x.2.1, v15, ())).bind fun r16 =>
(if (!r16.1.2.1) then
some (.inr (.inl ((0, 0, 0, ([] : List Note), ([] : List Mark), ([] : List Note), ()), false, ())))
else
some (.inl (x.1, r16.1.1, x.2.2.1, x.2.2.2.1, (w64 (x.2.2.2.2.1 + 1)), ())))
else none)
else
some (.inr (.inr (x.1, x.2.1, ()))))
noncomputable def jV := aA eW
noncomputable def qr : Loop := ⟨[(4, Z11), (6, Z11), (17, .sl .str), (18, .int .i64), (19, .int .i64)], [(4, Z11), (6, Z11)], 0, [(4, Z11), (5, .bool)], jV⟩
theorem DQ : LF Tryz.f62 [] [1, 1, 1, 0, 1, 0, 0] qr := lk (v := .nil) vt (b := eW) (fun _ => by kernel_rfl) rfl (by kernel_rfl) (kN)
noncomputable def kW (x : Int × List ByteArray × Unit) : Option ((Y7 × Bool × Unit) × Unit) :=
(aH (x.1, ())).bind fun r2 =>
(if (!r2.1.1) then
some (((0, 0, 0, ([] : List Note), ([] : List Mark), ([] : List Note), ()), false, ()), ())
else
(fD (x.1, ())).bind fun r3 =>
(aw (jV ((0, 0, 0, ([] : List Note), ([] : List Mark), ([] : List Note), ()), r3.1.1, x.2.1, (x.2.1.length : Int), 0, ()))
(fun y17 => some (y17, ()))
(fun y17 => some ((y17.2.1, true, ()), ()))))
noncomputable def vd : Ent := (62, none, ⟨[.int .i64, .fz .str], [Z7, .bool], kW⟩)
theorem ya : SQ Tryz.prog vd := so (v := .two (.nil) (.two (.nil) (.two (.nil) (.two (.two (.nil) (.one (.loop qr))) (.nil))))) (fn := Tryz.f62) vt (by kernel_rfl) (by kernel_rfl) (by kernel_rfl) (kC DQ (kN)) (fun _ => by kernel_rfl)
noncomputable def BJ : Cx := cX [ky, vd] [] []
theorem E7 : OKC Tryz.prog BJ ac := okc mixed (gC lj (gC ya (am)))
noncomputable def bN (x : Int × ByteArray × Unit) : Option ((Y7 × Bool × Unit) × Unit) :=
(cg x.2).bind fun r1 =>
(kW (x.1, r1.1.1, ())).bind fun r2 =>
some (r2.1, ())
noncomputable def mV : Ent := (44, none, ⟨[.int .i64, .str], [Z7, .bool], bN⟩)
theorem mQ : SQ Tryz.prog mV := so (v := .nil) (fn := Tryz.f44) E7 (by kernel_rfl) (by kernel_rfl) (by kernel_rfl) (kN) (fun _ => by kernel_rfl)
noncomputable def BP : Cx := cX [ct, ky] [] [(12, 18), (41, 44)]
theorem E9 : OKC Tryz.prog BP ac := okc mixed (gC aY (gC lj (am)))
noncomputable def jN (x : Y0 × Unit) : Option ((Bool × Unit) × Unit) :=
(if (aE (!(decide (2400 < (x.1.1.size : Int)))) ((ax (x.1.2.1, 0, (x.1.1.size : Int), ())).isSome)) then
(if ((decide (2400 < (x.1.1.size : Int))) || (!(((ax (x.1.2.1, 0, (x.1.1.size : Int), ())).getD ((false, ()), ())).1.1))) then
some ((false, ()), ())
else
(cg (x.1.1, ())).bind fun r1 =>
(if (decide (0 ≤ x.1.2.1) && decide (x.1.2.1 ≤ (x.1.1.size : Int))) then
(cg ((x.1.1.extract (0) (Int.toNat x.1.2.1)), ())).bind fun r2 =>
let v4 := ((decide (r1.1.2.1 = (x.1.1.size : Int))) && (decide (r2.1.2.1 = x.1.2.1)))
some ((v4, ()), ())
else none))
else none)
noncomputable def sO : Ent := (58, none, ⟨[Z0], [.bool], jN⟩)
theorem wG : SQ Tryz.prog sO := so (v := .nil) (fn := Tryz.f58) E9 (by kernel_rfl) (by kernel_rfl) (by kernel_rfl) (kN) (fun _ => by kernel_rfl)
noncomputable def EC : Cx := cX [ct, bk] [] [(54, 57)]
theorem n7 : OKC Tryz.prog EC ac := okc mixed (gC aY (gC aQ (am)))
noncomputable def jG (x : Y2 × Y1 × List Mixed × Int × Int × List Mixed × Int × Int × Unit) : Rnd (Y2 × Y1 × List Mixed × Int × Int × List Mixed × Int × Int × Unit) (Bool × Unit) (Y2 × List Mixed × Int × Int × Unit) :=
(if (decide (x.2.2.2.2.2.2.2.1 < x.2.2.2.2.2.2.1)) then
(if inb x.2.2.2.2.2.2.2.1 x.2.2.2.2.2.1.length then
let v72 := (rd (dfl .mixed) x.2.2.2.2.2.1 x.2.2.2.2.2.2.2.1).nu
let v73 := (rd (dfl .mixed) x.2.2.2.2.2.1 x.2.2.2.2.2.2.2.1).da
(if (decide (v72 = x.2.1.1)) then
some (.inr (.inl (false, ())))
else
some (.inl (x.1, x.2.1, x.2.2.1, x.2.2.2.1, x.2.2.2.2.1, x.2.2.2.2.2.1, x.2.2.2.2.2.2.1, (w64 (x.2.2.2.2.2.2.2.1 + 1)), ())))
else none)
else
some (.inr (.inr (x.1, x.2.2.1, x.2.2.2.1, x.2.2.2.2.1, ()))))
noncomputable def jE := aA jG
noncomputable def qi : Loop := ⟨[(1, Z14), (4, Z21), (42, .sl .mixed), (43, .int .i64), (44, .int .i64), (62, .sl .mixed), (63, .int .i64), (64, .int .i64)], [(1, Z14), (42, .sl .mixed), (43, .int .i64), (44, .int .i64)], 2, [(2, .bool)], jE⟩
theorem DA : LF Tryz.f59 [] [1, 1, 0, 1, 0, 0, 1, 1, 0, 0, 1, 1, 1, 0, 0] qi := lk (v := .nil) n7 (b := jG) (fun _ => by kernel_rfl) rfl (by kernel_rfl) (kN)
noncomputable def jH (x : Y2 × List Mixed × Int × Int × Unit) : Rnd (Y2 × List Mixed × Int × Int × Unit) (Bool × Unit) (Unit) :=
(if (decide (x.2.2.2.1 < x.2.2.1)) then
(if inb x.2.2.2.1 x.2.1.length then
let v63 := (rd (dfl .mixed) x.2.1 x.2.2.2.1).nu
let v64 := (rd (dfl .mixed) x.2.1 x.2.2.2.1).da
(ax (v63, 0, 999, ())).bind fun r65 =>
(if ((!r65.1.1) || (!decide ((v64.size : Int) = 4))) then
some (.inr (.inl (false, ())))
else
(if (decide (0 ≤ x.2.2.2.1) && decide (x.2.2.2.1 ≤ (x.1.2.2.2.2.2.1.length : Int))) then
(aw (jE (x.1, (v63, v64, ()), x.2.1, x.2.2.1, x.2.2.2.1, (List.take (Int.toNat x.2.2.2.1) x.1.2.2.2.2.2.1), ((List.take (Int.toNat x.2.2.2.1) x.1.2.2.2.2.2.1).length : Int), 0, ()))
(fun y74 => some (.inr (.inl y74)))
(fun y74 => some (.inl (y74.1, y74.2.1, y74.2.2.1, (w64 (y74.2.2.2.1 + 1)), ()))))
else none))
else none)
else
some (.inr (.inr ())))
noncomputable def jF := aA jH
noncomputable def qj : Loop := ⟨[(1, Z14), (42, .sl .mixed), (43, .int .i64), (44, .int .i64)], [], 0, [(2, .bool)], jF⟩
theorem DN : LF Tryz.f59 [] [1, 1, 0, 1, 0, 0] qj := lk (v := .two (.nil) (.two (.nil) (.two (.one (.two (.nil) (.two (.nil) (.two (.nil) (.one (.loop qi)))))) (.nil)))) n7 (b := jH) (fun _ => by kernel_rfl) rfl (by kernel_rfl) (kC DA (kN))
noncomputable def kU (x : Y2 × Unit) : Option ((Bool × Unit) × Unit) :=
(aH (x.1.1, ())).bind fun r11 =>
(if (!r11.1.1) then
some ((false, ()), ())
else
(aH (x.1.2.2.1, ())).bind fun r12 =>
(if (!r12.1.1) then
some ((false, ()), ())
else
(ax (x.1.2.1, 1, 99, ())).bind fun r13 =>
(if (!r13.1.1) then
some ((false, ()), ())
else
(ax (x.1.2.2.2.1, 1, 999, ())).bind fun r14 =>
(if (!r14.1.1) then
some ((false, ()), ())
else
(ax (x.1.2.2.2.2.1, 1, 24, ())).bind fun r15 =>
(if (!r15.1.1) then
some ((false, ()), ())
else
(if (decide (14 < (x.1.2.2.2.2.2.1.length : Int))) then
some ((false, ()), ())
else
(aw (jF (x.1, x.1.2.2.2.2.2.1, (x.1.2.2.2.2.2.1.length : Int), 0, ()))
(fun y75 => some (y75, ()))
(fun y75 => some ((true, ()), ())))))))))
noncomputable def uZ : Ent := (59, none, ⟨[Z2], [.bool], kU⟩)
theorem xZ : SQ Tryz.prog uZ := so (v := .two (.nil) (.two (.nil) (.two (.two (.nil) (.one (.loop qj))) (.nil)))) (fn := Tryz.f59) n7 (by kernel_rfl) (by kernel_rfl) (by kernel_rfl) (kC DN (kN)) (fun _ => by kernel_rfl)
noncomputable def ED : Cx := cX [] [] [(21, 24)]
theorem vr : OKC Tryz.prog ED ac := okc mixed (am)
noncomputable def eS (x : Int × Int × List Half × Int × Int × Unit) : Rnd (Int × Int × List Half × Int × Int × Unit) (Int × Unit) (Unit) :=
(if (decide (x.2.2.2.2.1 < x.2.2.2.1)) then
(if inb x.2.2.2.2.1 x.2.2.1.length then
let v32 := (rd (dfl .half) x.2.2.1 x.2.2.2.2.1).fr
let v33 := (rd (dfl .half) x.2.2.1 x.2.2.2.2.1).nu
let v34 := (rd (dfl .half) x.2.2.1 x.2.2.2.2.1).to
let v35 := (rd (dfl .half) x.2.2.1 x.2.2.2.2.1).un
let v36 := (rd (dfl .half) x.2.2.1 x.2.2.2.2.1).sz
let v37 := (rd (dfl .half) x.2.2.1 x.2.2.2.2.1).got
(if ((decide (v32 = x.1)) && (decide (v33 = x.2.1))) then
some (.inr (.inl x.2.2.2.2))
else
some (.inl (x.1, x.2.1, x.2.2.1, x.2.2.2.1, (w64 (x.2.2.2.2.1 + 1)), ())))
else none)
else
some (.inr (.inr ())))
noncomputable def jI := aA eS
noncomputable def qk : Loop := ⟨[(1, .int .i64), (2, .int .i64), (9, .sl .half), (10, .int .i64), (11, .int .i64)], [], 0, [(6, .int .i64)], jI⟩
theorem DO : LF Tryz.f60 [] [1, 0, 1, 0, 0] qk := lk (v := .nil) vr (b := eS) (fun _ => by kernel_rfl) rfl (by kernel_rfl) (kN)
noncomputable def fT (x : List Half × Int × Int × Unit) : Option ((Int × Unit) × Unit) :=
(aw (jI (x.2.1, x.2.2.1, x.1, (x.1.length : Int), 0, ()))
(fun y38 => some (y38, ()))
(fun y38 => some (((-1), ()), ())))
noncomputable def u7 : Ent := (60, none, ⟨[.fz .half, .int .i64, .int .i64], [.int .i64], fT⟩)
theorem x3 : SQ Tryz.prog u7 := so (v := .two (.nil) (.two (.two (.nil) (.one (.loop qk))) (.nil))) (fn := Tryz.f60) vr (by kernel_rfl) (by kernel_rfl) (by kernel_rfl) (kC DO (kN)) (fun _ => by kernel_rfl)
noncomputable def zS : Cx := cX [bk, mV, sO, uZ, u7] [] [(61, 62), (76, 84)]
theorem qT : OKC Tryz.prog zS ac := okc mixed (gC aQ (gC mQ (gC wG (gC xZ (gC x3 (am))))))
noncomputable def fC (x : Y3 × List Half × Int × Int × Unit) : Rnd (Y3 × List Half × Int × Int × Unit) (Bool × Unit) (Unit) :=
(if (decide (x.2.2.2.1 < x.2.2.1)) then
(if inb x.2.2.2.1 x.2.1.length then
let v49 := (rd (dfl .half) x.2.1 x.2.2.2.1).fr
let v50 := (rd (dfl .half) x.2.1 x.2.2.2.1).nu
let v51 := (rd (dfl .half) x.2.1 x.2.2.2.1).to
let v52 := (rd (dfl .half) x.2.1 x.2.2.2.1).un
let v53 := (rd (dfl .half) x.2.1 x.2.2.2.1).sz
let v54 := (rd (dfl .half) x.2.1 x.2.2.2.1).got
(kU ((v49, v50, v51, v52, v53, v54, ()), ())).bind fun r55 =>
(if (aE (!(!r55.1.1)) ((fT (x.1.2.2.2.2.1, v49, v50, ())).isSome)) then
(if ((!r55.1.1) || (decide (((fT (x.1.2.2.2.2.1, v49, v50, ())).getD ((0, ()), ())).1.1 < x.2.2.2.1))) then
some (.inr (.inl (false, ())))
else
some (.inl (x.1, x.2.1, x.2.2.1, (w64 (x.2.2.2.1 + 1)), ())))
else none)
else none)
else
some (.inr (.inr ())))
noncomputable def cK := aA fC
noncomputable def nB : Loop := ⟨[(1, Z15), (65, .sl .half), (66, .int .i64), (67, .int .i64)], [], 0, [(2, .bool)], cK⟩
theorem zh : LF Tryz.f42 [] [1, 1, 1, 1, 1, 0, 1, 0, 0] nB := lk (v := .nil) qT (b := fC) (fun _ => by kernel_rfl) rfl (by kernel_rfl) (kN)
noncomputable def cr (x : Y3 × Unit) : Option ((Bool × Unit) × Unit) :=
(fH (X := Y3 × Unit) (fun j5 =>
(bN (j5.1.1, j5.1.2.2.1, ())).bind fun r8 =>
(if (decide (0 ≤ j5.1.2.2.2.1) && decide (j5.1.2.2.2.1 ≤ (j5.1.2.2.1.size : Int))) then
(bN (j5.1.1, (j5.1.2.2.1.extract (0) (Int.toNat j5.1.2.2.2.1)), ())).bind fun r9 =>
(if ((!r8.1.2.1) || (!r9.1.2.1)) then
some ((false, ()), ())
else
(aw (cK (j5.1, j5.1.2.2.2.2.1, (j5.1.2.2.2.2.1.length : Int), 0, ()))
(fun y56 => some (y56, ()))
(fun y56 => some ((true, ()), ()))))
else none))
((aH (x.1.1, ())).bind fun r6 =>
(if (!r6.1.1) then
some (.inl ((false, ()), ()))
else
(jN ((x.1.2.2.1, x.1.2.2.2.1, ()), ())).bind fun r7 =>
(if (!r7.1.1) then
some (.inl ((false, ()), ()))
else
(if (decide (3 < (x.1.2.2.2.2.1.length : Int))) then
some (.inl ((false, ()), ()))
else
(if (!x.1.2.1) then
(if (decide (0 < (x.1.2.2.2.2.1.length : Int))) then
some (.inl ((false, ()), ()))
else
some (.inr x))
else
some (.inr x)))))))
noncomputable def lC : Ent := (42, none, ⟨[Z3], [.bool], cr⟩)
theorem lT : SQ Tryz.prog lC := so (v := .two (.nil) (.join [(1, Z15)] (.nil) (.two (.nil) (.two (.nil) (.two (.nil) (.two (.two (.nil) (.one (.loop nB))) (.nil))))))) (fn := Tryz.f42) qT (by kernel_rfl) (by kernel_rfl) (by kernel_rfl) (kC zh (kN)) (fun _ => by kernel_rfl)
noncomputable def BQ : Cx := cX [ct, yo, lC, bk] [] [(54, 56)]
theorem m7 : OKC Tryz.prog BQ ac := okc mixed (gC aY (gC zo (gC lT (gC aQ (am)))))
noncomputable def gR (x : List Parcel × Int × Int × Unit) : Rnd (List Parcel × Int × Int × Unit) (Bool × Unit) (Unit) :=
(if (decide (x.2.2.1 < x.2.1)) then
(if inb x.2.2.1 x.1.length then
let v79 := (rd (dfl .parcel) x.1 x.2.2.1).src
let v80 := (rd (dfl .parcel) x.1 x.2.2.1).dst
let v81 := (rd (dfl .parcel) x.1 x.2.2.1).data
let v82 := (rd (dfl .parcel) x.1 x.2.2.1).sp
(aH (v79, ())).bind fun r83 =>
(if (!r83.1.1) then
some (.inr (.inl (false, ())))
else
(aH (v80, ())).bind fun r84 =>
(if (!r84.1.1) then
some (.inr (.inl (false, ())))
else
(if (!decide ((w64 (v79 - v80)) = 1)) then
(if (!decide ((w64 (v80 - v79)) = 1)) then
some (.inr (.inl (false, ())))
else
(if (decide (40 < (v81.size : Int))) then
some (.inr (.inl (false, ())))
else
some (.inl (x.1, x.2.1, (w64 (x.2.2.1 + 1)), ()))))
else
(if (decide (40 < (v81.size : Int))) then
some (.inr (.inl (false, ())))
else
some (.inl (x.1, x.2.1, (w64 (x.2.2.1 + 1)), ()))))))
else none)
else
some (.inr (.inr ())))
noncomputable def iw := aA gR
noncomputable def oJ : Loop := ⟨[(60, .sl .parcel), (61, .int .i64), (62, .int .i64)], [], 2, [(2, .bool)], iw⟩
theorem AS : LF Tryz.f20 [] [1, 1, 1, 0, 1, 0, 0] oJ := lk (v := .nil) m7 (b := gR) (fun _ => by kernel_rfl) rfl (by kernel_rfl) (kN)
noncomputable def gS (x : Y6 × List Keeper × Int × Int × Unit) : Rnd (Y6 × List Keeper × Int × Int × Unit) (Bool × Unit) (Y6 × Unit) :=
(if (decide (x.2.2.2.1 < x.2.2.1)) then
(if inb x.2.2.2.1 x.2.1.length then
let v36 := (rd (dfl .keeper) x.2.1 x.2.2.2.1).id
let v37 := (rd (dfl .keeper) x.2.1 x.2.2.2.1).up
let v38 := (rd (dfl .keeper) x.2.1 x.2.2.2.1).log
let v39 := (rd (dfl .keeper) x.2.1 x.2.2.2.1).fo
let v40 := (rd (dfl .keeper) x.2.1 x.2.2.2.1).halves
(if (aE (!(!decide (v36 = x.2.2.2.1))) ((cr ((v36, v37, v38, v39, v40, ()), ())).isSome)) then
(if ((!decide (v36 = x.2.2.2.1)) || (!(((cr ((v36, v37, v38, v39, v40, ()), ())).getD ((false, ()), ())).1.1))) then
some (.inr (.inl (false, ())))
else
some (.inl (x.1, x.2.1, x.2.2.1, (w64 (x.2.2.2.1 + 1)), ())))
else none)
else none)
else
some (.inr (.inr (x.1, ()))))
noncomputable def iy := aA gS
noncomputable def oK : Loop := ⟨[(1, Z16), (42, .sl .keeper), (43, .int .i64), (44, .int .i64)], [(1, Z16)], 0, [(2, .bool)], iy⟩
theorem Ba : LF Tryz.f20 [] [1, 1, 0, 1, 0, 0] oK := lk (v := .nil) m7 (b := gS) (fun _ => by kernel_rfl) rfl (by kernel_rfl) (kN)
noncomputable def jO (x : Y6 × Unit) : Option ((Bool × Unit) × Unit) :=
(ax (x.1.1, 0, 99999, ())).bind fun r7 =>
(if (!r7.1.1) then
some ((false, ()), ())
else
(if (!decide ((x.1.2.1.length : Int) = 4)) then
some ((false, ()), ())
else
(if (!decide ((x.1.2.2.1.length : Int) = 3)) then
some ((false, ()), ())
else
(if (decide (30 < (x.1.2.2.2.1.length : Int))) then
some ((false, ()), ())
else
(jL (x.1.2.2.2.2.1, ())).bind fun r8 =>
(if (!r8.1.1) then
some ((false, ()), ())
else
(jL x.1.2.2.2.2.2).bind fun r9 =>
(if (!r9.1.1) then
some ((false, ()), ())
else
(aw (iy (x.1, x.1.2.1, (x.1.2.1.length : Int), 0, ()))
(fun y41 => some (y41, ()))
(fun y41 => (aw (iw (y41.1.2.2.2.1, (y41.1.2.2.2.1.length : Int), 0, ()))
(fun y85 => some (y85, ()))
(fun y85 => some ((true, ()), ())))))))))))
noncomputable def sP : Ent := (20, none, ⟨[Z6], [.bool], jO⟩)
theorem wH : SQ Tryz.prog sP := so (v := .two (.nil) (.two (.nil) (.two (.two (.nil) (.one (.loop oK))) (.two (.two (.nil) (.one (.loop oJ))) (.nil))))) (fn := Tryz.f20) m7 (by kernel_rfl) (by kernel_rfl) (by kernel_rfl) (kC Ba (kC AS (kN))) (fun _ => by kernel_rfl)
noncomputable def yD : Cx := cX [lC, mV] [] []
theorem zY : OKC Tryz.prog yD ac := okc mixed (gC lT (gC mQ (am)))
noncomputable def c5 (x : Y3 × Unit) : Option ((Y7 × Unit) × Unit) :=
(cr x).bind fun r2 =>
(if (!r2.1.1) then
some (((0, 0, 0, ([] : List Note), ([] : List Mark), ([] : List Note), ()), ()), ())
else
(bN (x.1.1, x.1.2.2.1, ())).bind fun r3 =>
some ((r3.1.1, ()), ()))
noncomputable def o5 : Ent := (21, none, ⟨[Z3], [Z7], c5⟩)
theorem rS : SQ Tryz.prog o5 := so (v := .nil) (fn := Tryz.f21) zY (by kernel_rfl) (by kernel_rfl) (by kernel_rfl) (kN) (fun _ => by kernel_rfl)
noncomputable def zR : Cx := cX [bk] [] []
theorem B5 : OKC Tryz.prog zR ac := okc mixed (gC aQ (am))
noncomputable def gT (x : Int × Int × Unit) : Option ((Int × Unit) × Unit) :=
(fH (X := Int × Int × Bool × Unit) (fun j6 =>
(if j6.2.2.1 then
some (((-1), ()), ())
else
(if (decide (j6.1 < j6.2.1)) then
some (((w64 (j6.1 + 1)), ()), ())
else
some (((w64 (j6.1 - 1)), ()), ()))))
((aH (x.1, ())).bind fun r7 =>
(if (!r7.1.1) then
some (.inr (x.1, x.2.1, true, ()))
else
(aH x.2).bind fun r8 =>
(if (!r8.1.1) then
some (.inr (x.1, x.2.1, true, ()))
else
some (.inr (x.1, x.2.1, (decide (x.1 = x.2.1)), ()))))))
noncomputable def qL : Ent := (22, none, ⟨[.int .i64, .int .i64], [.int .i64], gT⟩)
theorem uh : SQ Tryz.prog qL := so (v := .two (.nil) (.two (.one (.join [(0, .int .i64), (1, .int .i64), (5, .bool)] (.nil) (.nil))) (.nil))) (fn := Tryz.f22) B5 (by kernel_rfl) (by kernel_rfl) (by kernel_rfl) (kN) (fun _ => by kernel_rfl)
noncomputable def wP : Cx := cX [sP, o5, qL] [] [(13, 16)]
theorem et : OKC Tryz.prog wP ac := okc mixed (gC wH (gC rS (gC uh (am))))
noncomputable def dn (x : Y6 × Y3 × List Keeper × Int × Int × List Note × Int × Int × Unit) : Rnd (Y6 × Y3 × List Keeper × Int × Int × List Note × Int × Int × Unit) (Bool × Unit) (Y6 × List Keeper × Int × Int × Unit) :=
(if (decide (x.2.2.2.2.2.2.2.1 < x.2.2.2.2.2.2.1)) then
(if inb x.2.2.2.2.2.2.2.1 x.2.2.2.2.2.1.length then
let v145 := (rd (dfl .note) x.2.2.2.2.2.1 x.2.2.2.2.2.2.2.1).fr
let v146 := (rd (dfl .note) x.2.2.2.2.2.1 x.2.2.2.2.2.2.2.1).nu
let v147 := (rd (dfl .note) x.2.2.2.2.2.1 x.2.2.2.2.2.2.2.1).to
let v148 := (rd (dfl .note) x.2.2.2.2.2.1 x.2.2.2.2.2.2.2.1).un
let v149 := (rd (dfl .note) x.2.2.2.2.2.1 x.2.2.2.2.2.2.2.1).tx
(gT (x.2.1.1, v147, ())).bind fun r150 =>
(if inb r150.1.1 x.1.2.1.length then
(c5 (((rd (dfl .keeper) x.1.2.1 r150.1.1).id, (rd (dfl .keeper) x.1.2.1 r150.1.1).up, (rd (dfl .keeper) x.1.2.1 r150.1.1).log, (rd (dfl .keeper) x.1.2.1 r150.1.1).fo, (rd (dfl .keeper) x.1.2.1 r150.1.1).halves, ()), ())).bind fun r151 =>
(if (decide (r151.1.1.2.1 < v148)) then
some (.inr (.inl (false, ())))
else
some (.inl (x.1, x.2.1, x.2.2.1, x.2.2.2.1, x.2.2.2.2.1, x.2.2.2.2.2.1, x.2.2.2.2.2.2.1, (w64 (x.2.2.2.2.2.2.2.1 + 1)), ())))
else none)
else none)
else
some (.inr (.inr (x.1, x.2.2.1, x.2.2.2.1, x.2.2.2.2.1, ()))))
noncomputable def dS := aA dn
noncomputable def lQ : Loop := ⟨[(1, Z16), (6, Z15), (29, .sl .keeper), (30, .int .i64), (31, .int .i64), (40, .row 54 .note), (41, .int .i64), (42, .int .i64)], [(1, Z16), (29, .sl .keeper), (30, .int .i64), (31, .int .i64)], 4, [(2, .bool)], dS⟩
theorem wq : LF Tryz.f7 [] [1, 1, 1, 0, 1, 0, 0, 1, 1, 0, 0, 1, 1, 1, 0, 0] lQ := lk (v := .nil) et (b := dn) (fun _ => by kernel_rfl) rfl (by kernel_rfl) (kN)
noncomputable def dp (x : Y6 × List Keeper × Int × Int × Unit) : Rnd (Y6 × List Keeper × Int × Int × Unit) (Bool × Unit) (Unit) :=
(if (decide (x.2.2.2.1 < x.2.2.1)) then
(if inb x.2.2.2.1 x.2.1.length then
let v118 := (rd (dfl .keeper) x.2.1 x.2.2.2.1).id
let v119 := (rd (dfl .keeper) x.2.1 x.2.2.2.1).up
let v120 := (rd (dfl .keeper) x.2.1 x.2.2.2.1).log
let v121 := (rd (dfl .keeper) x.2.1 x.2.2.2.1).fo
let v122 := (rd (dfl .keeper) x.2.1 x.2.2.2.1).halves
(if (!v119) then
some (.inr (.inl (false, ())))
else
(c5 ((v118, v119, v120, v121, v122, ()), ())).bind fun r123 =>
(aw (dS (x.1, (v118, v119, v120, v121, v122, ()), x.2.1, x.2.2.1, x.2.2.2.1, r123.1.1.2.2.2.1, (r123.1.1.2.2.2.1.length : Int), 0, ()))
(fun y152 => some (.inr (.inl y152)))
(fun y152 => some (.inl (y152.1, y152.2.1, y152.2.2.1, (w64 (y152.2.2.2.1 + 1)), ())))))
else none)
else
some (.inr (.inr ())))
noncomputable def dT := aA dp
noncomputable def lR : Loop := ⟨[(1, Z16), (29, .sl .keeper), (30, .int .i64), (31, .int .i64)], [], 2, [(2, .bool)], dT⟩
theorem wv : LF Tryz.f7 [] [1, 1, 1, 0, 1, 0, 0] lR := lk (v := .two (.nil) (.two (.nil) (.two (.one (.two (.nil) (.two (.nil) (.two (.nil) (.one (.loop lQ)))))) (.nil)))) et (b := dp) (fun _ => by kernel_rfl) rfl (by kernel_rfl) (kC wq (kN))
noncomputable def dq (x : Y6 × List Bool × Int × Int × Unit) : Rnd (Y6 × List Bool × Int × Int × Unit) (Bool × Unit) (Y6 × Unit) :=
(if (decide (x.2.2.2.1 < x.2.2.1)) then
(if inb x.2.2.2.1 x.2.1.length then
let v10 := (rd (dfl .bool) x.2.1 x.2.2.2.1)
(if (!v10) then
some (.inr (.inl (false, ())))
else
some (.inl (x.1, x.2.1, x.2.2.1, (w64 (x.2.2.2.1 + 1)), ())))
else none)
else
some (.inr (.inr (x.1, ()))))
noncomputable def dU := aA dq
noncomputable def lS : Loop := ⟨[(1, Z16), (19, .sl .bool), (20, .int .i64), (21, .int .i64)], [(1, Z16)], 0, [(2, .bool)], dU⟩
theorem wz : LF Tryz.f7 [] [1, 1, 0, 1, 0, 0] lS := lk (v := .nil) et (b := dq) (fun _ => by kernel_rfl) rfl (by kernel_rfl) (kN)
noncomputable def el (x : Y6 × Unit) : Option ((Bool × Unit) × Unit) :=
(jO x).bind fun r3 =>
(if ((!r3.1.1) || (decide (0 < (x.1.2.2.2.1.length : Int)))) then
some ((false, ()), ())
else
(aw (dU (x.1, x.1.2.2.1, (x.1.2.2.1.length : Int), 0, ()))
(fun y11 => some (y11, ()))
(fun y11 => (aw (dT (y11.1, y11.1.2.1, (y11.1.2.1.length : Int), 0, ()))
(fun y153 => some (y153, ()))
(fun y153 => some ((true, ()), ()))))))
noncomputable def nF : Ent := (7, none, ⟨[Z6], [.bool], el⟩)
theorem qW : SQ Tryz.prog nF := so (v := .two (.nil) (.two (.nil) (.two (.two (.nil) (.one (.loop lS))) (.two (.two (.nil) (.one (.loop lR))) (.nil))))) (fn := Tryz.f7) et (by kernel_rfl) (by kernel_rfl) (by kernel_rfl) (kC wz (kC wv (kN))) (fun _ => by kernel_rfl)
noncomputable def BD : Cx := cX [] [] []
theorem E4 : OKC Tryz.prog BD ac := okc mixed (am)
noncomputable def mM (x : Y0 × Y0 × Unit) : Option ((Bool × Unit) × Unit) :=
(if (!decide (x.1.1 = x.2.1.1)) then
some ((false, ()), ())
else
(if (!decide (x.1.2.1 = x.2.1.2.1)) then
some ((false, ()), ())
else
some ((true, ()), ())))
noncomputable def sE : Ent := (63, none, ⟨[Z0, Z0], [.bool], mM⟩)
theorem wc : SQ Tryz.prog sE := so (v := .nil) (fn := Tryz.f63) E4 (by kernel_rfl) (by kernel_rfl) (by kernel_rfl) (kN) (fun _ => by kernel_rfl)
noncomputable def BG : Cx := cX [] [] []
theorem E6 : OKC Tryz.prog BG ac := okc mixed (am)
noncomputable def ji (x : Y1 × Y1 × Unit) : Option ((Bool × Unit) × Unit) :=
(if (!decide (x.1.1 = x.2.1.1)) then
some ((false, ()), ())
else
(if (!decide (x.1.2.1 = x.2.1.2.1)) then
some ((false, ()), ())
else
some ((true, ()), ())))
noncomputable def sH : Ent := (119, none, ⟨[Z1, Z1], [.bool], ji⟩)
theorem wi : SQ Tryz.prog sH := so (v := .nil) (fn := Tryz.f119) E6 (by kernel_rfl) (by kernel_rfl) (by kernel_rfl) (kN) (fun _ => by kernel_rfl)
noncomputable def zM : Cx := cX [sH] [] []
theorem qR : OKC Tryz.prog zM ac := okc mixed (gC wi (am))
noncomputable def fy (x : List Mixed × List Mixed × Int × Unit) : Rnd (List Mixed × List Mixed × Int × Unit) (Bool × Unit) (Unit) :=
(if (decide (x.2.2.1 < (x.1.length : Int))) then
(if inb x.2.2.1 x.1.length then
(if inb x.2.2.1 x.2.1.length then
(ji (((rd (dfl .mixed) x.1 x.2.2.1).nu, (rd (dfl .mixed) x.1 x.2.2.1).da, ()), ((rd (dfl .mixed) x.2.1 x.2.2.1).nu, (rd (dfl .mixed) x.2.1 x.2.2.1).da, ()), ())).bind fun r7 =>
(if (!r7.1.1) then
some (.inr (.inl (false, ())))
else
some (.inl (x.1, x.2.1, (w64 (x.2.2.1 + 1)), ())))
else none)
else none)
else
some (.inr (.inr ())))
noncomputable def fM := aA fy
noncomputable def nt : Loop := ⟨[(0, .sl .mixed), (1, .sl .mixed), (5, .int .i64)], [], 0, [(4, .bool)], fM⟩
theorem zf : LF Tryz.f100 [] [1, 1, 0, 1, 0, 0] nt := lk (v := .nil) qR (b := fy) (fun _ => by kernel_rfl) rfl (by kernel_rfl) (kN)
noncomputable def gI (x : List Mixed × List Mixed × Unit) : Option ((Bool × Unit) × Unit) :=
(if (!decide ((x.1.length : Int) = (x.2.1.length : Int))) then
some ((false, ()), ())
else
(aw (fM (x.1, x.2.1, 0, ()))
(fun y8 => some (y8, ()))
(fun y8 => some ((true, ()), ()))))
noncomputable def qH : Ent := (100, none, ⟨[.fz .mixed, .fz .mixed], [.bool], gI⟩)
theorem ub : SQ Tryz.prog qH := so (v := .two (.nil) (.two (.nil) (.two (.two (.nil) (.one (.loop nt))) (.nil)))) (fn := Tryz.f100) qR (by kernel_rfl) (by kernel_rfl) (by kernel_rfl) (kC zf (kN)) (fun _ => by kernel_rfl)
noncomputable def Eu : Cx := cX [qH] [] []
theorem Gk : OKC Tryz.prog Eu ac := okc mixed (gC ub (am))
noncomputable def kQ (x : Y2 × Y2 × Unit) : Option ((Bool × Unit) × Unit) :=
(if (!decide (x.1.1 = x.2.1.1)) then
some ((false, ()), ())
else
(if (!decide (x.1.2.1 = x.2.1.2.1)) then
some ((false, ()), ())
else
(if (!decide (x.1.2.2.1 = x.2.1.2.2.1)) then
some ((false, ()), ())
else
(if (!decide (x.1.2.2.2.1 = x.2.1.2.2.2.1)) then
some ((false, ()), ())
else
(if (!decide (x.1.2.2.2.2.1 = x.2.1.2.2.2.2.1)) then
some ((false, ()), ())
else
(gI (x.1.2.2.2.2.2.1, x.2.1.2.2.2.2.2)).bind fun r2 =>
(if (!r2.1.1) then
some ((false, ()), ())
else
some ((true, ()), ())))))))
noncomputable def uW : Ent := (78, none, ⟨[Z2, Z2], [.bool], kQ⟩)
theorem xI : SQ Tryz.prog uW := so (v := .nil) (fn := Tryz.f78) Gk (by kernel_rfl) (by kernel_rfl) (by kernel_rfl) (kN) (fun _ => by kernel_rfl)
noncomputable def BH : Cx := cX [uW] [] []
theorem s6 : OKC Tryz.prog BH ac := okc mixed (gC xI (am))
noncomputable def gK (x : List Half × List Half × Int × Unit) : Rnd (List Half × List Half × Int × Unit) (Bool × Unit) (Unit) :=
(if (decide (x.2.2.1 < (x.1.length : Int))) then
(if inb x.2.2.1 x.1.length then
(if inb x.2.2.1 x.2.1.length then
(kQ (((rd (dfl .half) x.1 x.2.2.1).fr, (rd (dfl .half) x.1 x.2.2.1).nu, (rd (dfl .half) x.1 x.2.2.1).to, (rd (dfl .half) x.1 x.2.2.1).un, (rd (dfl .half) x.1 x.2.2.1).sz, (rd (dfl .half) x.1 x.2.2.1).got, ()), ((rd (dfl .half) x.2.1 x.2.2.1).fr, (rd (dfl .half) x.2.1 x.2.2.1).nu, (rd (dfl .half) x.2.1 x.2.2.1).to, (rd (dfl .half) x.2.1 x.2.2.1).un, (rd (dfl .half) x.2.1 x.2.2.1).sz, (rd (dfl .half) x.2.1 x.2.2.1).got, ()), ())).bind fun r7 =>
(if (!r7.1.1) then
some (.inr (.inl (false, ())))
else
some (.inl (x.1, x.2.1, (w64 (x.2.2.1 + 1)), ())))
else none)
else none)
else
some (.inr (.inr ())))
noncomputable def ij := aA gK
noncomputable def oB : Loop := ⟨[(0, .sl .half), (1, .sl .half), (5, .int .i64)], [], 0, [(4, .bool)], ij⟩
theorem A4 : LF Tryz.f64 [] [1, 1, 0, 1, 0, 0] oB := lk (v := .nil) s6 (b := gK) (fun _ => by kernel_rfl) rfl (by kernel_rfl) (kN)
noncomputable def jk (x : List Half × List Half × Unit) : Option ((Bool × Unit) × Unit) :=
(if (!decide ((x.1.length : Int) = (x.2.1.length : Int))) then
some ((false, ()), ())
else
(aw (ij (x.1, x.2.1, 0, ()))
(fun y8 => some (y8, ()))
(fun y8 => some ((true, ()), ()))))
noncomputable def sI : Ent := (64, none, ⟨[.fz .half, .fz .half], [.bool], jk⟩)
theorem wj : SQ Tryz.prog sI := so (v := .two (.nil) (.two (.nil) (.two (.two (.nil) (.one (.loop oB))) (.nil)))) (fn := Tryz.f64) s6 (by kernel_rfl) (by kernel_rfl) (by kernel_rfl) (kC A4 (kN)) (fun _ => by kernel_rfl)
noncomputable def zN : Cx := cX [sE, sI] [] []
theorem B2 : OKC Tryz.prog zN ac := okc mixed (gC wc (gC wj (am)))
noncomputable def gJ (x : Y3 × Y3 × Unit) : Option ((Bool × Unit) × Unit) :=
(if (!decide (x.1.1 = x.2.1.1)) then
some ((false, ()), ())
else
(if (!decide (x.1.2.1 = x.2.1.2.1)) then
some ((false, ()), ())
else
(mM ((x.1.2.2.1, x.1.2.2.2.1, ()), (x.2.1.2.2.1, x.2.1.2.2.2.1, ()), ())).bind fun r2 =>
(if (!r2.1.1) then
some ((false, ()), ())
else
(jk (x.1.2.2.2.2.1, x.2.1.2.2.2.2)).bind fun r4 =>
(if (!r4.1.1) then
some ((false, ()), ())
else
some ((true, ()), ())))))
noncomputable def qI : Ent := (45, none, ⟨[Z3, Z3], [.bool], gJ⟩)
theorem uc : SQ Tryz.prog qI := so (v := .nil) (fn := Tryz.f45) B2 (by kernel_rfl) (by kernel_rfl) (by kernel_rfl) (kN) (fun _ => by kernel_rfl)
noncomputable def yA : Cx := cX [qI] [] []
theorem pg : OKC Tryz.prog yA ac := okc mixed (gC uc (am))
noncomputable def ed (x : List Keeper × List Keeper × Int × Unit) : Rnd (List Keeper × List Keeper × Int × Unit) (Bool × Unit) (Unit) :=
(if (decide (x.2.2.1 < (x.1.length : Int))) then
(if inb x.2.2.1 x.1.length then
(if inb x.2.2.1 x.2.1.length then
(gJ (((rd (dfl .keeper) x.1 x.2.2.1).id, (rd (dfl .keeper) x.1 x.2.2.1).up, (rd (dfl .keeper) x.1 x.2.2.1).log, (rd (dfl .keeper) x.1 x.2.2.1).fo, (rd (dfl .keeper) x.1 x.2.2.1).halves, ()), ((rd (dfl .keeper) x.2.1 x.2.2.1).id, (rd (dfl .keeper) x.2.1 x.2.2.1).up, (rd (dfl .keeper) x.2.1 x.2.2.1).log, (rd (dfl .keeper) x.2.1 x.2.2.1).fo, (rd (dfl .keeper) x.2.1 x.2.2.1).halves, ()), ())).bind fun r7 =>
(if (!r7.1.1) then
some (.inr (.inl (false, ())))
else
some (.inl (x.1, x.2.1, (w64 (x.2.2.1 + 1)), ())))
else none)
else none)
else
some (.inr (.inr ())))
noncomputable def eP := aA ed
noncomputable def mO : Loop := ⟨[(0, .sl .keeper), (1, .sl .keeper), (5, .int .i64)], [], 0, [(4, .bool)], eP⟩
theorem xT : LF Tryz.f23 [] [1, 1, 0, 1, 0, 0] mO := lk (v := .nil) pg (b := ed) (fun _ => by kernel_rfl) rfl (by kernel_rfl) (kN)
noncomputable def fA (x : List Keeper × List Keeper × Unit) : Option ((Bool × Unit) × Unit) :=
(if (!decide ((x.1.length : Int) = (x.2.1.length : Int))) then
some ((false, ()), ())
else
(aw (eP (x.1, x.2.1, 0, ()))
(fun y8 => some (y8, ()))
(fun y8 => some ((true, ()), ()))))
noncomputable def o3 : Ent := (23, none, ⟨[.fz .keeper, .fz .keeper], [.bool], fA⟩)
theorem rM : SQ Tryz.prog o3 := so (v := .two (.nil) (.two (.nil) (.two (.two (.nil) (.one (.loop mO))) (.nil)))) (fn := Tryz.f23) pg (by kernel_rfl) (by kernel_rfl) (by kernel_rfl) (kC xT (kN)) (fun _ => by kernel_rfl)
noncomputable def BI : Cx := cX [] [] []
theorem s7 : OKC Tryz.prog BI ac := okc mixed (am)
noncomputable def gL (x : List Bool × List Bool × Int × Unit) : Rnd (List Bool × List Bool × Int × Unit) (Bool × Unit) (Unit) :=
(if (decide (x.2.2.1 < (x.1.length : Int))) then
(if inb x.2.2.1 x.1.length then
(if inb x.2.2.1 x.2.1.length then
(if (!decide ((rd (dfl .bool) x.1 x.2.2.1) = (rd (dfl .bool) x.2.1 x.2.2.1))) then
some (.inr (.inl (false, ())))
else
some (.inl (x.1, x.2.1, (w64 (x.2.2.1 + 1)), ())))
else none)
else none)
else
some (.inr (.inr ())))
noncomputable def ik := aA gL
noncomputable def oC : Loop := ⟨[(0, .sl .bool), (1, .sl .bool), (5, .int .i64)], [], 0, [(4, .bool)], ik⟩
theorem A5 : LF Tryz.f24 [] [1, 1, 0, 1, 0, 0] oC := lk (v := .nil) s7 (b := gL) (fun _ => by kernel_rfl) rfl (by kernel_rfl) (kN)
noncomputable def jl (x : List Bool × List Bool × Unit) : Option ((Bool × Unit) × Unit) :=
(if (!decide ((x.1.length : Int) = (x.2.1.length : Int))) then
some ((false, ()), ())
else
(aw (ik (x.1, x.2.1, 0, ()))
(fun y2 => some (y2, ()))
(fun y2 => some ((true, ()), ()))))
noncomputable def sJ : Ent := (24, none, ⟨[.fz .bool, .fz .bool], [.bool], jl⟩)
theorem wm : SQ Tryz.prog sJ := so (v := .two (.nil) (.two (.nil) (.two (.two (.nil) (.one (.loop oC))) (.nil)))) (fn := Tryz.f24) s7 (by kernel_rfl) (by kernel_rfl) (by kernel_rfl) (kC A5 (kN)) (fun _ => by kernel_rfl)
noncomputable def zL : Cx := cX [] [] []
theorem B1 : OKC Tryz.prog zL ac := okc mixed (am)
noncomputable def gG (x : Y4 × Y4 × Unit) : Option ((Bool × Unit) × Unit) :=
(if (!decide (x.1.1 = x.2.1.1)) then
some ((false, ()), ())
else
(if (!decide (x.1.2.1 = x.2.1.2.1)) then
some ((false, ()), ())
else
(if (!decide (x.1.2.2.1 = x.2.1.2.2.1)) then
some ((false, ()), ())
else
(if (!decide (x.1.2.2.2.1 = x.2.1.2.2.2.1)) then
some ((false, ()), ())
else
some ((true, ()), ())))))
noncomputable def qG : Ent := (46, none, ⟨[Z4, Z4], [.bool], gG⟩)
theorem ua : SQ Tryz.prog qG := so (v := .nil) (fn := Tryz.f46) B1 (by kernel_rfl) (by kernel_rfl) (by kernel_rfl) (kN) (fun _ => by kernel_rfl)
noncomputable def yz : Cx := cX [qG] [] []
theorem pf : OKC Tryz.prog yz ac := okc mixed (gC ua (am))
noncomputable def ec (x : List Parcel × List Parcel × Int × Unit) : Rnd (List Parcel × List Parcel × Int × Unit) (Bool × Unit) (Unit) :=
(if (decide (x.2.2.1 < (x.1.length : Int))) then
(if inb x.2.2.1 x.1.length then
(if inb x.2.2.1 x.2.1.length then
(gG (((rd (dfl .parcel) x.1 x.2.2.1).src, (rd (dfl .parcel) x.1 x.2.2.1).dst, (rd (dfl .parcel) x.1 x.2.2.1).data, (rd (dfl .parcel) x.1 x.2.2.1).sp, ()), ((rd (dfl .parcel) x.2.1 x.2.2.1).src, (rd (dfl .parcel) x.2.1 x.2.2.1).dst, (rd (dfl .parcel) x.2.1 x.2.2.1).data, (rd (dfl .parcel) x.2.1 x.2.2.1).sp, ()), ())).bind fun r7 =>
(if (!r7.1.1) then
some (.inr (.inl (false, ())))
else
some (.inl (x.1, x.2.1, (w64 (x.2.2.1 + 1)), ())))
else none)
else none)
else
some (.inr (.inr ())))
noncomputable def eL := aA ec
noncomputable def mN : Loop := ⟨[(0, .sl .parcel), (1, .sl .parcel), (5, .int .i64)], [], 0, [(4, .bool)], eL⟩
theorem xS : LF Tryz.f25 [] [1, 1, 0, 1, 0, 0] mN := lk (v := .nil) pf (b := ec) (fun _ => by kernel_rfl) rfl (by kernel_rfl) (kN)
noncomputable def fw (x : List Parcel × List Parcel × Unit) : Option ((Bool × Unit) × Unit) :=
(if (!decide ((x.1.length : Int) = (x.2.1.length : Int))) then
some ((false, ()), ())
else
(aw (eL (x.1, x.2.1, 0, ()))
(fun y8 => some (y8, ()))
(fun y8 => some ((true, ()), ()))))
noncomputable def oZ : Ent := (25, none, ⟨[.fz .parcel, .fz .parcel], [.bool], fw⟩)
theorem rL : SQ Tryz.prog oZ := so (v := .two (.nil) (.two (.nil) (.two (.two (.nil) (.one (.loop mN))) (.nil)))) (fn := Tryz.f25) pf (by kernel_rfl) (by kernel_rfl) (by kernel_rfl) (kC xS (kN)) (fun _ => by kernel_rfl)
noncomputable def Et : Cx := cX [] [] []
theorem Gj : OKC Tryz.prog Et ac := okc mixed (am)
noncomputable def kP (x : Y5 × Y5 × Unit) : Option ((Bool × Unit) × Unit) :=
(if (!decide (x.1.1 = x.2.1.1)) then
some ((false, ()), ())
else
(if (!decide (x.1.2.1 = x.2.1.2.1)) then
some ((false, ()), ())
else
(if (!decide (x.1.2.2.1 = x.2.1.2.2.1)) then
some ((false, ()), ())
else
(if (!decide (x.1.2.2.2.1 = x.2.1.2.2.2.1)) then
some ((false, ()), ())
else
(if (!decide (x.1.2.2.2.2.1 = x.2.1.2.2.2.2.1)) then
some ((false, ()), ())
else
some ((true, ()), ()))))))
noncomputable def uV : Ent := (47, none, ⟨[Z5, Z5], [.bool], kP⟩)
theorem xH : SQ Tryz.prog uV := so (v := .nil) (fn := Tryz.f47) Gj (by kernel_rfl) (by kernel_rfl) (by kernel_rfl) (kN) (fun _ => by kernel_rfl)
noncomputable def BF : Cx := cX [uV] [] []
theorem s5 : OKC Tryz.prog BF ac := okc mixed (gC xH (am))
noncomputable def gH (x : List Note × List Note × Int × Unit) : Rnd (List Note × List Note × Int × Unit) (Bool × Unit) (Unit) :=
(if (decide (x.2.2.1 < (x.1.length : Int))) then
(if inb x.2.2.1 x.1.length then
(if inb x.2.2.1 x.2.1.length then
(kP (((rd (dfl .note) x.1 x.2.2.1).fr, (rd (dfl .note) x.1 x.2.2.1).nu, (rd (dfl .note) x.1 x.2.2.1).to, (rd (dfl .note) x.1 x.2.2.1).un, (rd (dfl .note) x.1 x.2.2.1).tx, ()), ((rd (dfl .note) x.2.1 x.2.2.1).fr, (rd (dfl .note) x.2.1 x.2.2.1).nu, (rd (dfl .note) x.2.1 x.2.2.1).to, (rd (dfl .note) x.2.1 x.2.2.1).un, (rd (dfl .note) x.2.1 x.2.2.1).tx, ()), ())).bind fun r7 =>
(if (!r7.1.1) then
some (.inr (.inl (false, ())))
else
some (.inl (x.1, x.2.1, (w64 (x.2.2.1 + 1)), ())))
else none)
else none)
else
some (.inr (.inr ())))
noncomputable def ig := aA gH
noncomputable def oA : Loop := ⟨[(0, .sl .note), (1, .sl .note), (5, .int .i64)], [], 0, [(4, .bool)], ig⟩
theorem A3 : LF Tryz.f26 [] [1, 1, 0, 1, 0, 0] oA := lk (v := .nil) s5 (b := gH) (fun _ => by kernel_rfl) rfl (by kernel_rfl) (kN)
noncomputable def eO (x : List Note × List Note × Unit) : Option ((Bool × Unit) × Unit) :=
(if (!decide ((x.1.length : Int) = (x.2.1.length : Int))) then
some ((false, ()), ())
else
(aw (ig (x.1, x.2.1, 0, ()))
(fun y8 => some (y8, ()))
(fun y8 => some ((true, ()), ()))))
noncomputable def sG : Ent := (26, none, ⟨[.fz .note, .fz .note], [.bool], eO⟩)
theorem wh : SQ Tryz.prog sG := so (v := .two (.nil) (.two (.nil) (.two (.two (.nil) (.one (.loop oA))) (.nil)))) (fn := Tryz.f26) s5 (by kernel_rfl) (by kernel_rfl) (by kernel_rfl) (kC A3 (kN)) (fun _ => by kernel_rfl)
noncomputable def BE : Cx := cX [o3, sJ, oZ, sG] [] []
theorem E5 : OKC Tryz.prog BE ac := okc mixed (gC rM (gC wm (gC rL (gC wh (am)))))
noncomputable def jh (x : Y6 × Y6 × Unit) : Option ((Bool × Unit) × Unit) :=
(if (!decide (x.1.1 = x.2.1.1)) then
some ((false, ()), ())
else
(fA (x.1.2.1, x.2.1.2.1, ())).bind fun r2 =>
(if (!r2.1.1) then
some ((false, ()), ())
else
(jl (x.1.2.2.1, x.2.1.2.2.1, ())).bind fun r4 =>
(if (!r4.1.1) then
some ((false, ()), ())
else
(fw (x.1.2.2.2.1, x.2.1.2.2.2.1, ())).bind fun r6 =>
(if (!r6.1.1) then
some ((false, ()), ())
else
(eO (x.1.2.2.2.2.1, x.2.1.2.2.2.2.1, ())).bind fun r8 =>
(if (!r8.1.1) then
some ((false, ()), ())
else
(eO (x.1.2.2.2.2.2.1, x.2.1.2.2.2.2.2)).bind fun r10 =>
(if (!r10.1.1) then
some ((false, ()), ())
else
some ((true, ()), ())))))))
noncomputable def sF : Ent := (8, none, ⟨[Z6, Z6], [.bool], jh⟩)
theorem we : SQ Tryz.prog sF := so (v := .nil) (fn := Tryz.f8) E5 (by kernel_rfl) (by kernel_rfl) (by kernel_rfl) (kN) (fun _ => by kernel_rfl)
noncomputable def nc : Cx := cX [sy, nE, sr, nF, sF] [] []
theorem n6 : OKC Tryz.prog nc ac := okc mixed (gC vX (gC qU (gC vR (gC qW (gC we (am))))))
noncomputable def aX (x : Y6 × Unit) : Option ((Bool × Unit) × Unit) :=
(jf (x.1, 1048576, ())).bind fun r1 =>
(if (decide (r1.1.1 < 0)) then
some ((true, ()), ())
else
(cV x).bind fun r2 =>
(dZ r2.1).bind fun r3 =>
(cV x).bind fun r4 =>
(el r4.1).bind fun r5 =>
(if (!decide (r5.1.1 = r3.1.1)) then
some ((false, ()), ())
else
(cV x).bind fun r8 =>
(jh (r4.1.1, r8.1)).bind fun r9 =>
(if (!r9.1.1) then
some ((false, ()), ())
else
some ((true, ()), ()))))
noncomputable def nX : Ent := (3, none, ⟨[Z6], [.bool], aX⟩)
theorem ly : SQ Tryz.prog nX := so (v := .nil) (fn := Tryz.f3) n6 (by kernel_rfl) (by kernel_rfl) (by kernel_rfl) (kN) (fun _ => by kernel_rfl)
end Go.VS
namespace Go.VS
open Go
section
variable {σ ρ β γ : Type} {b : σ → Option (σ ⊕ ρ)}
theorem cW {x : σ} {y : ρ} (h : b x = some (.inr y)) : aA b x = some y := DR (n := 1) (by simp [mP, h])
theorem mg {x x' : σ} {y : ρ} (h : b x = some (.inl x')) (hy : aA b x' = some y) : aA b x = some y := by
  obtain ⟨n, hn⟩ := GY hy
  exact DR (n := n + 1) (by simp [mP, h, hn])
theorem ee (st : Nat → σ) (n : Nat) {y : ρ} (h : ∀ i, i < n → b (st i) = some (.inl (st (i + 1)))) (hn : b (st n) = some (.inr y)) : aA b (st 0) = some y := by
  have : ∀ k, k ≤ n → aA b (st (n - k)) = some y := by
    intro k
    induction k with
    | zero => intro _; exact cW hn
    | succ k ih =>
      intro hk
      refine mg (h (n - (k + 1)) (by omega)) ?_
      rw [show n - (k + 1) + 1 = n - k by omega]
      exact ih (by omega)
  have := this n (Nat.le_refl _)
  rwa [Nat.sub_self] at this
theorem Ou (Inv : Nat → σ → Prop) (Post : ρ → Prop) (n : Nat) (hstep : ∀ i s, i < n → Inv i s → (∃ s', b s = some (.inl s') ∧ Inv (i + 1) s') ∨ (∃ r, b s = some (.inr r) ∧ Post r))
    (hend : ∀ s, Inv n s → ∃ r, b s = some (.inr r) ∧ Post r) {s0 : σ} (h0 : Inv 0 s0) : ∃ r, aA b s0 = some r ∧ Post r := by
  have : ∀ k, k ≤ n → ∀ s, Inv (n - k) s → ∃ r, aA b s = some r ∧ Post r := by
    intro k
    induction k with
    | zero =>
      intro _ s hs
      obtain ⟨r, h1, h2⟩ := hend s hs
      exact ⟨r, cW h1, h2⟩
    | succ k ih =>
      intro hk s hs
      rcases hstep _ s (by omega) hs with ⟨s', h1, h2⟩ | ⟨r, h1, h2⟩
      · rw [show n - (k + 1) + 1 = n - k by omega] at h2
        obtain ⟨r, h3, h4⟩ := ih (by omega) s' h2
        exact ⟨r, mg h1 h3, h4⟩
      · exact ⟨r, cW h1, h2⟩
  exact this n (Nat.le_refl _) s0 (by rwa [Nat.sub_self])
end
def rk {β : Type} (q : Nat → Option β) : Nat → Nat → Option β
  | 0, _ => none
  | k + 1, i => match q i with
    | some r => some r
    | none => rk q k (i + 1)
section
variable {σ β γ : Type} {b : σ → Option (σ ⊕ (β ⊕ γ))}
theorem GZ (st : Nat → σ) (n : Nat) (q : Nat → Option β) (fin : γ)
    (h : ∀ i, i < n → b (st i) = some (match q i with | none => .inl (st (i + 1)) | some r => .inr (.inl r)))
    (hn : b (st n) = some (.inr (.inr fin))) : aA b (st 0) = some (match rk q n 0 with | none => .inr fin | some r => .inl r) := by
  have : ∀ k, k ≤ n → aA b (st (n - k)) = some (match rk q k (n - k) with | none => .inr fin | some r => .inl r) := by
    intro k
    induction k with
    | zero => intro _; exact cW hn
    | succ k ih =>
      intro hk
      have h1 := h (n - (k + 1)) (by omega)
      unfold rk
      cases hq : q (n - (k + 1)) with
      | some r => rw [hq] at h1; exact cW h1
      | none =>
        rw [hq] at h1
        refine mg h1 ?_
        rw [show n - (k + 1) + 1 = n - k by omega]
        exact ih (by omega)
  have := this n (Nat.le_refl _)
  rwa [Nat.sub_self] at this
def la (p : Nat → Bool) : Nat → Nat → Bool
  | 0, _ => true
  | k + 1, i => p i && la p k (i + 1)
def aN (n : Nat) (p : Nat → Bool) : Bool := la p n 0
theorem IC {p : Nat → Bool} {r : β} : ∀ (k i : Nat), rk (fun i => if p i then none else some r) k i = if la p k i then none else some r
  | 0, _ => rfl
  | k + 1, i => by
    unfold rk la
    cases hp : p i
    · simp
    · simpa using IC k (i + 1)
theorem az (st : Nat → σ) (n : Nat) (p : Nat → Bool) (r : β) (fin : γ)
    (h : ∀ i, i < n → b (st i) = some (if p i then .inl (st (i + 1)) else .inr (.inl r)))
    (hn : b (st n) = some (.inr (.inr fin))) : aA b (st 0) = some (if aN n p then .inr fin else .inl r) := by
  rw [GZ st n (fun i => if p i then none else some r) fin (fun i hi => by rw [h i hi]; cases p i <;> rfl) hn, IC, aN]
  cases la p n 0 <;> rfl
def iD (n : Nat) (p : Nat → Bool) : Int := (rk (fun i => if p i then some (i : Int) else none) n 0).getD (-1)
theorem IB {p : Nat → Bool} {f : Int → β} : ∀ (k i : Nat), rk (fun i => if p i then some (f (i : Int)) else none) k i = (rk (fun i => if p i then some (i : Int) else none) k i).map f
  | 0, _ => rfl
  | k + 1, i => by
    unfold rk
    cases hp : p i
    · simpa using IB k (i + 1)
    · simp
theorem yS {q : Nat → Option β} {r : β} : ∀ (k i : Nat), rk q k i = some r → ∃ j, i ≤ j ∧ j < i + k ∧ q j = some r ∧ ∀ l, i ≤ l → l < j → q l = none
  | 0, _, h => by cases h
  | k + 1, i, h => by
    unfold rk at h
    split at h
    · rename_i r' hr
      cases h
      exact ⟨i, Nat.le_refl _, by omega, hr, fun l h1 h2 => by omega⟩
    · rename_i hr
      obtain ⟨j, h1, h2, h3, h4⟩ := yS k (i + 1) h
      exact ⟨j, by omega, by omega, h3, fun l h5 h6 => by
        rcases Nat.lt_or_ge i l with h7 | h7
        · exact h4 l h7 h6
        · rw [show l = i by omega]; exact hr⟩
theorem GG {q : Nat → Option β} : ∀ (k i : Nat), rk q k i = none → ∀ l, i ≤ l → l < i + k → q l = none
  | 0, _, _, l, h1, h2 => by omega
  | k + 1, i, h, l, h1, h2 => by
    unfold rk at h
    split at h
    · cases h
    · rename_i hr
      rcases Nat.lt_or_ge i l with h7 | h7
      · exact GG k (i + 1) h l h7 (by omega)
      · rw [show l = i by omega]; exact hr
theorem cB (n : Nat) (p : Nat → Bool) : (iD n p = -1 ∧ ∀ i, i < n → p i = false) ∨ ∃ i : Nat, iD n p = i ∧ i < n ∧ p i = true ∧ ∀ l, l < i → p l = false := by
  unfold iD
  cases h : rk (fun i => if p i then some (i : Int) else none) n 0 with
  | none =>
    refine .inl ⟨rfl, fun i hi => ?_⟩
    have := GG n 0 h i (Nat.zero_le _) (by omega)
    cases hp : p i <;> simp [hp] at this ⊢
  | some r =>
    obtain ⟨j, h1, h2, h3, h4⟩ := yS n 0 h
    refine .inr ⟨j, ?_, by omega, ?_, fun l hl => ?_⟩
    · cases hp : p j <;> simp [hp] at h3
      simp [h3]
    · cases hp : p j <;> simp [hp] at h3 ⊢
    · have := h4 l (Nat.zero_le _) hl
      cases hp : p l <;> simp [hp] at this ⊢
theorem mh (st : Nat → σ) (n : Nat) (p : Nat → Bool) (f : Int → β) (fin : γ)
    (h : ∀ i, i < n → b (st i) = some (if p i then .inr (.inl (f (i : Int))) else .inl (st (i + 1))))
    (hn : b (st n) = some (.inr (.inr fin))) : aA b (st 0) = some (if iD n p < 0 then .inr fin else .inl (f (iD n p))) := by
  rw [GZ st n (fun i => if p i then some (f (i : Int)) else none) fin (fun i hi => by rw [h i hi]; cases p i <;> rfl) hn, IB]
  rcases cB n p with ⟨h1, _⟩ | ⟨i, h1, _⟩
  · rw [h1]
    unfold iD at h1
    cases h2 : rk (fun i => if p i then some (i : Int) else none) n 0 with
    | none => simp
    | some r =>
      obtain ⟨j, _, _, h3, _⟩ := yS n 0 h2
      cases hp : p j <;> simp [hp] at h3
      rw [h2] at h1
      simp at h1
      omega
  · rw [h1]
    unfold iD at h1
    cases h2 : rk (fun i => if p i then some (i : Int) else none) n 0 with
    | none => rw [h2] at h1; simp at h1
    | some r =>
      rw [h2] at h1
      simp at h1
      subst h1
      simp
end
theorem Ar {p : Nat → Bool} : ∀ (k i : Nat), la p k i = true ↔ ∀ j, i ≤ j → j < i + k → p j = true
  | 0, _ => by simp only [la, true_iff]; intro j h1 h2; omega
  | k + 1, i => by
    unfold la
    rw [Bool.and_eq_true, Ar k (i + 1)]
    constructor
    · rintro ⟨h1, h2⟩ j h3 h4
      rcases Nat.lt_or_ge i j with h7 | h7
      · exact h2 j h7 (by omega)
      · rw [show j = i by omega]; exact h1
    · intro h
      exact ⟨h i (Nat.le_refl _) (by omega), fun j h1 h2 => h j (by omega) (by omega)⟩
theorem lp {n : Nat} {p : Nat → Bool} : aN n p = true ↔ ∀ i, i < n → p i = true := by
  unfold aN
  rw [Ar]
  exact ⟨fun h i hi => h i (Nat.zero_le _) (by omega), fun h j _ h2 => h j (by omega)⟩
theorem aI {A D Ω : Type} {f : A → Option Ω} {g : D → Option Ω} {y : D} : aw (some (.inr y)) f g = g y := rfl
theorem bB {A D Ω : Type} {f : A → Option Ω} {g : D → Option Ω} {y : A} : aw (some (.inl y)) f g = f y := rfl
theorem ce {X Ω : Type} {f : X → Option Ω} {y : X} : fH f (some (.inr y)) = f y := rfl
theorem iC {X Ω : Type} {f : X → Option Ω} {y : Ω} : fH f (some (.inl y)) = some y := rfl
theorem aP {n : Int} (h0 : -9223372036854775808 ≤ n) (h1 : n ≤ 9223372036854775807) : w64 n = n := by
  unfold w64
  rw [IntKind.wrap_i64]
  omega
theorem Mx (n : Int) : w8 n = n % 256 := by
  unfold w8 IntKind.wrap
  simp [IntKind.signed, IntKind.bits]
theorem ab {i n : Nat} (h : i < n) (hn : n ≤ 9223372036854775807) : w64 ((i : Int) + 1) = ((i + 1 : Nat) : Int) := by
  rw [aP (by omega) (by omega)]; omega
theorem cR {α : Type} (d : α) (xs : List α) (i : Nat) : rd d xs (i : Int) = xs.getD i d := rfl
theorem Ow (i n : Nat) : inb (i : Int) n = decide (i < n) := by
  unfold inb
  by_cases h : i < n
  · simp [h]
  · simp [h]
theorem ae {i n : Nat} (h : i < n) : inb (i : Int) n = true := by rw [Ow]; simpa using h
abbrev L (s : ByteArray) : List UInt8 := s.data.toList
theorem lq (s : ByteArray) : (L s).length = s.size := rfl
theorem tk {s t : ByteArray} (h : L s = L t) : s = t := by
  cases s; cases t
  simp [L] at h
  exact congrArg _ h
theorem N0 (s t : ByteArray) : L (s ++ t) = L s ++ L t := by simp [L, ByteArray.data_append]
theorem Fh (s : ByteArray) (a b : Nat) : L (s.extract a b) = ((L s).drop a).take (b - a) := by
  simp [L, ByteArray.data_extract, Array.toList_extract, List.extract_eq_take_drop]
theorem dz (s t : ByteArray) : (s ++ t).size = s.size + t.size := ByteArray.size_append ..
theorem L_B (l : List UInt8) : L (B l) = l := rfl
theorem yR (l : List UInt8) : (B l).size = l.length := rfl
theorem PH (l : List UInt8) : L ⟨l.toArray⟩ = l := rfl
theorem Fa (s : ByteArray) (i : Nat) : bt s (i : Int) = (((L s).getD i 0).toNat : Int) := rfl
theorem PF (s : ByteArray) (i : Int) : 0 ≤ bt s i := by unfold bt; omega
theorem PG (s : ByteArray) (i : Int) : bt s i ≤ 255 := by
  unfold bt
  have := (s.data.toList.getD i.toNat 0).toNat_lt
  omega
end Go.VS
namespace Go.VS
open Go
theorem wU {α : Type} {p : α → Prop} {l : List α} (h : wfL p l) : l.length ≤ 9223372036854775807 := h.1
theorem Cc {s : ByteArray} (h : wfS s) : s.size ≤ 9223372036854775807 := h
def Sz (f : Option ((Int × Unit) × Unit)) (left : Int) (p : Prop) : Prop := ∃ r, f = some ((r, ()), ()) ∧ -1 ≤ r ∧ r ≤ left ∧ (0 ≤ r → p)
theorem Fe {left : Int} {n : Nat} (h0 : 0 ≤ left) (h1 : left ≤ 1048576) (hn : n ≤ 9223372036854775807) :
    Sz (let v1 := (w64 (left - (n : Int))); if decide (v1 < 0) then some (((-1), ()), ()) else some ((v1, ()), ())) left (n ≤ 1048576) := by
  rw [aP (by omega) (by omega)]
  by_cases h : left - (n : Int) < 0
  · exact ⟨-1, by simp [h], by omega, by omega, by omega⟩
  · exact ⟨left - n, by simp [h], by omega, by omega, by omega⟩
theorem w7 {α : Type} {l : List α} {b : (List α × Int × Int × Unit) → Option ((List α × Int × Int × Unit) ⊕ ((Int × Unit) ⊕ (Int × Unit)))} (p : α → Prop)
    (h : ∀ (i : Nat) (x : α) (lf : Int), l[i]? = some x → 0 ≤ lf → lf ≤ 1048576 → ∃ r, b (l, lf, (i : Int), ()) = some (if r < 0 then .inr (.inl (-1, ())) else .inl (l, r, ((i + 1 : Nat) : Int), ())) ∧ -1 ≤ r ∧ r ≤ lf ∧ (0 ≤ r → p x))
    (hn : ∀ lf, b (l, lf, (l.length : Int), ()) = some (.inr (.inr (lf, ())))) {left : Int} (h0 : 0 ≤ left) (h1 : left ≤ 1048576) :
    ∃ y, aA b (l, left, 0, ()) = some y ∧ (y = .inl (-1, ()) ∨ ∃ r, y = .inr (r, ()) ∧ 0 ≤ r ∧ r ≤ left ∧ ∀ x ∈ l, p x) := by
  refine Ou (fun i s => ∃ lf, s = (l, lf, (i : Int), ()) ∧ 0 ≤ lf ∧ lf ≤ left ∧ ∀ (j : Nat) (x : α), j < i → l[j]? = some x → p x) _ l.length ?_ ?_ ⟨left, rfl, h0, by omega, fun j x hj => by omega⟩
  · rintro i s hi ⟨lf, rfl, h2, h3, h4⟩
    obtain ⟨r, e, h5, h6, h7⟩ := h i l[i] lf (List.getElem?_eq_getElem hi) h2 (by omega)
    by_cases hr : r < 0
    · rw [if_pos hr] at e
      exact .inr ⟨_, e, .inl rfl⟩
    · rw [if_neg hr] at e
      refine .inl ⟨_, e, r, rfl, by omega, by omega, fun j x hj hx => ?_⟩
      rcases Nat.lt_or_ge j i with hl | hl
      · exact h4 j x hl hx
      · rw [show j = i by omega, List.getElem?_eq_getElem hi] at hx
        cases hx
        exact h7 (by omega)
  · rintro s ⟨lf, rfl, h2, h3, h4⟩
    exact ⟨_, hn lf, .inr ⟨lf, rfl, h2, h3, fun x hx => by
      obtain ⟨j, hj, rfl⟩ := List.getElem_of_mem hx
      exact h4 j _ hj (List.getElem?_eq_getElem hj)⟩⟩
theorem yK {α : Type} {l : List α} {p : α → Prop} {left : Int} {it : Option ((Int × Unit) ⊕ (Int × Unit))} (h0 : 0 ≤ left) (h1 : left ≤ 1048576) (hl : l.length ≤ 9223372036854775807)
    (h : ∀ lf : Int, 0 ≤ lf → lf ≤ left → w64 (left - (l.length : Int)) = lf → ∃ y, it = some y ∧ (y = .inl (-1, ()) ∨ ∃ r, y = .inr (r, ()) ∧ 0 ≤ r ∧ r ≤ lf ∧ ∀ x ∈ l, p x)) :
    Sz (let v1 := (w64 (left - (l.length : Int))); if decide (v1 < 0) then some (((-1), ()), ()) else aw it (fun y9 => some ((y9.1, ()), ())) (fun y9 => some ((y9.1, ()), ()))) left (l.length ≤ 1048576 ∧ ∀ x ∈ l, p x) := by
  have hw := aP (n := left - (l.length : Int)) (by omega) (by omega)
  by_cases hc : left - (l.length : Int) < 0
  · rw [hw]
    exact ⟨-1, by simp [hc], by omega, by omega, by omega⟩
  · obtain ⟨y, rfl, hy⟩ := h (left - l.length) (by omega) (by omega) hw
    rw [hw]
    rcases hy with rfl | ⟨r, rfl, h2, h3, h4⟩
    · exact ⟨-1, by simp [hc, aw], by omega, by omega, by omega⟩
    · exact ⟨r, by simp [hc, aw], by omega, by omega, fun _ => ⟨by omega, h4⟩⟩
def xj (m : Mixed) : Prop := m.da.size ≤ 1048576
def kq (h : Half) : Prop := h.got.length ≤ 1048576 ∧ ∀ m ∈ h.got, xj m
def ch (k : Keeper) : Prop := k.log.size ≤ 1048576 ∧ k.halves.length ≤ 1048576 ∧ ∀ h ∈ k.halves, kq h
def rj (p : Parcel) : Prop := p.data.size ≤ 1048576
def cH (n : Note) : Prop := n.tx.size ≤ 1048576
theorem bf {α : Type} {l : List α} {i : Nat} {x d : α} (h : l[i]? = some x) : l.getD i d = x := by simp [h]
theorem Lf {x : Mixed} {left : Int} (hw : Cd x) (h0 : 0 ≤ left) (h1 : left ≤ 1048576) : Sz (mH ((x.nu, x.da, ()), left, ())) left (xj x) := Fe h0 h1 (Cc hw.2)
theorem MG {x : Note} {left : Int} (hw : vA x) (h0 : 0 ≤ left) (h1 : left ≤ 1048576) : Sz (nQ ((x.fr, x.nu, x.to, x.un, x.tx, ()), left, ())) left (cH x) := Fe h0 h1 (Cc hw.2.2.2.2)
theorem JB {x : Parcel} {left : Int} (hw : wT x) (h0 : 0 ≤ left) (h1 : left ≤ 1048576) : Sz (lv ((x.src, x.dst, x.data, x.sp, ()), left, ())) left (rj x) := Fe h0 h1 (Cc hw.2.2)
theorem Ld {lg : ByteArray} {fo : Int} {left : Int} (hw : wfS lg) (h0 : 0 ≤ left) (h1 : left ≤ 1048576) : Sz (mE ((lg, fo, ()), left, ())) left (lg.size ≤ 1048576) := Fe h0 h1 (Cc hw)
theorem Lh {l : List Bool} {left : Int} (hw : l.length ≤ 9223372036854775807) (h0 : 0 ≤ left) (h1 : left ≤ 1048576) : Sz (mL (l, left, ())) left (l.length ≤ 1048576) := Fe h0 h1 hw
theorem nL {f : Option ((Int × Unit) × Unit)} {left : Int} {p q : Prop} {g : (Int × Unit) × Unit → Option ((Int × Unit) × Unit)} (hf : Sz f left p)
    (hg : ∀ lf, 0 ≤ lf → lf ≤ left → Sz (g ((lf, ()), ())) lf q) : Sz (f.bind fun r => if decide (r.1.1 < 0) then some (((-1), ()), ()) else g r) left (p ∧ q) := by
  obtain ⟨r, rfl, h1, h2, h3⟩ := hf
  by_cases hr : r < 0
  · exact ⟨-1, by simp [hr], by omega, by omega, by omega⟩
  · obtain ⟨r', e, h4, h5, h6⟩ := hg r (by omega) h2
    refine ⟨r', ?_, h4, by omega, fun h => ⟨h3 (by omega), h6 h⟩⟩
    simp only [Option.bind_some, hr, decide_false]
    exact e
theorem Kq {lf : Int} (h : 0 ≤ lf) : Sz (some ((lf, ()), ())) lf True := ⟨lf, rfl, by omega, by omega, fun _ => trivial⟩
theorem Sz.mono {f : Option ((Int × Unit) × Unit)} {left : Int} {p q : Prop} (h : Sz f left p) (hpq : p → q) : Sz f left q := by
  obtain ⟨r, h1, h2, h3, h4⟩ := h
  exact ⟨r, h1, h2, h3, fun h => hpq (h4 h)⟩
theorem ak {i n : Nat} (h : i < n) : decide ((i : Int) < (n : Int)) = true := by simpa using h
theorem JC {l : List Mixed} {left : Int} (hw : wfL Cd l) (h0 : 0 ≤ left) (h1 : left ≤ 1048576) : Sz (lw (l, left, ())) left (l.length ≤ 1048576 ∧ ∀ x ∈ l, xj x) := by
  have hl := wU hw
  refine yK (p := xj) h0 h1 hl fun lf h2 h3 e => ?_
  have h3 : lf ≤ left := h3
  simp only [e]
  refine w7 xj (fun i x lf hx h4 h5 => ?_) (fun lf => ?_) h2 (by omega)
  · have hi := (List.getElem?_eq_some_iff.1 hx).1
    obtain ⟨r, e, h6, h7, h8⟩ := Lf  (hw.2 x (List.mem_of_getElem? hx)) h4 h5
    refine ⟨r, ?_, h6, h7, h8⟩
    unfold fv
    simp only [cR, bf hx, ae hi, e, Option.bind_some, ak hi, ab hi hl]
    by_cases hr : r < 0 <;> simp [hr]
  · simp [fv]
theorem MH {x : Half} {left : Int} (hw : Ht x) (h0 : 0 ≤ left) (h1 : left ≤ 1048576) : Sz (nR ((x.fr, x.nu, x.to, x.un, x.sz, x.got, ()), left, ())) left (kq x) :=
  (nL (JC hw.2.2.2.2.2 h0 h1) fun _ h2 _ => Kq h2).mono fun h => h.1
theorem Lg {l : List Half} {left : Int} (hw : wfL Ht l) (h0 : 0 ≤ left) (h1 : left ≤ 1048576) : Sz (mJ (l, left, ())) left (l.length ≤ 1048576 ∧ ∀ x ∈ l, kq x) := by
  have hl := wU hw
  refine yK (p := kq) h0 h1 hl fun lf h2 h3 e => ?_
  have h3 : lf ≤ left := h3
  simp only [e]
  refine w7 kq (fun i x lf hx h4 h5 => ?_) (fun lf => ?_) h2 (by omega)
  · have hi := (List.getElem?_eq_some_iff.1 hx).1
    obtain ⟨r, e, h6, h7, h8⟩ := MH  (hw.2 x (List.mem_of_getElem? hx)) h4 h5
    refine ⟨r, ?_, h6, h7, h8⟩
    unfold gF
    simp only [cR, bf hx, ae hi, e, Option.bind_some, ak hi, ab hi hl]
    by_cases hr : r < 0 <;> simp [hr]
  · simp [gF]
theorem JD {x : Keeper} {left : Int} (hw : wV x) (h0 : 0 ≤ left) (h1 : left ≤ 1048576) : Sz (lx ((x.id, x.up, x.log, x.fo, x.halves, ()), left, ())) left (ch x) :=
  (nL (Ld (fo := x.fo) hw.2.1 h0 h1) fun _ h2 h3 => nL (Lg hw.2.2.2 h2 (by omega)) fun _ h4 _ => Kq h4).mono fun h => ⟨h.1, h.2.1.1, h.2.1.2⟩
theorem Ir {l : List Keeper} {left : Int} (hw : wfL wV l) (h0 : 0 ≤ left) (h1 : left ≤ 1048576) : Sz (ku (l, left, ())) left (l.length ≤ 1048576 ∧ ∀ x ∈ l, ch x) := by
  have hl := wU hw
  refine yK (p := ch) h0 h1 hl fun lf h2 h3 e => ?_
  have h3 : lf ≤ left := h3
  simp only [e]
  refine w7 ch (fun i x lf hx h4 h5 => ?_) (fun lf => ?_) h2 (by omega)
  · have hi := (List.getElem?_eq_some_iff.1 hx).1
    obtain ⟨r, e, h6, h7, h8⟩ := JD  (hw.2 x (List.mem_of_getElem? hx)) h4 h5
    refine ⟨r, ?_, h6, h7, h8⟩
    unfold d9
    simp only [cR, bf hx, ae hi, e, Option.bind_some, ak hi, ab hi hl]
    by_cases hr : r < 0 <;> simp [hr]
  · simp [d9]
theorem Iq {l : List Parcel} {left : Int} (hw : wfL wT l) (h0 : 0 ≤ left) (h1 : left ≤ 1048576) : Sz (kt (l, left, ())) left (l.length ≤ 1048576 ∧ ∀ x ∈ l, rj x) := by
  have hl := wU hw
  refine yK (p := rj) h0 h1 hl fun lf h2 h3 e => ?_
  have h3 : lf ≤ left := h3
  simp only [e]
  refine w7 rj (fun i x lf hx h4 h5 => ?_) (fun lf => ?_) h2 (by omega)
  · have hi := (List.getElem?_eq_some_iff.1 hx).1
    obtain ⟨r, e, h6, h7, h8⟩ := JB  (hw.2 x (List.mem_of_getElem? hx)) h4 h5
    refine ⟨r, ?_, h6, h7, h8⟩
    unfold d8
    simp only [cR, bf hx, ae hi, e, Option.bind_some, ak hi, ab hi hl]
    by_cases hr : r < 0 <;> simp [hr]
  · simp [d8]
theorem GC {l : List Note} {left : Int} (hw : wfL vA l) (h0 : 0 ≤ left) (h1 : left ≤ 1048576) : Sz (jg (l, left, ())) left (l.length ≤ 1048576 ∧ ∀ x ∈ l, cH x) := by
  have hl := wU hw
  refine yK (p := cH) h0 h1 hl fun lf h2 h3 e => ?_
  have h3 : lf ≤ left := h3
  simp only [e]
  refine w7 cH (fun i x lf hx h4 h5 => ?_) (fun lf => ?_) h2 (by omega)
  · have hi := (List.getElem?_eq_some_iff.1 hx).1
    obtain ⟨r, e, h6, h7, h8⟩ := MG  (hw.2 x (List.mem_of_getElem? hx)) h4 h5
    refine ⟨r, ?_, h6, h7, h8⟩
    unfold gE
    simp only [cR, bf hx, ae hi, e, Option.bind_some, ak hi, ab hi hl]
    by_cases hr : r < 0 <;> simp [hr]
  · simp [gE]
structure SmRiver (ks : List Keeper) (ls : List Bool) (ra : List Parcel) (se go : List Note) : Prop where
  kl : ks.length ≤ 1048576
  k : ∀ x ∈ ks, ch x
  l : ls.length ≤ 1048576
  rl : ra.length ≤ 1048576
  r : ∀ x ∈ ra, rj x
  sl : se.length ≤ 1048576
  s : ∀ x ∈ se, cH x
  gl : go.length ≤ 1048576
  g : ∀ x ∈ go, cH x
theorem Le {ti : Int} {ks : List Keeper} {ls : List Bool} {ra : List Parcel} {se go : List Note} {left : Int} (hk : wfL wV ks) (hl : ls.length ≤ 9223372036854775807) (hr : wfL wT ra) (hs : wfL vA se) (hg : wfL vA go)
    (h0 : 0 ≤ left) (h1 : left ≤ 1048576) : Sz (jf ((ti, ks, ls, ra, se, go, ()), left, ())) left (SmRiver ks ls ra se go) :=
  (nL (Ir hk h0 h1) fun _ a2 _ => nL (Lh hl a2 (by omega)) fun _ b2 _ => nL (Iq hr b2 (by omega)) fun _ c2 _ => nL (GC hs c2 (by omega)) fun _ d2 _ => nL (GC hg d2 (by omega)) fun _ e2 _ =>
    Kq e2).mono fun h => ⟨h.1.1, h.1.2, h.2.1, h.2.2.1.1, h.2.2.1.2, h.2.2.2.1.1, h.2.2.2.1.2, h.2.2.2.2.1.1, h.2.2.2.2.1.2⟩
end Go.VS
namespace Go.VS
open Go
theorem MR {α : Type} {l : List α} {i : Nat} {x d : α} (h : l[i]? = some x) : (l.take i ++ List.replicate (l.length - i) d).set i x = l.take (i + 1) ++ List.replicate (l.length - (i + 1)) d := by
  obtain ⟨hi, rfl⟩ := List.getElem?_eq_some_iff.1 h
  apply List.ext_getElem
  · simp; omega
  · intro j h1 h2
    simp at h1 h2
    rw [List.getElem_set]
    split
    · rename_i e
      subst e
      rw [List.getElem_append_left (by simp; omega)]
      simp
    · rename_i hne
      rcases Nat.lt_trichotomy j i with hj | hj | hj
      · rw [List.getElem_append_left (by simp; omega), List.getElem_append_left (by simp; omega)]
        simp
      · omega
      · rw [List.getElem_append_right (by simp; omega), List.getElem_append_right (by simp; omega)]
        simp
theorem tp {α ρ : Type} {l : List α} {d : α} {b : (List α × List α × Int × Unit) → Option ((List α × List α × Int × Unit) ⊕ (ρ ⊕ (List α × Unit)))}
    (h : ∀ (i : Nat) (x : α) (out : List α), l[i]? = some x → i < l.length → i < out.length → b (l, out, (i : Int), ()) = some (.inl (l, out.set i x, ((i + 1 : Nat) : Int), ())))
    (hn : ∀ out, b (l, out, (l.length : Int), ()) = some (.inr (.inr (out, ())))) : aA b (l, List.replicate (Int.toNat (l.length : Int)) d, 0, ()) = some (.inr (l, ())) := by
  have := ee (b := b) (fun i => (l, l.take i ++ List.replicate (l.length - i) d, (i : Int), ())) l.length (y := .inr (l, ())) (fun i hi => by
    have hx := List.getElem?_eq_getElem hi
    rw [h i _ _ hx hi (by simp; omega), MR hx]) (by simp [hn])
  simpa using this
theorem tM {α ρ : Type} {l : List α} {b : (List α × List α × Int × Unit) → Option ((List α × List α × Int × Unit) ⊕ (ρ ⊕ Unit))}
    (h : ∀ (i : Nat) (x : α), l[i]? = some x → i < l.length → b (l, l, (i : Int), ()) = some (.inl (l, l, ((i + 1 : Nat) : Int), ())))
    (hn : b (l, l, (l.length : Int), ()) = some (.inr (.inr ()))) : aA b (l, l, 0, ()) = some (.inr ()) :=
  ee (b := b) (fun i => (l, l, (i : Int), ())) l.length (fun i hi => h i _ (List.getElem?_eq_getElem hi) hi) hn
theorem K8 {x : Mixed} : mC ((x.nu, x.da, ()), ()) = some (((x.nu, x.da, ()), ()), ()) := rfl
theorem L8 {x : Mixed} : ji ((x.nu, x.da, ()), (x.nu, x.da, ()), ()) = some ((true, ()), ()) := by
  unfold ji
  simp
theorem Jz {l : List Mixed} (hl : l.length ≤ 1048576) : gz (l, ()) = some ((l, ()), ()) := by
  have h1 : (decide (0 ≤ (l.length : Int)) && decide ((l.length : Int) ≤ 4294967296)) = true := by simp; omega
  have h2 : fL (l, List.replicate (Int.toNat (l.length : Int)) (dfl .mixed), 0, ()) = some (.inr (l, ())) := by
    refine tp (fun i x out hx hi ho => ?_) (fun out => by simp [ft])
    unfold ft
    simp only [cR, bf hx, ae hi, ae ho, K8, Option.bind_some, ak hi, ab hi (by omega : l.length ≤ 9223372036854775807)]
    rfl
  unfold gz
  simp only [h1, h2, aw, Option.bind_some, if_true]
theorem J9 {l : List Mixed} (hl : l.length ≤ 1048576) : gI (l, l, ()) = some ((true, ()), ()) := by
  have h2 : fM (l, l, 0, ()) = some (.inr ()) := by
    refine tM (fun i x hx hi => ?_) (by simp [fy])
    unfold fy
    simp only [cR, bf hx, ae hi, L8, Option.bind_some, ak hi, ab hi (by omega : l.length ≤ 9223372036854775807)]
    rfl
  unfold gI
  simp [h2, aw]
theorem MA {x : Note} : nP ((x.fr, x.nu, x.to, x.un, x.tx, ()), ()) = some (((x.fr, x.nu, x.to, x.un, x.tx, ()), ()), ()) := rfl
theorem NC {x : Note} : kP ((x.fr, x.nu, x.to, x.un, x.tx, ()), (x.fr, x.nu, x.to, x.un, x.tx, ()), ()) = some ((true, ()), ()) := by
  unfold kP
  simp
theorem GA {l : List Note} (hl : l.length ≤ 1048576) : eJ (l, ()) = some ((l, ()), ()) := by
  have h1 : (decide (0 ≤ (l.length : Int)) && decide ((l.length : Int) ≤ 4294967296)) = true := by simp; omega
  have h2 : ib (l, List.replicate (Int.toNat (l.length : Int)) (dfl .note), 0, ()) = some (.inr (l, ())) := by
    refine tp (fun i x out hx hi ho => ?_) (fun out => by simp [gy])
    unfold gy
    simp only [cR, bf hx, ae hi, ae ho, MA, Option.bind_some, ak hi, ab hi (by omega : l.length ≤ 9223372036854775807)]
    rfl
  unfold eJ
  simp only [h1, h2, aw, Option.bind_some, if_true]
theorem Hh {l : List Note} (hl : l.length ≤ 1048576) : eO (l, l, ()) = some ((true, ()), ()) := by
  have h2 : ig (l, l, 0, ()) = some (.inr ()) := by
    refine tM (fun i x hx hi => ?_) (by simp [gH])
    unfold gH
    simp only [cR, bf hx, ae hi, NC, Option.bind_some, ak hi, ab hi (by omega : l.length ≤ 9223372036854775807)]
    rfl
  unfold eO
  simp [h2, aw]
theorem Jy {x : Parcel} : lu ((x.src, x.dst, x.data, x.sp, ()), ()) = some (((x.src, x.dst, x.data, x.sp, ()), ()), ()) := rfl
theorem J8 {x : Parcel} : gG ((x.src, x.dst, x.data, x.sp, ()), (x.src, x.dst, x.data, x.sp, ()), ()) = some ((true, ()), ()) := by
  unfold gG
  simp
theorem Il {l : List Parcel} (hl : l.length ≤ 1048576) : fq (l, ()) = some ((l, ()), ()) := by
  have h1 : (decide (0 ≤ (l.length : Int)) && decide ((l.length : Int) ≤ 4294967296)) = true := by simp; omega
  have h2 : eH (l, List.replicate (Int.toNat (l.length : Int)) (dfl .parcel), 0, ()) = some (.inr (l, ())) := by
    refine tp (fun i x out hx hi ho => ?_) (fun out => by simp [d6])
    unfold d6
    simp only [cR, bf hx, ae hi, ae ho, Jy, Option.bind_some, ak hi, ab hi (by omega : l.length ≤ 9223372036854775807)]
    rfl
  unfold fq
  simp only [h1, h2, aw, Option.bind_some, if_true]
theorem Ja {l : List Parcel} (hl : l.length ≤ 1048576) : fw (l, l, ()) = some ((true, ()), ()) := by
  have h2 : eL (l, l, 0, ()) = some (.inr ()) := by
    refine tM (fun i x hx hi => ?_) (by simp [ec])
    unfold ec
    simp only [cR, bf hx, ae hi, J8, Option.bind_some, ak hi, ab hi (by omega : l.length ≤ 9223372036854775807)]
    rfl
  unfold fw
  simp [h2, aw]
theorem MC {x : Half} (h : kq x) : kO ((x.fr, x.nu, x.to, x.un, x.sz, x.got, ()), ()) = some (((x.fr, x.nu, x.to, x.un, x.sz, x.got, ()), ()), ()) := by
  unfold kO
  simp [Jz h.1]
theorem ND {x : Half} (h : kq x) : kQ ((x.fr, x.nu, x.to, x.un, x.sz, x.got, ()), (x.fr, x.nu, x.to, x.un, x.sz, x.got, ()), ()) = some ((true, ()), ()) := by
  unfold kQ
  simp [J9 h.1]
theorem K9 {l : List Half} (hl : l.length ≤ 1048576) (h : ∀ x ∈ l, kq x) : jd (l, ()) = some ((l, ()), ()) := by
  have h1 : (decide (0 ≤ (l.length : Int)) && decide ((l.length : Int) ≤ 4294967296)) = true := by simp; omega
  have h2 : ic (l, List.replicate (Int.toNat (l.length : Int)) (dfl .half), 0, ()) = some (.inr (l, ())) := by
    refine tp (fun i x out hx hi ho => ?_) (fun out => by simp [gB])
    unfold gB
    simp only [cR, bf hx, ae hi, ae ho, MC (h x (List.mem_of_getElem? hx)), Option.bind_some, ak hi, ab hi (by omega : l.length ≤ 9223372036854775807)]
    rfl
  unfold jd
  simp only [h1, h2, aw, Option.bind_some, if_true]
theorem L9 {l : List Half} (hl : l.length ≤ 1048576) (h : ∀ x ∈ l, kq x) : jk (l, l, ()) = some ((true, ()), ()) := by
  have h2 : ij (l, l, 0, ()) = some (.inr ()) := by
    refine tM (fun i x hx hi => ?_) (by simp [gK])
    unfold gK
    simp only [cR, bf hx, ae hi, ND (h x (List.mem_of_getElem? hx)), Option.bind_some, ak hi, ab hi (by omega : l.length ≤ 9223372036854775807)]
    rfl
  unfold jk
  simp [h2, aw]
theorem JA {x : Keeper} (h : ch x) : gA ((x.id, x.up, x.log, x.fo, x.halves, ()), ()) = some (((x.id, x.up, x.log, x.fo, x.halves, ()), ()), ()) := by
  unfold gA
  simp [K9 h.2.1 h.2.2, mz]
theorem Ka {x : Keeper} (h : ch x) : gJ ((x.id, x.up, x.log, x.fo, x.halves, ()), (x.id, x.up, x.log, x.fo, x.halves, ()), ()) = some ((true, ()), ()) := by
  unfold gJ
  simp [L9 h.2.1 h.2.2, mM]
theorem Im {l : List Keeper} (hl : l.length ≤ 1048576) (h : ∀ x ∈ l, ch x) : fu (l, ()) = some ((l, ()), ()) := by
  have h1 : (decide (0 ≤ (l.length : Int)) && decide ((l.length : Int) ≤ 4294967296)) = true := by simp; omega
  have h2 : eK (l, List.replicate (Int.toNat (l.length : Int)) (dfl .keeper), 0, ()) = some (.inr (l, ())) := by
    refine tp (fun i x out hx hi ho => ?_) (fun out => by simp [d7])
    unfold d7
    simp only [cR, bf hx, ae hi, ae ho, JA (h x (List.mem_of_getElem? hx)), Option.bind_some, ak hi, ab hi (by omega : l.length ≤ 9223372036854775807)]
    rfl
  unfold fu
  simp only [h1, h2, aw, Option.bind_some, if_true]
theorem Jb {l : List Keeper} (hl : l.length ≤ 1048576) (h : ∀ x ∈ l, ch x) : fA (l, l, ()) = some ((true, ()), ()) := by
  have h2 : eP (l, l, 0, ()) = some (.inr ()) := by
    refine tM (fun i x hx hi => ?_) (by simp [ed])
    unfold ed
    simp only [cR, bf hx, ae hi, Ka (h x (List.mem_of_getElem? hx)), Option.bind_some, ak hi, ab hi (by omega : l.length ≤ 9223372036854775807)]
    rfl
  unfold fA
  simp [h2, aw]
theorem La {l : List Bool} (hl : l.length ≤ 1048576) : je (l, ()) = some ((l, ()), ()) := by
  have h1 : (decide (0 ≤ (l.length : Int)) && decide ((l.length : Int) ≤ 4294967296)) = true := by simp; omega
  have h2 : ie (l, List.replicate (Int.toNat (l.length : Int)) (dfl .bool), 0, ()) = some (.inr (l, ())) := by
    refine tp (fun i x out hx hi ho => ?_) (fun out => by simp [gD])
    unfold gD
    simp only [cR, bf hx, ae hi, ae ho, Option.bind_some, ak hi, ab hi (by omega : l.length ≤ 9223372036854775807)]
    rfl
  unfold je
  simp only [h1, h2, aw, Option.bind_some, if_true]
theorem Ma {l : List Bool} (hl : l.length ≤ 1048576) : jl (l, l, ()) = some ((true, ()), ()) := by
  have h2 : ik (l, l, 0, ()) = some (.inr ()) := by
    refine tM (fun i x hx hi => ?_) (by simp [gL])
    unfold gL
    simp only [cR, bf hx, ae hi, ak hi, ab hi (by omega : l.length ≤ 9223372036854775807)]
    simp
  unfold jl
  simp [h2, aw]
theorem K7 {ti : Int} {ks : List Keeper} {ls : List Bool} {ra : List Parcel} {se go : List Note} (h : SmRiver ks ls ra se go) : cV ((ti, ks, ls, ra, se, go, ()), ()) = some (((ti, ks, ls, ra, se, go, ()), ()), ()) := by
  unfold cV
  simp [Im h.kl h.k, La h.l, Il h.rl, GA h.sl, GA h.gl]
theorem L7 {ti : Int} {ks : List Keeper} {ls : List Bool} {ra : List Parcel} {se go : List Note} (h : SmRiver ks ls ra se go) : jh ((ti, ks, ls, ra, se, go, ()), (ti, ks, ls, ra, se, go, ()), ()) = some ((true, ()), ()) := by
  unfold jh
  simp [Jb h.kl h.k, Ma h.l, Ja h.rl, Hh h.sl, Hh h.gl]
end Go.VS
namespace Go.VS
open Go
@[simp] theorem bq (q : Bool) : aE false q = true := by cases q <;> rfl
@[simp] theorem bU (q : Bool) : aE true q = q := by cases q <;> rfl
theorem tf (b : Bool) : b = true ∨ b = false := by cases b <;> simp
def inB (n lo hi : Int) : Bool := decide (lo ≤ n) && decide (n ≤ hi)
theorem be {n lo hi : Int} : inB n lo hi = true ↔ lo ≤ n ∧ n ≤ hi := by simp [inB]
abbrev isN (n : Int) : Bool := inB n 0 3
@[simp] theorem cf {n lo hi : Int} : ax (n, lo, hi, ()) = some ((inB n lo hi, ()), ()) := rfl
@[simp] theorem ko {n lo hi : Int} : aK (n, lo, hi, ()) = some ((inB n lo hi, ()), ()) := rfl
@[simp] theorem bH {n : Int} : aH (n, ()) = some ((isN n, ()), ()) := rfl
@[simp] theorem bF {n : Int} : au (n, ()) = some ((isN n, ()), ()) := rfl
abbrev tin (s : ByteArray) : Bool := aN s.size fun i => inB (bt s i) 32 126
def Mz (s : ByteArray) : Bool := inB s.size 1 24 && tin s
theorem My {s : ByteArray} {i : Int} : w64 (bt s i) = bt s i := aP (by have := PF s i; omega) (by have := PG s i; omega)
@[simp] theorem FR {s : ByteArray} (hs : s.size ≤ 1048576) : cb (s, ()) = some ((Mz s, ()), ()) := by
  have h : jo (s, 0, ()) = some (if tin s then .inr (s, ()) else .inl (false, ())) :=
    az (fun i => (s, (i : Int), ())) s.size (fun i => inB (bt s i) 32 126) (false, ()) (s, ()) (fun i hi => by
      unfold jp
      simp only [ae hi, ak hi, My, cf, Option.bind_some, ab hi (by omega : s.size ≤ 9223372036854775807)]
      cases inB (bt s i) 32 126 <;> rfl) (by simp [jp])
  unfold cb
  simp only [h]
  unfold Mz
  cases tin s <;> simp [aw]
def aD (n : Note) : Bool := isN n.fr && (isN n.to && (inB n.nu 1 99 && (inB n.un 1 999 && Mz n.tx)))
@[simp] theorem fX {fr nu tt un : Int} {tx : ByteArray} (hs : tx.size ≤ 1048576) : cc ((fr, nu, tt, un, tx, ()), ()) = some ((aD ⟨fr, nu, tt, un, tx⟩, ()), ()) := by
  unfold cc aD
  simp only [FR hs, cf, bH, Option.bind_some]
  cases isN fr <;> cases isN tt <;> cases inB nu 1 99 <;> cases inB un 1 999 <;> simp [aE]
@[simp] theorem fQ {fr nu tt un : Int} {tx : ByteArray} (hs : tx.size ≤ 1048576) : b9 ((fr, nu, tt, un, tx, ()), ()) = some ((aD ⟨fr, nu, tt, un, tx⟩, ()), ()) := by
  have h : iR ((fr, nu, tt, un, tx, ()), 0, ()) = some (if tin tx then .inr () else .inl (false, ())) :=
    az (fun i => ((fr, nu, tt, un, tx, ()), (i : Int), ())) tx.size (fun i => inB (bt tx i) 32 126) (false, ()) () (fun i hi => by
      unfold iS
      simp only [ae hi, ak hi, ab hi (by omega : tx.size ≤ 9223372036854775807)]
      unfold inB
      by_cases h1 : bt tx i < 32 <;> by_cases h2 : 126 < bt tx i <;> simp [h1, h2, aE] <;> omega) (by simp [iS])
  unfold b9 aD
  simp only [h, ko, bF, Option.bind_some]
  unfold Mz
  by_cases h1 : (tx.size : Int) < 1 <;> by_cases h2 : (24 : Int) < tx.size <;> cases isN fr <;> cases isN tt <;> cases inB nu 1 99 <;> cases inB un 1 999 <;> cases tin tx <;> simp [h1, h2, aw, inB] <;> omega
def pF (m : Mark) : Bool := isN m.mf && (inB m.mn 1 99 && inB m.mu 1 999)
@[simp] theorem FS {a b c : Int} : kT ((a, b, c, ()), ()) = some ((pF ⟨a, b, c⟩, ()), ()) := by
  unfold kT pF
  simp only [cf, bH, Option.bind_some]
  cases isN a <;> cases inB b 1 99 <;> simp [aE]
def bef (a b c d : Int) : Bool := decide (a < c) || (decide (a = c) && decide (b < d))
@[simp] theorem dJ {a b c d : Int} : bj (a, b, c, d, ()) = some ((bef a b c d, ()), ()) := rfl
@[simp] theorem nf {a b c d : Int} : bo (a, b, c, d, ()) = some ((bef a b c d, ()), ()) := rfl
def nA (l : List Note) (i : Nat) : Note := l.getD i (dfl .note)
def mA (l : List Mark) (i : Nat) : Mark := l.getD i (dfl .mark)
theorem aV (l : List Note) (i : Nat) : @rd Note (dfl .note) l (i : Int) = nA l i := rfl
theorem bS (l : List Mark) (i : Nat) : @rd Mark (dfl .mark) l (i : Int) = mA l i := rfl
def cl (l : List Note) : Bool := aN l.length fun i => aD (nA l i) && (decide (i = 0) || bef (nA l (i - 1)).fr (nA l (i - 1)).nu (nA l i).fr (nA l i).nu)
def gx (l : List Mark) : Bool := aN l.length fun i => pF (mA l i) && (decide (i = 0) || bef (mA l (i - 1)).mf (mA l (i - 1)).mn (mA l i).mf (mA l i).mn)
theorem Iz {l : List Note} (h : ∀ x ∈ l, cH x) (i : Nat) : (nA l i).tx.size ≤ 1048576 := by
  unfold nA
  cases hx : l[i]? with
  | none => simp [hx, dfl]; decide
  | some x =>
    have h1 : x.tx.size ≤ 1048576 := h x (List.mem_of_getElem? hx)
    rw [List.getD_eq_getElem?_getD, hx]
    exact h1
theorem w5 {i n : Nat} (h : i < n) (hn : n ≤ 9223372036854775807) : w64 ((i : Int) - 1) = (i : Int) - 1 := aP (by omega) (by omega)
theorem rO {l : List Note} (hl : l.length ≤ 1048576) (h : ∀ x ∈ l, cH x) : eR (l, ()) = some ((cl l, ()), ()) := by
  have h : im (l, l, (l.length : Int), 0, ()) = some (if cl l then .inr () else .inl (false, ())) :=
    az (fun i => (l, l, (l.length : Int), (i : Int), ())) l.length (fun i => aD (nA l i) && (decide (i = 0) || bef (nA l (i - 1)).fr (nA l (i - 1)).nu (nA l i).fr (nA l i).nu)) (false, ()) () (fun i hi => by
      unfold gM
      simp only [ae hi, ak hi, aV, fX (Iz h i), Option.bind_some, dJ, ab hi (by omega : l.length ≤ 9223372036854775807)]
      cases i with
      | zero => rcases tf (aD (nA l 0)) with h1 | h1 <;> simp only [h1] <;> simp
      | succ j =>
        rw [w5 hi (by omega), show ((j + 1 : Nat) : Int) - 1 = (j : Int) by omega, ae (show j < l.length by omega)]
        simp only [aV]
        rcases tf (aD (nA l (j + 1))) with h1 | h1 <;> rcases tf (bef (nA l j).fr (nA l j).nu (nA l (j + 1)).fr (nA l (j + 1)).nu) with h2 | h2 <;> simp only [h1, h2] <;> simp [h2]) (by simp [gM])
  unfold eR
  simp only [h]
  cases cl l <;> simp [aw]
theorem pY {l : List Note} {most : Int} (hl : l.length ≤ 1048576) (h : ∀ x ∈ l, cH x) : dx (l, most, ()) = some ((decide ((l.length : Int) ≤ most) && cl l, ()), ()) := by
  have h : fI (l, 0, ()) = some (if cl l then .inr () else .inl (false, ())) :=
    az (fun i => (l, (i : Int), ())) l.length (fun i => aD (nA l i) && (decide (i = 0) || bef (nA l (i - 1)).fr (nA l (i - 1)).nu (nA l i).fr (nA l i).nu)) (false, ()) () (fun i hi => by
      unfold fc
      simp only [ae hi, ak hi, aV, fQ (Iz h i), Option.bind_some, nf, ab hi (by omega : l.length ≤ 9223372036854775807)]
      cases i with
      | zero => rcases tf (aD (nA l 0)) with h1 | h1 <;> simp only [h1] <;> simp
      | succ j =>
        rw [w5 hi (by omega), show ((j + 1 : Nat) : Int) - 1 = (j : Int) by omega, ae (show j < l.length by omega)]
        simp only [aV]
        rcases tf (aD (nA l (j + 1))) with h1 | h1 <;> rcases tf (bef (nA l j).fr (nA l j).nu (nA l (j + 1)).fr (nA l (j + 1)).nu) with h2 | h2 <;> simp only [h1, h2] <;> simp [h2]) (by simp [fc])
  unfold dx
  simp only [h]
  by_cases hm : (l.length : Int) ≤ most
  · rw [show decide (most < (l.length : Int)) = false by simpa using hm]
    cases cl l <;> simp [aw, hm]
  · rw [show decide (most < (l.length : Int)) = true by simpa using hm]
    simp [hm]
theorem DX {l : List Mark} (hl : l.length ≤ 1048576) : jy (l, ()) = some ((gx l, ()), ()) := by
  have h : ir (l, l, (l.length : Int), 0, ()) = some (if gx l then .inr () else .inl (false, ())) :=
    az (fun i => (l, l, (l.length : Int), (i : Int), ())) l.length (fun i => pF (mA l i) && (decide (i = 0) || bef (mA l (i - 1)).mf (mA l (i - 1)).mn (mA l i).mf (mA l i).mn)) (false, ()) () (fun i hi => by
      unfold gO
      simp only [ae hi, ak hi, bS, FS, Option.bind_some, dJ, ab hi (by omega : l.length ≤ 9223372036854775807)]
      cases i with
      | zero => rcases tf (pF (mA l 0)) with h1 | h1 <;> simp only [h1] <;> simp
      | succ j =>
        rw [w5 hi (by omega), show ((j + 1 : Nat) : Int) - 1 = (j : Int) by omega, ae (show j < l.length by omega)]
        simp only [bS]
        rcases tf (pF (mA l (j + 1))) with h1 | h1 <;> rcases tf (bef (mA l j).mf (mA l j).mn (mA l (j + 1)).mf (mA l (j + 1)).mn) with h2 | h2 <;> simp only [h1, h2] <;> simp [h2]) (by simp [gO])
  unfold jy
  simp only [h]
  cases gx l <;> simp [aw]
theorem Av {l : List Mark} (hl : l.length ≤ 1048576) : gi (l, ()) = some ((decide ((l.length : Int) ≤ 12) && gx l, ()), ()) := by
  have h : fJ (l, 0, ()) = some (if gx l then .inr () else .inl (false, ())) :=
    az (fun i => (l, (i : Int), ())) l.length (fun i => pF (mA l i) && (decide (i = 0) || bef (mA l (i - 1)).mf (mA l (i - 1)).mn (mA l i).mf (mA l i).mn)) (false, ()) () (fun i hi => by
      unfold fe pF
      simp only [ae hi, ak hi, bS, ko, bF, Option.bind_some, nf, ab hi (by omega : l.length ≤ 9223372036854775807)]
      cases i with
      | zero => rcases tf (isN (mA l 0).mf) with h1 | h1 <;> rcases tf (inB (mA l 0).mn 1 99) with h2 | h2 <;> rcases tf (inB (mA l 0).mu 1 999) with h3 | h3 <;> simp only [h1, h2, h3] <;> simp
      | succ j =>
        rw [w5 hi (by omega), show ((j + 1 : Nat) : Int) - 1 = (j : Int) by omega, ae (show j < l.length by omega)]
        simp only [bS]
        rcases tf (isN (mA l (j + 1)).mf) with h1 | h1 <;> rcases tf (inB (mA l (j + 1)).mn 1 99) with h2 | h2 <;> rcases tf (inB (mA l (j + 1)).mu 1 999) with h3 | h3 <;> rcases tf (bef (mA l j).mf (mA l j).mn (mA l (j + 1)).mf (mA l (j + 1)).mn) with h4 | h4 <;> simp only [h1, h2, h3] <;> simp [h4] <;> omega) (by simp [fe])
  unfold gi
  simp only [h]
  by_cases hm : (l.length : Int) ≤ 12
  · rw [show decide ((12 : Int) < (l.length : Int)) = false by simpa using hm]
    cases gx l <;> simp [aw, hm]
  · rw [show decide ((12 : Int) < (l.length : Int)) = true by simpa using hm]
    simp [hm]
def aO (l : List Note) (f n : Int) : Int := iD l.length fun i => decide ((nA l i).fr = f) && decide ((nA l i).nu = n)
def kc (l : List Mark) (f n : Int) : Int := iD l.length fun i => decide ((mA l i).mf = f) && decide ((mA l i).mn = n)
theorem n9 {n : Nat} {p : Nat → Bool} : aw (some (if iD n p < 0 then (.inr () : (Int × Unit) ⊕ Unit) else .inl (iD n p, ()))) (fun y => some ((y.1, ()), ())) (fun _ => some ((-1, ()), ())) = some ((iD n p, ()), ()) := by
  rcases cB n p with ⟨h, _⟩ | ⟨i, h, _⟩
  · rw [h]; rfl
  · rw [if_neg (by omega)]; rfl
theorem dH {l : List Note} {f n : Int} (hl : l.length ≤ 1048576) : bh (l, f, n, ()) = some ((aO l f n, ()), ()) := by
  have h : ju (f, n, l, (l.length : Int), 0, ()) = some (if aO l f n < 0 then .inr () else .inl (aO l f n, ())) :=
    mh (fun i => (f, n, l, (l.length : Int), (i : Int), ())) l.length (fun i => decide ((nA l i).fr = f) && decide ((nA l i).nu = n)) (fun i => (i, ())) () (fun i hi => by
      unfold jv
      simp only [ae hi, ak hi, aV, ab hi (by omega : l.length ≤ 9223372036854775807)]
      by_cases h1 : (nA l i).fr = f <;> by_cases h2 : (nA l i).nu = n <;> simp [h1, h2]) (by simp [jv])
  unfold bh
  simp only [h]
  exact n9
theorem bJ {l : List Note} {f n : Int} (hl : l.length ≤ 1048576) : aB (l, f, n, ()) = some ((aO l f n, ()), ()) := by
  have h : gZ (l, f, n, 0, ()) = some (if aO l f n < 0 then .inr () else .inl (aO l f n, ())) :=
    mh (fun i => (l, f, n, (i : Int), ())) l.length (fun i => decide ((nA l i).fr = f) && decide ((nA l i).nu = n)) (fun i => (i, ())) () (fun i hi => by
      unfold gk
      simp only [ae hi, ak hi, aV, ab hi (by omega : l.length ≤ 9223372036854775807)]
      by_cases h1 : (nA l i).fr = f <;> by_cases h2 : (nA l i).nu = n <;> simp [h1, h2]) (by simp [gk])
  unfold aB
  simp only [h]
  exact n9
theorem fS {l : List Mark} {f n : Int} (hl : l.length ≤ 1048576) : bG (l, f, n, ()) = some ((kc l f n, ()), ()) := by
  have h : jC (f, n, l, (l.length : Int), 0, ()) = some (if kc l f n < 0 then .inr () else .inl (kc l f n, ())) :=
    mh (fun i => (f, n, l, (l.length : Int), (i : Int), ())) l.length (fun i => decide ((mA l i).mf = f) && decide ((mA l i).mn = n)) (fun i => (i, ())) () (fun i hi => by
      unfold jD
      simp only [ae hi, ak hi, bS, ab hi (by omega : l.length ≤ 9223372036854775807)]
      by_cases h1 : (mA l i).mf = f <;> by_cases h2 : (mA l i).mn = n <;> simp [h1, h2]) (by simp [jD])
  unfold bG
  simp only [h]
  exact n9
theorem eA {l : List Mark} {f n : Int} (hl : l.length ≤ 1048576) : bn (l, f, n, ()) = some ((kc l f n, ()), ()) := by
  have h : gY (l, f, n, 0, ()) = some (if kc l f n < 0 then .inr () else .inl (kc l f n, ())) :=
    mh (fun i => (l, f, n, (i : Int), ())) l.length (fun i => decide ((mA l i).mf = f) && decide ((mA l i).mn = n)) (fun i => (i, ())) () (fun i hi => by
      unfold gj
      simp only [ae hi, ak hi, bS, ab hi (by omega : l.length ≤ 9223372036854775807)]
      by_cases h1 : (mA l i).mf = f <;> by_cases h2 : (mA l i).mn = n <;> simp [h1, h2]) (by simp [gj])
  unfold bn
  simp only [h]
  exact n9
def Ae (id : Int) (fr tt : Int) : Bool := !decide (id = tt) && (inB id fr tt || inB id tt fr)
theorem pI {id fr nu tt un : Int} {tx : ByteArray} : jq (id, (fr, nu, tt, un, tx, ()), ()) = some ((Ae id fr tt, ()), ()) := by
  unfold jq Ae
  simp only [cf]
  by_cases h : id = tt <;> cases inB id fr tt <;> simp [h]
theorem nM {id fr nu tt un : Int} {tx : ByteArray} : kH ((fr, nu, tt, un, tx, ()), id, ()) = some ((Ae id fr tt, ()), ()) := by
  unfold kH Ae inB
  by_cases h1 : fr ≤ id
  · simp only [h1, decide_true, if_true]
    congr 3
    rw [Bool.eq_iff_iff]
    simp
    omega
  · have e : (decide (tt < id) && decide (id ≤ fr)) = (!decide (id = tt) && (decide (fr ≤ id) && decide (id ≤ tt) || decide (tt ≤ id) && decide (id ≤ fr))) := by
      rw [Bool.eq_iff_iff]
      simp only [Bool.and_eq_true, Bool.or_eq_true, Bool.not_eq_true', decide_eq_true_eq, decide_eq_false_iff_not]
      omega
    rw [← e]
    simp [h1]
end Go.VS
namespace Go.VS
open Go
structure SmKeep (held : List Note) (marks : List Mark) (inbox : List Note) : Prop where
  hl : held.length ≤ 1048576
  h : ∀ x ∈ held, cH x
  ml : marks.length ≤ 1048576
  il : inbox.length ≤ 1048576
  i : ∀ x ∈ inbox, cH x
def lA (id ti nx : Int) (held : List Note) (marks : List Mark) (i : Nat) : Bool := !(decide ((nA held i).fr = id) && decide (nx ≤ (nA held i).nu)) && (decide (ti < (nA held i).un) && (Ae id (nA held i).fr (nA held i).to && decide (kc marks (nA held i).fr (nA held i).nu < 0)))
def fR (id ti nx : Int) (marks : List Mark) (i : Nat) : Bool := decide (ti < (mA marks i).mu) && !(decide ((mA marks i).mf = id) && decide (nx ≤ (mA marks i).mn))
def kR (id ti nx : Int) (marks : List Mark) (inbox : List Note) (i : Nat) : Bool := decide ((nA inbox i).to = id) && (!(decide ((nA inbox i).fr = id) && decide (nx ≤ (nA inbox i).nu)) && (!decide (ti < (nA inbox i).un) || decide (0 ≤ kc marks (nA inbox i).fr (nA inbox i).nu)))
def aR (k : Keep) : Bool := isN k.id && (inB k.ti 0 999 && (inB k.nx 1 100 && ((decide ((k.held.length : Int) ≤ 6) && cl k.held) && ((decide ((k.marks.length : Int) ≤ 12) && gx k.marks) && ((decide ((k.inbox.length : Int) ≤ 6) && cl k.inbox) &&
  (aN k.held.length (lA k.id k.ti k.nx k.held k.marks) && (aN k.marks.length (fR k.id k.ti k.nx k.marks) && aN k.inbox.length (kR k.id k.ti k.nx k.marks k.inbox))))))))
theorem tfp (p : Prop) : (p = True) ∨ (p = False) := by
  by_cases h : p
  · exact .inl (eq_true h)
  · exact .inr (eq_false h)
theorem sgn (n : Int) : ((n < 0) = True ∧ (0 ≤ n) = False) ∨ ((n < 0) = False ∧ (0 ≤ n) = True) := by
  by_cases h : n < 0
  · exact .inl ⟨eq_true h, eq_false (by omega)⟩
  · exact .inr ⟨eq_false h, eq_true (by omega)⟩
theorem dc (a b : Int) : ((a ≤ b) = True ∧ (b < a) = False) ∨ ((a ≤ b) = False ∧ (b < a) = True) := by
  by_cases h : a ≤ b
  · exact .inl ⟨eq_true h, eq_false (by omega)⟩
  · exact .inr ⟨eq_false h, eq_true (by omega)⟩
theorem D1 {id ti nx : Int} {held : List Note} {marks : List Mark} {inbox : List Note} (sm : SmKeep held marks inbox) :
    jR ((id, ti, nx, held, marks, inbox, ()), held, (held.length : Int), 0, ()) = some (if aN held.length (lA id ti nx held marks) then .inr ((id, ti, nx, held, marks, inbox, ()), ()) else .inl (false, ())) :=
  az (fun i => ((id, ti, nx, held, marks, inbox, ()), held, (held.length : Int), (i : Int), ())) held.length (lA id ti nx held marks) (false, ()) ((id, ti, nx, held, marks, inbox, ()), ()) (fun i hi => by
    unfold jU lA
    have hl : held.length ≤ 9223372036854775807 := by have := sm.hl; omega
    simp only [ae hi, ak hi, aV, bS, fS sm.ml, pI, Option.bind_some, ab hi hl]
    have h4 := sgn (kc marks (nA held i).fr (nA held i).nu)
    rcases tfp ((nA held i).fr = id) with h1 | h1 <;> rcases tfp (nx ≤ (nA held i).nu) with h2 | h2 <;> rcases dc (nA held i).un ti with h3 | h3 <;> rcases h4 with h4 | h4 <;> rcases tf (Ae id (nA held i).fr (nA held i).to) with h5 | h5 <;> simp [h1, h2, h5, h4, h3]) (by simp [jU])
theorem rV {id ti nx : Int} {held : List Note} {marks : List Mark} {inbox : List Note} (sm : SmKeep held marks inbox) :
    jQ ((id, ti, nx, held, marks, inbox, ()), marks, (marks.length : Int), 0, ()) = some (if aN marks.length (fR id ti nx marks) then .inr ((id, ti, nx, held, marks, inbox, ()), ()) else .inl (false, ())) :=
  az (fun i => ((id, ti, nx, held, marks, inbox, ()), marks, (marks.length : Int), (i : Int), ())) marks.length (fR id ti nx marks) (false, ()) ((id, ti, nx, held, marks, inbox, ()), ()) (fun i hi => by
    unfold jT fR
    have hl : marks.length ≤ 9223372036854775807 := by have := sm.ml; omega
    simp only [ae hi, ak hi, aV, bS, fS sm.ml, pI, Option.bind_some, ab hi hl]
    rcases tfp ((mA marks i).mf = id) with h1 | h1 <;> rcases tfp (nx ≤ (mA marks i).mn) with h2 | h2 <;> rcases dc (mA marks i).mu ti with h3 | h3 <;> simp [h1, h2, h3]) (by simp [jT])
theorem rU {id ti nx : Int} {held : List Note} {marks : List Mark} {inbox : List Note} (sm : SmKeep held marks inbox) :
    jP ((id, ti, nx, held, marks, inbox, ()), inbox, (inbox.length : Int), 0, ()) = some (if aN inbox.length (kR id ti nx marks inbox) then .inr () else .inl (false, ())) :=
  az (fun i => ((id, ti, nx, held, marks, inbox, ()), inbox, (inbox.length : Int), (i : Int), ())) inbox.length (kR id ti nx marks inbox) (false, ()) () (fun i hi => by
    unfold jS kR
    have hl : inbox.length ≤ 9223372036854775807 := by have := sm.il; omega
    simp only [ae hi, ak hi, aV, bS, fS sm.ml, pI, Option.bind_some, ab hi hl]
    have h4 := sgn (kc marks (nA inbox i).fr (nA inbox i).nu)
    rcases tfp ((nA inbox i).fr = id) with h1 | h1 <;> rcases tfp (nx ≤ (nA inbox i).nu) with h2 | h2 <;> rcases dc (nA inbox i).un ti with h3 | h3 <;> rcases tfp ((nA inbox i).to = id) with h0 | h0 <;> rcases h4 with h4 | h4 <;> simp [h1, h2, h0, h4, h3]) (by simp [jS])
theorem CI {id ti nx : Int} {held : List Note} {marks : List Mark} {inbox : List Note} (sm : SmKeep held marks inbox) :
    iV ((id, ti, nx, held, marks, inbox, ()), 0, ()) = some (if aN held.length (lA id ti nx held marks) then .inr ((id, ti, nx, held, marks, inbox, ()), ()) else .inl (false, ())) :=
  az (fun i => ((id, ti, nx, held, marks, inbox, ()), (i : Int), ())) held.length (lA id ti nx held marks) (false, ()) ((id, ti, nx, held, marks, inbox, ()), ()) (fun i hi => by
    unfold iY lA
    have hl : held.length ≤ 9223372036854775807 := by have := sm.hl; omega
    simp only [ae hi, ak hi, aV, bS, eA sm.ml, nM, Option.bind_some, ab hi hl]
    have h4 := sgn (kc marks (nA held i).fr (nA held i).nu)
    rcases tfp ((nA held i).fr = id) with h1 | h1 <;> rcases tfp (nx ≤ (nA held i).nu) with h2 | h2 <;> rcases dc (nA held i).un ti with h3 | h3 <;> rcases h4 with h4 | h4 <;> rcases tf (Ae id (nA held i).fr (nA held i).to) with h5 | h5 <;> simp [h1, h2, h5, h4, h3]) (by simp [iY])
theorem rh {id ti nx : Int} {held : List Note} {marks : List Mark} {inbox : List Note} (sm : SmKeep held marks inbox) :
    iU ((id, ti, nx, held, marks, inbox, ()), 0, ()) = some (if aN marks.length (fR id ti nx marks) then .inr ((id, ti, nx, held, marks, inbox, ()), ()) else .inl (false, ())) :=
  az (fun i => ((id, ti, nx, held, marks, inbox, ()), (i : Int), ())) marks.length (fR id ti nx marks) (false, ()) ((id, ti, nx, held, marks, inbox, ()), ()) (fun i hi => by
    unfold iX fR
    have hl : marks.length ≤ 9223372036854775807 := by have := sm.ml; omega
    simp only [ae hi, ak hi, aV, bS, eA sm.ml, nM, Option.bind_some, ab hi hl]
    rcases tfp ((mA marks i).mf = id) with h1 | h1 <;> rcases tfp (nx ≤ (mA marks i).mn) with h2 | h2 <;> rcases dc (mA marks i).mu ti with h3 | h3 <;> simp [h1, h2, h3]) (by simp [iX])
theorem rg {id ti nx : Int} {held : List Note} {marks : List Mark} {inbox : List Note} (sm : SmKeep held marks inbox) :
    iT ((id, ti, nx, held, marks, inbox, ()), 0, ()) = some (if aN inbox.length (kR id ti nx marks inbox) then .inr () else .inl (false, ())) :=
  az (fun i => ((id, ti, nx, held, marks, inbox, ()), (i : Int), ())) inbox.length (kR id ti nx marks inbox) (false, ()) () (fun i hi => by
    unfold iW kR
    have hl : inbox.length ≤ 9223372036854775807 := by have := sm.il; omega
    simp only [ae hi, ak hi, aV, bS, eA sm.ml, nM, Option.bind_some, ab hi hl]
    have h4 := sgn (kc marks (nA inbox i).fr (nA inbox i).nu)
    rcases tfp ((nA inbox i).fr = id) with h1 | h1 <;> rcases tfp (nx ≤ (nA inbox i).nu) with h2 | h2 <;> rcases dc (nA inbox i).un ti with h3 | h3 <;> rcases tfp ((nA inbox i).to = id) with h0 | h0 <;> rcases h4 with h4 | h4 <;> simp [h1, h2, h0, h4, h3]) (by simp [iW])
theorem uI {id ti nx : Int} {held : List Note} {marks : List Mark} {inbox : List Note} (sm : SmKeep held marks inbox) : dK ((id, ti, nx, held, marks, inbox, ()), ()) = some ((aR ⟨id, ti, nx, held, marks, inbox⟩, ()), ()) := by
  unfold dK aR
  simp only [cf, bH, rO sm.hl sm.h, rO sm.il sm.i, DX sm.ml, D1 sm, rV sm, rU sm, Option.bind_some]
  rcases tf (isN id) with h1 | h1 <;> simp only [h1, Bool.not_true, Bool.not_false, if_true, Bool.false_and, Bool.true_and, if_neg Bool.false_ne_true]
  rcases tf (inB ti 0 999) with h2 | h2 <;> simp only [h2, Bool.not_true, Bool.not_false, if_true, Bool.false_and, Bool.true_and, if_neg Bool.false_ne_true]
  rcases tf (inB nx 1 100) with h3 | h3 <;> simp only [h3, Bool.not_true, Bool.not_false, if_true, Bool.false_and, Bool.true_and, if_neg Bool.false_ne_true]
  rcases dc (held.length : Int) 6 with h4 | h4 <;> rcases dc (marks.length : Int) 12 with h5 | h5 <;> rcases dc (inbox.length : Int) 6 with h6 | h6 <;> simp only [h4, h5, h6, decide_true, decide_false, if_true, Bool.false_and, Bool.and_false, Bool.true_and, if_neg Bool.false_ne_true]
  rcases tf (cl held) with h7 | h7 <;> rcases tf (gx marks) with h8 | h8 <;> rcases tf (cl inbox) with h9 | h9 <;> simp only [h7, h8, h9, Bool.not_true, Bool.not_false, if_true, Bool.false_and, Bool.and_false, Bool.true_and, if_neg Bool.false_ne_true]
  rcases tf (aN held.length (lA id ti nx held marks)) with h10 | h10 <;> rcases tf (aN marks.length (fR id ti nx marks)) with h11 | h11 <;> rcases tf (aN inbox.length (kR id ti nx marks inbox)) with h12 | h12 <;> simp only [h10, h11, h12, if_true, aI, bB, if_neg Bool.false_ne_true, rV sm, rU sm] <;> rfl
theorem uk {id ti nx : Int} {held : List Note} {marks : List Mark} {inbox : List Note} (sm : SmKeep held marks inbox) : dF ((id, ti, nx, held, marks, inbox, ()), ()) = some ((aR ⟨id, ti, nx, held, marks, inbox⟩, ()), ()) := by
  unfold dF aR
  simp only [ko, bF, pY sm.hl sm.h, pY sm.il sm.i, Av sm.ml, CI sm, rh sm, rg sm, Option.bind_some]
  rcases tf (isN id) with h1 | h1 <;> simp only [h1, Bool.not_true, Bool.not_false, if_true, Bool.false_and, Bool.true_and, if_neg Bool.false_ne_true]
  rcases tf (inB ti 0 999) with h2 | h2 <;> simp only [h2, Bool.not_true, Bool.not_false, if_true, Bool.false_and, Bool.true_and, if_neg Bool.false_ne_true]
  rcases tf (inB nx 1 100) with h3 | h3 <;> simp only [h3, Bool.not_true, Bool.not_false, if_true, Bool.false_and, Bool.true_and, if_neg Bool.false_ne_true]
  rcases tf (decide ((held.length : Int) ≤ 6) && cl held) with h7 | h7 <;> rcases tf (decide ((marks.length : Int) ≤ 12) && gx marks) with h8 | h8 <;> rcases tf (decide ((inbox.length : Int) ≤ 6) && cl inbox) with h9 | h9 <;> simp only [h7, h8, h9, Bool.not_true, Bool.not_false, if_true, Bool.false_and, Bool.and_false, Bool.true_and, if_neg Bool.false_ne_true]
  rcases tf (aN held.length (lA id ti nx held marks)) with h10 | h10 <;> rcases tf (aN marks.length (fR id ti nx marks)) with h11 | h11 <;> rcases tf (aN inbox.length (kR id ti nx marks inbox)) with h12 | h12 <;> simp only [h10, h11, h12, if_true, aI, bB, if_neg Bool.false_ne_true, rh sm, rg sm] <;> rfl
theorem H4 {α : Type} {l : List α} {d : α} (hl : l.length ≤ 1048576) :
    (if decide ((l.length : Int) = 0) then some ((([] : List α), ()), ()) else if decide (0 ≤ (l.length : Int)) && decide ((l.length : Int) ≤ 4294967296) then some (((List.take (List.replicate (Int.toNat (l.length : Int)) d).length l ++ List.drop l.length (List.replicate (Int.toNat (l.length : Int)) d)), ()), ()) else none) = some ((l, ()), ()) := by
  by_cases h : (l.length : Int) = 0
  · have : l = [] := List.eq_nil_of_length_eq_zero (by omega)
    subst this
    rfl
  · have h1 : (l.length : Int) ≤ 4294967296 := by omega
    have h2 : 0 ≤ (l.length : Int) := by omega
    simp [h1]
theorem mS {l : List Note} (hl : l.length ≤ 1048576) : dm (l, ()) = some ((l, ()), ()) := H4 hl
theorem wE {l : List Mark} (hl : l.length ≤ 1048576) : is (l, ()) = some ((l, ()), ()) := H4 hl
theorem rP {l : List ByteArray} (hl : l.length ≤ 1048576) : eT (l, ()) = some ((l, ()), ()) := H4 hl
theorem qh {id ti nx : Int} {held : List Note} {marks : List Mark} {inbox : List Note} (sm : SmKeep held marks inbox) : cq ((id, ti, nx, held, marks, inbox, ()), ()) = some (((id, ti, nx, held, marks, inbox, ()), ()), ()) := by
  unfold cq
  simp only [mS sm.hl, wE sm.ml, mS sm.il, Option.bind_some]
theorem aM {n : Nat} (h : n ≤ 4294967296) : dA n = true := by simpa [dA] using h
theorem rb {id ti nx : Int} {held : List Note} {marks : List Mark} {inbox : List Note} (sm : SmKeep held marks inbox) : cN ((id, ti, nx, held, marks, inbox, ()), ()) = some (((id, ti, nx, held, marks, inbox, ()), ()), ()) := by
  unfold cN
  have h1 := sm.hl
  have h2 := sm.ml
  have h3 := sm.il
  simp only [List.length_nil, Nat.zero_add, List.nil_append, aM (show held.length ≤ 4294967296 by omega), aM (show marks.length ≤ 4294967296 by omega), aM (show inbox.length ≤ 4294967296 by omega), if_true]
theorem zq {id : Int} : fD (id, ()) = some ((if isN id then (id, 0, 1, [], [], [], ()) else (0, 0, 0, [], [], [], ()), ()), ()) := by
  unfold fD
  simp only [bH, Option.bind_some]
  cases isN id <;> rfl
theorem yP {id : Int} : fj (id, ()) = some ((if isN id then (id, 0, 1, [], [], [], ()) else (0, 0, 0, [], [], [], ()), ()), ()) := by
  unfold fj
  simp only [bF, Option.bind_some]
  cases isN id <;> rfl
end Go.VS
