/- An evaluator of the program's own code with its soundness, the printed texts of the functions, and plain laws of them (part 14). -/
import Derived.Shelf.Utf8.RuneCount
import Derived.Shelf.Strconv.Itoa0
import Derived.Shelf.Strconv.Itoa1
import Derived.Shelf.LaysM
import Derived.Shelf.Strconv.Itoa2
import Derived.Shelf.Strconv.Itoa3
import Derived.Shelf.Strings.Search1
import Derived.Shelf.Strings.Search2
import Derived.Shelf.Strings.Search3
import Derived.Shelf.Strings.Cut
import Derived.Shelf.Strings.Count
import Derived.Shelf.Strings.Shaped
import Derived.Shelf.Strings.Split
import Derived.Shelf.Strings.SplitShaped
import Derived.Shelf.Unicode.Decode
import Derived.Shelf.Strings.RuneCount
import Derived.Shelf.Strings.Explode
import Derived.Shelf.Unicode.DecodeSlow
import Derived.Shelf.Unicode.DecodeAny
import Derived.Test.YtimdnaklfelapaaGreatDoorProg
import Derived.Test.YtimdnaklfelapaaGreatDoorQAM
set_option linter.unusedVariables false
set_option linter.unusedSimpArgs false
set_option linter.defProp false
open Go.Lib renaming cellsOf→avc,cut→asA,pow10Tab→atN
open Go.Shelf renaming Ren→atW
open Go.Value renaming string→au5
open Int renaming tdiv→aqU,tmod→arh,toNat→aqy
open List renaming drop→aq9,replicate→aqQ,set→aqZ,take→aqR
noncomputable section
namespace Go.Proofs
open Go.Shelf
def Tryz.ak6:atW:=⟨fun | 171=>67 | 243=>124 | 246=>159 | 283=>188 | 284=>189 | 285=>190 | 286=>191 | 129=>207 | 317=>206 | 318=>208 | 319=>209 | 320=>210 | 337=>223 | 338=>224 | n=>n,fun | 3=>3 | 9=>9 | 2=>2 | 4=>4 | 171=>199 | 0=>0 | 53=>200 | 37=>22 | 5=>5 | 173=>203 | 212=>212 | 51=>213 | 20=>20 | 213=>214 | 46=>215 | 232=>226 | 233=>227 | n=>n,fun | 17=>0 | 18=>2 | 19=>3 | n=>n⟩
def Tryz.amb:Go.Proofs.LaysM.n171 Tryz.prog Tryz.ak6:={
 mixed:=by kernel_rfl
 f129:=Tryz.func207.trans (congrArg some (by kernel_rfl))
 f171:=Tryz.func67.trans (congrArg some (by kernel_rfl))
 f243:=Tryz.func124.trans (congrArg some (by kernel_rfl))
 f246:=Tryz.func159.trans (congrArg some (by kernel_rfl))
 f283:=Tryz.func188.trans (congrArg some (by kernel_rfl))
 f284:=Tryz.func189.trans (congrArg some (by kernel_rfl))
 f285:=Tryz.func190.trans (congrArg some (by kernel_rfl))
 f286:=Tryz.func191.trans (congrArg some (by kernel_rfl))
 f317:=Tryz.func206.trans (congrArg some (by kernel_rfl))
 f318:=Tryz.func208.trans (congrArg some (by kernel_rfl))
 f319:=Tryz.func209.trans (congrArg some (by kernel_rfl))
 f320:=Tryz.func210.trans (congrArg some (by kernel_rfl))
 f337:=Tryz.func223.trans (congrArg some (by kernel_rfl))
 f338:=Tryz.func224.trans (congrArg some (by kernel_rfl))
 t0:=Tryz.underlying0
 a0:=Tryz.isAgg0
 z0:=Tryz.sizeOf0
 v0:=Tryz.zeroValue0
 t2:=Tryz.underlying2
 a2:=Tryz.isAgg2
 z2:=Tryz.sizeOf2
 v2:=Tryz.zeroValue2
 t3:=Tryz.underlying3
 a3:=Tryz.isAgg3
 z3:=Tryz.sizeOf3
 v3:=Tryz.zeroValue3
 t4:=Tryz.underlying4
 a4:=Tryz.isAgg4
 z4:=Tryz.sizeOf4
 v4:=Tryz.zeroValue4
 t5:=Tryz.underlying5
 a5:=Tryz.isAgg5
 z5:=Tryz.sizeOf5
 v5:=Tryz.zeroValue5
 t9:=Tryz.underlying9
 a9:=Tryz.isAgg9
 z9:=Tryz.sizeOf9
 v9:=Tryz.zeroValue9
 t20:=Tryz.underlying20
 a20:=Tryz.isAgg20
 z20:=Tryz.sizeOf20
 v20:=Tryz.zeroValue20
 t37:=Tryz.underlying22
 a37:=Tryz.isAgg22
 z37:=Tryz.sizeOf22
 v37:=Tryz.zeroValue22
 t46:=Tryz.underlying215
 a46:=Tryz.isAgg215
 z46:=Tryz.sizeOf215
 v46:=Tryz.zeroValue215
 t51:=Tryz.underlying213
 a51:=Tryz.isAgg213
 z51:=Tryz.sizeOf213
 v51:=Tryz.zeroValue213
 t53:=Tryz.underlying200
 a53:=Tryz.isAgg200
 z53:=Tryz.sizeOf200
 v53:=Tryz.zeroValue200
 t171:=Tryz.underlying199
 a171:=Tryz.isAgg199
 z171:=Tryz.sizeOf199
 v171:=Tryz.zeroValue199
 t173:=Tryz.underlying203
 a173:=Tryz.isAgg203
 z173:=Tryz.sizeOf203
 v173:=Tryz.zeroValue203
 t212:=Tryz.underlying212
 a212:=Tryz.isAgg212
 z212:=Tryz.sizeOf212
 v212:=Tryz.zeroValue212
 t213:=Tryz.underlying214
 a213:=Tryz.isAgg214
 z213:=Tryz.sizeOf214
 t232:=Tryz.underlying226
 a232:=Tryz.isAgg226
 z232:=Tryz.sizeOf226
 v232:=Tryz.zeroValue226
 t233:=Tryz.underlying227
 a233:=Tryz.isAgg227
 z233:=Tryz.sizeOf227
 v233:=Tryz.zeroValue227
 g17:=by kernel_rfl
 g18:=by kernel_rfl
 g19:=by kernel_rfl
 i0:=by kernel_rfl
 i2:=by kernel_rfl
 i3:=by kernel_rfl
 i4:=by kernel_rfl
 i5:=by kernel_rfl
 i9:=by kernel_rfl
 i20:=by kernel_rfl
 i37:=by kernel_rfl
 i46:=by kernel_rfl
 i51:=by kernel_rfl
 i53:=by kernel_rfl
 i171:=by kernel_rfl
 i173:=by kernel_rfl
 i212:=by kernel_rfl
 i232:=by kernel_rfl
 i233:=by kernel_rfl
 m17:=by kernel_rfl
 m18:=by kernel_rfl
 m19:=by kernel_rfl }
def Tryz.ali:atW:=⟨fun | 145=>178 | 220=>198 | 219=>219 | 217=>226 | 225=>227 | 224=>228 | 267=>229 | 266=>233 | 314=>234 | n=>n,fun | 9=>9 | 4=>4 | 59=>189 | 3=>3 | 5=>5 | 46=>215 | 146=>228 | 51=>213 | n=>n,fun | 1=>1 | n=>n⟩
def Tryz.amB:Go.Proofs.Lays.n145 Tryz.prog Tryz.ali:={
 mixed:=by kernel_rfl
 f145:=Tryz.func178.trans (congrArg some (by kernel_rfl))
 f217:=Tryz.func226.trans (congrArg some (by kernel_rfl))
 f219:=Tryz.func219.trans (congrArg some (by kernel_rfl))
 f220:=Tryz.func198.trans (congrArg some (by kernel_rfl))
 f224:=Tryz.func228.trans (congrArg some (by kernel_rfl))
 f225:=Tryz.func227.trans (congrArg some (by kernel_rfl))
 f266:=Tryz.func233.trans (congrArg some (by kernel_rfl))
 f267:=Tryz.func229.trans (congrArg some (by kernel_rfl))
 f314:=Tryz.func234.trans (congrArg some (by kernel_rfl))
 t3:=Tryz.underlying3
 a3:=Tryz.isAgg3
 z3:=Tryz.sizeOf3
 v3:=Tryz.zeroValue3
 t4:=Tryz.underlying4
 a4:=Tryz.isAgg4
 z4:=Tryz.sizeOf4
 v4:=Tryz.zeroValue4
 t5:=Tryz.underlying5
 a5:=Tryz.isAgg5
 z5:=Tryz.sizeOf5
 v5:=Tryz.zeroValue5
 t9:=Tryz.underlying9
 a9:=Tryz.isAgg9
 z9:=Tryz.sizeOf9
 v9:=Tryz.zeroValue9
 t46:=Tryz.underlying215
 a46:=Tryz.isAgg215
 z46:=Tryz.sizeOf215
 v46:=Tryz.zeroValue215
 t51:=Tryz.underlying213
 a51:=Tryz.isAgg213
 z51:=Tryz.sizeOf213
 v51:=Tryz.zeroValue213
 t59:=Tryz.underlying189
 a59:=Tryz.isAgg189
 z59:=Tryz.sizeOf189
 v59:=Tryz.zeroValue189
 t146:=Tryz.underlying228
 a146:=Tryz.isAgg228
 z146:=Tryz.sizeOf228
 v146:=Tryz.zeroValue228
 g1:=by kernel_rfl }
def Tryz.ak7:atW:=⟨fun | 145=>178 | 220=>198 | 219=>219 | 217=>226 | 225=>227 | 224=>228 | 267=>229 | 266=>233 | 314=>234 | n=>n,fun | 9=>9 | 4=>4 | 59=>189 | 3=>3 | 5=>5 | 46=>215 | 146=>228 | 51=>213 | n=>n,fun | 1=>1 | n=>n⟩
def Tryz.akY:Go.Proofs.LaysM.n145 Tryz.prog Tryz.ak7:={
 mixed:=by kernel_rfl
 f145:=Tryz.func178.trans (congrArg some (by kernel_rfl))
 f217:=Tryz.func226.trans (congrArg some (by kernel_rfl))
 f219:=Tryz.func219.trans (congrArg some (by kernel_rfl))
 f220:=Tryz.func198.trans (congrArg some (by kernel_rfl))
 f224:=Tryz.func228.trans (congrArg some (by kernel_rfl))
 f225:=Tryz.func227.trans (congrArg some (by kernel_rfl))
 f266:=Tryz.func233.trans (congrArg some (by kernel_rfl))
 f267:=Tryz.func229.trans (congrArg some (by kernel_rfl))
 f314:=Tryz.func234.trans (congrArg some (by kernel_rfl))
 t3:=Tryz.underlying3
 a3:=Tryz.isAgg3
 z3:=Tryz.sizeOf3
 v3:=Tryz.zeroValue3
 t4:=Tryz.underlying4
 a4:=Tryz.isAgg4
 z4:=Tryz.sizeOf4
 v4:=Tryz.zeroValue4
 t5:=Tryz.underlying5
 a5:=Tryz.isAgg5
 z5:=Tryz.sizeOf5
 v5:=Tryz.zeroValue5
 t9:=Tryz.underlying9
 a9:=Tryz.isAgg9
 z9:=Tryz.sizeOf9
 v9:=Tryz.zeroValue9
 t46:=Tryz.underlying215
 a46:=Tryz.isAgg215
 z46:=Tryz.sizeOf215
 v46:=Tryz.zeroValue215
 t51:=Tryz.underlying213
 a51:=Tryz.isAgg213
 z51:=Tryz.sizeOf213
 v51:=Tryz.zeroValue213
 t59:=Tryz.underlying189
 a59:=Tryz.isAgg189
 z59:=Tryz.sizeOf189
 v59:=Tryz.zeroValue189
 t146:=Tryz.underlying228
 a146:=Tryz.isAgg228
 z146:=Tryz.sizeOf228
 v146:=Tryz.zeroValue228
 g1:=by kernel_rfl
 i3:=by kernel_rfl
 i4:=by kernel_rfl
 i5:=by kernel_rfl
 i9:=by kernel_rfl
 i46:=by kernel_rfl
 i51:=by kernel_rfl
 i59:=by kernel_rfl
 i146:=by kernel_rfl
 m1:=by kernel_rfl
 s1_3:=fun w h=>Go.Proofs.cell_of_shapedOpen_int (zero:= #[.int .i64 0]) (t:=3) h (of_decide_eq_true (by kernel_rfl)) (by kernel_rfl) rfl (by kernel_rfl) (by kernel_rfl) Tryz.underlying3 }
def Tryz.alh:atW:=⟨fun | 146=>183 | 221=>203 | 268=>220 | 138=>221 | 143=>222 | 195=>230 | 197=>231 | 218=>232 | 219=>219 | 260=>235 | 217=>226 | 225=>227 | 224=>228 | 267=>229 | 266=>233 | 314=>234 | n=>n,fun | 9=>9 | 31=>94 | 3=>3 | 4=>4 | 0=>0 | 105=>224 | 21=>21 | 5=>5 | 46=>215 | 119=>230 | 139=>233 | 138=>232 | 146=>228 | 51=>213 | n=>n,fun | 1=>1 | 3=>4 | 4=>5 | n=>n⟩
def Tryz.amA:Go.Proofs.Lays.n146 Tryz.prog Tryz.alh:={
 mixed:=by kernel_rfl
 f138:=Tryz.func221.trans (congrArg some (by kernel_rfl))
 f143:=Tryz.func222.trans (congrArg some (by kernel_rfl))
 f146:=Tryz.func183.trans (congrArg some (by kernel_rfl))
 f195:=Tryz.func230.trans (congrArg some (by kernel_rfl))
 f197:=Tryz.func231.trans (congrArg some (by kernel_rfl))
 f217:=Tryz.func226.trans (congrArg some (by kernel_rfl))
 f218:=Tryz.func232.trans (congrArg some (by kernel_rfl))
 f219:=Tryz.func219.trans (congrArg some (by kernel_rfl))
 f221:=Tryz.func203.trans (congrArg some (by kernel_rfl))
 f224:=Tryz.func228.trans (congrArg some (by kernel_rfl))
 f225:=Tryz.func227.trans (congrArg some (by kernel_rfl))
 f260:=Tryz.func235.trans (congrArg some (by kernel_rfl))
 f266:=Tryz.func233.trans (congrArg some (by kernel_rfl))
 f267:=Tryz.func229.trans (congrArg some (by kernel_rfl))
 f268:=Tryz.func220.trans (congrArg some (by kernel_rfl))
 f314:=Tryz.func234.trans (congrArg some (by kernel_rfl))
 t0:=Tryz.underlying0
 a0:=Tryz.isAgg0
 z0:=Tryz.sizeOf0
 v0:=Tryz.zeroValue0
 t3:=Tryz.underlying3
 a3:=Tryz.isAgg3
 z3:=Tryz.sizeOf3
 v3:=Tryz.zeroValue3
 t4:=Tryz.underlying4
 a4:=Tryz.isAgg4
 z4:=Tryz.sizeOf4
 v4:=Tryz.zeroValue4
 t5:=Tryz.underlying5
 a5:=Tryz.isAgg5
 z5:=Tryz.sizeOf5
 v5:=Tryz.zeroValue5
 t9:=Tryz.underlying9
 a9:=Tryz.isAgg9
 z9:=Tryz.sizeOf9
 v9:=Tryz.zeroValue9
 t21:=Tryz.underlying21
 a21:=Tryz.isAgg21
 z21:=Tryz.sizeOf21
 v21:=Tryz.zeroValue21
 t31:=Tryz.underlying94
 a31:=Tryz.isAgg94
 z31:=Tryz.sizeOf94
 v31:=Tryz.zeroValue94
 t46:=Tryz.underlying215
 a46:=Tryz.isAgg215
 z46:=Tryz.sizeOf215
 v46:=Tryz.zeroValue215
 t51:=Tryz.underlying213
 a51:=Tryz.isAgg213
 z51:=Tryz.sizeOf213
 v51:=Tryz.zeroValue213
 t105:=Tryz.underlying224
 a105:=Tryz.isAgg224
 z105:=Tryz.sizeOf224
 v105:=Tryz.zeroValue224
 t119:=Tryz.underlying230
 a119:=Tryz.isAgg230
 z119:=Tryz.sizeOf230
 t138:=Tryz.underlying232
 a138:=Tryz.isAgg232
 z138:=Tryz.sizeOf232
 v138:=Tryz.zeroValue232
 t139:=Tryz.underlying233
 a139:=Tryz.isAgg233
 z139:=Tryz.sizeOf233
 v139:=Tryz.zeroValue233
 t146:=Tryz.underlying228
 a146:=Tryz.isAgg228
 z146:=Tryz.sizeOf228
 v146:=Tryz.zeroValue228
 g1:=by kernel_rfl
 g3:=by kernel_rfl
 g4:=by kernel_rfl }
def Tryz.alg:atW:=⟨fun | 147=>200 | 221=>203 | 268=>220 | 138=>221 | 143=>222 | 195=>230 | 197=>231 | 218=>232 | 219=>219 | 260=>235 | 217=>226 | 225=>227 | 224=>228 | 267=>229 | 266=>233 | 314=>234 | n=>n,fun | 9=>9 | 3=>3 | 31=>94 | 4=>4 | 0=>0 | 105=>224 | 21=>21 | 5=>5 | 46=>215 | 119=>230 | 139=>233 | 138=>232 | 146=>228 | 51=>213 | n=>n,fun | 1=>1 | 3=>4 | 4=>5 | n=>n⟩
def Tryz.amz:Go.Proofs.Lays.n147 Tryz.prog Tryz.alg:={
 mixed:=by kernel_rfl
 f138:=Tryz.func221.trans (congrArg some (by kernel_rfl))
 f143:=Tryz.func222.trans (congrArg some (by kernel_rfl))
 f147:=Tryz.func200.trans (congrArg some (by kernel_rfl))
 f195:=Tryz.func230.trans (congrArg some (by kernel_rfl))
 f197:=Tryz.func231.trans (congrArg some (by kernel_rfl))
 f217:=Tryz.func226.trans (congrArg some (by kernel_rfl))
 f218:=Tryz.func232.trans (congrArg some (by kernel_rfl))
 f219:=Tryz.func219.trans (congrArg some (by kernel_rfl))
 f221:=Tryz.func203.trans (congrArg some (by kernel_rfl))
 f224:=Tryz.func228.trans (congrArg some (by kernel_rfl))
 f225:=Tryz.func227.trans (congrArg some (by kernel_rfl))
 f260:=Tryz.func235.trans (congrArg some (by kernel_rfl))
 f266:=Tryz.func233.trans (congrArg some (by kernel_rfl))
 f267:=Tryz.func229.trans (congrArg some (by kernel_rfl))
 f268:=Tryz.func220.trans (congrArg some (by kernel_rfl))
 f314:=Tryz.func234.trans (congrArg some (by kernel_rfl))
 t0:=Tryz.underlying0
 a0:=Tryz.isAgg0
 z0:=Tryz.sizeOf0
 v0:=Tryz.zeroValue0
 t3:=Tryz.underlying3
 a3:=Tryz.isAgg3
 z3:=Tryz.sizeOf3
 v3:=Tryz.zeroValue3
 t4:=Tryz.underlying4
 a4:=Tryz.isAgg4
 z4:=Tryz.sizeOf4
 v4:=Tryz.zeroValue4
 t5:=Tryz.underlying5
 a5:=Tryz.isAgg5
 z5:=Tryz.sizeOf5
 v5:=Tryz.zeroValue5
 t9:=Tryz.underlying9
 a9:=Tryz.isAgg9
 z9:=Tryz.sizeOf9
 v9:=Tryz.zeroValue9
 t21:=Tryz.underlying21
 a21:=Tryz.isAgg21
 z21:=Tryz.sizeOf21
 v21:=Tryz.zeroValue21
 t31:=Tryz.underlying94
 a31:=Tryz.isAgg94
 z31:=Tryz.sizeOf94
 v31:=Tryz.zeroValue94
 t46:=Tryz.underlying215
 a46:=Tryz.isAgg215
 z46:=Tryz.sizeOf215
 v46:=Tryz.zeroValue215
 t51:=Tryz.underlying213
 a51:=Tryz.isAgg213
 z51:=Tryz.sizeOf213
 v51:=Tryz.zeroValue213
 t105:=Tryz.underlying224
 a105:=Tryz.isAgg224
 z105:=Tryz.sizeOf224
 v105:=Tryz.zeroValue224
 t119:=Tryz.underlying230
 a119:=Tryz.isAgg230
 z119:=Tryz.sizeOf230
 t138:=Tryz.underlying232
 a138:=Tryz.isAgg232
 z138:=Tryz.sizeOf232
 v138:=Tryz.zeroValue232
 t139:=Tryz.underlying233
 a139:=Tryz.isAgg233
 z139:=Tryz.sizeOf233
 v139:=Tryz.zeroValue233
 t146:=Tryz.underlying228
 a146:=Tryz.isAgg228
 z146:=Tryz.sizeOf228
 v146:=Tryz.zeroValue228
 g1:=by kernel_rfl
 g3:=by kernel_rfl
 g4:=by kernel_rfl }
open Go.RowKit Go.Sort Go.Lib in
theorem Tryz.strconv_Itoa (n:Int) (h0: -9223372036854775808≤n) (h1:n≤9223372036854775807) (w:World) (anJ:Lib.TabIs Tryz.prog w "internal/strconv.uint64pow10" .u64 atN):
  Calls Tryz.prog 67 #[.int .i64 n] w fun e w'=>e= .returned (.string ⟨(Lib.itoa n).toArray⟩)∧ ∃ k os,w'=grow (w.drewN k) os:=Any.strconv_Itoa Tryz.amb n h0 h1 w anJ
open Go.RowKit Go.Lib in
theorem Tryz.strings_Cut (s sep:ByteArray) (m:Int) (w:World) (hs:s.size < 4294967281) (hm:w.cell? ⟨1,0,none⟩=some (.int .i64 m)):
  Calls Tryz.prog 178 #[.string s,.string sep] w fun e w'=>e= .returned (.tuple #[.string ⟨(asA s.data.toList sep.data.toList).1.toArray⟩,.string ⟨(asA s.data.toList sep.data.toList).2.1.toArray⟩,.bool (asA s.data.toList sep.data.toList).2.2])∧ ∃ n,w'=w.drewN n:=Any.strings_Cut Tryz.amB s sep m w hs hm
open Go.RowKit Go.Lib in
theorem Tryz.strings_Split (s sep:ByteArray) (m:Int) (w:World) (hs:s.size < 4294967281) (hm:w.cell? ⟨1,0,none⟩=some (.int .i64 m)) (h1:1≤sep.size):
  Calls Tryz.prog 183 #[.string s,.string sep] w fun e w'=>
   e= .returned (.slice (some ⟨w.heap.size,0,none⟩) (Lib.countB s sep+1) (Lib.countB s sep+1))∧w'=w.alloc (.cells ((Lib.splitB sep 0 (Lib.countB s sep) s).map au5).toArray 9):=Any.strings_Split Tryz.amA (by kernel_rfl) s sep m w hs hm h1
open Go.RowKit Go.Lib in
theorem Tryz.strings_SplitN (s sep:ByteArray) (n:Nat) (m:Int) (w:World) (hs:s.size < 4294967281) (hm:w.cell? ⟨1,0,none⟩=some (.int .i64 m)) (h1:1≤sep.size) (hn:1≤n) (aoU:n≤9223372036854775807):
  Calls Tryz.prog 200 #[.string s,.string sep,.int .i64 n] w fun e w'=>
   e= .returned (.slice (some ⟨w.heap.size,0,none⟩) (Lib.splitB sep 0 (min n (s.size+1) - 1) s).length (min n (s.size+1)))∧w'=w.alloc (.cells (avc (Lib.splitB sep 0 (min n (s.size+1) - 1) s) (min n (s.size+1))) 9):=Any.strings_SplitN Tryz.amz (by kernel_rfl) s sep n m w hs hm h1 hn aoU
end Go.Proofs
namespace Go.VS
open Go Go.Proofs
set_option linter.unusedVariables false
set_option maxRecDepth 100000
abbrev t1(v:Adv):Adv:= .two .nil v
def sk{P:Program}{C:Cx}{inl:(Ω:Type)→Inl Ω}{f:Nat}{d:Option Nat}{fn:Func}{m:akx}{v:Adv}{ls:List (Code×Loop)}(hC:OKC P C inl)(hl:LpK P fn.ntmps (dL 0 m.ps) ls)
  (hf:fnB P f fn m=(some fn,false,true,true):=by kernel_rfl)(hb:fn.body=some (yD fn):=by kernel_rfl)(h:dm (yD fn) v=ls:=by kernel_rfl)(hg: ∀ x,ahD C inl fn v m x=m.g x:=by intro _;kernel_rfl):SQ P (f,d,m):=
 so hC hf hb h hl hg
def sq{P:Program}{C:Cx}{inl:(Ω:Type)→Inl Ω}(hC:OKC P C inl){n:Nat}{pins:List Nat}{body:Code}{v:Adv}{l:Loop}{b:Lv l.sch→Option (Lv l.sch ⊕ (Lv l.alI ⊕ Lv l.alJ))}{ls:List (Code×Loop)}
  (hl:LpK P n pins ls)(hb: ∀ x,evL C inl n pins body v l x=b x:=by intro _;kernel_rfl)(hr:l.run=aR b:=by rfl)(h:dm body v=ls:=by kernel_rfl):LpK P n pins [(body,l)]:=lk hC hb hr h hl
def kd:TypeId→Option K
 | 2=>some .int
 | 3=>some .int
 | 4=>some .bool
 | 5=>some .u8
 | 9=>some .str
 | 10=>some .str
 | 11=>some .str
 | 27=>some .ajU
 | 29=>some .frame
 | 42=>some .keep
 | 46=>some .note
 | 59=>some .mark
 | 74=>some .aj4
 | 101=>some .half
 | 120=>some .mixed
 | 158=>some .akw
 | _=>none
abbrev Y0:Type:=Int×Int×Int×Int×aqp×aqq
abbrev Z0:Sh:= .box 46 [.int .i64,.int .i64,.int .i64,.int .i64,.str]
abbrev Z1:Sh:= .agg [.int .i64,.int .i64,.int .i64,.int .i64,.str]
abbrev Y1:Type:=Int×Int×Int×List ajT×List Mark×List ajT×aqq
abbrev Z2:Sh:= .box 42 [.int .i64,.int .i64,.int .i64,.sl .note,.sl .mark,.sl .note]
abbrev Z3:Sh:= .agg [.int .i64,.int .i64,.int .i64,.fz .note,.fz .mark,.fz .note]
abbrev Z4:Sh:= .box 42 [.int .i64,.int .i64,.int .i64,.row 46 .note,.row 59 .mark,.row 46 .note]
abbrev Y2:Type:=Int×Int×Int×aqq
abbrev Z5:Sh:= .box 59 [.int .i64,.int .i64,.int .i64]
abbrev Z6:Sh:= .agg [.int .i64,.int .i64,.int .i64]
abbrev Z7:Sh:= .agg [.int .i64,.int .i64,.int .i64,.row 46 .note,.row 59 .mark,.row 46 .note]
abbrev Y3:Type:=Int×Bool×aqp×Int×List ajY×aqq
abbrev Z8:Sh:= .agg [.int .i64,.bool,.str,.int .i64,.fz .half]
abbrev Y4:Type:=aqp×Int×aqq
abbrev Z9:Sh:= .agg [.str,.int .i64]
abbrev Y5:Type:=Int×aqp×aqq
abbrev Z10:Sh:= .agg [.int .i64,.str]
abbrev Y6:Type:=Int×Int×Int×Int×Int×List ajV×aqq
abbrev Z11:Sh:= .box 101 [.int .i64,.int .i64,.int .i64,.int .i64,.int .i64,.sl .mixed]
abbrev Z12:Sh:= .agg [.int .i64,.int .i64,.int .i64,.int .i64,.int .i64,.fz .mixed]
abbrev Z13:Sh:= .box 27 [.int .i64,.bool,.str,.int .i64,.sl .half]
abbrev Z14:Sh:= .box 27 [.int .i64,.bool,.str,.int .i64,.row 101 .half]
abbrev Z15:Sh:= .agg [.int .i64,.bool,.str,.int .i64,.row 101 .half]
abbrev Y7:Type:=Int×Int×Int×Int×Int×Int×Int×Int×Int×aqp×aqq
abbrev Z16:Sh:= .agg [.int .i64,.int .i64,.int .i64,.int .i64,.int .i64,.int .i64,.int .i64,.int .i64,.int .i64,.str]
abbrev Z17:Sh:= .box 24 [.str,.int .i64]
abbrev Z18:Sh:= .box 29 [.int .i64,.int .i64,.int .i64,.int .i64,.int .i64,.int .i64,.int .i64,.int .i64,.int .i64,.str]
abbrev Y8:Type:=List Int×Int×aqq
abbrev Z19:Sh:= .box 115 [.fz .u8,.int .i64]
abbrev Y9:Type:=Int×List ajR×List Bool×List ajW×List ajT×List ajT×aqq
abbrev Z20:Sh:= .box 69 [.int .i64,.row 27 .ajU,.row 4 .bool,.row 74 .aj4,.row 46 .note,.row 46 .note]
abbrev Z21:Sh:= .agg [.int .i64,.row 27 .ajU,.row 4 .bool,.row 74 .aj4,.row 46 .note,.row 46 .note]
abbrev Y10:Type:=Y8×Int×List ajR×List Bool×List ajW×List ajT×List ajT×List Event×aqq
abbrev Z22:Sh:= .box 79 [Z19,.int .i64,.row 27 .ajU,.row 4 .bool,.row 74 .aj4,.row 46 .note,.row 46 .note,.row 158 .akw]
abbrev Z23:Sh:= .box 115 [.sl .u8,.int .i64]
abbrev Z24:Sh:= .box 79 [Z23,.int .i64,.row 27 .ajU,.row 4 .bool,.row 74 .aj4,.row 46 .note,.row 46 .note,.row 158 .akw]
abbrev Z27:Sh:= .box 158 [.int .i64,.int .i64,.int .i64,.int .i64,.int .i64,.int .i64,.int .i64,.int .i64,.int .i64,.str]
abbrev Y11:Type:=aqq×Int×List ajR×List Bool×List ajW×List ajT×List ajT×List Event×aqq
abbrev Z28:Sh:= .box 79 [.same 0,.int .i64,.row 27 .ajU,.row 4 .bool,.row 74 .aj4,.row 46 .note,.row 46 .note,.row 158 .akw]
abbrev Z30:Sh:= .box 42 [.int .i64,.int .i64,.int .i64,.row 46 .note,.row 59 .mark,.sl .note]
abbrev Z31:Sh:= .box 120 [.int .i64,.str]
abbrev Z32:Sh:= .box 79 [.same 6,.int .i64,.row 27 .ajU,.row 4 .bool,.row 74 .aj4,.row 46 .note,.row 46 .note,.row 158 .akw]
abbrev Z33:Sh:= .box 27 [.int .i64,.bool,.str,.int .i64,.fz .half]
abbrev Rnd(a b c:Type):=Option (a ⊕ (b ⊕ c))
noncomputable abbrev cX(l:List Ent)(cz sp:List (Nat×Nat)):Cx:=⟨Tryz.prog,kd,gam l,inR cz,inR sp⟩
abbrev LF(fn:Func)(pins path:List Nat)(l:Loop):=LpK Tryz.prog fn.ntmps pins [(aay path (yD fn),l)]
def mixed:Tryz.prog.follows .mixedOrders=true:=by kernel_rfl
def bM:(Int×aqq)→Option ((aqp×aqq)×(aqq)):=Yq
def iX:Ent:=(67,none,⟨[.int .i64],[.str],bM⟩)
def fF:SQ Tryz.prog iX:=⟨aao (oW Tryz.func67 (by kernel_rfl) (by kernel_rfl:Tryz.f67.body=some (yD Tryz.f67))) (by kernel_rfl) Tryz.strconv_Itoa,by kernel_rfl⟩
def mR:(aqp×aqp×aqq)→Option ((aqp×aqp×Bool×aqq)×(aqq)):=aaQ
def FZ:Ent:=(178,none,⟨[.str,.str],[.str,.str,.bool],mR⟩)
def Ii:SQ Tryz.prog FZ:=⟨adI (gm:=1) (oW Tryz.func178 (by kernel_rfl) (by kernel_rfl:Tryz.f178.body=some (yD Tryz.f178))) (aqk (by kernel_rfl)) (fun w h=>Tryz.akY.s1_3 w h) Tryz.strings_Cut,by kernel_rfl⟩
def nq:(aqp×aqp×aqq)→Option ((List aqp×aqq)×(aqq)):=P2
def BM:Ent:=(183,none,⟨[.str,.str],[.row 9 .str],nq⟩)
def ET:SQ Tryz.prog BM:=⟨XJ (gm:=1) (oW Tryz.func183 (by kernel_rfl) (by kernel_rfl:Tryz.f183.body=some (yD Tryz.f183))) (aqk (by kernel_rfl)) (fun w h=>Tryz.akY.s1_3 w h) Tryz.strings_Split,by kernel_rfl⟩
def rq:(aqp×aqp×Int×aqq)→Option ((List aqp×aqq)×(aqq)):=Ik
def zJ:Ent:=(200,none,⟨[.str,.str,.int .i64],[.row 9 .str],rq⟩)
def Cs:SQ Tryz.prog zJ:=⟨Wp (gm:=1) (oW Tryz.func200 (by kernel_rfl) (by kernel_rfl:Tryz.f200.body=some (yD Tryz.f200))) (aqk (by kernel_rfl)) (fun w h=>Tryz.akY.s1_3 w h) Tryz.strings_SplitN,by kernel_rfl⟩
def bw(akU:(Int×aqq)→Option ((aqp×aqq)×(aqq)))(x:Int×aqq):Option ((aqp×aqq)×aqq):=
 if decide (x.1 < (-9223372036854775807)) then
 let v2:=(B [45,57,50,50,51,51,55,50,48,51,54,56,53,52,55,55,53,56,48,56])
 some ((v2,()),())
 else
 if decide (x.1 < 0) then
 (akU ((w64 (0 - x.1)),())).bind fun r4=>
 if decide ((B [45]).size+r4.1.1.size≤4611686018427387904) then
 some ((((B [45])++r4.1.1),()),())
 else none
 else
 if decide (x.1 < 10) then
 let v6:=(dR ([(w8 (w64 (48+x.1)))]:List Int))
 some ((v6,()),())
 else
 (akU ((w64 (aqU x.1 10)),())).bind fun r7=>
 if decide (r7.1.1.size+(dR ([(w8 (w64 (48+(arh x.1 10))))]:List Int)).size≤4611686018427387904) then
 let v8:=(r7.1.1++(dR ([(w8 (w64 (48+(arh x.1 10))))]:List Int)))
 some ((v8,()),())
 else none
def aC:=YG bw
def Uk(g:(Int×aqq)→Option ((aqp×aqq)×(aqq))):Cx:=cX [(96,none,⟨[.int .i64],[.str],g⟩)] [] []
def Xe(g:(Int×aqq)→Option ((aqp×aqq)×(aqq)))(h:SQ Tryz.prog (96,none,⟨[.int .i64],[.str],g⟩)):OKC Tryz.prog (Uk g) af:=okc mixed (gC h (au))
def fc:Ent:=(96,none,⟨[.int .i64],[.str],aC⟩)
def dd:SQ Tryz.prog fc:=soR (oW (by kernel_rfl:Tryz.prog.funcs[96]? =some Tryz.f96) (by kernel_rfl) (by kernel_rfl:Tryz.f96.body=some (yD Tryz.f96))) (fun _=>by kernel_rfl) fun g h=>so (v:= .nil) (fn:=Tryz.f96) (Xe g h) (by kernel_rfl) (by kernel_rfl) (by kernel_rfl) kN (fun _=>by kernel_rfl)
def Ul:Cx:=cX [fc] [] [(9,11),(24,27)]
def KB:OKC Tryz.prog Ul af:=okc mixed (gC dd (au))
def rX(x:aqp×Int×Int×aqq):Rnd (aqp×Int×Int×aqq) (Int×aqq) (aqp×Int×aqq):=
 if decide (x.2.2.1 < (x.1.size:Int)) then
 if inb x.2.2.1 x.1.size then
 if bg (!(decide ((bt x.1 x.2.2.1) < 48))) (inb x.2.2.1 x.1.size) then
 if(decide ((bt x.1 x.2.2.1) < 48))||(decide (57 < (bt x.1 x.2.2.1))) then
 some (.inr (.inl ((-1),())))
 else
 if inb x.2.2.1 x.1.size then
 let v7:=(w64 ((w64 (x.2.1 * 10))+(w64 (w8 ((bt x.1 x.2.2.1) - 48)))))
 some (.inl (x.1,v7,(w64 (x.2.2.1+1)),()))
 else none
 else none
 else none
 else
 some (.inr (.inr (x.1,x.2.1,())))
def rz:=aR rX
def Cw:Loop:=⟨[(0,.str),(3,.int .i64),(4,.int .i64)],[(0,.str),(3,.int .i64)],0,[(2,.int .i64)],rz⟩
def T4:LF Tryz.f148 [] [1,1,1,0,1,0,0] Cw:=sq (v:= .nil) KB (b:=rX) kN
def jn(x:aqp×aqq):Option ((Int×aqq)×aqq):=
 if(decide ((x.1.size:Int) < 1))||(decide (4 < (x.1.size:Int))) then
 some (((-1),()),())
 else
 (aJ (rz (x.1,0,0,()))
 (fun y8=>some (y8,()))
 (fun y8=>(aC y8.2).bind fun r10=>
 if !decide (r10.1.1=y8.1) then
 some (((-1),()),())
 else
 some (y8.2,())))
def uQ:Ent:=(148,none,⟨[.str],[.int .i64],jn⟩)
def ry:SQ Tryz.prog uQ:=sk (v:=t1 (t1 (t1 (.two (t1 (.one (.loop Cw))) .nil)))) (fn:=Tryz.f148) KB (kC T4 kN)
def Sp:Cx:=cX [uQ] [] [(11,12)]
def Gt:OKC Tryz.prog Sp af:=okc mixed (gC ry (au))
def ec(x:aqp×Int×aqq):Rnd (aqp×Int×aqq) (aqp×Int×aqq) (aqq):=
 if(decide (x.2.1 < (x.1.size:Int)))&&(decide (x.2.1 < 3)) then
 if inb x.2.1 x.1.size then
 if !decide ((bt x.1 x.2.1)=58) then
 some (.inl (x.1,(w64 (x.2.1+1)),()))
 else
 if decide (0≤x.2.1)&&decide (x.2.1≤(x.1.size:Int)) then
 (jn ((x.1.extract (0) (aqy x.2.1)),())).bind fun r17=>
 if decide (r17.1.1 < 1) then
 some (.inr (.inl (noB,0,())))
 else
 if decide (60 < r17.1.1) then
 some (.inr (.inl (noB,0,())))
 else
 if decide ((x.1.size:Int) < (w64 ((w64 (x.2.1+2))+r17.1.1))) then
 some (.inr (.inl (noB,0,())))
 else
 if inb (w64 ((w64 (x.2.1+1))+r17.1.1)) x.1.size then
 if !decide ((bt x.1 (w64 ((w64 (x.2.1+1))+r17.1.1)))=59) then
 some (.inr (.inl (noB,0,())))
 else
 if(decide (0≤(w64 ((w64 (x.2.1+1))+r17.1.1)))&&decide ((w64 ((w64 (x.2.1+1))+r17.1.1))≤(x.1.size:Int)))&&(decide (0≤(w64 (x.2.1+1)))&&decide ((w64 (x.2.1+1))≤(w64 ((w64 (x.2.1+1))+r17.1.1)))) then
 let v18:=(x.1.extract (aqy (w64 (x.2.1+1))) (aqy (w64 ((w64 (x.2.1+1))+r17.1.1))))
 let v19:=(w64 ((w64 (x.2.1+2))+r17.1.1))
 some (.inr (.inl (v18,v19,())))
 else none
 else none
 else none
 else none
 else
 some (.inr (.inr ()))
def px:=aR ec
def Bi:Loop:=⟨[(0,.str),(4,.int .i64)],[],0,[(2,.str),(3,.int .i64)],px⟩
def Rg:LF Tryz.f109 [] [1,0,1,0,0] Bi:=sq (v:= .nil) Gt (b:=ec) kN
def sg(x:aqp×aqq):Option ((aqp×Int×aqq)×aqq):=
 (aJ (px (x.1,0,()))
 (fun y20=>some (y20,()))
 (fun y20=>some ((noB,0,()),())))
def Ga:Ent:=(109,none,⟨[.str],[.str,.int .i64],sg⟩)
def Ix:SQ Tryz.prog Ga:=sk (v:=t1 (.two (t1 (.one (.loop Bi))) .nil)) (fn:=Tryz.f109) Gt (kC Rg kN)
def J6:Cx:=cX [Ga] [] []
def Aa:OKC Tryz.prog J6 af:=okc mixed (gC Ix (au))
def ey(x:aqp×List aqp×Int×aqq):Rnd (aqp×List aqp×Int×aqq) (List aqp×Int×aqq) (List aqp×Int×aqq):=
 if decide (x.2.2.1 < (x.1.size:Int)) then
 if decide (0≤x.2.2.1)&&decide (x.2.2.1≤(x.1.size:Int)) then
 (sg ((x.1.extract (aqy x.2.2.1) (x.1.size)),())).bind fun r6=>
 if decide (r6.1.2.1=0) then
 some (.inr (.inl x.2))
 else
 if al (x.2.1.length+([r6.1.1]:List aqp).length) then
 let v7:=(w64 (x.2.2.1+r6.1.2.1))
 some (.inl (x.1,(x.2.1++([r6.1.1]:List aqp)),v7,()))
 else none
 else none
 else
 some (.inr (.inr x.2))
def lb:=aR ey
def vn:Loop:=⟨[(0,.str),(4,.row 9 .str),(5,.int .i64)],[(4,.row 9 .str),(5,.int .i64)],0,[(2,.row 9 .str),(3,.int .i64)],lb⟩
def Jn:LF Tryz.f56 [] [1,1,1,0,0,0] vn:=sq (v:= .nil) Aa (b:=ey) kN
def bY(x:aqp×aqq):Option ((List aqp×Int×aqq)×aqq):=
 (aJ (lb (x.1,([]:List aqp),0,()))
 (fun y8=>some (y8,()))
 (fun y8=>some (y8,())))
def iZ:Ent:=(56,none,⟨[.str],[.row 9 .str,.int .i64],bY⟩)
def gv:SQ Tryz.prog iZ:=sk (v:=t1 (t1 (t1 (.two (.one (.loop vn)) .nil)))) (fn:=Tryz.f56) Aa (kC Jn kN)
def W5:Cx:=cX [] [] [(11,13)]
def Zh:OKC Tryz.prog W5 af:=okc mixed (au)
def ap(x:Int×Int×Int×aqq):Option ((Bool×aqq)×aqq):=
 let v2:=((decide (x.2.1≤x.1))&&(decide (x.1≤x.2.2.1)))
 some ((v2,()),())
def cu:Ent:=(63,none,⟨[.int .i64,.int .i64,.int .i64],[.bool],ap⟩)
def br:SQ Tryz.prog cu:=sk (v:= .nil) (fn:=Tryz.f63) Zh kN
def Mb:Cx:=cX [cu] [] []
def O0:OKC Tryz.prog Mb af:=okc mixed (gC br (au))
def aQ(x:Int×aqq):Option ((Bool×aqq)×aqq):=
 (ap (x.1,0,3,())).bind fun r1=>
 some (r1.1,())
def bL:Ent:=(54,none,⟨[.int .i64],[.bool],aQ⟩)
def bo:SQ Tryz.prog bL:=sk (v:= .nil) (fn:=Tryz.f54) O0 kN
def OE:Cx:=cX [] [] [(22,28)]
def D7:OKC Tryz.prog OE af:=okc mixed (au)
def nF(x:List Mark×Int×Int×Int×aqq):Rnd (List Mark×Int×Int×Int×aqq) (Int×aqq) (aqq):=
 if decide (x.2.2.2.1 < (x.1.length:Int)) then
 if inb x.2.2.2.1 x.1.length then
 if bg (decide ((rd (dfl .mark) x.1 x.2.2.2.1).mf=x.2.1)) (inb x.2.2.2.1 x.1.length) then
 if(decide ((rd (dfl .mark) x.1 x.2.2.2.1).mf=x.2.1))&&(decide ((rd (dfl .mark) x.1 x.2.2.2.1).mn=x.2.2.1)) then
 some (.inr (.inl x.2.2.2))
 else
 some (.inl (x.1,x.2.1,x.2.2.1,(w64 (x.2.2.2.1+1)),()))
 else none
 else none
 else
 some (.inr (.inr ()))
def og:=aR nF
def yQ:Loop:=⟨[(0,.sl .mark),(1,.int .i64),(2,.int .i64),(7,.int .i64)],[],0,[(6,.int .i64)],og⟩
def N6:LF Tryz.f84 [] [1,0,1,0,0] yQ:=sq (v:= .nil) D7 (b:=nF) kN
def cq(x:List Mark×Int×Int×aqq):Option ((Int×aqq)×aqq):=
 (aJ (og (x.1,x.2.1,x.2.2.1,0,()))
 (fun y2=>some (y2,()))
 (fun y2=>some (((-1),()),())))
def lD:Ent:=(84,none,⟨[.fz .mark,.int .i64,.int .i64],[.int .i64],cq⟩)
def jr:SQ Tryz.prog lD:=sk (v:=t1 (.two (t1 (.one (.loop yQ))) .nil)) (fn:=Tryz.f84) D7 (kC N6 kN)
def Sq:Cx:=cX [bL,cu] [] [(51,55)]
def Gu:OKC Tryz.prog Sq af:=okc mixed (gC bo (gC br (au)))
def pB(x:Y0×Int×aqq):Rnd (Y0×Int×aqq) (Bool×aqq) (aqq):=
 if decide (x.2.1 < (x.1.2.2.2.2.1.size:Int)) then
 if inb x.2.1 x.1.2.2.2.2.1.size then
 if bg (!(decide ((bt x.1.2.2.2.2.1 x.2.1) < 32))) (inb x.2.1 x.1.2.2.2.2.1.size) then
 if(decide ((bt x.1.2.2.2.2.1 x.2.1) < 32))||(decide (126 < (bt x.1.2.2.2.2.1 x.2.1))) then
 some (.inr (.inl (false,())))
 else
 some (.inl (x.1,(w64 (x.2.1+1)),()))
 else none
 else none
 else
 some (.inr (.inr ()))
def pz:=aR pB
def Bk:Loop:=⟨[(1,Z0),(3,.int .i64)],[],0,[(2,.bool)],pz⟩
def Rh:LF Tryz.f139 [] [1,1,0,1,0,0] Bk:=sq (v:= .nil) Gu (b:=pB) kN
def jT(x:Y0×aqq):Option ((Bool×aqq)×aqq):=
 (aQ (x.1.1,())).bind fun r9=>
 if !r9.1.1 then
 some ((false,()),())
 else
 (aQ (x.1.2.2.1,())).bind fun r10=>
 if !r10.1.1 then
 some ((false,()),())
 else
 (ap (x.1.2.1,1,99,())).bind fun r11=>
 if !r11.1.1 then
 some ((false,()),())
 else
 (ap (x.1.2.2.2.1,1,999,())).bind fun r12=>
 if !r12.1.1 then
 some ((false,()),())
 else
 if decide ((x.1.2.2.2.2.1.size:Int) < 1) then
 some ((false,()),())
 else
 if decide (24 < (x.1.2.2.2.2.1.size:Int)) then
 some ((false,()),())
 else
 (aJ (pz (x.1,0,()))
 (fun y14=>some (y14,()))
 (fun y14=>some ((true,()),())))
def sC:Ent:=(139,none,⟨[Z1],[.bool],jT⟩)
def py:SQ Tryz.prog sC:=sk (v:=t1 (t1 (.two (t1 (.one (.loop Bk))) .nil))) (fn:=Tryz.f139) Gu (kC Rh kN)
def OF:Cx:=cX [] [] [(13,20)]
def S8:OKC Tryz.prog OF af:=okc mixed (au)
def dx(x:Int×Int×Int×Int×aqq):Option ((Bool×aqq)×aqq):=
 let v2:=((decide (x.1 < x.2.2.1))||((decide (x.1=x.2.2.1))&&(decide (x.2.1 < x.2.2.2.1))))
 some ((v2,()),())
def lE:Ent:=(196,none,⟨[.int .i64,.int .i64,.int .i64,.int .i64],[.bool],dx⟩)
def js:SQ Tryz.prog lE:=sk (v:= .nil) (fn:=Tryz.f196) S8 kN
def Mh:Cx:=cX [sC,lE] [] [(23,50)]
def B0:OKC Tryz.prog Mh af:=okc mixed (gC py (gC js (au)))
def lO(x:List ajT×Int×aqq):Rnd (List ajT×Int×aqq) (Bool×aqq) (aqq):=
 if decide (x.2.1 < (x.1.length:Int)) then
 if inb x.2.1 x.1.length then
 (jT (((rd (dfl .note) x.1 x.2.1).fr,(rd (dfl .note) x.1 x.2.1).nu,(rd (dfl .note) x.1 x.2.1).to,(rd (dfl .note) x.1 x.2.1).un,(rd (dfl .note) x.1 x.2.1).tx,()),())).bind fun r10=>
 if bg ((!(!r10.1.1))&&(decide (0 < x.2.1))) (inb (w64 (x.2.1 - 1)) x.1.length) then
 if bg ((!(!r10.1.1))&&(decide (0 < x.2.1))) (inb (w64 (x.2.1 - 1)) x.1.length) then
 if bg ((!(!r10.1.1))&&(decide (0 < x.2.1))) (inb x.2.1 x.1.length) then
 if bg ((!(!r10.1.1))&&(decide (0 < x.2.1))) (inb x.2.1 x.1.length) then
 if bg ((!(!r10.1.1))&&(decide (0 < x.2.1))) ((dx ((rd (dfl .note) x.1 (w64 (x.2.1 - 1))).fr,(rd (dfl .note) x.1 (w64 (x.2.1 - 1))).nu,(rd (dfl .note) x.1 x.2.1).fr,(rd (dfl .note) x.1 x.2.1).nu,())).isSome) then
 if(!r10.1.1)||((decide (0 < x.2.1))&&(!(((dx ((rd (dfl .note) x.1 (w64 (x.2.1 - 1))).fr,(rd (dfl .note) x.1 (w64 (x.2.1 - 1))).nu,(rd (dfl .note) x.1 x.2.1).fr,(rd (dfl .note) x.1 x.2.1).nu,())).getD ((false,()),())).1.1))) then
 some (.inr (.inl (false,())))
 else
 some (.inl (x.1,(w64 (x.2.1+1)),()))
 else none
 else none
 else none
 else none
 else none
 else none
 else
 some (.inr (.inr ()))
def mG:=aR lO
def wU:Loop:=⟨[(0,.sl .note),(5,.int .i64)],[],0,[(4,.bool)],mG⟩
def LD:LF Tryz.f166 [] [1,1,0,1,0,0] wU:=sq (v:= .nil) B0 (b:=lO) kN
def jI(x:List ajT×Int×aqq):Option ((Bool×aqq)×aqq):=
 if decide (x.2.1 < (x.1.length:Int)) then
 some ((false,()),())
 else
 (aJ (mG (x.1,0,()))
 (fun y11=>some (y11,()))
 (fun y11=>some ((true,()),())))
def BQ:Ent:=(166,none,⟨[.fz .note,.int .i64],[.bool],jI⟩)
def EX:SQ Tryz.prog BQ:=sk (v:=t1 (t1 (.two (t1 (.one (.loop wU))) .nil))) (fn:=Tryz.f166) B0 (kC LD kN)
def Mi:Cx:=cX [bL,cu,lE] [] []
def B1:OKC Tryz.prog Mi af:=okc mixed (gC bo (gC br (gC js (au))))
def lP(x:List Mark×Int×aqq):Rnd (List Mark×Int×aqq) (Bool×aqq) (aqq):=
 if decide (x.2.1 < (x.1.length:Int)) then
 if inb x.2.1 x.1.length then
 let v49:=(rd (dfl .mark) x.1 x.2.1).mf
 let v50:=(rd (dfl .mark) x.1 x.2.1).mn
 let v51:=(rd (dfl .mark) x.1 x.2.1).mu
 (aQ (v49,())).bind fun r52=>
 if !r52.1.1 then
 some (.inr (.inl (false,())))
 else
 (ap (v50,1,99,())).bind fun r53=>
 if !r53.1.1 then
 some (.inr (.inl (false,())))
 else
 (ap (v51,1,999,())).bind fun r54=>
 if !r54.1.1 then
 some (.inr (.inl (false,())))
 else
 if decide (0 < x.2.1) then
 if inb (w64 (x.2.1 - 1)) x.1.length then
 if inb (w64 (x.2.1 - 1)) x.1.length then
 (dx ((rd (dfl .mark) x.1 (w64 (x.2.1 - 1))).mf,(rd (dfl .mark) x.1 (w64 (x.2.1 - 1))).mn,v49,v50,())).bind fun r55=>
 if !r55.1.1 then
 some (.inr (.inl (false,())))
 else
 some (.inl (x.1,(w64 (x.2.1+1)),()))
 else none
 else none
 else
 some (.inl (x.1,(w64 (x.2.1+1)),()))
 else none
 else
 some (.inr (.inr ()))
def mH:=aR lP
def wV:Loop:=⟨[(0,.sl .mark),(3,.int .i64)],[],0,[(2,.bool)],mH⟩
def LG:LF Tryz.f167 [] [1,1,0,1,0,0] wV:=sq (v:= .nil) B1 (b:=lP) kN
def nE(x:List Mark×aqq):Option ((Bool×aqq)×aqq):=
 if decide (12 < (x.1.length:Int)) then
 some ((false,()),())
 else
 (aJ (mH (x.1,0,()))
 (fun y56=>some (y56,()))
 (fun y56=>some ((true,()),())))
def BR:Ent:=(167,none,⟨[.fz .mark],[.bool],nE⟩)
def EY:SQ Tryz.prog BR:=sk (v:=t1 (t1 (.two (t1 (.one (.loop wV))) .nil))) (fn:=Tryz.f167) B1 (kC LG kN)
def Sk:Cx:=cX [] [] [(16,25)]
def UC:OKC Tryz.prog Sk af:=okc mixed (au)
def sa(x:Y0×Int×aqq):Option ((Bool×aqq)×aqq):=
 if decide (x.1.1≤x.2.1) then
 let v3:=((decide (x.2.1 < x.1.2.2.1))||((decide (x.1.2.2.1 < x.2.1))&&(decide (x.2.1≤x.1.1))))
 some ((v3,()),())
 else
 let v4:=((decide (x.1.2.2.1 < x.2.1))&&(decide (x.2.1≤x.1.1)))
 some ((v4,()),())
def F6:Ent:=(168,none,⟨[Z1,.int .i64],[.bool],sa⟩)
def It:SQ Tryz.prog F6:=sk (v:= .nil) (fn:=Tryz.f168) UC kN
def Ss:Cx:=cX [bL,cu,lD,BQ,BR,F6] [] [(109,120)]
def sE:OKC Tryz.prog Ss af:=okc mixed (gC bo (gC br (gC jr (gC EX (gC EY (gC It (au)))))))
def pN(x:Y1×Int×aqq):Rnd (Y1×Int×aqq) (Bool×aqq) (aqq):=
 if decide (x.2.1 < (x.1.2.2.2.2.2.1.length:Int)) then
 if inb x.2.1 x.1.2.2.2.2.2.1.length then
 let anW:=(rd (dfl .note) x.1.2.2.2.2.2.1 x.2.1).fr
 let v141:=(rd (dfl .note) x.1.2.2.2.2.2.1 x.2.1).nu
 let ape:=(rd (dfl .note) x.1.2.2.2.2.2.1 x.2.1).to
 let v143:=(rd (dfl .note) x.1.2.2.2.2.2.1 x.2.1).un
 let ap9:=(rd (dfl .note) x.1.2.2.2.2.2.1 x.2.1).tx
 (if !decide (ape=x.1.1) then
 some (.inr (.inl (false,())))
 else
 if decide (anW=x.1.1) then
 if decide (x.1.2.2.1≤v141) then
 some (.inr (.inl (false,())))
 else
 if decide (x.1.2.1 < v143) then
 (cq (x.1.2.2.2.2.1,anW,v141,())).bind fun apq=>
 if decide (apq.1.1 < 0) then
 some (.inr (.inl (false,())))
 else
 some (.inl (x.1,(w64 (x.2.1+1)),()))
 else
 some (.inl (x.1,(w64 (x.2.1+1)),()))
 else
 if decide (x.1.2.1 < v143) then
 (cq (x.1.2.2.2.2.1,anW,v141,())).bind fun apo=>
 if decide (apo.1.1 < 0) then
 some (.inr (.inl (false,())))
 else
 some (.inl (x.1,(w64 (x.2.1+1)),()))
 else
 some (.inl (x.1,(w64 (x.2.1+1)),())))
 else none
 else
 some (.inr (.inr ()))
def pK:=aR pN
def Bo:Loop:=⟨[(1,Z2),(7,.int .i64)],[],4,[(2,.bool)],pK⟩
def Q4:LF Tryz.f140 [] [1,1,1,1,0,1,0,0] Bo:=sq (v:= .nil) sE (b:=pN) kN
def pO(x:Y1×Int×aqq):Rnd (Y1×Int×aqq) (Bool×aqq) (Y1×aqq):=
 if decide (x.2.1 < (x.1.2.2.2.2.1.length:Int)) then
 if inb x.2.1 x.1.2.2.2.2.1.length then
 let v94:=(rd (dfl .mark) x.1.2.2.2.2.1 x.2.1).mf
 let v95:=(rd (dfl .mark) x.1.2.2.2.2.1 x.2.1).mn
 let v96:=(rd (dfl .mark) x.1.2.2.2.2.1 x.2.1).mu
 if(decide (v96≤x.1.2.1))||((decide (v94=x.1.1))&&(decide (x.1.2.2.1≤v95))) then
 some (.inr (.inl (false,())))
 else
 some (.inl (x.1,(w64 (x.2.1+1)),()))
 else none
 else
 some (.inr (.inr (x.1,())))
def pL:=aR pO
def Bp:Loop:=⟨[(1,Z2),(5,.int .i64)],[(1,Z2)],2,[(2,.bool)],pL⟩
def Q7:LF Tryz.f140 [] [1,1,1,0,1,0,0] Bp:=sq (v:= .nil) sE (b:=pO) kN
def pP(x:Y1×Int×aqq):Rnd (Y1×Int×aqq) (Bool×aqq) (Y1×aqq):=
 if decide (x.2.1 < (x.1.2.2.2.1.length:Int)) then
 if inb x.2.1 x.1.2.2.2.1.length then
 let v69:=(rd (dfl .note) x.1.2.2.2.1 x.2.1).fr
 let v70:=(rd (dfl .note) x.1.2.2.2.1 x.2.1).nu
 let v71:=(rd (dfl .note) x.1.2.2.2.1 x.2.1).to
 let v72:=(rd (dfl .note) x.1.2.2.2.1 x.2.1).un
 let v73:=(rd (dfl .note) x.1.2.2.2.1 x.2.1).tx
 if decide (v72≤x.1.2.1) then
 some (.inr (.inl (false,())))
 else
 (sa ((v69,v70,v71,v72,v73,()),x.1.1,())).bind fun r74=>
 if !r74.1.1 then
 some (.inr (.inl (false,())))
 else
 if decide (v69=x.1.1) then
 if decide (x.1.2.2.1≤v70) then
 some (.inr (.inl (false,())))
 else
 (cq (x.1.2.2.2.2.1,v69,v70,())).bind fun r75=>
 if decide (0≤r75.1.1) then
 some (.inr (.inl (false,())))
 else
 some (.inl (x.1,(w64 (x.2.1+1)),()))
 else
 (cq (x.1.2.2.2.2.1,v69,v70,())).bind fun r76=>
 if decide (0≤r76.1.1) then
 some (.inr (.inl (false,())))
 else
 some (.inl (x.1,(w64 (x.2.1+1)),()))
 else none
 else
 some (.inr (.inr (x.1,())))
def pM:=aR pP
def Bq:Loop:=⟨[(1,Z2),(3,.int .i64)],[(1,Z2)],0,[(2,.bool)],pM⟩
def Rj:LF Tryz.f140 [] [1,1,0,1,0,0] Bq:=sq (v:= .nil) sE (b:=pP) kN
def gS(x:Y1×aqq):Option ((Bool×aqq)×aqq):=
 (aQ (x.1.1,())).bind fun r13=>
 if !r13.1.1 then
 some ((false,()),())
 else
 (ap (x.1.2.1,0,999,())).bind fun r14=>
 if !r14.1.1 then
 some ((false,()),())
 else
 (ap (x.1.2.2.1,1,100,())).bind fun r15=>
 if !r15.1.1 then
 some ((false,()),())
 else
 (jI (x.1.2.2.2.1,6,())).bind fun r16=>
 if !r16.1.1 then
 some ((false,()),())
 else
 (nE (x.1.2.2.2.2.1,())).bind fun r17=>
 if !r17.1.1 then
 some ((false,()),())
 else
 (jI (x.1.2.2.2.2.2.1,6,())).bind fun r18=>
 if !r18.1.1 then
 some ((false,()),())
 else
 (aJ (pM (x.1,0,()))
 (fun y77=>some (y77,()))
 (fun y77=>(aJ (pL (y77.1,0,()))
 (fun y97=>some (y97,()))
 (fun y97=>(aJ (pK (y97.1,0,()))
 (fun aoG=>some (aoG,()))
 (fun aoG=>some ((true,()),())))))))
def yq:Ent:=(140,none,⟨[Z3],[.bool],gS⟩)
def xd:SQ Tryz.prog yq:=sk (v:=t1 (t1 (.two (t1 (.one (.loop Bq))) (.two (t1 (.one (.loop Bp))) (.two (t1 (.one (.loop Bo))) .nil))))) (fn:=Tryz.f140) sE (kC Rj (kC Q7 (kC Q4 kN)))
def OG:Cx:=cX [] [] [(22,28)]
def D8:OKC Tryz.prog OG af:=okc mixed (au)
def nG(x:List ajT×Int×Int×Int×aqq):Rnd (List ajT×Int×Int×Int×aqq) (Int×aqq) (aqq):=
 if decide (x.2.2.2.1 < (x.1.length:Int)) then
 if inb x.2.2.2.1 x.1.length then
 if bg (decide ((rd (dfl .note) x.1 x.2.2.2.1).fr=x.2.1)) (inb x.2.2.2.1 x.1.length) then
 if(decide ((rd (dfl .note) x.1 x.2.2.2.1).fr=x.2.1))&&(decide ((rd (dfl .note) x.1 x.2.2.2.1).nu=x.2.2.1)) then
 some (.inr (.inl x.2.2.2))
 else
 some (.inl (x.1,x.2.1,x.2.2.1,(w64 (x.2.2.2.1+1)),()))
 else none
 else none
 else
 some (.inr (.inr ()))
def oh:=aR nG
def yR:Loop:=⟨[(0,.sl .note),(1,.int .i64),(2,.int .i64),(7,.int .i64)],[],0,[(6,.int .i64)],oh⟩
def N7:LF Tryz.f44 [] [1,0,1,0,0] yR:=sq (v:= .nil) D8 (b:=nG) kN
def aW(x:List ajT×Int×Int×aqq):Option ((Int×aqq)×aqq):=
 (aJ (oh (x.1,x.2.1,x.2.2.1,0,()))
 (fun y2=>some (y2,()))
 (fun y2=>some (((-1),()),())))
def dD:Ent:=(44,none,⟨[.fz .note,.int .i64,.int .i64],[.int .i64],aW⟩)
def cr:SQ Tryz.prog dD:=sk (v:=t1 (.two (t1 (.one (.loop yR))) .nil)) (fn:=Tryz.f44) D8 (kC N7 kN)
def Sc:Cx:=cX [] [] []
def Gp:OKC Tryz.prog Sc af:=okc mixed (au)
def pj(x:aqp×Int×aqq):Rnd (aqp×Int×aqq) (aqp×aqp×aqq) (aqp×aqq):=
 if decide (x.2.1 < (x.1.size:Int)) then
 if inb x.2.1 x.1.size then
 if decide ((bt x.1 x.2.1)=32) then
 if decide (0≤x.2.1)&&decide (x.2.1≤(x.1.size:Int)) then
 if decide (0≤(w64 (x.2.1+1)))&&decide ((w64 (x.2.1+1))≤(x.1.size:Int)) then
 let v12:=(x.1.extract (0) (aqy x.2.1))
 let v13:=(x.1.extract (aqy (w64 (x.2.1+1))) (x.1.size))
 some (.inr (.inl (v12,v13,())))
 else none
 else none
 else
 some (.inl (x.1,(w64 (x.2.1+1)),()))
 else none
 else
 some (.inr (.inr (x.1,())))
def ph:=aR pj
def Bd:Loop:=⟨[(0,.str),(4,.int .i64)],[(0,.str)],0,[(2,.str),(3,.str)],ph⟩
def Rb:LF Tryz.f169 [] [1,0,1,0,0] Bd:=sq (v:= .nil) Gp (b:=pj) kN
def fg(x:aqp×aqq):Option ((aqp×aqp×aqq)×aqq):=
 (aJ (ph (x.1,0,()))
 (fun y14=>some (y14,()))
 (fun y14=>some ((y14.1,noB,()),())))
def yo:Ent:=(169,none,⟨[.str],[.str,.str],fg⟩)
def wR:SQ Tryz.prog yo:=sk (v:=t1 (.two (t1 (.one (.loop Bd))) .nil)) (fn:=Tryz.f169) Gp (kC Rb kN)
def OC:Cx:=cX [] [] []
def wz:OKC Tryz.prog OC af:=okc mixed (au)
def nC(x:Int×Y1×Y1×List ajT×List Mark×Int×aqq):Rnd (Int×Y1×Y1×List ajT×List Mark×Int×aqq) (aqq) (Int×Y1×Y1×List ajT×List Mark×aqq):=
 if decide (x.2.2.2.2.2.1 < (x.2.1.2.2.2.2.1.length:Int)) then
 if inb x.2.2.2.2.2.1 x.2.1.2.2.2.2.1.length then
 if decide (x.1 < (rd (dfl .mark) x.2.1.2.2.2.2.1 x.2.2.2.2.2.1).mu) then
 if inb x.2.2.2.2.2.1 x.2.1.2.2.2.2.1.length then
 if al (x.2.2.2.2.1.length+([(rd (dfl .mark) x.2.1.2.2.2.2.1 x.2.2.2.2.2.1)]:List Mark).length) then
 let v8:=(w64 (x.2.2.2.2.2.1+1))
 some (.inl (x.1,x.2.1,x.2.2.1,x.2.2.2.1,(x.2.2.2.2.1++([(rd (dfl .mark) x.2.1.2.2.2.2.1 x.2.2.2.2.2.1)]:List Mark)),v8,()))
 else none
 else none
 else
 let v9:=(w64 (x.2.2.2.2.2.1+1))
 some (.inl (x.1,x.2.1,x.2.2.1,x.2.2.2.1,x.2.2.2.2.1,v9,()))
 else none
 else
 some (.inr (.inr (x.1,x.2.1,x.2.2.1,x.2.2.2.1,x.2.2.2.2.1,())))
def od:=aR nC
def yO:Loop:=⟨[(1,.int .i64),(2,Z2),(4,Z4),(5,.row 46 .note),(7,.row 59 .mark),(8,.int .i64)],[(1,.int .i64),(2,Z2),(4,Z4),(5,.row 46 .note),(7,.row 59 .mark)],2,[],od⟩
def NT:LF Tryz.f170 [] [1,1,1,1,0,1,0,0] yO:=sq (v:= .nil) wz (b:=nC) kN
def nD(x:Int×Y1×Y1×List ajT×Int×aqq):Rnd (Int×Y1×Y1×List ajT×Int×aqq) (aqq) (Int×Y1×Y1×List ajT×aqq):=
 if decide (x.2.2.2.2.1 < (x.2.1.2.2.2.1.length:Int)) then
 if inb x.2.2.2.2.1 x.2.1.2.2.2.1.length then
 if decide (x.1 < (rd (dfl .note) x.2.1.2.2.2.1 x.2.2.2.2.1).un) then
 if inb x.2.2.2.2.1 x.2.1.2.2.2.1.length then
 if al (x.2.2.2.1.length+([(rd (dfl .note) x.2.1.2.2.2.1 x.2.2.2.2.1)]:List ajT).length) then
 some (.inl (x.1,x.2.1,x.2.2.1,(x.2.2.2.1++([(rd (dfl .note) x.2.1.2.2.2.1 x.2.2.2.2.1)]:List ajT)),(w64 (x.2.2.2.2.1+1)),()))
 else none
 else none
 else
 some (.inl (x.1,x.2.1,x.2.2.1,x.2.2.2.1,(w64 (x.2.2.2.2.1+1)),()))
 else none
 else
 some (.inr (.inr (x.1,x.2.1,x.2.2.1,x.2.2.2.1,())))
def oe:=aR nD
def yP:Loop:=⟨[(1,.int .i64),(2,Z2),(4,Z4),(5,.row 46 .note),(6,.int .i64)],[(1,.int .i64),(2,Z2),(4,Z4),(5,.row 46 .note)],0,[],oe⟩
def N5:LF Tryz.f170 [] [1,1,0,1,0,0] yP:=sq (v:= .nil) wz (b:=nD) kN
def pv(x:Y1×Int×aqq):Option ((Y1×aqq)×aqq):=
 (aJ (oe (x.2.1,x.1,(0,0,0,([]:List ajT),([]:List Mark),([]:List ajT),()),([]:List ajT),0,()))
 (fun _=>none)
 (fun y2=>(aJ (od (y2.1,y2.2.1,y2.2.2.1,y2.2.2.2.1,([]:List Mark),0,()))
 (fun _=>none)
 (fun y10=>some (((y10.2.1.1,y10.1,y10.2.1.2.2.1,y10.2.2.2.1,y10.2.2.2.2.1,y10.2.1.2.2.2.2.2),()),())))))
def DH:Ent:=(170,none,⟨[Z3,.int .i64],[Z3],pv⟩)
def GX:SQ Tryz.prog DH:=sk (v:=t1 (t1 (.two (t1 (.one (.loop yP))) (t1 (.two (t1 (.one (.loop yO))) .nil))))) (fn:=Tryz.f170) wz (kC N5 (kC NT kN))
def J9:Cx:=cX [fc,sC] [] []
def MK:OKC Tryz.prog J9 af:=okc mixed (gC dd (gC py (au)))
def bN(x:Y0×aqq):Option ((aqp×aqq)×aqq):=
 (jT x).bind fun r2=>
 if !r2.1.1 then
 some ((noB,()),())
 else
 (aC (x.1.1,())).bind fun r3=>
 if decide (r3.1.1.size+(B [32]).size≤4611686018427387904) then
 (aC (x.1.2.1,())).bind fun r4=>
 if decide ((r3.1.1++(B [32])).size+r4.1.1.size≤4611686018427387904) then
 if decide (((r3.1.1++(B [32]))++r4.1.1).size+(B [32]).size≤4611686018427387904) then
 (aC (x.1.2.2.1,())).bind fun r5=>
 if decide ((((r3.1.1++(B [32]))++r4.1.1)++(B [32])).size+r5.1.1.size≤4611686018427387904) then
 if decide (((((r3.1.1++(B [32]))++r4.1.1)++(B [32]))++r5.1.1).size+(B [32]).size≤4611686018427387904) then
 (aC (x.1.2.2.2.1,())).bind fun r6=>
 if decide ((((((r3.1.1++(B [32]))++r4.1.1)++(B [32]))++r5.1.1)++(B [32])).size+r6.1.1.size≤4611686018427387904) then
 if decide (((((((r3.1.1++(B [32]))++r4.1.1)++(B [32]))++r5.1.1)++(B [32]))++r6.1.1).size+(B [32]).size≤4611686018427387904) then
 if decide ((((((((r3.1.1++(B [32]))++r4.1.1)++(B [32]))++r5.1.1)++(B [32]))++r6.1.1)++(B [32])).size+x.1.2.2.2.2.1.size≤4611686018427387904) then
 let v7:=((((((((r3.1.1++(B [32]))++r4.1.1)++(B [32]))++r5.1.1)++(B [32]))++r6.1.1)++(B [32]))++x.1.2.2.2.2.1)
 some ((v7,()),())
 else none
 else none
 else none
 else none
 else none
 else none
 else none
 else none
def fC:Ent:=(91,none,⟨[Z1],[.str],bN⟩)
def ee:SQ Tryz.prog fC:=sk (v:= .nil) (fn:=Tryz.f91) MK kN
def Sd:Cx:=cX [uQ,yo] [] []
def Gq:OKC Tryz.prog Sd af:=okc mixed (gC ry (gC wR (au)))
def po(x:aqp×Int×List Int×Int×aqq):Rnd (aqp×Int×List Int×Int×aqq) (aqq) (aqp×List Int×aqq):=
 if decide (x.2.2.2.1 < x.2.1) then
 (fg (x.1,())).bind fun r12=>
 (jn (r12.1.1,())).bind fun r13=>
 if al (x.2.2.1.length+([r13.1.1]:List Int).length) then
 some (.inl (r12.1.2.1,x.2.1,(x.2.2.1++([r13.1.1]:List Int)),(w64 (x.2.2.2.1+1)),()))
 else none
 else
 some (.inr (.inr (x.1,x.2.2.1,())))
def pn:=aR po
def Be:Loop:=⟨[(0,.str),(1,.int .i64),(6,.row 3 .int),(7,.int .i64)],[(0,.str),(6,.row 3 .int)],0,[],pn⟩
def Rc:LF Tryz.f174 [] [1,1,0,1,0,0] Be:=sq (v:= .nil) Gq (b:=po) kN
def gR(x:aqp×Int×aqq):Option ((List Int×aqp×aqq)×aqq):=
 (aJ (pn (x.1,x.2.1,([]:List Int),0,()))
 (fun _=>none)
 (fun y14=>some ((y14.2.1,y14.1,()),())))
def yp:Ent:=(174,none,⟨[.str,.int .i64],[.row 3 .int,.str],gR⟩)
def wS:SQ Tryz.prog yp:=sk (v:=t1 (t1 (.two (t1 (.one (.loop Be))) .nil))) (fn:=Tryz.f174) Gq (kC Rc kN)
def Mo:Cx:=cX [fC,yp] [] [(29,32)]
def Pa:OKC Tryz.prog Mo af:=okc mixed (gC ee (gC wS (au)))
def gb(x:aqp×aqq):Option ((Y0×Bool×aqq)×aqq):=
 (gR (x.1,4,())).bind fun r1=>
 if inb 0 r1.1.1.length then
 if inb 1 r1.1.1.length then
 if inb 2 r1.1.1.length then
 if inb 3 r1.1.1.length then
 if bg (!(decide (x.1=noB))) ((bN (((rd (dfl .int) r1.1.1 0),(rd (dfl .int) r1.1.1 1),(rd (dfl .int) r1.1.1 2),(rd (dfl .int) r1.1.1 3),r1.1.2),())).isSome) then
 if(decide (x.1=noB))||(!decide (((bN (((rd (dfl .int) r1.1.1 0),(rd (dfl .int) r1.1.1 1),(rd (dfl .int) r1.1.1 2),(rd (dfl .int) r1.1.1 3),r1.1.2),())).getD ((noB,()),())).1.1=x.1)) then
 some (((0,0,0,0,noB,()),false,()),())
 else
 some ((((rd (dfl .int) r1.1.1 0),(rd (dfl .int) r1.1.1 1),(rd (dfl .int) r1.1.1 2),(rd (dfl .int) r1.1.1 3),r1.1.2),true,()),())
 else none
 else none
 else none
 else none
 else none
def BT:Ent:=(171,none,⟨[.str],[Z1,.bool],gb⟩)
def E3:SQ Tryz.prog BT:=sk (v:= .nil) (fn:=Tryz.f171) Pa kN
def HF:Cx:=cX [lE] [] [(18,32)]
def xT:OKC Tryz.prog HF af:=okc mixed (gC js (au))
def jo(x:List ajT×Y0×List ajT×Bool×Int×aqq):Rnd (List ajT×Y0×List ajT×Bool×Int×aqq) (aqq) (Y0×List ajT×Bool×aqq):=
 if decide (x.2.2.2.2.1 < (x.1.length:Int)) then
 (bB (X:=List ajT×Y0×List ajT×Bool×Int×aqq) (fun j7=>
 if inb j7.2.2.2.2.1 j7.1.length then
 if al (j7.2.2.1.length+([(rd (dfl .note) j7.1 j7.2.2.2.2.1)]:List ajT).length) then
 some (.inl (j7.1,j7.2.1,(j7.2.2.1++([(rd (dfl .note) j7.1 j7.2.2.2.2.1)]:List ajT)),j7.2.2.2.1,(w64 (j7.2.2.2.2.1+1)),()))
 else none
 else none)
 ((if bg (!x.2.2.2.1) (inb x.2.2.2.2.1 x.1.length) then
 if bg (!x.2.2.2.1) (inb x.2.2.2.2.1 x.1.length) then
 if bg (!x.2.2.2.1) ((dx (x.2.1.1,x.2.1.2.1,(rd (dfl .note) x.1 x.2.2.2.2.1).fr,(rd (dfl .note) x.1 x.2.2.2.2.1).nu,())).isSome) then
 if(!x.2.2.2.1)&&(((dx (x.2.1.1,x.2.1.2.1,(rd (dfl .note) x.1 x.2.2.2.2.1).fr,(rd (dfl .note) x.1 x.2.2.2.2.1).nu,())).getD ((false,()),())).1.1) then
 if al (x.2.2.1.length+([(ajT.mk x.2.1.1 x.2.1.2.1 x.2.1.2.2.1 x.2.1.2.2.2.1 x.2.1.2.2.2.2.1)]:List ajT).length) then
 some (.inr (x.1,x.2.1,(x.2.2.1++([(ajT.mk x.2.1.1 x.2.1.2.1 x.2.1.2.2.1 x.2.1.2.2.2.1 x.2.1.2.2.2.2.1)]:List ajT)),true,x.2.2.2.2))
 else none
 else
 some (.inr x)
 else none
 else none
 else none)))
 else
 some (.inr (.inr (x.2.1,x.2.2.1,x.2.2.2.1,())))
def kc:=aR jo
def uf:Loop:=⟨[(0,.sl .note),(3,Z0),(5,.row 46 .note),(6,.bool),(7,.int .i64)],[(3,Z0),(5,.row 46 .note),(6,.bool)],0,[],kc⟩
def Hh:LF Tryz.f173 [] [1,1,1,0,1,0,0] uf:=sq (v:=t1 (.two (.one (.join [(0,.sl .note),(3,Z0),(5,.row 46 .note),(6,.bool),(7,.int .i64)] .nil .nil)) .nil)) xT (b:=jo) kN
def dw(x:List ajT×Y0×aqq):Option ((List ajT×aqq)×aqq):=
 (aJ (kc (x.1,x.2.1,([]:List ajT),false,0,()))
 (fun _=>none)
 (fun y8=>(if !y8.2.2.1 then
 if al (y8.2.1.length+([(ajT.mk y8.1.1 y8.1.2.1 y8.1.2.2.1 y8.1.2.2.2.1 y8.1.2.2.2.2.1)]:List ajT).length) then
 some (((y8.2.1++([(ajT.mk y8.1.1 y8.1.2.1 y8.1.2.2.1 y8.1.2.2.2.1 y8.1.2.2.2.2.1)]:List ajT)),()),())
 else none
 else
 some ((y8.2.1,()),()))))
def qU:Ent:=(173,none,⟨[.fz .note,Z1],[.row 46 .note],dw⟩)
def rm:SQ Tryz.prog qU:=sk (v:=t1 (t1 (t1 (.two (t1 (.one (.loop uf))) .nil)))) (fn:=Tryz.f173) xT (kC Hh kN)
def HG:Cx:=cX [lE] [] [(18,32)]
def xU:OKC Tryz.prog HG af:=okc mixed (gC js (au))
def jq(x:List Mark×Y2×List Mark×Bool×Int×aqq):Rnd (List Mark×Y2×List Mark×Bool×Int×aqq) (aqq) (Y2×List Mark×Bool×aqq):=
 if decide (x.2.2.2.2.1 < (x.1.length:Int)) then
 (bB (X:=List Mark×Y2×List Mark×Bool×Int×aqq) (fun j7=>
 if inb j7.2.2.2.2.1 j7.1.length then
 if al (j7.2.2.1.length+([(rd (dfl .mark) j7.1 j7.2.2.2.2.1)]:List Mark).length) then
 some (.inl (j7.1,j7.2.1,(j7.2.2.1++([(rd (dfl .mark) j7.1 j7.2.2.2.2.1)]:List Mark)),j7.2.2.2.1,(w64 (j7.2.2.2.2.1+1)),()))
 else none
 else none)
 ((if bg (!x.2.2.2.1) (inb x.2.2.2.2.1 x.1.length) then
 if bg (!x.2.2.2.1) (inb x.2.2.2.2.1 x.1.length) then
 if bg (!x.2.2.2.1) ((dx (x.2.1.1,x.2.1.2.1,(rd (dfl .mark) x.1 x.2.2.2.2.1).mf,(rd (dfl .mark) x.1 x.2.2.2.2.1).mn,())).isSome) then
 if(!x.2.2.2.1)&&(((dx (x.2.1.1,x.2.1.2.1,(rd (dfl .mark) x.1 x.2.2.2.2.1).mf,(rd (dfl .mark) x.1 x.2.2.2.2.1).mn,())).getD ((false,()),())).1.1) then
 if al (x.2.2.1.length+([(Mark.mk x.2.1.1 x.2.1.2.1 x.2.1.2.2.1)]:List Mark).length) then
 some (.inr (x.1,x.2.1,(x.2.2.1++([(Mark.mk x.2.1.1 x.2.1.2.1 x.2.1.2.2.1)]:List Mark)),true,x.2.2.2.2))
 else none
 else
 some (.inr x)
 else none
 else none
 else none)))
 else
 some (.inr (.inr (x.2.1,x.2.2.1,x.2.2.2.1,())))
def kg:=aR jq
def ug:Loop:=⟨[(0,.sl .mark),(3,Z5),(5,.row 59 .mark),(6,.bool),(7,.int .i64)],[(3,Z5),(5,.row 59 .mark),(6,.bool)],0,[],kg⟩
def Hi:LF Tryz.f177 [] [1,1,1,0,1,0,0] ug:=sq (v:=t1 (.two (.one (.join [(0,.sl .mark),(3,Z5),(5,.row 59 .mark),(6,.bool),(7,.int .i64)] .nil .nil)) .nil)) xU (b:=jq) kN
def ew(x:List Mark×Y2×aqq):Option ((List Mark×aqq)×aqq):=
 (aJ (kg (x.1,x.2.1,([]:List Mark),false,0,()))
 (fun _=>none)
 (fun y8=>(if !y8.2.2.1 then
 if al (y8.2.1.length+([(Mark.mk y8.1.1 y8.1.2.1 y8.1.2.2.1)]:List Mark).length) then
 some (((y8.2.1++([(Mark.mk y8.1.1 y8.1.2.1 y8.1.2.2.1)]:List Mark)),()),())
 else none
 else
 some ((y8.2.1,()),()))))
def kS:Ent:=(177,none,⟨[.fz .mark,Z6],[.row 59 .mark],ew⟩)
def ke:SQ Tryz.prog kS:=sk (v:=t1 (t1 (t1 (.two (t1 (.one (.loop ug))) .nil)))) (fn:=Tryz.f177) xU (kC Hi kN)
def Mj:Cx:=cX [dD,lD,sC] [] [(35,42)]
def O6:OKC Tryz.prog Mj af:=okc mixed (gC cr (gC jr (gC py (au))))
def nH(x:Y1×Y0×aqq):Option ((Bool×aqq)×aqq):=
 (jT x.2).bind fun r5=>
 if r5.1.1 then
 if decide (x.1.2.1 < x.2.1.2.2.2.1) then
 (aW (x.1.2.2.2.1,x.2.1.1,x.2.1.2.1,())).bind fun r6=>
 if decide (r6.1.1 < 0) then
 (cq (x.1.2.2.2.2.1,x.2.1.1,x.2.1.2.1,())).bind fun r7=>
 if bg (decide (r7.1.1 < 0)) ((aW (x.1.2.2.2.2.2.1,x.2.1.1,x.2.1.2.1,())).isSome) then
 let v8:=((decide (r7.1.1 < 0))&&(decide (((aW (x.1.2.2.2.2.2.1,x.2.1.1,x.2.1.2.1,())).getD ((0,()),())).1.1 < 0)))
 some ((v8,()),())
 else none
 else
 if bg false ((aW (x.1.2.2.2.2.2.1,x.2.1.1,x.2.1.2.1,())).isSome) then
 some ((false,()),())
 else none
 else
 if bg false ((aW (x.1.2.2.2.2.2.1,x.2.1.1,x.2.1.2.1,())).isSome) then
 some ((false,()),())
 else none
 else
 if bg false ((aW (x.1.2.2.2.2.2.1,x.2.1.1,x.2.1.2.1,())).isSome) then
 some ((false,()),())
 else none
def BS:Ent:=(197,none,⟨[Z3,Z1],[.bool],nH⟩)
def EZ:SQ Tryz.prog BS:=sk (v:= .nil) (fn:=Tryz.f197) O6 kN
def OD:Cx:=cX [qU,kS,BS] [] []
def S7:OKC Tryz.prog OD af:=okc mixed (gC rm (gC ke (gC EZ (au))))
def k9(x:Y1×Y0×aqq):Option ((Y1×Bool×aqq)×aqq):=
 (nH x).bind fun r2=>
 if !r2.1.1 then
 some ((x.1,false,()),())
 else
 if !decide (x.2.1.2.2.1=x.1.1) then
 (dw (x.1.2.2.2.1,x.2)).bind fun r5=>
 let v6:=(decide ((w64 ((r5.1.1.length:Int)+(x.1.2.2.2.2.1.length:Int)))≤12))
 some (((x.1.1,x.1.2.1,x.1.2.2.1,r5.1.1,x.1.2.2.2.2),v6,()),())
 else
 (dw (x.1.2.2.2.2.2.1,x.2)).bind fun r7=>
 (ew (x.1.2.2.2.2.1,(x.2.1.1,x.2.1.2.1,x.2.1.2.2.2.1,()),())).bind fun r8=>
 let v9:=(decide ((w64 ((x.1.2.2.2.1.length:Int)+(r8.1.1.length:Int)))≤12))
 some (((x.1.1,x.1.2.1,x.1.2.2.1,x.1.2.2.2.1,r8.1.1,r7.1),v9,()),())
def DI:Ent:=(172,none,⟨[Z3,Z1],[Z3,.bool],k9⟩)
def GY:SQ Tryz.prog DI:=sk (v:= .nil) (fn:=Tryz.f172) S7 kN
def Sm:Cx:=cX [dD,kS] [] []
def UE:OKC Tryz.prog Sm af:=okc mixed (gC cr (gC ke (au)))
def sb(x:Y1×Int×Int×aqq):Option ((Y1×Bool×aqq)×aqq):=
 (aW (x.1.2.2.2.1,x.2)).bind fun r1=>
 if decide (r1.1.1 < 0) then
 some ((x.1,false,()),())
 else
 if inb r1.1.1 x.1.2.2.2.1.length then
 let v2:=(rd (dfl .note) x.1.2.2.2.1 r1.1.1).fr
 let v3:=(rd (dfl .note) x.1.2.2.2.1 r1.1.1).nu
 let v4:=(rd (dfl .note) x.1.2.2.2.1 r1.1.1).to
 let v5:=(rd (dfl .note) x.1.2.2.2.1 r1.1.1).un
 let v6:=(rd (dfl .note) x.1.2.2.2.1 r1.1.1).tx
 if decide (0≤r1.1.1)&&decide (r1.1.1≤(x.1.2.2.2.1.length:Int)) then
 if al (([]:List ajT).length+(aqR (aqy r1.1.1) x.1.2.2.2.1).length) then
 if decide (0≤(w64 (r1.1.1+1)))&&decide ((w64 (r1.1.1+1))≤(x.1.2.2.2.1.length:Int)) then
 if al ((([]:List ajT)++(aqR (aqy r1.1.1) x.1.2.2.2.1)).length+(aq9 (aqy (w64 (r1.1.1+1))) x.1.2.2.2.1).length) then
 (ew (x.1.2.2.2.2.1,(x.2.1,x.2.2.1,v5,()),())).bind fun r7=>
 some (((x.1.1,x.1.2.1,x.1.2.2.1,((([]:List ajT)++(aqR (aqy r1.1.1) x.1.2.2.2.1))++(aq9 (aqy (w64 (r1.1.1+1))) x.1.2.2.2.1)),r7.1.1,x.1.2.2.2.2.2),true,()),())
 else none
 else none
 else none
 else none
 else none
def F8:Ent:=(175,none,⟨[Z3,.int .i64,.int .i64],[Z3,.bool],sb⟩)
def Iv:SQ Tryz.prog F8:=sk (v:= .nil) (fn:=Tryz.f175) UE kN
def Sn:Cx:=cX [dD] [] []
def UF:OKC Tryz.prog Sn af:=okc mixed (gC cr (au))
def sd(x:Y1×Int×Int×aqq):Option ((Y1×Bool×aqq)×aqq):=
 (aW (x.1.2.2.2.2.2.1,x.2)).bind fun r1=>
 if decide (r1.1.1 < 0) then
 some ((x.1,false,()),())
 else
 if decide (0≤r1.1.1)&&decide (r1.1.1≤(x.1.2.2.2.2.2.1.length:Int)) then
 if al (([]:List ajT).length+(aqR (aqy r1.1.1) x.1.2.2.2.2.2.1).length) then
 if decide (0≤(w64 (r1.1.1+1)))&&decide ((w64 (r1.1.1+1))≤(x.1.2.2.2.2.2.1.length:Int)) then
 if al ((([]:List ajT)++(aqR (aqy r1.1.1) x.1.2.2.2.2.2.1)).length+(aq9 (aqy (w64 (r1.1.1+1))) x.1.2.2.2.2.2.1).length) then
 some (((x.1.1,x.1.2.1,x.1.2.2.1,x.1.2.2.2.1,x.1.2.2.2.2.1,((([]:List ajT)++(aqR (aqy r1.1.1) x.1.2.2.2.2.2.1))++(aq9 (aqy (w64 (r1.1.1+1))) x.1.2.2.2.2.2.1)),()),true,()),())
 else none
 else none
 else none
 else none
def F9:Ent:=(176,none,⟨[Z3,.int .i64,.int .i64],[Z3,.bool],sd⟩)
def Iw:SQ Tryz.prog F9:=sk (v:= .nil) (fn:=Tryz.f176) UF kN
def Sl:Cx:=cX [dD,lD,fc,uQ,yo,DH,BT,DI,qU,yp,F8,F9,kS] [] [(81,85),(157,174),(192,201),(228,237)]
def UD:OKC Tryz.prog Sl af:=okc mixed (gC cr (gC jr (gC dd (gC ry (gC wR (gC GX (gC E3 (gC GY (gC rm (gC wS (gC Iv (gC Iw (gC ke (au))))))))))))))
def mT(x:Y1×aqp×aqq):Option ((Y1×Bool×aqq)×aqq):=
 (fg x.2).bind fun r1=>
 let v29:=(decide (r1.1.1=(B [116,105,109,101])))
 (if v29 then
 (jn r1.1.2).bind fun r30=>
 if decide (r30.1.1≤x.1.2.1) then
 some ((x.1,false,()),())
 else
 (pv (x.1,r30.1)).bind fun r31=>
 some ((r31.1.1,true,()),())
 else
 let v32:=(decide (r1.1.1=(B [111,119,110])))
 (if v32 then
 (gb r1.1.2).bind fun r33=>
 if !r33.1.2.1 then
 some ((x.1,false,()),())
 else
 if !decide (r33.1.1.1=x.1.1) then
 some ((x.1,false,()),())
 else
 if !decide (r33.1.1.2.1=x.1.2.2.1) then
 some ((x.1,false,()),())
 else
 (k9 ((x.1.1,x.1.2.1,(w64 (x.1.2.2.1+1)),x.1.2.2.2),r33.1.1,())).bind fun r34=>
 some (r34.1,())
 else
 let v35:=(decide (r1.1.1=(B [116,97,107,101])))
 (if v35 then
 (gb r1.1.2).bind fun r36=>
 if(!r36.1.2.1)||(decide (r36.1.1.1=x.1.1)) then
 some ((x.1,false,()),())
 else
 (k9 (x.1,r36.1.1,())).bind fun r37=>
 some (r37.1,())
 else
 let v38:=(decide (r1.1.1=(B [110,101,120,116])))
 (if v38 then
 (jn r1.1.2).bind fun r39=>
 if decide (r39.1.1≤x.1.2.2.1) then
 some ((x.1,false,()),())
 else
 some (((x.1.1,x.1.2.1,r39.1.1,x.1.2.2.2),true,()),())
 else
 (bB (X:=Y1×Y1×aqp×aqp×Bool×aqq) (fun j40=>
 if j40.2.2.2.2.1 then
 (gb (j40.2.2.2.1,())).bind fun r43=>
 if !r43.1.2.1 then
 some ((j40.1,false,()),())
 else
 (aW (j40.1.2.2.2.1,r43.1.1.1,r43.1.1.2.1,())).bind fun r44=>
 if decide (0≤r44.1.1) then
 some ((j40.1,false,()),())
 else
 (aW (j40.1.2.2.2.2.2.1,r43.1.1.1,r43.1.1.2.1,())).bind fun r45=>
 if decide (0≤r45.1.1) then
 some ((j40.1,false,()),())
 else
 if decide (j40.2.2.1=(B [104,101,108,100])) then
 (dw (j40.1.2.2.2.1,r43.1.1,())).bind fun r46=>
 some (((j40.1.1,j40.1.2.1,j40.1.2.2.1,r46.1.1,j40.1.2.2.2.2),true,()),())
 else
 (dw (j40.1.2.2.2.2.2.1,r43.1.1,())).bind fun r47=>
 some (((j40.1.1,j40.1.2.1,j40.1.2.2.1,j40.1.2.2.2.1,j40.1.2.2.2.2.1,r47.1),true,()),())
 else
 (gR (j40.2.2.2.1,3,())).bind fun r48=>
 if bg (!(!decide (r48.1.2.1=noB))) (inb 0 r48.1.1.length) then
 if bg (!(!decide (r48.1.2.1=noB))) ((aC ((rd (dfl .int) r48.1.1 0),())).isSome) then
 if bg (!(!decide (r48.1.2.1=noB))) (decide ((((aC ((rd (dfl .int) r48.1.1 0),())).getD ((noB,()),())).1.1).size+(B [32]).size≤4611686018427387904)) then
 if bg (!(!decide (r48.1.2.1=noB))) (inb 1 r48.1.1.length) then
 if bg (!(!decide (r48.1.2.1=noB))) ((aC ((rd (dfl .int) r48.1.1 1),())).isSome) then
 if bg (!(!decide (r48.1.2.1=noB))) (decide (((((aC ((rd (dfl .int) r48.1.1 0),())).getD ((noB,()),())).1.1)++(B [32])).size+(((aC ((rd (dfl .int) r48.1.1 1),())).getD ((noB,()),())).1.1).size≤4611686018427387904)) then
 if bg (!(!decide (r48.1.2.1=noB))) (decide ((((((aC ((rd (dfl .int) r48.1.1 0),())).getD ((noB,()),())).1.1)++(B [32]))++(((aC ((rd (dfl .int) r48.1.1 1),())).getD ((noB,()),())).1.1)).size+(B [32]).size≤4611686018427387904)) then
 if bg (!(!decide (r48.1.2.1=noB))) (inb 2 r48.1.1.length) then
 if bg (!(!decide (r48.1.2.1=noB))) ((aC ((rd (dfl .int) r48.1.1 2),())).isSome) then
 if bg (!(!decide (r48.1.2.1=noB))) (decide (((((((aC ((rd (dfl .int) r48.1.1 0),())).getD ((noB,()),())).1.1)++(B [32]))++(((aC ((rd (dfl .int) r48.1.1 1),())).getD ((noB,()),())).1.1))++(B [32])).size+(((aC ((rd (dfl .int) r48.1.1 2),())).getD ((noB,()),())).1.1).size≤4611686018427387904)) then
 if(!decide (r48.1.2.1=noB))||(!decide (j40.2.2.2.1=(((((((aC ((rd (dfl .int) r48.1.1 0),())).getD ((noB,()),())).1.1)++(B [32]))++(((aC ((rd (dfl .int) r48.1.1 1),())).getD ((noB,()),())).1.1))++(B [32]))++(((aC ((rd (dfl .int) r48.1.1 2),())).getD ((noB,()),())).1.1)))) then
 some ((j40.1,false,()),())
 else
 let v59:=(decide (j40.2.2.1=(B [108,101,116])))
 (if v59 then
 if inb 0 r48.1.1.length then
 if inb 1 r48.1.1.length then
 (aW (j40.1.2.2.2.1,(rd (dfl .int) r48.1.1 0),(rd (dfl .int) r48.1.1 1),())).bind fun r60=>
 if bg (!(decide (r60.1.1 < 0))) (inb r60.1.1 j40.1.2.2.2.1.length) then
 if bg (!(decide (r60.1.1 < 0))) (inb 2 r48.1.1.length) then
 if(decide (r60.1.1 < 0))||(!decide ((rd (dfl .note) j40.1.2.2.2.1 r60.1.1).un=(rd (dfl .int) r48.1.1 2))) then
 some ((j40.1,false,()),())
 else
 if inb 0 r48.1.1.length then
 if inb 1 r48.1.1.length then
 (sb (j40.1,(rd (dfl .int) r48.1.1 0),(rd (dfl .int) r48.1.1 1),())).bind fun r61=>
 some (r61.1,())
 else none
 else none
 else none
 else none
 else none
 else none
 else
 let v62:=(decide (j40.2.2.1=(B [101,97,116])))
 (if v62 then
 if inb 0 r48.1.1.length then
 if inb 1 r48.1.1.length then
 (aW (j40.1.2.2.2.2.2.1,(rd (dfl .int) r48.1.1 0),(rd (dfl .int) r48.1.1 1),())).bind fun r63=>
 if bg (!(decide (r63.1.1 < 0))) (inb r63.1.1 j40.1.2.2.2.2.2.1.length) then
 if bg (!(decide (r63.1.1 < 0))) (inb 2 r48.1.1.length) then
 if(decide (r63.1.1 < 0))||(!decide ((rd (dfl .note) j40.1.2.2.2.2.2.1 r63.1.1).un=(rd (dfl .int) r48.1.1 2))) then
 some ((j40.1,false,()),())
 else
 if inb 0 r48.1.1.length then
 if inb 1 r48.1.1.length then
 (sd (j40.1,(rd (dfl .int) r48.1.1 0),(rd (dfl .int) r48.1.1 1),())).bind fun r64=>
 some (r64.1,())
 else none
 else none
 else none
 else none
 else none
 else none
 else
 let v65:=(decide (j40.2.2.1=(B [109,97,114,107])))
 (if v65 then
 if inb 0 r48.1.1.length then
 if inb 1 r48.1.1.length then
 (cq (j40.1.2.2.2.2.1,(rd (dfl .int) r48.1.1 0),(rd (dfl .int) r48.1.1 1),())).bind fun r66=>
 if decide (0≤r66.1.1) then
 some ((j40.1,false,()),())
 else
 if inb 0 r48.1.1.length then
 if inb 1 r48.1.1.length then
 if inb 2 r48.1.1.length then
 (ew (j40.1.2.2.2.2.1,((rd (dfl .int) r48.1.1 0),(rd (dfl .int) r48.1.1 1),(rd (dfl .int) r48.1.1 2),()),())).bind fun r67=>
 some (((j40.1.1,j40.1.2.1,j40.1.2.2.1,j40.1.2.2.2.1,r67.1.1,j40.1.2.2.2.2.2),true,()),())
 else none
 else none
 else none
 else none
 else none
 else
 some ((j40.1,false,()),()))))
 else none
 else none
 else none
 else none
 else none
 else none
 else none
 else none
 else none
 else none)
 (let v41:=(decide (r1.1.1=(B [104,101,108,100])))
 (if v41 then
 some (.inr (x.1,(0,0,0,([]:List ajT),([]:List Mark),([]:List ajT),()),r1.1.1,r1.1.2.1,v41,()))
 else
 let v42:=(decide (r1.1.1=(B [105,110,98,111,120])))
 some (.inr (x.1,(0,0,0,([]:List ajT),([]:List Mark),([]:List ajT),()),r1.1.1,r1.1.2.1,v42,())))))))))
def F7:Ent:=(141,none,⟨[Z3,.str],[Z3,.bool],mT⟩)
def Iu:SQ Tryz.prog F7:=sk (v:=t1 (t1 (.two (t1 (.one (t1 (t1 (t1 (t1 (t1 (t1 (t1 (t1 (.join [(2,Z2),(4,Z4),(6,.str),(7,.str),(105,.bool)] .nil .nil))))))))))) .nil))) (fn:=Tryz.f141) UD kN
def OH:Cx:=cX [] [] []
def S9:OKC Tryz.prog OH af:=okc mixed (au)
def iG(x:Y1×aqq):Option ((Y1×aqq)×aqq):=
 if al (([]:List ajT).length+x.1.2.2.2.1.length) then
 if al (([]:List Mark).length+x.1.2.2.2.2.1.length) then
 if al (([]:List ajT).length+x.1.2.2.2.2.2.1.length) then
 some (((x.1.1,x.1.2.1,x.1.2.2.1,(([]:List ajT)++x.1.2.2.2.1),(([]:List Mark)++x.1.2.2.2.2.1),(([]:List ajT)++x.1.2.2.2.2.2.1),()),()),())
 else none
 else none
 else none
def DJ:Ent:=(142,none,⟨[Z3],[Z7],iG⟩)
def GZ:SQ Tryz.prog DJ:=sk (v:= .nil) (fn:=Tryz.f142) S9 kN
def Sv:Cx:=cX [yq,F7,DJ] [] [(22,24)]
def UH:OKC Tryz.prog Sv af:=okc mixed (gC xd (gC Iu (gC GZ (au))))
def jV(x:Y1×aqp×aqq):Option ((Y1×Bool×aqq)×aqq):=
 (gS (x.1,())).bind fun r2=>
 if !r2.1.1 then
 some (((0,0,0,([]:List ajT),([]:List Mark),([]:List ajT),()),false,()),())
 else
 (iG (x.1,())).bind fun r3=>
 (mT (r3.1.1,x.2)).bind fun r4=>
 if bg (!(!r4.1.2.1)) ((gS (r4.1.1,())).isSome) then
 if(!r4.1.2.1)||(!(((gS (r4.1.1,())).getD ((false,()),())).1.1)) then
 (iG (x.1,())).bind fun r6=>
 some ((r6.1.1,false,()),())
 else
 (iG (r4.1.1,())).bind fun r7=>
 some ((r7.1.1,true,()),())
 else none
def yt:Ent:=(92,none,⟨[Z3,.str],[Z7,.bool],jV⟩)
def xf:SQ Tryz.prog yt:=sk (v:= .nil) (fn:=Tryz.f92) UH kN
def Ke:Cx:=cX [bL] [] []
def MP:OKC Tryz.prog Ke af:=okc mixed (gC bo (au))
def lV(x:Int×aqq):Option ((Y1×aqq)×aqq):=
 (aQ x).bind fun r2=>
 if !r2.1.1 then
 some (((0,0,0,([]:List ajT),([]:List Mark),([]:List ajT),()),()),())
 else
 some (((x.1,0,1,([]:List ajT),([]:List Mark),([]:List ajT),()),()),())
def zU:Ent:=(110,none,⟨[.int .i64],[Z7],lV⟩)
def CK:SQ Tryz.prog zU:=sk (v:= .nil) (fn:=Tryz.f110) MP kN
def Su:Cx:=cX [bL,yt,zU] [] []
def Gv:OKC Tryz.prog Su af:=okc mixed (gC bo (gC xf (gC CK (au))))
def ld(x:List aqp×Y1×Y1×Int×aqq):Rnd (List aqp×Y1×Y1×Int×aqq) (Y1×Bool×aqq) (Y1×Y1×aqq):=
 if decide (x.2.2.2.1 < (x.1.length:Int)) then
 if inb x.2.2.2.1 x.1.length then
 (jV (x.2.2.1,(rd (dfl .str) x.1 x.2.2.2.1),())).bind fun r10=>
 if !r10.1.2.1 then
 some (.inr (.inl ((0,0,0,([]:List ajT),([]:List Mark),([]:List ajT),()),false,())))
 else
 some (.inl (x.1,x.2.1,r10.1.1,(w64 (x.2.2.2.1+1)),()))
 else none
 else
 some (.inr (.inr (x.2.1,x.2.2.1,())))
def pQ:=aR ld
def Br:Loop:=⟨[(1,.sl .str),(4,Z4),(6,Z4),(7,.int .i64)],[(4,Z4),(6,Z4)],0,[(4,Z4),(5,.bool)],pQ⟩
def Rk:LF Tryz.f57 [] [1,1,1,0,1,0,0] Br:=sq (v:= .nil) Gv (b:=ld) kN
def jU(x:Int×List aqp×aqq):Option ((Y1×Bool×aqq)×aqq):=
 (lV (x.1,())).bind fun r1=>
 (aQ (x.1,())).bind fun r3=>
 if !r3.1.1 then
 some ((r1.1.1,false,()),())
 else
 (aJ (pQ (x.2.1,(0,0,0,([]:List ajT),([]:List Mark),([]:List ajT),()),r1.1.1,0,()))
 (fun y11=>some (y11,()))
 (fun y11=>some ((y11.2.1,true,()),())))
def yr:Ent:=(57,none,⟨[.int .i64,.fz .str],[Z7,.bool],jU⟩)
def xe:SQ Tryz.prog yr:=sk (v:=t1 (t1 (t1 (.two (t1 (.one (.loop Br))) .nil)))) (fn:=Tryz.f57) Gv (kC Rk kN)
def Sg:Cx:=cX [iZ,yr] [] []
def UA:OKC Tryz.prog Sg af:=okc mixed (gC gv (gC xe (au)))
def bd(x:Y3×aqq):Option ((Y1×Bool×aqq)×aqq):=
 (bY (x.1.2.2.1,())).bind fun r1=>
 (jU (x.1.1,r1.1.1,())).bind fun r2=>
 some (r2.1,())
def cc:Ent:=(43,none,⟨[Z8],[Z7,.bool],bd⟩)
def bu:SQ Tryz.prog cc:=sk (v:= .nil) (fn:=Tryz.f43) UA kN
def OI:Cx:=cX [iZ,cu] [] [(12,18),(41,44)]
def Ta:OKC Tryz.prog OI af:=okc mixed (gC gv (gC br (au)))
def ed(x:Y4×aqq):Option ((Bool×aqq)×aqq):=
 if bg (!(decide (2400 < (x.1.1.size:Int)))) ((ap (x.1.2.1,0,(x.1.1.size:Int),())).isSome) then
 if(decide (2400 < (x.1.1.size:Int)))||(!(((ap (x.1.2.1,0,(x.1.1.size:Int),())).getD ((false,()),())).1.1)) then
 some ((false,()),())
 else
 (bY (x.1.1,())).bind fun r1=>
 if decide (0≤x.1.2.1)&&decide (x.1.2.1≤(x.1.1.size:Int)) then
 (bY ((x.1.1.extract (0) (aqy x.1.2.1)),())).bind fun r2=>
 let v4:=((decide (r1.1.2.1=(x.1.1.size:Int)))&&(decide (r2.1.2.1=x.1.2.1)))
 some ((v4,()),())
 else none
 else none
def ja:Ent:=(55,none,⟨[Z9],[.bool],ed⟩)
def fJ:SQ Tryz.prog ja:=sk (v:= .nil) (fn:=Tryz.f55) Ta kN
def Mc:Cx:=cX [] [] []
def O1:OKC Tryz.prog Mc af:=okc mixed (au)
def cy(x:Int×aqq):Option ((Int×aqq)×aqq):=
 let v1:=(w64 (aqU (w64 ((w64 (x.1+4)) - 1)) 4))
 some ((v1,()),())
def jR:Ent:=(87,none,⟨[.int .i64],[.int .i64],cy⟩)
def ie:SQ Tryz.prog jR:=sk (v:= .nil) (fn:=Tryz.f87) O1 kN
def W6:Cx:=cX [cu] [] [(8,9)]
def Zi:OKC Tryz.prog W6 af:=okc mixed (gC br (au))
def gu(x:Int×Int×aqq):Option ((Bool×aqq)×aqq):=
 (ap (x.1,1,6,())).bind fun r3=>
 if bg r3.1.1 ((ap (x.2.1,0,999,())).isSome) then
 let v4:=(r3.1.1&&(((ap (x.2.1,0,999,())).getD ((false,()),())).1.1))
 some ((v4,()),())
 else none
def tl:Ent:=(86,none,⟨[.int .i64,.int .i64],[.bool],gu⟩)
def nB:SQ Tryz.prog tl:=sk (v:= .nil) (fn:=Tryz.f86) Zi kN
def Oy:Cx:=cX [tl] [] [(10,13)]
def S5:OKC Tryz.prog Oy af:=okc mixed (gC nB (au))
def iE(x:Int×Y5×aqq):Option ((Bool×aqq)×aqq):=
 (gu (x.1,x.2.1.1,())).bind fun r3=>
 let v4:=(r3.1.1&&(decide ((x.2.1.2.1.size:Int)=4)))
 some ((v4,()),())
def wa:Ent:=(111,none,⟨[.int .i64,Z10],[.bool],iE⟩)
def vi:SQ Tryz.prog wa:=sk (v:= .nil) (fn:=Tryz.f111) S5 kN
def J4:Cx:=cX [bL,cu,jR,wa] [] []
def rR:OKC Tryz.prog J4 af:=okc mixed (gC bo (gC br (gC ie (gC vi (au)))))
def kx(x:Y6×Int×Int×aqq):Rnd (Y6×Int×Int×aqq) (Bool×aqq) (Y6×Int×aqq):=
 if decide (x.2.2.1 < x.2.1) then
 if inb x.2.2.1 x.1.2.2.2.2.2.1.length then
 if inb x.2.1 x.1.2.2.2.2.2.1.length then
 if decide ((rd (dfl .mixed) x.1.2.2.2.2.2.1 x.2.2.1).nu=(rd (dfl .mixed) x.1.2.2.2.2.2.1 x.2.1).nu) then
 some (.inr (.inl (false,())))
 else
 some (.inl (x.1,x.2.1,(w64 (x.2.2.1+1)),()))
 else none
 else none
 else
 some (.inr (.inr (x.1,x.2.1,())))
def k0:=aR kx
def vk:Loop:=⟨[(1,Z11),(3,.int .i64),(4,.int .i64)],[(1,Z11),(3,.int .i64)],2,[(2,.bool)],k0⟩
def Ji:LF Tryz.f58 [] [1,1,0,1,0,0,1,0,0,1,1,0,0] vk:=sq (v:= .nil) rR (b:=kx) kN
def ky(x:Y6×Int×aqq):Rnd (Y6×Int×aqq) (Bool×aqq) (aqq):=
 if decide (x.2.1 < (x.1.2.2.2.2.2.1.length:Int)) then
 (cy (x.1.2.2.2.2.1,())).bind fun r38=>
 if inb x.2.1 x.1.2.2.2.2.2.1.length then
 (iE (r38.1.1,((rd (dfl .mixed) x.1.2.2.2.2.2.1 x.2.1).nu,(rd (dfl .mixed) x.1.2.2.2.2.2.1 x.2.1).da,()),())).bind fun r39=>
 if !r39.1.1 then
 some (.inr (.inl (false,())))
 else
 (aJ (k0 (x.1,x.2.1,0,()))
 (fun y40=>some (.inr (.inl y40)))
 (fun y40=>some (.inl (y40.1,(w64 (y40.2.1+1)),()))))
 else none
 else
 some (.inr (.inr ()))
def k8:=aR ky
def vl:Loop:=⟨[(1,Z11),(3,.int .i64)],[],0,[(2,.bool)],k8⟩
def Jm:LF Tryz.f58 [] [1,1,0,1,0,0] vl:=sq (v:=t1 (.two (.one (t1 (t1 (.one (.loop vk))))) .nil)) rR (b:=ky) (kC Ji kN)
def lK(x:Y6×aqq):Option ((Bool×aqq)×aqq):=
 (aQ (x.1.1,())).bind fun r11=>
 if !r11.1.1 then
 some ((false,()),())
 else
 (aQ (x.1.2.2.1,())).bind fun r12=>
 if !r12.1.1 then
 some ((false,()),())
 else
 (ap (x.1.2.1,1,99,())).bind fun r13=>
 if !r13.1.1 then
 some ((false,()),())
 else
 (ap (x.1.2.2.2.1,1,999,())).bind fun r14=>
 if !r14.1.1 then
 some ((false,()),())
 else
 (ap (x.1.2.2.2.2.1,1,24,())).bind fun r15=>
 if !r15.1.1 then
 some ((false,()),())
 else
 if decide (14 < (x.1.2.2.2.2.2.1.length:Int)) then
 some ((false,()),())
 else
 (aJ (k8 (x.1,0,()))
 (fun y41=>some (y41,()))
 (fun y41=>some ((true,()),())))
def zM:Ent:=(58,none,⟨[Z12],[.bool],lK⟩)
def Cz:SQ Tryz.prog zM:=sk (v:=t1 (t1 (.two (t1 (.one (.loop vl))) .nil))) (fn:=Tryz.f58) rR (kC Jm kN)
def Mq:Cx:=cX [cc,bL,ja,iZ,yr,zM] [] [(64,65),(100,112)]
def ua:OKC Tryz.prog Mq af:=okc mixed (gC bu (gC bo (gC fJ (gC gv (gC xe (gC Cz (au)))))))
def lT(x:Y3×Int×Int×aqq):Rnd (Y3×Int×Int×aqq) (Bool×aqq) (Y3×Int×aqq):=
 if decide (x.2.2.1 < x.2.1) then
 if inb x.2.2.1 x.1.2.2.2.2.1.length then
 if inb x.2.1 x.1.2.2.2.2.1.length then
 if bg (decide ((rd (dfl .half) x.1.2.2.2.2.1 x.2.2.1).fr=(rd (dfl .half) x.1.2.2.2.2.1 x.2.1).fr)) (inb x.2.2.1 x.1.2.2.2.2.1.length) then
 if bg (decide ((rd (dfl .half) x.1.2.2.2.2.1 x.2.2.1).fr=(rd (dfl .half) x.1.2.2.2.2.1 x.2.1).fr)) (inb x.2.1 x.1.2.2.2.2.1.length) then
 if(decide ((rd (dfl .half) x.1.2.2.2.2.1 x.2.2.1).fr=(rd (dfl .half) x.1.2.2.2.2.1 x.2.1).fr))&&(decide ((rd (dfl .half) x.1.2.2.2.2.1 x.2.2.1).nu=(rd (dfl .half) x.1.2.2.2.2.1 x.2.1).nu)) then
 some (.inr (.inl (false,())))
 else
 some (.inl (x.1,x.2.1,(w64 (x.2.2.1+1)),()))
 else none
 else none
 else none
 else none
 else
 some (.inr (.inr (x.1,x.2.1,())))
def mI:=aR lT
def wX:Loop:=⟨[(1,Z13),(9,.int .i64),(10,.int .i64)],[(1,Z13),(9,.int .i64)],2,[(2,.bool)],mI⟩
def Lz:LF Tryz.f16 [] [1,1,1,1,1,1,0,1,0,0,1,0,0,1,1,0,0] wX:=sq (v:= .nil) ua (b:=lT) kN
def lU(x:Y3×Int×aqq):Rnd (Y3×Int×aqq) (Bool×aqq) (aqq):=
 if decide (x.2.1 < (x.1.2.2.2.2.1.length:Int)) then
 if inb x.2.1 x.1.2.2.2.2.1.length then
 (lK (((rd (dfl .half) x.1.2.2.2.2.1 x.2.1).fr,(rd (dfl .half) x.1.2.2.2.2.1 x.2.1).nu,(rd (dfl .half) x.1.2.2.2.2.1 x.2.1).to,(rd (dfl .half) x.1.2.2.2.2.1 x.2.1).un,(rd (dfl .half) x.1.2.2.2.2.1 x.2.1).sz,(rd (dfl .half) x.1.2.2.2.2.1 x.2.1).got,()),())).bind fun r25=>
 if !r25.1.1 then
 some (.inr (.inl (false,())))
 else
 (aJ (mI (x.1,x.2.1,0,()))
 (fun y26=>some (.inr (.inl y26)))
 (fun y26=>some (.inl (y26.1,(w64 (y26.2.1+1)),()))))
 else none
 else
 some (.inr (.inr ()))
def ig:=aR lU
def wY:Loop:=⟨[(1,Z13),(9,.int .i64)],[],0,[(2,.bool)],ig⟩
def LH:LF Tryz.f16 [] [1,1,1,1,1,1,0,1,0,0] wY:=sq (v:=t1 (.two (.one (t1 (t1 (.one (.loop wX))))) .nil)) ua (b:=lU) (kC Lz kN)
def bJ(x:Y3×aqq):Option ((Bool×aqq)×aqq):=
 (bB (X:=Y3×aqq) (fun j5=>
 if decide (0≤j5.1.2.2.2.1)&&decide (j5.1.2.2.2.1≤(j5.1.2.2.1.size:Int)) then
 (bY ((j5.1.2.2.1.extract (0) (aqy j5.1.2.2.2.1)),())).bind fun r8=>
 (jU (j5.1.1,r8.1.1,())).bind fun r9=>
 (bd j5).bind fun r10=>
 if(!r10.1.2.1)||(!r9.1.2.1) then
 some ((false,()),())
 else
 (aJ (ig (j5.1,0,()))
 (fun y27=>some (y27,()))
 (fun y27=>some ((true,()),())))
 else none)
 ((aQ (x.1.1,())).bind fun r6=>
 if !r6.1.1 then
 some (.inl ((false,()),()))
 else
 (ed ((x.1.2.2.1,x.1.2.2.2.1,()),())).bind fun r7=>
 if !r7.1.1 then
 some (.inl ((false,()),()))
 else
 if decide (3 < (x.1.2.2.2.2.1.length:Int)) then
 some (.inl ((false,()),()))
 else
 if !x.1.2.1 then
 if decide (0 < (x.1.2.2.2.2.1.length:Int)) then
 some (.inl ((false,()),()))
 else
 some (.inr x)
 else
 some (.inr x)))
def cB:Ent:=(16,none,⟨[Z8],[.bool],bJ⟩)
def bG:SQ Tryz.prog cB:=sk (v:=t1 (.join [(1,Z13)] .nil (t1 (t1 (t1 (t1 (.two (t1 (.one (.loop wY))) .nil))))))) (fn:=Tryz.f16) ua (kC LH kN)
def OB:Cx:=cX [] [] []
def D6:OKC Tryz.prog OB af:=okc mixed (au)
def nv(x:Y3×Y3×List ajY×Int×aqq):Rnd (Y3×Y3×List ajY×Int×aqq) (aqq) (Y3×Y3×List ajY×aqq):=
 if decide (x.2.2.2.1 < (x.1.2.2.2.2.1.length:Int)) then
 if inb x.2.2.2.1 x.1.2.2.2.2.1.length then
 let v32:=(rd (dfl .half) x.1.2.2.2.2.1 x.2.2.2.1).fr
 let v33:=(rd (dfl .half) x.1.2.2.2.2.1 x.2.2.2.1).nu
 let v34:=(rd (dfl .half) x.1.2.2.2.2.1 x.2.2.2.1).to
 let v35:=(rd (dfl .half) x.1.2.2.2.2.1 x.2.2.2.1).un
 let v36:=(rd (dfl .half) x.1.2.2.2.2.1 x.2.2.2.1).sz
 let v37:=(rd (dfl .half) x.1.2.2.2.2.1 x.2.2.2.1).got
 if al (([]:List ajV).length+v37.length) then
 if al (x.2.2.1.length+([(ajY.mk v32 v33 v34 v35 v36 (([]:List ajV)++v37))]:List ajY).length) then
 some (.inl (x.1,x.2.1,(x.2.2.1++([(ajY.mk v32 v33 v34 v35 v36 (([]:List ajV)++v37))]:List ajY)),(w64 (x.2.2.2.1+1)),()))
 else none
 else none
 else none
 else
 some (.inr (.inr (x.1,x.2.1,x.2.2.1,())))
def n8:=aR nv
def yN:Loop:=⟨[(1,Z13),(2,Z14),(3,.row 101 .half),(4,.int .i64)],[(1,Z13),(2,Z14),(3,.row 101 .half)],0,[],n8⟩
def N4:LF Tryz.f40 [] [1,1,0,1,0,0] yN:=sq (v:= .nil) D6 (b:=nv) kN
def aZ(x:Y3×aqq):Option ((Y3×aqq)×aqq):=
 (aJ (n8 (x.1,(0,false,noB,0,([]:List ajY),()),([]:List ajY),0,()))
 (fun _=>none)
 (fun y38=>some (((y38.1.1,y38.1.2.1,y38.1.2.2.1,y38.1.2.2.2.1,y38.2.2),()),())))
def dC:Ent:=(40,none,⟨[Z8],[Z15],aZ⟩)
def cn:SQ Tryz.prog dC:=sk (v:=t1 (t1 (.two (t1 (.one (.loop yN))) .nil))) (fn:=Tryz.f40) D6 (kC N4 kN)
def Mp:Cx:=cX [bL] [] []
def Pb:OKC Tryz.prog Mp af:=okc mixed (gC bo (au))
def gf(x:Int×Int×aqq):Option ((Int×aqq)×aqq):=
 (bB (X:=Int×Int×Bool×aqq) (fun j6=>
 if j6.2.2.1 then
 some (((-1),()),())
 else
 if decide (j6.1 < j6.2.1) then
 some (((w64 (j6.1+1)),()),())
 else
 some (((w64 (j6.1 - 1)),()),()))
 ((aQ (x.1,())).bind fun r7=>
 if !r7.1.1 then
 some (.inr (x.1,x.2.1,true,()))
 else
 (aQ x.2).bind fun r8=>
 if !r8.1.1 then
 some (.inr (x.1,x.2.1,true,()))
 else
 some (.inr (x.1,x.2.1,(decide (x.1=x.2.1)),()))))
def tT:Ent:=(38,none,⟨[.int .i64,.int .i64],[.int .i64],gf⟩)
def uo:SQ Tryz.prog tT:=sk (v:=t1 (.two (.one (.join [(0,.int .i64),(1,.int .i64),(5,.bool)] .nil .nil)) .nil)) (fn:=Tryz.f38) Pb kN
def OM:Cx:=cX [tT,bL,cu] [] [(65,67),(88,91)]
def Tb:OKC Tryz.prog OM af:=okc mixed (gC uo (gC bo (gC br (au))))
def lf(x:Y7×aqq):Option ((Bool×aqq)×aqq):=
 (ap (x.1.1,1,3,())).bind fun r15=>
 if !r15.1.1 then
 some ((false,()),())
 else
 (aQ (x.1.2.1,())).bind fun r16=>
 if !r16.1.1 then
 some ((false,()),())
 else
 (aQ (x.1.2.2.1,())).bind fun r17=>
 if !r17.1.1 then
 some ((false,()),())
 else
 (aQ (x.1.2.2.2.1,())).bind fun r18=>
 if !r18.1.1 then
 some ((false,()),())
 else
 (aQ (x.1.2.2.2.2.2.1,())).bind fun r19=>
 if !r19.1.1 then
 some ((false,()),())
 else
 (ap (x.1.2.2.2.2.1,1,99,())).bind fun r20=>
 if !r20.1.1 then
 some ((false,()),())
 else
 (ap (x.1.2.2.2.2.2.2.1,1,999,())).bind fun r21=>
 if !r21.1.1 then
 some ((false,()),())
 else
 if !decide (x.1.1=1) then
 (gf (x.1.2.2.1,x.1.2.2.2.2.2.1,())).bind fun r26=>
 if decide (r26.1.1=x.1.2.1) then
 if decide (x.1.2.2.2.2.2.2.2.1=0) then
 let v27:=((decide (x.1.2.2.2.2.2.2.2.2.1=0))&&(decide (x.1.2.2.2.2.2.2.2.2.2.1=noB)))
 some ((v27,()),())
 else
 some ((false,()),())
 else
 some ((false,()),())
 else
 (gf (x.1.2.1,x.1.2.2.2.2.2.1,())).bind fun r32=>
 if decide (r32.1.1=x.1.2.2.1) then
 (ap (x.1.2.2.2.2.2.2.2.1,1,24,())).bind fun r33=>
 if r33.1.1 then
 (ap (x.1.2.2.2.2.2.2.2.2.1,0,999,())).bind fun r34=>
 let v35:=(r34.1.1&&(decide ((x.1.2.2.2.2.2.2.2.2.2.1.size:Int)=4)))
 some ((v35,()),())
 else
 some ((false,()),())
 else
 some ((false,()),())
def wi:Ent:=(41,none,⟨[Z16],[.bool],lf⟩)
def vu:SQ Tryz.prog wi:=sk (v:= .nil) (fn:=Tryz.f41) Tb kN
def HH:Cx:=cX [ja] [] []
def KD:OKC Tryz.prog HH af:=okc mixed (gC fJ (au))
def cK(x:Y4×aqq):Option ((Y4×aqq)×aqq):=
 (ed x).bind fun r2=>
 if !r2.1.1 then
 some (((noB,0,()),()),())
 else
 some (((x.1.1,(x.1.1.size:Int),()),()),())
def gL:Ent:=(85,none,⟨[Z9],[Z9],cK⟩)
def fW:SQ Tryz.prog gL:=sk (v:= .nil) (fn:=Tryz.f85) KD kN
def So:Cx:=cX [fc] [] []
def UG:OKC Tryz.prog So af:=okc mixed (gC dd (au))
def cP(x:aqp×aqq):Option ((aqp×aqq)×aqq):=
 (aC ((x.1.size:Int),())).bind fun r1=>
 if decide (r1.1.1.size+(B [58]).size≤4611686018427387904) then
 if decide ((r1.1.1++(B [58])).size+x.1.size≤4611686018427387904) then
 if decide (((r1.1.1++(B [58]))++x.1).size+(B [59]).size≤4611686018427387904) then
 let v2:=(((r1.1.1++(B [58]))++x.1)++(B [59]))
 some ((v2,()),())
 else none
 else none
 else none
def nf:Ent:=(78,none,⟨[.str],[.str],cP⟩)
def kE:SQ Tryz.prog nf:=sk (v:= .nil) (fn:=Tryz.f78) UG kN
def Mk:Cx:=cX [cu] [] []
def O7:OKC Tryz.prog Mk af:=okc mixed (gC br (au))
def nI(x:aqp×aqq):Option ((Bool×aqq)×aqq):=
 (ap ((x.1.size:Int),1,60,())).bind fun r1=>
 some (r1.1,())
def tP:Ent:=(143,none,⟨[.str],[.bool],nI⟩)
def uh:SQ Tryz.prog tP:=sk (v:= .nil) (fn:=Tryz.f143) O7 kN
def Ml:Cx:=cX [ja,nf,tP] [] [(14,21)]
def O8:OKC Tryz.prog Ml af:=okc mixed (gC fJ (gC kE (gC uh (au))))
def dI(x:Y4×aqp×aqq):Option ((Y4×Bool×aqq)×aqq):=
 (ed (x.1,())).bind fun r2=>
 if !r2.1.1 then
 some (((noB,0,()),false,()),())
 else
 (nI x.2).bind fun r5=>
 if bg (!(!r5.1.1)) ((cP x.2).isSome) then
 if(!r5.1.1)||(decide (2400 < (w64 ((x.1.1.size:Int)+((((cP x.2).getD ((noB,()),())).1.1).size:Int))))) then
 some ((x.1,false,()),())
 else
 (cP x.2).bind fun r6=>
 if decide (x.1.1.size+r6.1.1.size≤4611686018427387904) then
 some ((((x.1.1++r6.1.1),x.1.2),true,()),())
 else none
 else none
def tQ:Ent:=(93,none,⟨[Z9,.str],[Z9,.bool],dI⟩)
def ui:SQ Tryz.prog tQ:=sk (v:= .nil) (fn:=Tryz.f93) O8 kN
def J7:Cx:=cX [ja,nf,tP] [] []
def Ab:OKC Tryz.prog J7 af:=okc mixed (gC fJ (gC kE (gC uh (au))))
def ez(x:List aqp×Y4×Y4×aqp×Int×aqq):Rnd (List aqp×Y4×Y4×aqp×Int×aqq) (Y4×Bool×aqq) (Y4×Y4×aqp×aqq):=
 if decide (x.2.2.2.2.1 < (x.1.length:Int)) then
 if inb x.2.2.2.2.1 x.1.length then
 (nI ((rd (dfl .str) x.1 x.2.2.2.2.1),())).bind fun r17=>
 if !r17.1.1 then
 some (.inr (.inl (x.2.1,false,())))
 else
 if inb x.2.2.2.2.1 x.1.length then
 (cP ((rd (dfl .str) x.1 x.2.2.2.2.1),())).bind fun r18=>
 if decide (x.2.2.2.1.size+r18.1.1.size≤4611686018427387904) then
 some (.inl (x.1,x.2.1,x.2.2.1,(x.2.2.2.1++r18.1.1),(w64 (x.2.2.2.2.1+1)),()))
 else none
 else none
 else none
 else
 some (.inr (.inr (x.2.1,x.2.2.1,x.2.2.2.1,())))
def gw:=aR ez
def vo:Loop:=⟨[(1,.sl .str),(2,Z17),(4,Z17),(6,.str),(7,.int .i64)],[(2,Z17),(4,Z17),(6,.str)],0,[(4,Z17),(5,.bool)],gw⟩
def Jo:LF Tryz.f94 [] [1,1,1,0,1,0,0] vo:=sq (v:= .nil) Ab (b:=ez) kN
def fp(x:Y4×List aqp×aqq):Option ((Y4×Bool×aqq)×aqq):=
 (ed (x.1,())).bind fun r2=>
 if !r2.1.1 then
 some (((noB,0,()),false,()),())
 else
 (aJ (gw (x.2.1,x.1,(noB,0,()),noB,0,()))
 (fun y19=>some (y19,()))
 (fun y19=>(if decide (2400 < (y19.2.2.1.size:Int)) then
 some ((y19.1,false,()),())
 else
 some (((y19.2.2.1,(y19.2.2.1.size:Int),()),true,()),()))))
def rL:Ent:=(94,none,⟨[Z9,.fz .str],[Z9,.bool],fp⟩)
def sR:SQ Tryz.prog rL:=sk (v:=t1 (t1 (t1 (.two (t1 (.one (.loop vo))) .nil)))) (fn:=Tryz.f94) Ab (kC Jo kN)
def Mr:Cx:=cX [fC,fc,yq] [] []
def nW:OKC Tryz.prog Mr af:=okc mixed (gC ee (gC dd (gC xd (au))))
def lW(x:Y1×List aqp×Int×aqq):Rnd (Y1×List aqp×Int×aqq) (aqq) (List aqp×aqq):=
 if decide (x.2.2.1 < (x.1.2.2.2.2.2.1.length:Int)) then
 if inb x.2.2.1 x.1.2.2.2.2.2.1.length then
 (bN (((rd (dfl .note) x.1.2.2.2.2.2.1 x.2.2.1).fr,(rd (dfl .note) x.1.2.2.2.2.2.1 x.2.2.1).nu,(rd (dfl .note) x.1.2.2.2.2.2.1 x.2.2.1).to,(rd (dfl .note) x.1.2.2.2.2.2.1 x.2.2.1).un,(rd (dfl .note) x.1.2.2.2.2.2.1 x.2.2.1).tx,()),())).bind fun r61=>
 if decide ((B [105,110,98,111,120,32]).size+r61.1.1.size≤4611686018427387904) then
 if al (x.2.1.length+([((B [105,110,98,111,120,32])++r61.1.1)]:List aqp).length) then
 some (.inl (x.1,(x.2.1++([((B [105,110,98,111,120,32])++r61.1.1)]:List aqp)),(w64 (x.2.2.1+1)),()))
 else none
 else none
 else none
 else
 some (.inr (.inr (x.2.1,())))
def ij:=aR lW
def xa:Loop:=⟨[(1,Z2),(3,.row 9 .str),(7,.int .i64)],[(3,.row 9 .str)],4,[],ij⟩
def Lw:LF Tryz.f95 [] [1,1,1,1,1,1,1,0,1,0,0] xa:=sq (v:= .nil) nW (b:=lW) kN
def lX(x:Y1×List aqp×Int×aqq):Rnd (Y1×List aqp×Int×aqq) (aqq) (Y1×List aqp×aqq):=
 if decide (x.2.2.1 < (x.1.2.2.2.1.length:Int)) then
 if inb x.2.2.1 x.1.2.2.2.1.length then
 (bN (((rd (dfl .note) x.1.2.2.2.1 x.2.2.1).fr,(rd (dfl .note) x.1.2.2.2.1 x.2.2.1).nu,(rd (dfl .note) x.1.2.2.2.1 x.2.2.1).to,(rd (dfl .note) x.1.2.2.2.1 x.2.2.1).un,(rd (dfl .note) x.1.2.2.2.1 x.2.2.1).tx,()),())).bind fun r53=>
 if decide ((B [104,101,108,100,32]).size+r53.1.1.size≤4611686018427387904) then
 if al (x.2.1.length+([((B [104,101,108,100,32])++r53.1.1)]:List aqp).length) then
 some (.inl (x.1,(x.2.1++([((B [104,101,108,100,32])++r53.1.1)]:List aqp)),(w64 (x.2.2.1+1)),()))
 else none
 else none
 else none
 else
 some (.inr (.inr (x.1,x.2.1,())))
def ik:=aR lX
def xb:Loop:=⟨[(1,Z2),(3,.row 9 .str),(6,.int .i64)],[(1,Z2),(3,.row 9 .str)],2,[],ik⟩
def LA:LF Tryz.f95 [] [1,1,1,1,1,1,0,1,0,0] xb:=sq (v:= .nil) nW (b:=lX) kN
def lY(x:Y1×List aqp×Int×aqq):Rnd (Y1×List aqp×Int×aqq) (aqq) (Y1×List aqp×aqq):=
 if decide (x.2.2.1 < (x.1.2.2.2.2.1.length:Int)) then
 if inb x.2.2.1 x.1.2.2.2.2.1.length then
 let v40:=(rd (dfl .mark) x.1.2.2.2.2.1 x.2.2.1).mf
 let v41:=(rd (dfl .mark) x.1.2.2.2.2.1 x.2.2.1).mn
 let v42:=(rd (dfl .mark) x.1.2.2.2.2.1 x.2.2.1).mu
 (aC (v40,())).bind fun r43=>
 if decide ((B [109,97,114,107,32]).size+r43.1.1.size≤4611686018427387904) then
 if decide (((B [109,97,114,107,32])++r43.1.1).size+(B [32]).size≤4611686018427387904) then
 (aC (v41,())).bind fun r44=>
 if decide ((((B [109,97,114,107,32])++r43.1.1)++(B [32])).size+r44.1.1.size≤4611686018427387904) then
 if decide (((((B [109,97,114,107,32])++r43.1.1)++(B [32]))++r44.1.1).size+(B [32]).size≤4611686018427387904) then
 (aC (v42,())).bind fun r45=>
 if decide ((((((B [109,97,114,107,32])++r43.1.1)++(B [32]))++r44.1.1)++(B [32])).size+r45.1.1.size≤4611686018427387904) then
 if al (x.2.1.length+([((((((B [109,97,114,107,32])++r43.1.1)++(B [32]))++r44.1.1)++(B [32]))++r45.1.1)]:List aqp).length) then
 some (.inl (x.1,(x.2.1++([((((((B [109,97,114,107,32])++r43.1.1)++(B [32]))++r44.1.1)++(B [32]))++r45.1.1)]:List aqp)),(w64 (x.2.2.1+1)),()))
 else none
 else none
 else none
 else none
 else none
 else none
 else none
 else
 some (.inr (.inr (x.1,x.2.1,())))
def im:=aR lY
def xc:Loop:=⟨[(1,Z2),(3,.row 9 .str),(4,.int .i64)],[(1,Z2),(3,.row 9 .str)],0,[],im⟩
def LI:LF Tryz.f95 [] [1,1,1,1,1,0,1,0,0] xc:=sq (v:= .nil) nW (b:=lY) kN
def jK(x:Y1×aqq):Option ((List aqp×aqq)×aqq):=
 (gS x).bind fun r2=>
 if !r2.1.1 then
 some ((([]:List aqp),()),())
 else
 (bB (X:=Y1×List aqp×aqq) (fun j4=>
 (bB (X:=Y1×List aqp×aqq) (fun j7=>
 (aJ (im (j7.1,j7.2.1,0,()))
 (fun _=>none)
 (fun y46=>(aJ (ik (y46.1,y46.2.1,0,()))
 (fun _=>none)
 (fun y54=>(aJ (ij (y54.1,y54.2.1,0,()))
 (fun _=>none)
 (fun y62=>some (y62,()))))))))
 ((if decide (1 < j4.1.2.2.1) then
 (aC (j4.1.2.2.1,())).bind fun r8=>
 if decide ((B [110,101,120,116,32]).size+r8.1.1.size≤4611686018427387904) then
 if al (j4.2.1.length+([((B [110,101,120,116,32])++r8.1.1)]:List aqp).length) then
 some (.inr (j4.1,(j4.2.1++([((B [110,101,120,116,32])++r8.1.1)]:List aqp)),()))
 else none
 else none
 else
 some (.inr j4)))))
 ((if decide (0 < x.1.2.1) then
 (aC (x.1.2.1,())).bind fun r5=>
 if decide ((B [116,105,109,101,32]).size+r5.1.1.size≤4611686018427387904) then
 if al (([]:List aqp).length+([((B [116,105,109,101,32])++r5.1.1)]:List aqp).length) then
 some (.inr (x.1,(([]:List aqp)++([((B [116,105,109,101,32])++r5.1.1)]:List aqp)),()))
 else none
 else none
 else
 some (.inr (x.1,([]:List aqp),())))))
def tU:Ent:=(95,none,⟨[Z3],[.row 9 .str],jK⟩)
def uq:SQ Tryz.prog tU:=sk (v:=t1 (t1 (t1 (.join [(1,Z2),(3,.row 9 .str)] .nil (.join [(1,Z2),(3,.row 9 .str)] .nil (.two (t1 (.one (.loop xc))) (.two (t1 (.one (.loop xb))) (.two (t1 (.one (.loop xa))) .nil)))))))) (fn:=Tryz.f95) nW (kC LI (kC LA (kC Lw kN)))
def Md:Cx:=cX [cc,gL,yt,tQ,rL,tU] [] []
def O2:OKC Tryz.prog Md af:=okc mixed (gC bu (gC fW (gC xf (gC ui (gC sR (gC uq (au)))))))
def bW(x:Y3×aqp×Bool×aqq):Option ((Y3×Bool×aqq)×aqq):=
 (bd (x.1,())).bind fun r1=>
 (jV (r1.1.1,x.2.1,())).bind fun r2=>
 if !r2.1.2.1 then
 some ((x.1,false,()),())
 else
 (dI ((x.1.2.2.1,x.1.2.2.2.1,()),x.2.1,())).bind fun r3=>
 (bB (X:=Bool×Y3×Y3×Y4×Bool×aqq) (fun j7=>
 if !j7.2.2.2.2.1 then
 some ((j7.2.1,false,()),())
 else
 if j7.1 then
 (cK (j7.2.2.2.1,())).bind fun r12=>
 some (((j7.2.1.1,j7.2.1.2.1,r12.1.1.1,r12.1.1.2.1,j7.2.1.2.2.2.2),true,()),())
 else
 some (((j7.2.1.1,j7.2.1.2.1,j7.2.2.2.1.1,j7.2.2.2.1.2.1,j7.2.1.2.2.2.2),true,()),()))
 ((if !r3.1.2.1 then
 (jK (r1.1.1,())).bind fun r8=>
 (fp ((x.1.2.2.1,x.1.2.2.2.1,()),r8.1)).bind fun r9=>
 (dI (r9.1.1,x.2.1,())).bind fun r10=>
 some (.inr (x.2.2.1,x.1,(0,false,noB,0,([]:List ajY),()),r10.1))
 else
 some (.inr (x.2.2.1,x.1,(0,false,noB,0,([]:List ajY),()),r3.1)))))
def gq:Ent:=(45,none,⟨[Z8,.str,.bool],[Z8,.bool],bW⟩)
def fb:SQ Tryz.prog gq:=sk (v:=t1 (t1 (t1 (t1 (t1 (.join [(2,.bool),(3,Z13),(6,Z14),(12,Z17),(13,.bool)] .nil .nil)))))) (fn:=Tryz.f45) O2 kN
def J5:Cx:=cX [] [] []
def MI:OKC Tryz.prog J5 af:=okc mixed (au)
def lL(x:Int×Y7×aqq):Option ((Y7×aqq)×aqq):=
 some (((x.1,x.2.1.2.2.1,x.2.1.2.1,x.2.1.2.2.2.1,x.2.1.2.2.2.2.1,x.2.1.2.2.2.2.2.1,x.2.1.2.2.2.2.2.2.1,0,0,noB,()),()),())
def zO:Ent:=(83,none,⟨[.int .i64,Z16],[Z16],lL⟩)
def CB:SQ Tryz.prog zO:=sk (v:= .nil) (fn:=Tryz.f83) MI kN
def OA:Cx:=cX [] [] []
def S6:OKC Tryz.prog OA af:=okc mixed (au)
def fI(x:List ajY×Int×aqq):Option ((List ajY×aqq)×aqq):=
 if decide (0≤x.2.1)&&decide (x.2.1≤(x.1.length:Int)) then
 if al (([]:List ajY).length+(aqR (aqy x.2.1) x.1).length) then
 if decide (0≤(w64 (x.2.1+1)))&&decide ((w64 (x.2.1+1))≤(x.1.length:Int)) then
 if al ((([]:List ajY)++(aqR (aqy x.2.1) x.1)).length+(aq9 (aqy (w64 (x.2.1+1))) x.1).length) then
 some ((((([]:List ajY)++(aqR (aqy x.2.1) x.1))++(aq9 (aqy (w64 (x.2.1+1))) x.1)),()),())
 else none
 else none
 else none
 else none
def wb:Ent:=(90,none,⟨[.fz .half,.int .i64],[.row 101 .half],fI⟩)
def vm:SQ Tryz.prog wb:=sk (v:= .nil) (fn:=Tryz.f90) S6 kN
def Oz:Cx:=cX [] [] [(22,28)]
def D5:OKC Tryz.prog Oz af:=okc mixed (au)
def nt(x:List ajY×Int×Int×Int×aqq):Rnd (List ajY×Int×Int×Int×aqq) (Int×aqq) (aqq):=
 if decide (x.2.2.2.1 < (x.1.length:Int)) then
 if inb x.2.2.2.1 x.1.length then
 if bg (decide ((rd (dfl .half) x.1 x.2.2.2.1).fr=x.2.1)) (inb x.2.2.2.1 x.1.length) then
 if(decide ((rd (dfl .half) x.1 x.2.2.2.1).fr=x.2.1))&&(decide ((rd (dfl .half) x.1 x.2.2.2.1).nu=x.2.2.1)) then
 some (.inr (.inl x.2.2.2))
 else
 some (.inl (x.1,x.2.1,x.2.2.1,(w64 (x.2.2.2.1+1)),()))
 else none
 else none
 else
 some (.inr (.inr ()))
def n7:=aR nt
def yM:Loop:=⟨[(0,.sl .half),(1,.int .i64),(2,.int .i64),(7,.int .i64)],[],0,[(6,.int .i64)],n7⟩
def N3:LF Tryz.f137 [] [1,0,1,0,0] yM:=sq (v:= .nil) D5 (b:=nt) kN
def pr(x:List ajY×Int×Int×aqq):Option ((Int×aqq)×aqq):=
 (aJ (n7 (x.1,x.2.1,x.2.2.1,0,()))
 (fun y2=>some (y2,()))
 (fun y2=>some (((-1),()),())))
def DG:Ent:=(137,none,⟨[.fz .half,.int .i64,.int .i64],[.int .i64],pr⟩)
def GW:SQ Tryz.prog DG:=sk (v:=t1 (.two (t1 (.one (.loop yM))) .nil)) (fn:=Tryz.f137) D5 (kC N3 kN)
def Si:Cx:=cX [wb,DG] [] []
def Gs:OKC Tryz.prog Si af:=okc mixed (gC vm (gC GW (au)))
def pt(x:Y3×Y7×Y3×Int×Y6×List ajV×Int×aqq):Rnd (Y3×Y7×Y3×Int×Y6×List ajV×Int×aqq) (aqq) (Y3×Y7×Y3×Int×Y6×List ajV×aqq):=
 if decide (x.2.2.2.2.2.2.1 < (x.2.2.2.2.1.2.2.2.2.2.1.length:Int)) then
 if inb x.2.2.2.2.2.2.1 x.2.2.2.2.1.2.2.2.2.2.1.length then
 if !decide ((rd (dfl .mixed) x.2.2.2.2.1.2.2.2.2.2.1 x.2.2.2.2.2.2.1).nu=x.2.1.2.2.2.2.2.2.2.2.1) then
 if inb x.2.2.2.2.2.2.1 x.2.2.2.2.1.2.2.2.2.2.1.length then
 if al (x.2.2.2.2.2.1.length+([(rd (dfl .mixed) x.2.2.2.2.1.2.2.2.2.2.1 x.2.2.2.2.2.2.1)]:List ajV).length) then
 let v21:=(w64 (x.2.2.2.2.2.2.1+1))
 some (.inl (x.1,x.2.1,x.2.2.1,x.2.2.2.1,x.2.2.2.2.1,(x.2.2.2.2.2.1++([(rd (dfl .mixed) x.2.2.2.2.1.2.2.2.2.2.1 x.2.2.2.2.2.2.1)]:List ajV)),v21,()))
 else none
 else none
 else
 let v22:=(w64 (x.2.2.2.2.2.2.1+1))
 some (.inl (x.1,x.2.1,x.2.2.1,x.2.2.2.1,x.2.2.2.2.1,x.2.2.2.2.2.1,v22,()))
 else none
 else
 some (.inr (.inr (x.1,x.2.1,x.2.2.1,x.2.2.2.1,x.2.2.2.2.1,x.2.2.2.2.2.1,())))
def kB:=aR pt
def Bg:Loop:=⟨[(2,Z14),(3,Z18),(4,Z14),(6,.int .i64),(7,Z11),(8,.row 120 .mixed),(9,.int .i64)],[(2,Z14),(3,Z18),(4,Z14),(6,.int .i64),(7,Z11),(8,.row 120 .mixed)],0,[],kB⟩
def Rf:LF Tryz.f88 [] [1,1,1,1,1,1,0,1,0,0] Bg:=sq (v:= .nil) Gs (b:=pt) kN
def rZ(x:Y3×Y7×aqq):Option ((Y3×Int×aqq)×aqq):=
 (pr (x.1.2.2.2.2.1,x.2.1.2.2.2.1,x.2.1.2.2.2.2.1,())).bind fun r1=>
 (bB (X:=Y3×Y7×Y3×Int×aqq) (fun j6=>
 if inb j6.2.2.2.1 j6.1.2.2.2.2.1.length then
 let v10:=(rd (dfl .half) j6.1.2.2.2.2.1 j6.2.2.2.1).fr
 let v11:=(rd (dfl .half) j6.1.2.2.2.2.1 j6.2.2.2.1).nu
 let v12:=(rd (dfl .half) j6.1.2.2.2.2.1 j6.2.2.2.1).to
 let v13:=(rd (dfl .half) j6.1.2.2.2.2.1 j6.2.2.2.1).un
 let v14:=(rd (dfl .half) j6.1.2.2.2.2.1 j6.2.2.2.1).sz
 let v15:=(rd (dfl .half) j6.1.2.2.2.2.1 j6.2.2.2.1).got
 if !decide (v12=j6.2.1.2.2.2.2.2.1) then
 some ((j6.1,(-1),()),())
 else
 if !decide (v13=j6.2.1.2.2.2.2.2.2.1) then
 some ((j6.1,(-1),()),())
 else
 if !decide (v14=j6.2.1.2.2.2.2.2.2.2.1) then
 some ((j6.1,(-1),()),())
 else
 (aJ (kB (j6.1,j6.2.1,j6.2.2.1,j6.2.2.2.1,(v10,v11,v12,v13,v14,v15,()),([]:List ajV),0,()))
 (fun _=>none)
 (fun y23=>(bB (X:=Y3×Y7×Y3×Int×Y6×List ajV×aqq) (fun j24=>
 if al (j24.2.2.2.2.2.1.length+([(ajV.mk j24.2.1.2.2.2.2.2.2.2.2.1 j24.2.1.2.2.2.2.2.2.2.2.2.1)]:List ajV).length) then
 if inb j24.2.2.2.1 j24.1.2.2.2.2.1.length then
 some (((j24.1.1,j24.1.2.1,j24.1.2.2.1,j24.1.2.2.2.1,(aqZ j24.1.2.2.2.2.1 (aqy j24.2.2.2.1) (ajY.mk j24.2.2.2.2.1.1 j24.2.2.2.2.1.2.1 j24.2.2.2.2.1.2.2.1 j24.2.2.2.2.1.2.2.2.1 j24.2.2.2.2.1.2.2.2.2.1 (j24.2.2.2.2.2.1++([(ajV.mk j24.2.1.2.2.2.2.2.2.2.2.1 j24.2.1.2.2.2.2.2.2.2.2.2.1)]:List ajV)))),()),j24.2.2.2.1,()),())
 else none
 else none)
 ((if decide (14≤(y23.2.2.2.2.2.1.length:Int)) then
 if decide (0≤1)&&decide (1≤(y23.2.2.2.2.2.1.length:Int)) then
 if al (([]:List ajV).length+(aq9 (aqy 1) y23.2.2.2.2.2.1).length) then
 some (.inr (y23.1,y23.2.1,y23.2.2.1,y23.2.2.2.1,y23.2.2.2.2.1,(([]:List ajV)++(aq9 (aqy 1) y23.2.2.2.2.2.1)),()))
 else none
 else none
 else
 some (.inr y23))))))
 else none)
 ((if decide (r1.1.1 < 0) then
 (bB (X:=Y3×Y7×Y3×aqq) (fun j7=>
 if al (j7.1.2.2.2.2.1.length+([(ajY.mk j7.2.1.2.2.2.1 j7.2.1.2.2.2.2.1 j7.2.1.2.2.2.2.2.1 j7.2.1.2.2.2.2.2.2.1 j7.2.1.2.2.2.2.2.2.2.1 ([]:List ajV))]:List ajY).length) then
 let v9:=(w64 (((j7.1.2.2.2.2.1++([(ajY.mk j7.2.1.2.2.2.1 j7.2.1.2.2.2.2.1 j7.2.1.2.2.2.2.2.1 j7.2.1.2.2.2.2.2.2.1 j7.2.1.2.2.2.2.2.2.2.1 ([]:List ajV))]:List ajY)).length:Int) - 1))
 some (.inr ((j7.1.1,j7.1.2.1,j7.1.2.2.1,j7.1.2.2.2.1,(j7.1.2.2.2.2.1++([(ajY.mk j7.2.1.2.2.2.1 j7.2.1.2.2.2.2.1 j7.2.1.2.2.2.2.2.1 j7.2.1.2.2.2.2.2.2.1 j7.2.1.2.2.2.2.2.2.2.1 ([]:List ajV))]:List ajY)),()),j7.2.1,j7.2.2.1,v9,()))
 else none)
 ((if decide (3≤(x.1.2.2.2.2.1.length:Int)) then
 (fI (x.1.2.2.2.2.1,0,())).bind fun r8=>
 some (.inr ((x.1.1,x.1.2.1,x.1.2.2.1,x.1.2.2.2.1,r8.1),x.2.1,(0,false,noB,0,([]:List ajY),()),()))
 else
 some (.inr (x.1,x.2.1,(0,false,noB,0,([]:List ajY),()),())))))
 else
 some (.inr (x.1,x.2.1,(0,false,noB,0,([]:List ajY),()),r1.1)))))
def F4:Ent:=(88,none,⟨[Z15,Z16],[Z15,.int .i64],rZ⟩)
def Ir:SQ Tryz.prog F4:=sk (v:=t1 (t1 (.join [(2,Z14),(3,Z18),(4,Z14),(6,.int .i64)] (t1 (.two (.join [(2,Z14),(3,Z18),(4,Z14)] .nil .nil) .nil)) (t1 (t1 (t1 (.two (t1 (.one (.loop Bg))) (.join [(2,Z14),(3,Z18),(4,Z14),(6,.int .i64),(7,Z11),(8,.row 120 .mixed)] .nil .nil)))))))) (fn:=Tryz.f88) Gs (kC Rf kN)
def Mn:Cx:=cX [cu] [] []
def O9:OKC Tryz.prog Mn af:=okc mixed (gC br (au))
def eU(x:Int×aqq):Option ((Int×aqq)×aqq):=
 (ap (x.1,0,65535,())).bind fun r2=>
 if !r2.1.1 then
 some ((0,()),())
 else
 let v3:=(arh (w64 ((w64 (x.1 * 25173))+13849)) 65536)
 some ((v3,()),())
def tR:Ent:=(153,none,⟨[.int .i64],[.int .i64],eU⟩)
def um:SQ Tryz.prog tR:=sk (v:= .nil) (fn:=Tryz.f153) O9 kN
def Mg:Cx:=cX [] [] []
def O5:OKC Tryz.prog Mg af:=okc mixed (au)
def ny(x:Int×Int×aqq):Option ((Int×aqq)×aqq):=
 if decide (x.2.1=1) then
 if !decide (x.1=0) then
 let v2:=(w64 ((w64 (aqU 60 x.1))+10))
 some ((v2,()),())
 else none
 else
 if !decide ((w64 (x.2.1 * (w64 (x.2.1 - 1))))=0) then
 let v3:=(w64 (aqU 60 (w64 (x.2.1 * (w64 (x.2.1 - 1))))))
 some ((v3,()),())
 else none
def BP:Ent:=(187,none,⟨[.int .i64,.int .i64],[.int .i64],ny⟩)
def EW:SQ Tryz.prog BP:=sk (v:= .nil) (fn:=Tryz.f187) O5 kN
def Ka:Cx:=cX [tl,tR,BP] [] []
def rS:OKC Tryz.prog Ka af:=okc mixed (gC nB (gC um (gC EW (au))))
def gz(x:Int×Int×Int×aqq):Rnd (Int×Int×Int×aqq) (Int×aqq) (Int×aqq):=
 if decide (x.2.2.1 < x.1) then
 (ny (x.1,x.2.2)).bind fun r20=>
 if decide ((w64 (x.2.1 - r20.1.1)) < 0) then
 some (.inr (.inl x.2.2))
 else
 some (.inl (x.1,(w64 (x.2.1 - r20.1.1)),(w64 (x.2.2.1+1)),()))
 else
 some (.inr (.inr (x.1,())))
def gx:=aR gz
def vq:Loop:=⟨[(0,.int .i64),(7,.int .i64),(8,.int .i64)],[(0,.int .i64)],2,[(4,.int .i64)],gx⟩
def Jj:LF Tryz.f154 [] [1,1,1,1,1,1,0,1,0,0] vq:=sq (v:= .nil) rS (b:=gz) kN
def wW(x:Int×Int×Int×Int×aqq):Rnd (Int×Int×Int×Int×aqq) (aqq) (Int×Int×Int×aqq):=
 if decide (x.2.2.2.1≤x.1) then
 (ny (x.1,x.2.2.2)).bind fun r9=>
 some (.inl (x.1,x.2.1,(w64 (x.2.2.1+r9.1.1)),(w64 (x.2.2.2.1+1)),()))
 else
 some (.inr (.inr (x.1,x.2.1,x.2.2.1,())))
def gy:=aR wW
def vr:Loop:=⟨[(0,.int .i64),(1,.int .i64),(5,.int .i64),(6,.int .i64)],[(0,.int .i64),(1,.int .i64),(5,.int .i64)],0,[],gy⟩
def Jp:LF Tryz.f154 [] [1,1,1,1,0,1,0,0] vr:=sq (v:= .nil) rS (b:=wW) kN
def lS(x:Int×Int×aqq):Option ((Int×aqq)×aqq):=
 (gu x).bind fun r2=>
 if !r2.1.1 then
 some ((0,()),())
 else
 if decide (x.2.1 < x.1) then
 some ((1,()),())
 else
 (aJ (gy (x.1,x.2.1,0,1,()))
 (fun _=>none)
 (fun y10=>(eU ((w64 ((w64 (y10.2.1 * 31))+y10.1)),())).bind fun r11=>
 (eU r11.1).bind fun r12=>
 if !decide (y10.2.2.1=0) then
 let v13:=(arh (w64 (aqU r12.1.1 16)) y10.2.2.1)
 (aJ (gx (y10.1,v13,1,()))
 (fun y21=>some (y21,()))
 (fun y21=>some (y21,())))
 else none))
def zQ:Ent:=(154,none,⟨[.int .i64,.int .i64],[.int .i64],lS⟩)
def CH:SQ Tryz.prog zQ:=sk (v:=t1 (t1 (t1 (t1 (.two (t1 (.one (.loop vr))) (t1 (.two (t1 (.one (.loop vq))) .nil))))))) (fn:=Tryz.f154) rS (kC Jp (kC Jj kN))
def Un:Cx:=cX [tl,tR,zQ] [] []
def uV:OKC Tryz.prog Un af:=okc mixed (gC nB (gC um (gC CH (au))))
def mU(x:Int×List Int×List Bool×Int×Int×Int×aqq):Rnd (Int×List Int×List Bool×Int×Int×Int×aqq) (aqq) (Int×List Int×List Bool×Int×Int×Int×aqq):=
 if inb x.2.2.2.2.2.1 x.2.2.1.length then
 if rd (dfl .bool) x.2.2.1 x.2.2.2.2.2.1 then
 if !decide (x.1=0) then
 let v38:=(arh (w64 (x.2.2.2.2.2.1+1)) x.1)
 some (.inl (x.1,x.2.1,x.2.2.1,x.2.2.2.1,x.2.2.2.2.1,v38,()))
 else none
 else
 some (.inr (.inr x))
 else none
def lR:=aR mU
def CF:Loop:=⟨[(0,.int .i64),(5,.row 3 .int),(6,.row 4 .bool),(7,.int .i64),(8,.int .i64),(9,.int .i64)],[(0,.int .i64),(5,.row 3 .int),(6,.row 4 .bool),(7,.int .i64),(8,.int .i64),(9,.int .i64)],2,[],lR⟩
def TZ:LF Tryz.f118 [] [1,1,1,1,1,1,0,1,0,0,1,0,0,1,1,0,0,0] CF:=sq (v:= .nil) uV (b:=mU) kN
def si(x:Int×List Int×List Bool×Int×aqq):Rnd (Int×List Int×List Bool×Int×aqq) (aqq) (List Int×aqq):=
 if decide (x.2.2.2.1 < x.1) then
 if inb x.2.2.2.1 x.2.2.1.length then
 if rd (dfl .bool) x.2.2.1 x.2.2.2.1 then
 if al (x.2.1.length+([x.2.2.2.1]:List Int).length) then
 some (.inl (x.1,(x.2.1++([x.2.2.2.1]:List Int)),x.2.2.1,(w64 (x.2.2.2.1+1)),()))
 else none
 else
 some (.inl (x.1,x.2.1,x.2.2.1,(w64 (x.2.2.2.1+1)),()))
 else none
 else
 some (.inr (.inr (x.2.1,())))
def rB:=aR si
def CE:Loop:=⟨[(0,.int .i64),(5,.row 3 .int),(6,.row 4 .bool),(10,.int .i64)],[(5,.row 3 .int)],4,[],rB⟩
def TX:LF Tryz.f118 [] [1,1,1,1,1,1,1,0,1,0,0] CE:=sq (v:= .nil) uV (b:=si) kN
def x5(x:Int×List Int×List Bool×Int×Int×aqq):Rnd (Int×List Int×List Bool×Int×Int×aqq) (aqq) (Int×List Int×List Bool×aqq):=
 if decide (0 < x.2.2.2.2.1) then
 (eU (x.2.2.2.1,())).bind fun r35=>
 if !decide (x.1=0) then
 let v36:=(arh (w64 (aqU r35.1.1 16)) x.1)
 (aJ (lR (x.1,x.2.1,x.2.2.1,r35.1.1,x.2.2.2.2.1,v36,()))
 (fun _=>some (.inr (.inl ())))
 (fun y39=>(if inb y39.2.2.2.2.2.1 y39.2.2.1.length then
 let v40:=(w64 (y39.2.2.2.2.1 - 1))
 some (.inl (y39.1,y39.2.1,(aqZ y39.2.2.1 (aqy y39.2.2.2.2.2.1) true),y39.2.2.2.1,v40,()))
 else none)))
 else none
 else
 some (.inr (.inr (x.1,x.2.1,x.2.2.1,())))
def rC:=aR x5
def CG:Loop:=⟨[(0,.int .i64),(5,.row 3 .int),(6,.row 4 .bool),(7,.int .i64),(8,.int .i64)],[(0,.int .i64),(5,.row 3 .int),(6,.row 4 .bool)],0,[],rC⟩
def T6:LF Tryz.f118 [] [1,1,1,1,1,1,0,1,0,0] CG:=sq (v:=t1 (.two (.one (t1 (t1 (.two (.one (.loop CF)) .nil)))) .nil)) uV (b:=x5) (kC TZ kN)
def pE(x:Int×Int×aqq):Option ((List Int×aqq)×aqq):=
 (gu x).bind fun r2=>
 if !r2.1.1 then
 some ((([]:List Int),()),())
 else
 if decide (x.2.1 < x.1) then
 if al (([]:List Int).length+([x.2.1]:List Int).length) then
 some (((([]:List Int)++([x.2.1]:List Int)),()),())
 else none
 else
 if decide (0≤x.1)&&decide (x.1≤4294967296) then
 (eU ((w64 ((w64 (x.2.1 * 7))+1)),())).bind fun r3=>
 (lS x).bind fun r17=>
 (aJ (rC (x.1,([]:List Int),(aqQ (aqy x.1) (dfl .bool)),r3.1.1,r17.1))
 (fun _=>none)
 (fun y41=>(aJ (rB (y41.1,y41.2.1,y41.2.2.1,0,()))
 (fun _=>none)
 (fun y43=>some (y43,())))))
 else none
def AY:Ent:=(118,none,⟨[.int .i64,.int .i64],[.row 3 .int],pE⟩)
def yX:SQ Tryz.prog AY:=sk (v:=t1 (t1 (t1 (t1 (t1 (t1 (.two (t1 (.one (.loop CG))) (.two (t1 (.one (.loop CE))) .nil)))))))) (fn:=Tryz.f118) uV (kC T6 (kC TX kN))
def Um:Cx:=cX [] [] []
def KC:OKC Tryz.prog Um af:=okc mixed (au)
def FB(x:aqp×aqp×List Int×Int×aqq):Rnd (aqp×aqp×List Int×Int×aqq) (aqq) (List Int×aqq):=
 if decide (x.2.2.2.1 < 4) then
 if inb x.2.2.2.1 x.1.size then
 if inb x.2.2.2.1 x.2.1.size then
 if al (x.2.2.1.length+([(te .u8 (bt x.1 x.2.2.2.1) (bt x.2.1 x.2.2.2.1))]:List Int).length) then
 some (.inl (x.1,x.2.1,(x.2.2.1++([(te .u8 (bt x.1 x.2.2.2.1) (bt x.2.1 x.2.2.2.1))]:List Int)),(w64 (x.2.2.2.1+1)),()))
 else none
 else none
 else none
 else
 some (.inr (.inr (x.2.2.1,())))
def rA:=aR FB
def Cy:Loop:=⟨[(0,.str),(1,.str),(5,.row 5 .u8),(6,.int .i64)],[(5,.row 5 .u8)],0,[],rA⟩
def T5:LF Tryz.f120 [] [1,1,0,1,0,0] Cy:=sq (v:= .nil) KC (b:=FB) kN
def pq(x:aqp×aqp×aqq):Option ((aqp×aqq)×aqq):=
 (aJ (rA (x.1,x.2.1,([]:List Int),0,()))
 (fun _=>none)
 (fun y2=>some (((dR y2.1),()),())))
def AX:Ent:=(120,none,⟨[.str,.str],[.str],pq⟩)
def yL:SQ Tryz.prog AX:=sk (v:=t1 (t1 (.two (t1 (.one (.loop Cy))) .nil))) (fn:=Tryz.f120) KC (kC T5 kN)
def Sf:Cx:=cX [AY,AX] [] []
def Gr:OKC Tryz.prog Sf af:=okc mixed (gC yX (gC yL (au)))
def kZ(x:List aqp×List Int×aqp×List Int×Int×aqq):Rnd (List aqp×List Int×aqp×List Int×Int×aqq) (aqq) (List Int×aqp×aqq):=
 if decide (x.2.2.2.2.1 < (x.2.2.2.1.length:Int)) then
 if inb x.2.2.2.2.1 x.2.2.2.1.length then
 if inb (rd (dfl .int) x.2.2.2.1 x.2.2.2.2.1) x.1.length then
 if decide ((rd (dfl .str) x.1 (rd (dfl .int) x.2.2.2.1 x.2.2.2.2.1))=noB) then
 if inb x.2.2.2.2.1 x.2.2.2.1.length then
 if al (x.2.1.length+([(rd (dfl .int) x.2.2.2.1 x.2.2.2.2.1)]:List Int).length) then
 some (.inl (x.1,(x.2.1++([(rd (dfl .int) x.2.2.2.1 x.2.2.2.2.1)]:List Int)),x.2.2.1,x.2.2.2.1,(w64 (x.2.2.2.2.1+1)),()))
 else none
 else none
 else
 if inb x.2.2.2.2.1 x.2.2.2.1.length then
 if inb (rd (dfl .int) x.2.2.2.1 x.2.2.2.2.1) x.1.length then
 (pq (x.2.2.1,(rd (dfl .str) x.1 (rd (dfl .int) x.2.2.2.1 x.2.2.2.2.1)),())).bind fun r8=>
 some (.inl (x.1,x.2.1,r8.1.1,x.2.2.2.1,(w64 (x.2.2.2.2.1+1)),()))
 else none
 else none
 else none
 else none
 else
 some (.inr (.inr (x.2.1,x.2.2.1,())))
def kv:=aR kZ
def Bf:Loop:=⟨[(2,.sl .str),(8,.row 3 .int),(9,.str),(10,.row 3 .int),(11,.int .i64)],[(8,.row 3 .int),(9,.str)],0,[],kv⟩
def Re:LF Tryz.f165 [] [1,1,1,1,0,1,0,0] Bf:=sq (v:= .nil) Gr (b:=kZ) kN
def rY(x:Int×Y5×List aqp×aqq):Option ((List Int×aqp×aqq)×aqq):=
 (pE (x.1,x.2.1.1,())).bind fun r1=>
 (aJ (kv (x.2.2.1,([]:List Int),x.2.1.2.1,r1.1.1,0,()))
 (fun _=>none)
 (fun y9=>some (y9,())))
def F3:Ent:=(165,none,⟨[.int .i64,Z10,.fz .str],[.row 3 .int,.str],rY⟩)
def Iq:SQ Tryz.prog F3:=sk (v:=t1 (t1 (t1 (t1 (.two (t1 (.one (.loop Bf))) .nil))))) (fn:=Tryz.f165) Gr (kC Re kN)
def OK:Cx:=cX [cu,wa,F3] [] []
def wB:OKC Tryz.prog OK af:=okc mixed (gC br (gC vi (gC Iq (au))))
def eV(x:Int×List ajV×List aqp×Bool×Int×aqq):Rnd (Int×List ajV×List aqp×Bool×Int×aqq) (aqq) (Int×List ajV×List aqp×Bool×aqq):=
 if decide (x.2.2.2.2.1 < (x.2.1.length:Int)) then
 if inb x.2.2.2.2.1 x.2.1.length then
 (iE (x.1,((rd (dfl .mixed) x.2.1 x.2.2.2.2.1).nu,(rd (dfl .mixed) x.2.1 x.2.2.2.2.1).da,()),())).bind fun r24=>
 if !r24.1.1 then
 some (.inl (x.1,x.2.1,x.2.2.1,x.2.2.2.1,(w64 (x.2.2.2.2.1+1)),()))
 else
 if inb x.2.2.2.2.1 x.2.1.length then
 (rY (x.1,((rd (dfl .mixed) x.2.1 x.2.2.2.2.1).nu,(rd (dfl .mixed) x.2.1 x.2.2.2.2.1).da,()),x.2.2.1,())).bind fun r25=>
 if decide ((r25.1.1.length:Int)=1) then
 if inb 0 r25.1.1.length then
 if inb (rd (dfl .int) r25.1.1 0) x.2.2.1.length then
 some (.inl (x.1,x.2.1,(aqZ x.2.2.1 (aqy (rd (dfl .int) r25.1.1 0)) r25.1.2.1),true,(w64 (x.2.2.2.2.1+1)),()))
 else none
 else none
 else
 some (.inl (x.1,x.2.1,x.2.2.1,x.2.2.2.1,(w64 (x.2.2.2.2.1+1)),()))
 else none
 else none
 else
 some (.inr (.inr (x.1,x.2.1,x.2.2.1,x.2.2.2.1,())))
def fL:=aR eV
def yV:Loop:=⟨[(0,.int .i64),(1,.sl .mixed),(5,.row 9 .str),(6,.bool),(7,.int .i64)],[(0,.int .i64),(1,.sl .mixed),(5,.row 9 .str),(6,.bool)],2,[],fL⟩
def NV:LF Tryz.f138 [] [1,1,1,1,0,0,0,1,0,1,1,0,0] yV:=sq (v:= .nil) wB (b:=eV) kN
def tG(x:Int×List ajV×List aqp×Bool×aqq):Rnd (Int×List ajV×List aqp×Bool×aqq) (aqq) (List aqp×aqq):=
 if x.2.2.2.1 then
 (aJ (fL (x.1,x.2.1,x.2.2.1,false,0,()))
 (fun _=>some (.inr (.inl ())))
 (fun y26=>some (.inl y26)))
 else
 some (.inr (.inr (x.2.2.1,())))
def oq:=aR tG
def yW:Loop:=⟨[(0,.int .i64),(1,.sl .mixed),(5,.row 9 .str),(6,.bool)],[(5,.row 9 .str)],0,[],oq⟩
def N9:LF Tryz.f138 [] [1,1,1,1,0,0,0] yW:=sq (v:=t1 (.one (t1 (t1 (.one (.loop yV)))))) wB (b:=tG) (kC NV kN)
def pD(x:Int×List ajV×aqq):Option ((List aqp×aqq)×aqq):=
 (ap (x.1,1,6,())).bind fun r2=>
 if !r2.1.1 then
 some ((([]:List aqp),()),())
 else
 if decide (0≤x.1)&&decide (x.1≤4294967296) then
 (aJ (oq (x.1,x.2.1,(aqQ (aqy x.1) (dfl .str)),true,()))
 (fun _=>none)
 (fun y27=>some (y27,())))
 else none
def DL:Ent:=(138,none,⟨[.int .i64,.fz .mixed],[.row 9 .str],pD⟩)
def G2:SQ Tryz.prog DL:=sk (v:=t1 (t1 (t1 (t1 (.two (.one (.loop yW)) .nil))))) (fn:=Tryz.f138) wB (kC N9 kN)
def OJ:Cx:=cX [cu,jR,DL] [] []
def wA:OKC Tryz.prog OJ af:=okc mixed (gC br (gC ie (gC G2 (au))))
def nJ(x:Int×aqp×Int×aqq):Rnd (Int×aqp×Int×aqq) (aqp×Bool×aqq) (Int×aqp×aqq):=
 if decide (x.2.2.1 < (x.2.1.size:Int)) then
 if inb x.2.2.1 x.2.1.size then
 if !decide ((bt x.2.1 x.2.2.1)=0) then
 some (.inr (.inl (noB,false,())))
 else
 some (.inl (x.1,x.2.1,(w64 (x.2.2.1+1)),()))
 else none
 else
 some (.inr (.inr (x.1,x.2.1,())))
def oo:=aR nJ
def yT:Loop:=⟨[(0,.int .i64),(7,.str),(9,.int .i64)],[(0,.int .i64),(7,.str)],2,[(4,.str),(5,.bool)],oo⟩
def NU:LF Tryz.f89 [] [1,1,1,1,1,0,1,0,0] yT:=sq (v:= .nil) wA (b:=nJ) kN
def jJ(x:Int×List aqp×aqp×Int×aqq):Rnd (Int×List aqp×aqp×Int×aqq) (aqp×Bool×aqq) (Int×aqp×aqq):=
 if decide (x.2.2.2.1 < (x.2.1.length:Int)) then
 if inb x.2.2.2.1 x.2.1.length then
 if decide ((rd (dfl .str) x.2.1 x.2.2.2.1)=noB) then
 some (.inr (.inl (noB,false,())))
 else
 if inb x.2.2.2.1 x.2.1.length then
 if decide (x.2.2.1.size+(rd (dfl .str) x.2.1 x.2.2.2.1).size≤4611686018427387904) then
 let v11:=(x.2.2.1++(rd (dfl .str) x.2.1 x.2.2.2.1))
 some (.inl (x.1,x.2.1,v11,(w64 (x.2.2.2.1+1)),()))
 else none
 else none
 else none
 else
 some (.inr (.inr (x.1,x.2.2.1,())))
def ju:=aR jJ
def yU:Loop:=⟨[(0,.int .i64),(6,.row 9 .str),(7,.str),(8,.int .i64)],[(0,.int .i64),(7,.str)],0,[(4,.str),(5,.bool)],ju⟩
def N8:LF Tryz.f89 [] [1,1,1,1,0,1,0,0] yU:=sq (v:= .nil) wA (b:=jJ) kN
def pC(x:Int×List ajV×aqq):Option ((aqp×Bool×aqq)×aqq):=
 (ap (x.1,1,24,())).bind fun r2=>
 if !r2.1.1 then
 some ((noB,false,()),())
 else
 (cy (x.1,())).bind fun r3=>
 (pD (r3.1.1,x.2)).bind fun r4=>
 (aJ (ju (x.1,r4.1.1,noB,0,()))
 (fun y12=>some (y12,()))
 (fun y12=>(aJ (oo (y12.1,y12.2.1,y12.1,()))
 (fun y14=>some (y14,()))
 (fun y14=>(if decide (0≤y14.1)&&decide (y14.1≤(y14.2.1.size:Int)) then
 let v15:=(y14.2.1.extract (0) (aqy y14.1))
 some ((v15,true,()),())
 else none)))))
def DK:Ent:=(89,none,⟨[.int .i64,.fz .mixed],[.str,.bool],pC⟩)
def G1:SQ Tryz.prog DK:=sk (v:=t1 (t1 (t1 (t1 (.two (t1 (.one (.loop yU))) (.two (t1 (.one (.loop yT))) .nil)))))) (fn:=Tryz.f89) wA (kC N8 (kC NU kN))
def Mf:Cx:=cX [cc,dD,gq,zO,lD,gL,tl,jR,F4,DK,wb,fC] [] [(39,46),(62,68)]
def O4:OKC Tryz.prog Mf af:=okc mixed (gC bu (gC cr (gC fb (gC CB (gC jr (gC fW (gC nB (gC ie (gC Ir (gC G1 (gC vm (gC ee (au)))))))))))))
def jH(x:Y3×Y7×aqq):Option ((Y3×List Frame×aqq)×aqq):=
 (bd (x.1,())).bind fun r1=>
 if decide (x.2.1.2.2.2.2.2.2.1≤r1.1.1.2.1) then
 (lL (3,x.2)).bind fun r3=>
 some ((x.1,([(Frame.mk r3.1.1.1 r3.1.1.2.1 r3.1.1.2.2.1 r3.1.1.2.2.2.1 r3.1.1.2.2.2.2.1 r3.1.1.2.2.2.2.2.1 r3.1.1.2.2.2.2.2.2.1 r3.1.1.2.2.2.2.2.2.2.1 r3.1.1.2.2.2.2.2.2.2.2.1 r3.1.1.2.2.2.2.2.2.2.2.2.1)]:List Frame),()),())
 else
 (aW (r1.1.1.2.2.2.1,x.2.1.2.2.2.1,x.2.1.2.2.2.2.1,())).bind fun r8=>
 if bg (!(decide (0≤r8.1.1))) ((cq (r1.1.1.2.2.2.2.1,x.2.1.2.2.2.1,x.2.1.2.2.2.2.1,())).isSome) then
 if(decide (0≤r8.1.1))||(decide (0≤((cq (r1.1.1.2.2.2.2.1,x.2.1.2.2.2.1,x.2.1.2.2.2.2.1,())).getD ((0,()),())).1.1)) then
 (cK ((x.1.2.2.1,x.1.2.2.2.1,()),())).bind fun r9=>
 (lL (2,x.2)).bind fun r10=>
 some (((x.1.1,x.1.2.1,r9.1.1.1,r9.1.1.2.1,x.1.2.2.2.2),([(Frame.mk r10.1.1.1 r10.1.1.2.1 r10.1.1.2.2.1 r10.1.1.2.2.2.1 r10.1.1.2.2.2.2.1 r10.1.1.2.2.2.2.2.1 r10.1.1.2.2.2.2.2.2.1 r10.1.1.2.2.2.2.2.2.2.1 r10.1.1.2.2.2.2.2.2.2.2.1 r10.1.1.2.2.2.2.2.2.2.2.2.1)]:List Frame),()),())
 else
 if bg (!(decide (x.2.1.2.2.2.1=x.1.1))) ((cy (x.2.1.2.2.2.2.2.2.2.1,())).isSome) then
 if bg (!(decide (x.2.1.2.2.2.1=x.1.1))) ((gu (((cy (x.2.1.2.2.2.2.2.2.2.1,())).getD ((0,()),())).1.1,x.2.1.2.2.2.2.2.2.2.2.1,())).isSome) then
 if(decide (x.2.1.2.2.2.1=x.1.1))||(!(((gu (((cy (x.2.1.2.2.2.2.2.2.2.1,())).getD ((0,()),())).1.1,x.2.1.2.2.2.2.2.2.2.2.1,())).getD ((false,()),())).1.1)) then
 some ((x.1,([]:List Frame),()),())
 else
 (rZ x).bind fun r11=>
 if decide (r11.1.2.1 < 0) then
 some ((r11.1.1,([]:List Frame),()),())
 else
 if inb r11.1.2.1 r11.1.1.2.2.2.2.1.length then
 (pC (x.2.1.2.2.2.2.2.2.2.1,(rd (dfl .half) r11.1.1.2.2.2.2.1 r11.1.2.1).got,())).bind fun r12=>
 if !r12.1.2.1 then
 some ((r11.1.1,([]:List Frame),()),())
 else
 (fI (r11.1.1.2.2.2.2.1,r11.1.2)).bind fun r13=>
 (bN ((x.2.1.2.2.2.1,x.2.1.2.2.2.2.1,x.2.1.2.2.2.2.2.1,x.2.1.2.2.2.2.2.2.1,r12.1.1,()),())).bind fun r14=>
 if decide (r14.1.1=noB) then
 some (((r11.1.1.1,r11.1.1.2.1,r11.1.1.2.2.1,r11.1.1.2.2.2.1,r13.1),([]:List Frame),()),())
 else
 if decide ((B [116,97,107,101,32]).size+r14.1.1.size≤4611686018427387904) then
 (bW ((r11.1.1.1,r11.1.1.2.1,r11.1.1.2.2.1,r11.1.1.2.2.2.1,r13.1),((B [116,97,107,101,32])++r14.1.1),true,())).bind fun r15=>
 if !r15.1.2.1 then
 some ((r15.1.1,([]:List Frame),()),())
 else
 (lL (2,x.2)).bind fun r16=>
 some ((r15.1.1,([(Frame.mk r16.1.1.1 r16.1.1.2.1 r16.1.1.2.2.1 r16.1.1.2.2.2.1 r16.1.1.2.2.2.2.1 r16.1.1.2.2.2.2.2.1 r16.1.1.2.2.2.2.2.2.1 r16.1.1.2.2.2.2.2.2.2.1 r16.1.1.2.2.2.2.2.2.2.2.1 r16.1.1.2.2.2.2.2.2.2.2.2.1)]:List Frame),()),())
 else none
 else none
 else none
 else none
 else none
def BO:Ent:=(42,none,⟨[Z15,Z16],[Z8,.fz .frame],jH⟩)
def EV:SQ Tryz.prog BO:=sk (v:= .nil) (fn:=Tryz.f42) O4 kN
def Me:Cx:=cX [fc] [] []
def O3:OKC Tryz.prog Me af:=okc mixed (gC dd (au))
def dH(x:Int×Int×Int×aqq):Option ((aqp×aqq)×aqq):=
 (aC (x.1,())).bind fun r1=>
 if decide (r1.1.1.size+(B [32]).size≤4611686018427387904) then
 (aC (x.2.1,())).bind fun r2=>
 if decide ((r1.1.1++(B [32])).size+r2.1.1.size≤4611686018427387904) then
 if decide (((r1.1.1++(B [32]))++r2.1.1).size+(B [32]).size≤4611686018427387904) then
 (aC x.2.2).bind fun r3=>
 if decide ((((r1.1.1++(B [32]))++r2.1.1)++(B [32])).size+r3.1.1.size≤4611686018427387904) then
 let v4:=((((r1.1.1++(B [32]))++r2.1.1)++(B [32]))++r3.1.1)
 some ((v4,()),())
 else none
 else none
 else none
 else none
def nV:Ent:=(46,none,⟨[.int .i64,.int .i64,.int .i64],[.str],dH⟩)
def mF:SQ Tryz.prog nV:=sk (v:= .nil) (fn:=Tryz.f46) O3 kN
def HM:Cx:=cX [cB,dC,wi,BO,cc,dD,gq,nV] [] []
def KH:OKC Tryz.prog HM af:=okc mixed (gC bG (gC cn (gC vu (gC EV (gC bu (gC cr (gC fb (gC mF (au)))))))))
def aq(x:Y3×Y7×aqq):Option ((Y3×List Frame×aqq)×aqq):=
 (bJ (x.1,())).bind fun r2=>
 if !r2.1.1 then
 some (((0,false,noB,0,([]:List ajY),()),([]:List Frame),()),())
 else
 (aZ (x.1,())).bind fun r3=>
 if !x.1.2.1 then
 some ((r3.1.1,([]:List Frame),()),())
 else
 (lf x.2).bind fun r6=>
 if !r6.1.1 then
 some ((r3.1.1,([]:List Frame),()),())
 else
 if !decide (x.2.1.2.2.1=x.1.1) then
 some ((r3.1.1,([]:List Frame),()),())
 else
 if decide (x.2.1.1=1) then
 (jH (r3.1.1,x.2)).bind fun r9=>
 (aZ (r9.1.1,())).bind fun r10=>
 some ((r10.1.1,r9.1.2),())
 else
 (bd (x.1,())).bind fun r11=>
 (aW (r11.1.1.2.2.2.1,x.2.1.2.2.2.1,x.2.1.2.2.2.2.1,())).bind fun r12=>
 if !decide (x.2.1.1=2) then
 some ((r3.1.1,([]:List Frame),()),())
 else
 if decide (r12.1.1 < 0) then
 some ((r3.1.1,([]:List Frame),()),())
 else
 if inb r12.1.1 r11.1.1.2.2.2.1.length then
 if !decide ((rd (dfl .note) r11.1.1.2.2.2.1 r12.1.1).un=x.2.1.2.2.2.2.2.2.1) then
 some ((r3.1.1,([]:List Frame),()),())
 else
 if inb r12.1.1 r11.1.1.2.2.2.1.length then
 if !decide ((rd (dfl .note) r11.1.1.2.2.2.1 r12.1.1).to=x.2.1.2.2.2.2.2.1) then
 some ((r3.1.1,([]:List Frame),()),())
 else
 (dH (x.2.1.2.2.2.1,x.2.1.2.2.2.2.1,x.2.1.2.2.2.2.2.2.1,())).bind fun r13=>
 if decide ((B [108,101,116,32]).size+r13.1.1.size≤4611686018427387904) then
 (bW (r3.1.1,((B [108,101,116,32])++r13.1.1),false,())).bind fun r14=>
 some ((r14.1.1,([]:List Frame),()),())
 else none
 else none
 else none
def xJ:Ent:=(12,none,⟨[Z8,Z16],[Z8,.fz .frame],aq⟩)
def Cb:SQ Tryz.prog xJ:=sk (v:= .nil) (fn:=Tryz.f12) KH kN
def Sr:Cx:=cX [jR] [] [(12,14)]
def yB:OKC Tryz.prog Sr af:=okc mixed (gC ie (au))
def pI(x:aqp×List aqp×Int×List Int×Int×aqq):Rnd (aqp×List aqp×Int×List Int×Int×aqq) (aqq) (aqp×List aqp×Int×List Int×aqq):=
 if decide (x.2.2.2.2.1 < (w64 ((w64 (x.2.2.1+1)) * 4))) then
 if decide (x.2.2.2.2.1 < (x.1.size:Int)) then
 if inb x.2.2.2.2.1 x.1.size then
 if al (x.2.2.2.1.length+([(bt x.1 x.2.2.2.2.1)]:List Int).length) then
 some (.inl (x.1,x.2.1,x.2.2.1,(x.2.2.2.1++([(bt x.1 x.2.2.2.2.1)]:List Int)),(w64 (x.2.2.2.2.1+1)),()))
 else none
 else none
 else
 if al (x.2.2.2.1.length+([0]:List Int).length) then
 some (.inl (x.1,x.2.1,x.2.2.1,(x.2.2.2.1++([0]:List Int)),(w64 (x.2.2.2.2.1+1)),()))
 else none
 else
 some (.inr (.inr (x.1,x.2.1,x.2.2.1,x.2.2.2.1,())))
def pG:=aR pI
def Bl:Loop:=⟨[(0,.str),(3,.row 9 .str),(4,.int .i64),(5,.row 5 .u8),(6,.int .i64)],[(0,.str),(3,.row 9 .str),(4,.int .i64),(5,.row 5 .u8)],2,[],pG⟩
def Q6:LF Tryz.f117 [] [1,1,1,0,1,0,0,1,0,0,1,0,1,0,0] Bl:=sq (v:= .nil) yB (b:=pI) kN
def pJ(x:aqp×List aqp×Int×aqq):Rnd (aqp×List aqp×Int×aqq) (aqq) (List aqp×aqq):=
 (cy ((x.1.size:Int),())).bind fun r13=>
 if decide (x.2.2.1 < r13.1.1) then
 (aJ (pG (x.1,x.2.1,x.2.2.1,([]:List Int),(w64 (x.2.2.1 * 4)),()))
 (fun _=>some (.inr (.inl ())))
 (fun y16=>(if al (y16.2.1.length+([(dR y16.2.2.2.1)]:List aqp).length) then
 some (.inl (y16.1,(y16.2.1++([(dR y16.2.2.2.1)]:List aqp)),(w64 (y16.2.2.1+1)),()))
 else none)))
 else
 some (.inr (.inr (x.2.1,())))
def pH:=aR pJ
def Bm:Loop:=⟨[(0,.str),(3,.row 9 .str),(4,.int .i64)],[(3,.row 9 .str)],0,[],pH⟩
def Ri:LF Tryz.f117 [] [1,1,1,0,1,0,0] Bm:=sq (v:=t1 (.two (.one (t1 (.two (t1 (.one (.loop Bl))) .nil))) .nil)) yB (b:=pJ) (kC Q6 kN)
def sj(x:aqp×aqq):Option ((List aqp×aqq)×aqq):=
 if(decide ((x.1.size:Int) < 1))||(decide (24 < (x.1.size:Int))) then
 some ((([]:List aqp),()),())
 else
 (aJ (pH (x.1,([]:List aqp),0,()))
 (fun _=>none)
 (fun y17=>some (y17,())))
def Gb:Ent:=(117,none,⟨[.str],[.row 9 .str],sj⟩)
def Iz:SQ Tryz.prog Gb:=sk (v:=t1 (t1 (t1 (.two (t1 (.one (.loop Bm))) .nil)))) (fn:=Tryz.f117) yB (kC Ri kN)
def Se:Cx:=cX [] [] []
def Uz:OKC Tryz.prog Se af:=okc mixed (au)
def xX(x:aqq):Option ((aqp×aqq)×aqq):=
 if decide (0≤4)&&decide (4≤4294967296) then
 let v1:=(dR (aqQ (aqy 4) (dfl .u8)))
 some ((v1,()),())
 else none
def F2:Ent:=(119,none,⟨[],[.str],xX⟩)
def Ip:SQ Tryz.prog F2:=sk (v:= .nil) (fn:=Tryz.f119) Uz kN
def OL:Cx:=cX [Gb,AY,F2,AX] [] [(19,21)]
def D9:OKC Tryz.prog OL af:=okc mixed (gC Iz (gC yX (gC Ip (gC yL (au)))))
def nK(x:List aqp×List Int×aqp×Int×aqq):Rnd (List aqp×List Int×aqp×Int×aqq) (aqq) (aqp×aqq):=
 if decide (x.2.2.2.1 < (x.2.1.length:Int)) then
 if inb x.2.2.2.1 x.2.1.length then
 if inb (rd (dfl .int) x.2.1 x.2.2.2.1) x.1.length then
 (pq (x.2.2.1,(rd (dfl .str) x.1 (rd (dfl .int) x.2.1 x.2.2.2.1)),())).bind fun r10=>
 some (.inl (x.1,x.2.1,r10.1.1,(w64 (x.2.2.2.1+1)),()))
 else none
 else none
 else
 some (.inr (.inr (x.2.2.1,())))
def jv:=aR nK
def yY:Loop:=⟨[(5,.row 9 .str),(6,.row 3 .int),(7,.str),(8,.int .i64)],[(7,.str)],0,[],jv⟩
def Oa:LF Tryz.f64 [] [1,1,1,1,1,0,1,0,0] yY:=sq (v:= .nil) D9 (b:=nK) kN
def pF(x:aqp×Int×aqq):Option ((aqp×aqq)×aqq):=
 (sj (x.1,())).bind fun r1=>
 (pE ((r1.1.1.length:Int),x.2)).bind fun r2=>
 if(decide ((r1.1.1.length:Int)=0))||(decide ((r2.1.1.length:Int)=0)) then
 some ((noB,()),())
 else
 (xX ()).bind fun r3=>
 (aJ (jv (r1.1.1,r2.1.1,r3.1.1,0,()))
 (fun _=>none)
 (fun y11=>some (y11,())))
def DM:Ent:=(64,none,⟨[.str,.int .i64],[.str],pF⟩)
def G3:SQ Tryz.prog DM:=sk (v:=t1 (t1 (t1 (t1 (t1 (.two (t1 (.one (.loop yY))) .nil)))))) (fn:=Tryz.f64) D9 (kC Oa kN)
def Kc:Cx:=cX [cB,tT,cc,dD,cu,DM] [] [(18,20),(36,38)]
def MM:OKC Tryz.prog Kc af:=okc mixed (gC bG (gC uo (gC bu (gC cr (gC br (gC G3 (au)))))))
def ft(x:Y3×Int×Int×Int×aqq):Option ((Y7×Bool×aqq)×aqq):=
 (bJ (x.1,())).bind fun r3=>
 if(!r3.1.1)||(!x.1.2.1) then
 some (((0,0,0,0,0,0,0,0,0,noB,()),false,()),())
 else
 (bd (x.1,())).bind fun r4=>
 (aW (r4.1.1.2.2.2.1,x.2.1,x.2.2.1,())).bind fun r5=>
 if bg (!(decide (r5.1.1 < 0))) ((ap (x.2.2.2.1,0,999,())).isSome) then
 if(decide (r5.1.1 < 0))||(!(((ap (x.2.2.2.1,0,999,())).getD ((false,()),())).1.1)) then
 some (((0,0,0,0,0,0,0,0,0,noB,()),false,()),())
 else
 if inb r5.1.1 r4.1.1.2.2.2.1.length then
 let v6:=(rd (dfl .note) r4.1.1.2.2.2.1 r5.1.1).fr
 let v7:=(rd (dfl .note) r4.1.1.2.2.2.1 r5.1.1).nu
 let v8:=(rd (dfl .note) r4.1.1.2.2.2.1 r5.1.1).to
 let v9:=(rd (dfl .note) r4.1.1.2.2.2.1 r5.1.1).un
 let v10:=(rd (dfl .note) r4.1.1.2.2.2.1 r5.1.1).tx
 (gf (x.1.1,v8,())).bind fun r11=>
 (pF (v10,x.2.2.2)).bind fun r12=>
 some (((1,x.1.1,r11.1.1,v6,v7,v8,v9,(v10.size:Int),x.2.2.2.1,r12.1),true,()),())
 else none
 else none
def rM:Ent:=(23,none,⟨[Z8,.int .i64,.int .i64,.int .i64],[Z16,.bool],ft⟩)
def sS:SQ Tryz.prog rM:=sk (v:= .nil) (fn:=Tryz.f23) MM kN
def Sa:Cx:=cX [] [] []
def Uy:OKC Tryz.prog Sa af:=okc mixed (au)
def rW(x:List Int×aqq):Option ((Y8×aqq)×aqq):=
 if decide (2000 < (x.1.length:Int)) then
 if decide (0≤2000)&&decide (2000≤(x.1.length:Int)) then
 let v2:=(aqR (aqy 2000) x.1)
 some (((v2,0,()),()),())
 else none
 else
 some (((x.1,0,()),()),())
def F1:Ent:=(33,none,⟨[.fz .u8],[Z19],rW⟩)
def Im:SQ Tryz.prog F1:=sk (v:= .nil) (fn:=Tryz.f33) Uy kN
def J3:Cx:=cX [] [] [(18,23)]
def MH:OKC Tryz.prog J3 af:=okc mixed (au)
def ab(x:Y8×Int×aqq):Option ((Int×aqq)×(Y8×aqq)):=
 if(decide (x.2.1 < 1))||(decide ((x.1.1.length:Int)=0)) then
 some ((0,()),((x.1.1,(w64 (x.1.2.1+1)),()),()))
 else
 let v1:=(w64 ((w64 (x.1.2.1+1)) - 1))
 (if decide (v1 < (x.1.1.length:Int)) then
 if inb v1 x.1.1.length then
 if !decide (x.2.1=0) then
 let v3:=(arh (w64 (rd (dfl .u8) x.1.1 v1)) x.2.1)
 some ((v3,()),((x.1.1,(w64 (x.1.2.1+1)),()),()))
 else none
 else none
 else
 if !decide ((x.1.1.length:Int)=0) then
 if inb (arh v1 (x.1.1.length:Int)) x.1.1.length then
 if !decide ((x.1.1.length:Int)=0) then
 if inb (arh (w64 ((w64 (v1 * 7))+3)) (x.1.1.length:Int)) x.1.1.length then
 if !decide ((x.1.1.length:Int)=0) then
 let v4:=(w64 ((w64 ((w64 ((w64 ((w64 (rd (dfl .u8) x.1.1 (arh v1 (x.1.1.length:Int)))) * 131))+(w64 ((w64 (rd (dfl .u8) x.1.1 (arh (w64 ((w64 (v1 * 7))+3)) (x.1.1.length:Int)))) * 1117))))+(w64 (v1 * 29))))+(w64 ((w64 (aqU v1 (x.1.1.length:Int))) * 53))))
 let v5:=(te .i64 v4 (w64 (aqU v4 64)))
 (if !decide (x.2.1=0) then
 some (((arh v5 x.2.1),()),((x.1.1,(w64 (x.1.2.1+1)),()),()))
 else none)
 else none
 else none
 else none
 else none
 else none)
def aX:Ent:=(36,none,⟨[Z19,.int .i64],[.int .i64],ab⟩)
def aL:SQ Tryz.prog aX:=sk (v:= .nil) (fn:=Tryz.f36) MH kN
def Fq:Cx:=cX [bL] [] []
def HV:OKC Tryz.prog Fq af:=okc mixed (gC bo (au))
def fM(x:Int×aqq):Option ((Y3×aqq)×aqq):=
 (aQ x).bind fun r2=>
 if !r2.1.1 then
 some (((0,false,noB,0,([]:List ajY),()),()),())
 else
 some (((x.1,true,noB,0,([]:List ajY),()),()),())
def wc:Ent:=(151,none,⟨[.int .i64],[Z15],fM⟩)
def Ap:SQ Tryz.prog wc:=sk (v:= .nil) (fn:=Tryz.f151) HV kN
def HI:Cx:=cX [wc] [] []
def q5:OKC Tryz.prog HI af:=okc mixed (gC Ap (au))
def fK(x:Y9×Y9×Int×aqq):Rnd (Y9×Y9×Int×aqq) (aqq) (Y9×Y9×aqq):=
 if decide ((w64 (x.2.2.1+1)) < 4) then
 if al (x.2.1.2.2.1.length+([true]:List Bool).length) then
 some (.inl (x.1,(x.2.1.1,x.2.1.2.1,(x.2.1.2.2.1++([true]:List Bool)),x.2.1.2.2.2),(w64 (x.2.2.1+1)),()))
 else none
 else
 some (.inr (.inr (x.1,x.2.1,())))
def kh:=aR fK
def uj:Loop:=⟨[(0,Z20),(1,Z20),(3,.int .i64)],[(0,Z20),(1,Z20)],2,[],kh⟩
def Hg:LF Tryz.f114 [] [1,1,1,0,1,0,0] uj:=sq (v:= .nil) q5 (b:=fK) kN
def jt(x:Y9×Y9×Int×aqq):Rnd (Y9×Y9×Int×aqq) (aqq) (Y9×Y9×aqq):=
 if decide (x.2.2.1 < 4) then
 (fM x.2.2).bind fun r11=>
 if al (x.2.1.2.1.length+([(ajR.mk r11.1.1.1 r11.1.1.2.1 r11.1.1.2.2.1 r11.1.1.2.2.2.1 r11.1.1.2.2.2.2.1)]:List ajR).length) then
 some (.inl (x.1,(x.2.1.1,(x.2.1.2.1++([(ajR.mk r11.1.1.1 r11.1.1.2.1 r11.1.1.2.2.1 r11.1.1.2.2.2.1 r11.1.1.2.2.2.2.1)]:List ajR)),x.2.1.2.2),(w64 (x.2.2.1+1)),()))
 else none
 else
 some (.inr (.inr (x.1,x.2.1,())))
def kj:=aR jt
def uk:Loop:=⟨[(0,Z20),(1,Z20),(2,.int .i64)],[(0,Z20),(1,Z20)],0,[],kj⟩
def Hj:LF Tryz.f114 [] [1,1,0,1,0,0] uk:=sq (v:= .nil) q5 (b:=jt) kN
def kG(x:aqq):Option ((Y9×aqq)×aqq):=
 (aJ (kj ((0,([]:List ajR),([]:List Bool),([]:List ajW),([]:List ajT),([]:List ajT),()),(0,([]:List ajR),([]:List Bool),([]:List ajW),([]:List ajT),([]:List ajT),()),0,()))
 (fun _=>none)
 (fun y12=>(aJ (kh (y12.1,y12.2.1,0,()))
 (fun _=>none)
 (fun y14=>some (y14.2,())))))
def xF:Ent:=(114,none,⟨[],[Z21],kG⟩)
def B7:SQ Tryz.prog xF:=sk (v:=t1 (t1 (.two (t1 (.one (.loop uk))) (.two (t1 (.one (.loop uj))) .nil)))) (fn:=Tryz.f114) q5 (kC Hj (kC Hg kN))
def Ov:Cx:=cX [aX] [] []
def S3:OKC Tryz.prog Ov af:=okc mixed (gC aL (au))
def cm(x:Y8×List aqp×aqq):Option ((aqp×aqq)×(Y8×aqq)):=
 (ab (x.1,(x.2.1.length:Int),())).bind fun r1=>
 if inb r1.1.1 x.2.1.length then
 let v2:=(rd (dfl .str) x.2.1 r1.1.1)
 some ((v2,()),r1.2)
 else none
def iY:Ent:=(82,none,⟨[Z19,.fz .str],[.str],cm⟩)
def fH:SQ Tryz.prog iY:=sk (v:= .nil) (fn:=Tryz.f82) S3 kN
def Sj:Cx:=cX [] [] []
def UB:OKC Tryz.prog Sj af:=okc mixed (au)
def fh(x:List Int×Int×aqq):Option ((List Int×aqq)×aqq):=
 if al (x.1.length+([(w8 (w64 (aqU x.2.1 256))),(w8 (arh x.2.1 256))]:List Int).length) then
 some (((x.1++([(w8 (w64 (aqU x.2.1 256))),(w8 (arh x.2.1 256))]:List Int)),()),())
 else none
def F5:Ent:=(134,none,⟨[.row 5 .u8,.int .i64],[.row 5 .u8],fh⟩)
def Is:SQ Tryz.prog F5:=sk (v:= .nil) (fn:=Tryz.f134) UB kN
def Ms:Cx:=cX [] [] []
def B2:OKC Tryz.prog Ms af:=okc mixed (au)
def lZ(x:List Int×Int×Int×aqq):Rnd (List Int×Int×Int×aqq) (aqq) (Int×aqq):=
 if decide (x.2.2.1 < (x.1.length:Int)) then
 if inb x.2.2.1 x.1.length then
 let v7:=(arh (w64 (x.2.1+(w64 ((w64 ((arh x.2.2.1 1000)+1)) * (w64 (rd (dfl .u8) x.1 x.2.2.1)))))) 65521)
 some (.inl (x.1,v7,(w64 (x.2.2.1+1)),()))
 else none
 else
 some (.inr (.inr (x.2.1,())))
def iq:=aR lZ
def xg:Loop:=⟨[(0,.sl .u8),(3,.int .i64),(4,.int .i64)],[(3,.int .i64)],0,[],iq⟩
def LJ:LF Tryz.f135 [] [1,1,0,1,0,0] xg:=sq (v:= .nil) B2 (b:=lZ) kN
def gh(x:List Int×aqq):Option ((Int×aqq)×aqq):=
 (aJ (iq (x.1,0,0,()))
 (fun _=>none)
 (fun y8=>some (y8,())))
def BU:Ent:=(135,none,⟨[.fz .u8],[.int .i64],gh⟩)
def E4:SQ Tryz.prog BU:=sk (v:=t1 (t1 (.two (t1 (.one (.loop xg))) .nil))) (fn:=Tryz.f135) B2 (kC LJ kN)
def Kg:Cx:=cX [wi,F5,BU] [] []
def MQ:OKC Tryz.prog Kg af:=okc mixed (gC vu (gC Is (gC E4 (au))))
def dS(x:Y7×aqq):Option ((List Int×aqq)×aqq):=
 (lf x).bind fun r2=>
 if !r2.1.1 then
 some ((([]:List Int),()),())
 else
 if al (([]:List Int).length+([(w8 x.1.1),(w8 x.1.2.1),(w8 x.1.2.2.1),(w8 x.1.2.2.2.1),(w8 x.1.2.2.2.2.1),(w8 x.1.2.2.2.2.2.1)]:List Int).length) then
 (fh ((([]:List Int)++([(w8 x.1.1),(w8 x.1.2.1),(w8 x.1.2.2.1),(w8 x.1.2.2.2.1),(w8 x.1.2.2.2.2.1),(w8 x.1.2.2.2.2.2.1)]:List Int)),x.1.2.2.2.2.2.2.1,())).bind fun r3=>
 if decide (x.1.1=1) then
 if al (r3.1.1.length+([(w8 x.1.2.2.2.2.2.2.2.1)]:List Int).length) then
 (fh ((r3.1.1++([(w8 x.1.2.2.2.2.2.2.2.1)]:List Int)),x.1.2.2.2.2.2.2.2.2.1,())).bind fun r5=>
 if al x.1.2.2.2.2.2.2.2.2.2.1.size then
 if al (r5.1.1.length+(aH x.1.2.2.2.2.2.2.2.2.2.1).length) then
 (gh ((r5.1.1++(aH x.1.2.2.2.2.2.2.2.2.2.1)),())).bind fun r6=>
 (fh ((r5.1.1++(aH x.1.2.2.2.2.2.2.2.2.2.1)),r6.1)).bind fun r7=>
 some (r7.1,())
 else none
 else none
 else none
 else
 (gh r3.1).bind fun r8=>
 (fh (r3.1.1,r8.1)).bind fun r9=>
 some (r9.1,())
 else none
def rN:Ent:=(80,none,⟨[Z16],[.row 5 .u8],dS⟩)
def sU:SQ Tryz.prog rN:=sk (v:= .nil) (fn:=Tryz.f80) MQ kN
def Ft:Cx:=cX [rN] [] [(9,11)]
def HX:OKC Tryz.prog Ft af:=okc mixed (gC sU (au))
def av(x:List Int×aqq):Option ((Y7×Bool×aqq)×aqq):=
 if(!decide ((x.1.length:Int)=10))&&(!decide ((x.1.length:Int)=17)) then
 some (((0,0,0,0,0,0,0,0,0,noB,()),false,()),())
 else
 if inb 0 x.1.length then
 if inb 1 x.1.length then
 if inb 2 x.1.length then
 if inb 3 x.1.length then
 if inb 4 x.1.length then
 if inb 5 x.1.length then
 if inb 6 x.1.length then
 if inb 7 x.1.length then
 let v1:=(w64 (rd (dfl .u8) x.1 0))
 let v2:=(w64 (rd (dfl .u8) x.1 1))
 let v3:=(w64 (rd (dfl .u8) x.1 2))
 let v4:=(w64 (rd (dfl .u8) x.1 3))
 let v5:=(w64 (rd (dfl .u8) x.1 4))
 let v6:=(w64 (rd (dfl .u8) x.1 5))
 let v7:=(w64 ((w64 ((w64 (rd (dfl .u8) x.1 6)) * 256))+(w64 (rd (dfl .u8) x.1 7))))
 (bB (X:=List Int×Y7×Y7×aqq) (fun j11=>
 (dS j11.2.2).bind fun r16=>
 if !decide ((dR r16.1.1)=(dR j11.1)) then
 some (((0,0,0,0,0,0,0,0,0,noB,()),false,()),())
 else
 some ((j11.2.2.1,true,()),()))
 ((if decide (10 < (x.1.length:Int)) then
 if inb 8 x.1.length then
 let v12:=(w64 (rd (dfl .u8) x.1 8))
 (if inb 9 x.1.length then
 if inb 10 x.1.length then
 let v13:=(w64 ((w64 ((w64 (rd (dfl .u8) x.1 9)) * 256))+(w64 (rd (dfl .u8) x.1 10))))
 (if(decide (0≤15)&&decide (15≤(x.1.length:Int)))&&(decide (0≤11)&&decide (11≤15)) then
 let v14:=(dR (aq9 (aqy 11) (aqR (aqy 15) x.1)))
 some (.inr (x.1,(0,0,0,0,0,0,0,0,0,noB,()),(v1,v2,v3,v4,v5,v6,v7,v12,v13,v14,()),()))
 else none)
 else none
 else none)
 else none
 else
 some (.inr (x.1,(0,0,0,0,0,0,0,0,0,noB,()),(v1,v2,v3,v4,v5,v6,v7,0,0,noB,()),())))))
 else none
 else none
 else none
 else none
 else none
 else none
 else none
 else none
def wh:Ent:=(35,none,⟨[.fz .u8],[Z16,.bool],av⟩)
def Ar:SQ Tryz.prog wh:=sk (v:=t1 (t1 (t1 (.join [(0,.sl .u8),(2,Z18),(4,Z18)] .nil .nil)))) (fn:=Tryz.f35) HX kN
def Ox:Cx:=cX [] [] []
def S4:OKC Tryz.prog Ox af:=okc mixed (au)
def iD(x:Int×Int×aqq):Option ((Int×aqq)×aqq):=
 if decide (x.1 < x.2.1) then
 some ((x.1,()),())
 else
 some (x.2,())
def DF:Ent:=(211,none,⟨[.int .i64,.int .i64],[.int .i64],iD⟩)
def GU:SQ Tryz.prog DF:=sk (v:= .nil) (fn:=Tryz.f211) S4 kN
def Ow:Cx:=cX [rN] [] [(11,13)]
def D4:OKC Tryz.prog Ow af:=okc mixed (gC sU (au))
def jF(x:List ajW×List Frame×Int×aqq):Rnd (List ajW×List Frame×Int×aqq) (aqq) (List ajW×aqq):=
 if(decide (x.2.2.1 < (x.2.1.length:Int)))&&(decide ((x.1.length:Int) < 30)) then
 if inb x.2.2.1 x.2.1.length then
 if inb x.2.2.1 x.2.1.length then
 if inb x.2.2.1 x.2.1.length then
 (dS (((rd (dfl .frame) x.2.1 x.2.2.1).ki,(rd (dfl .frame) x.2.1 x.2.2.1).src,(rd (dfl .frame) x.2.1 x.2.2.1).dst,(rd (dfl .frame) x.2.1 x.2.2.1).fr,(rd (dfl .frame) x.2.1 x.2.2.1).nu,(rd (dfl .frame) x.2.1 x.2.2.1).to,(rd (dfl .frame) x.2.1 x.2.2.1).un,(rd (dfl .frame) x.2.1 x.2.2.1).sz,(rd (dfl .frame) x.2.1 x.2.2.1).mix,(rd (dfl .frame) x.2.1 x.2.2.1).da,()),())).bind fun r7=>
 if al (x.1.length+([(ajW.mk ((rd (dfl .frame) x.2.1 x.2.2.1).src) ((rd (dfl .frame) x.2.1 x.2.2.1).dst) (dR r7.1.1) false)]:List ajW).length) then
 some (.inl ((x.1++([(ajW.mk ((rd (dfl .frame) x.2.1 x.2.2.1).src) ((rd (dfl .frame) x.2.1 x.2.2.1).dst) (dR r7.1.1) false)]:List ajW)),x.2.1,(w64 (x.2.2.1+1)),()))
 else none
 else none
 else none
 else none
 else
 some (.inr (.inr (x.1,())))
def n6:=aR jF
def yK:Loop:=⟨[(0,.row 74 .aj4),(1,.sl .frame),(5,.int .i64)],[(0,.row 74 .aj4)],0,[],n6⟩
def N2:LF Tryz.f212 [] [1,0,1,0,0] yK:=sq (v:= .nil) D4 (b:=jF) kN
def aM(x:List ajW×List Frame×aqq):Option ((List ajW×aqq)×aqq):=
 (aJ (n6 (x.1,x.2.1,0,()))
 (fun _=>none)
 (fun y8=>some (y8,())))
def DE:Ent:=(212,none,⟨[.row 74 .aj4,.fz .frame],[.row 74 .aj4],aM⟩)
def GS:SQ Tryz.prog DE:=sk (v:=t1 (.two (t1 (.one (.loop yK))) .nil)) (fn:=Tryz.f212) D4 (kC N2 kN)
def J8:Cx:=cX [ja,iZ] [] []
def MJ:OKC Tryz.prog J8 af:=okc mixed (gC fJ (gC gv (au)))
def lQ(x:Y4×Int×aqq):Option ((Y4×aqq)×aqq):=
 (ed (x.1,())).bind fun r2=>
 if !r2.1.1 then
 some (((noB,0,()),()),())
 else
 (bB (X:=Int×Y4×Y4×Int×aqq) (fun j4=>
 (bB (X:=Y4×Y4×Int×aqq) (fun j7=>
 if decide (0≤j7.2.2.1)&&decide (j7.2.2.1≤(j7.1.1.size:Int)) then
 (bY ((j7.1.1.extract (0) (aqy j7.2.2.1)),())).bind fun r9=>
 if decide (0≤r9.1.2.1)&&decide (r9.1.2.1≤(j7.1.1.size:Int)) then
 let v10:=(j7.1.1.extract (0) (aqy r9.1.2.1))
 some (((v10,r9.1.2),()),())
 else none
 else none)
 ((if decide (0 < j4.1) then
 let v8:=(w64 (j4.2.2.2.1+j4.1))
 some (.inr (j4.2.1,j4.2.2.1,v8,()))
 else
 some (.inr j4.2)))))
 ((if decide ((w64 ((x.1.1.size:Int) - x.1.2.1)) < x.2.1) then
 let v5:=(w64 ((x.1.1.size:Int) - x.1.2.1))
 some (.inr (v5,x.1,(noB,0,()),x.1.2))
 else
 some (.inr (x.2.1,x.1,(noB,0,()),x.1.2)))))
def zP:Ent:=(71,none,⟨[Z9,.int .i64],[Z9],lQ⟩)
def CD:SQ Tryz.prog zP:=sk (v:=t1 (t1 (t1 (.join [(1,.int .i64),(2,Z17),(4,Z17),(5,.int .i64)] .nil (.join [(2,Z17),(4,Z17),(5,.int .i64)] .nil .nil))))) (fn:=Tryz.f71) MJ kN
def HN:Cx:=cX [cB,zP] [] []
def KI:OKC Tryz.prog HN af:=okc mixed (gC bG (gC CD (au)))
def gE(x:Y3×Int×aqq):Option ((Y3×aqq)×aqq):=
 (bJ (x.1,())).bind fun r2=>
 if !r2.1.1 then
 some (((0,false,noB,0,([]:List ajY),()),()),())
 else
 (lQ ((x.1.2.2.1,x.1.2.2.2.1,()),x.2)).bind fun r3=>
 some (((x.1.1,false,r3.1.1.1,r3.1.1.2.1,([]:List ajY),()),()),())
def xK:Ent:=(29,none,⟨[Z8,.int .i64],[Z15],gE⟩)
def Cc:SQ Tryz.prog xK:=sk (v:= .nil) (fn:=Tryz.f29) KI kN
def Kb:Cx:=cX [cB,dC,cc,gq,fC] [] [(37,38)]
def ML:OKC Tryz.prog Kb af:=okc mixed (gC bG (gC cn (gC bu (gC fb (gC ee (au))))))
def iI(x:Y3×Int×Int×aqp×aqq):Option ((Y3×Int×aqq)×aqq):=
 (bJ (x.1,())).bind fun r2=>
 if !r2.1.1 then
 some (((0,false,noB,0,([]:List ajY),()),0,()),())
 else
 (bd (x.1,())).bind fun r3=>
 (bN ((x.1.1,r3.1.1.2.2.1,x.2),())).bind fun r4=>
 if(!x.1.2.1)||(decide (r4.1.1=noB)) then
 (aZ (x.1,())).bind fun r6=>
 some ((r6.1.1,0,()),())
 else
 (aZ (x.1,())).bind fun r7=>
 if decide ((B [111,119,110,32]).size+r4.1.1.size≤4611686018427387904) then
 (bW (r7.1.1,((B [111,119,110,32])++r4.1.1),true,())).bind fun r8=>
 if !r8.1.2.1 then
 (aZ (x.1,())).bind fun r10=>
 some ((r10.1.1,0,()),())
 else
 some ((r8.1.1,r3.1.1.2.2.1,()),())
 else none
def zR:Ent:=(225,none,⟨[Z8,.int .i64,.int .i64,.str],[Z8,.int .i64],iI⟩)
def CI:SQ Tryz.prog zR:=sk (v:= .nil) (fn:=Tryz.f225) ML kN
def HJ:Cx:=cX [cB,dC,cc,gq,fc] [] [(19,21)]
def KE:OKC Tryz.prog HJ af:=okc mixed (gC bG (gC cn (gC bu (gC fb (gC dd (au))))))
def gA(x:Y3×aqq):Option ((Y3×Bool×aqq)×aqq):=
 (bJ x).bind fun r2=>
 if !r2.1.1 then
 some (((0,false,noB,0,([]:List ajY),()),false,()),())
 else
 (bd x).bind fun r3=>
 if(!x.1.2.1)||(decide (999≤r3.1.1.2.1)) then
 (aZ x).bind fun r5=>
 some ((r5.1.1,false,()),())
 else
 (aZ x).bind fun r6=>
 (aC ((w64 (r3.1.1.2.1+1)),())).bind fun r7=>
 if decide ((B [116,105,109,101,32]).size+r7.1.1.size≤4611686018427387904) then
 (bW (r6.1.1,((B [116,105,109,101,32])++r7.1.1),true,())).bind fun r8=>
 some (r8.1,())
 else none
def xG:Ent:=(214,none,⟨[Z8],[Z8,.bool],gA⟩)
def B8:SQ Tryz.prog xG:=sk (v:= .nil) (fn:=Tryz.f214) KE kN
def HK:Cx:=cX [cB,dC] [] []
def KF:OKC Tryz.prog HK af:=okc mixed (gC bG (gC cn (au)))
def gB(x:Y3×aqq):Option ((Y3×aqq)×aqq):=
 (bJ x).bind fun r2=>
 if !r2.1.1 then
 some (((0,false,noB,0,([]:List ajY),()),()),())
 else
 if x.1.2.1 then
 (aZ x).bind fun r4=>
 some (r4.1,())
 else
 some (((x.1.1,true,x.1.2.2.1,x.1.2.2.2.1,([]:List ajY),()),()),())
def xH:Ent:=(215,none,⟨[Z8],[Z15],gB⟩)
def B9:SQ Tryz.prog xH:=sk (v:= .nil) (fn:=Tryz.f215) KF kN
def Kd:Cx:=cX [cB,dC,cc,dD,gq,nV] [] [(33,34)]
def MN:OKC Tryz.prog Kd af:=okc mixed (gC bG (gC cn (gC bu (gC cr (gC fb (gC mF (au)))))))
def iJ(x:Y3×Int×Int×aqq):Option ((Y3×Y0×Bool×aqq)×aqq):=
 (bJ (x.1,())).bind fun r2=>
 if !r2.1.1 then
 some (((0,false,noB,0,([]:List ajY),()),(0,0,0,0,noB,()),false,()),())
 else
 (bd (x.1,())).bind fun r3=>
 (aW (r3.1.1.2.2.2.2.2.1,x.2)).bind fun r4=>
 if(!x.1.2.1)||(decide (r4.1.1 < 0)) then
 (aZ (x.1,())).bind fun r6=>
 some ((r6.1.1,(0,0,0,0,noB,()),false,()),())
 else
 (aZ (x.1,())).bind fun r7=>
 if inb r4.1.1 r3.1.1.2.2.2.2.2.1.length then
 (dH (x.2.1,x.2.2.1,(rd (dfl .note) r3.1.1.2.2.2.2.2.1 r4.1.1).un,())).bind fun r8=>
 if decide ((B [101,97,116,32]).size+r8.1.1.size≤4611686018427387904) then
 (bW (r7.1.1,((B [101,97,116,32])++r8.1.1),true,())).bind fun r9=>
 if !r9.1.2.1 then
 (aZ (x.1,())).bind fun r11=>
 some ((r11.1.1,(0,0,0,0,noB,()),false,()),())
 else
 if inb r4.1.1 r3.1.1.2.2.2.2.2.1.length then
 let v12:=(rd (dfl .note) r3.1.1.2.2.2.2.2.1 r4.1.1).fr
 let v13:=(rd (dfl .note) r3.1.1.2.2.2.2.2.1 r4.1.1).nu
 let v14:=(rd (dfl .note) r3.1.1.2.2.2.2.2.1 r4.1.1).to
 let v15:=(rd (dfl .note) r3.1.1.2.2.2.2.2.1 r4.1.1).un
 let v16:=(rd (dfl .note) r3.1.1.2.2.2.2.2.1 r4.1.1).tx
 some ((r9.1.1,(v12,v13,v14,v15,v16,()),true,()),())
 else none
 else none
 else none
def zT:Ent:=(216,none,⟨[Z8,.int .i64,.int .i64],[Z8,Z1,.bool],iJ⟩)
def CJ:SQ Tryz.prog zT:=sk (v:= .nil) (fn:=Tryz.f216) MN kN
def HL:Cx:=cX [cB,dC,cc,rL,tU] [] [(32,33)]
def KG:OKC Tryz.prog HL af:=okc mixed (gC bG (gC cn (gC bu (gC sR (gC uq (au))))))
def gD(x:Y3×aqq):Option ((Y3×Bool×aqq)×aqq):=
 (bJ x).bind fun r2=>
 if !r2.1.1 then
 some (((0,false,noB,0,([]:List ajY),()),false,()),())
 else
 (aZ x).bind fun r3=>
 (bd x).bind fun r4=>
 (jK (r4.1.1,())).bind fun r5=>
 (fp ((x.1.2.2.1,x.1.2.2.2.1,()),r5.1)).bind fun r6=>
 if(!x.1.2.1)||(!r6.1.2.1) then
 some ((r3.1.1,false,()),())
 else
 some (((r3.1.1.1,r3.1.1.2.1,r6.1.1.1,r6.1.1.2.1,r3.1.1.2.2.2.2),true,()),())
def xI:Ent:=(217,none,⟨[Z8],[Z8,.bool],gD⟩)
def Ca:SQ Tryz.prog xI:=sk (v:= .nil) (fn:=Tryz.f217) KG kN
def Fs:Cx:=cX [cB,dC,gL] [] [(15,22)]
def HW:OKC Tryz.prog Fs af:=okc mixed (gC bG (gC cn (gC fW (au))))
def fN(x:Y3×aqq):Option ((Y3×Bool×aqq)×aqq):=
 (bJ x).bind fun r2=>
 if !r2.1.1 then
 some (((0,false,noB,0,([]:List ajY),()),false,()),())
 else
 (aZ x).bind fun r3=>
 if(!x.1.2.1)||(decide (x.1.2.2.2.1=(x.1.2.2.1.size:Int))) then
 some ((r3.1.1,false,()),())
 else
 (cK ((x.1.2.2.1,x.1.2.2.2.1,()),())).bind fun r4=>
 some (((r3.1.1.1,r3.1.1.2.1,r4.1.1.1,r4.1.1.2.1,r3.1.1.2.2.2.2),true,()),())
def we:Ent:=(218,none,⟨[Z8],[Z8,.bool],fN⟩)
def Aq:SQ Tryz.prog we:=sk (v:= .nil) (fn:=Tryz.f218) HW kN
def eQ:Cx:=cX [xJ,rM,xK,wh,bL,cu,DF,DE,xG,xH,zT,xI,we,zR] [] []
def MG:OKC Tryz.prog eQ (aar eQ 3):=ajJ 3 mixed (gC Cb (gC sS (gC Cc (gC Ar (gC bo (gC br (gC GU (gC GS (gC B8 (gC B9 (gC CJ (gC Ca (gC Aq (gC CI (au)))))))))))))))
def ao(x:Y10×Y7×aqq):Option ((Bool×aqq)×(Y10×aqq)):=
 let s0:=x.1.1
 let s1:=x.1.2.1
 let s2:=x.1.2.2.1
 let s3:=x.1.2.2.2.1
 let s4:=x.1.2.2.2.2.1
 let s5:=x.1.2.2.2.2.2.1
 let s6:=x.1.2.2.2.2.2.2.1
 let s7:=x.1.2.2.2.2.2.2.2.1
 let e0:=x.2.1.1
 let e1:=x.2.1.2.1
 let e2:=x.2.1.2.2.1
 let e3:=x.2.1.2.2.2.1
 let e4:=x.2.1.2.2.2.2.1
 let e5:=x.2.1.2.2.2.2.2.1
 let e6:=x.2.1.2.2.2.2.2.2.1
 let e7:=x.2.1.2.2.2.2.2.2.2.1
 let E0:=([(Event.mk x.2.1.1 x.2.1.2.1 x.2.1.2.2.1 x.2.1.2.2.2.1 x.2.1.2.2.2.2.1 x.2.1.2.2.2.2.2.1 x.2.1.2.2.2.2.2.2.1 x.2.1.2.2.2.2.2.2.2.1 x.2.1.2.2.2.2.2.2.2.2.1 x.2.1.2.2.2.2.2.2.2.2.2.1)]:List Event)
 let P0:=(rd (dfl .aj4) s4 e4)
 let T0:=(w64 (s1+1))
 let V0:=(s7++E0)
 let L0:=((([]:List ajW)++(aqR (aqy e4) s4))++(aq9 (aqy (w64 (e4+1))) s4))
 let K0:=(rd (dfl .ajU) s2 e1)
 (if decide (e0=4) then
 (ap (e4,0,(w64 ((s4.length:Int) - 1)),())).bind fun r1=>
 if !r1.1.1 then
 some ((false,()),(x.1,()))
 else
 if inb e4 s4.length then
 let v2:=P0.src
 let v3:=P0.dst
 let v4:=P0.data
 let v5:=P0.sp
 if decide (e0=6) then
 if v5 then
 some ((false,()),(x.1,()))
 else
 (ap (e5,0,(w64 ((v4.size:Int) - 1)),())).bind fun r6=>
 if !r6.1.1 then
 some ((false,()),(x.1,()))
 else
 (ap (e6,1,255,())).bind fun r7=>
 if !r7.1.1 then
 some ((false,()),(x.1,()))
 else
 if al v4.size then
 if inb e5 ((aH v4).length) then
 if inb e5 ((aH v4).length) then
 let v8:=(te .u8 (rd (dfl .u8) (aH v4) e5) (w8 e6))
 (if inb e4 s4.length then
 let v9:=(dR (aqZ (aH v4) (aqy e5) v8))
 (if inb e4 ((aqZ s4 (aqy e4) (ajW.mk (P0.src) (P0.dst) v9 (P0.sp))).length) then
 if al (s7.length+E0.length) then
 some ((true,()),((s0,T0,s2,s3,(aqZ (aqZ s4 (aqy e4) (ajW.mk (P0.src) (P0.dst) v9 (P0.sp))) (aqy e4) (ajW.mk ((rd (dfl .aj4) (aqZ s4 (aqy e4) (ajW.mk (P0.src) (P0.dst) v9 (P0.sp))) e4).src) ((rd (dfl .aj4) (aqZ s4 (aqy e4) (ajW.mk (P0.src) (P0.dst) v9 (P0.sp))) e4).dst) ((rd (dfl .aj4) (aqZ s4 (aqy e4) (ajW.mk (P0.src) (P0.dst) v9 (P0.sp))) e4).data) true)),s5,s6,V0,()),()))
 else none
 else none)
 else none)
 else none
 else none
 else none
 else
 if decide (e0=4) then
 (iD (v2,v3,())).bind fun r10=>
 if inb r10.1.1 s3.length then
 if !(rd (dfl .bool) s3 r10.1.1) then
 some ((false,()),(x.1,()))
 else
 if decide (e0=5) then
 if decide (0≤e4)&&decide (e4≤(s4.length:Int)) then
 if al (([]:List ajW).length+(aqR (aqy e4) s4).length) then
 if decide (0≤(w64 (e4+1)))&&decide ((w64 (e4+1))≤(s4.length:Int)) then
 if al ((([]:List ajW)++(aqR (aqy e4) s4)).length+(aq9 (aqy (w64 (e4+1))) s4).length) then
 if decide (e0=5) then
 if al (s7.length+E0.length) then
 some ((true,()),((s0,T0,s2,s3,L0,s5,s6,V0,()),()))
 else none
 else
 if al v4.size then
 (av ((aH v4),())).bind fun r11=>
 if !r11.1.2.1 then
 if al (s7.length+E0.length) then
 some ((true,()),((s0,T0,s2,s3,L0,s5,s6,V0,()),()))
 else none
 else
 if !decide (r11.1.1.2.1=v2) then
 if al (s7.length+E0.length) then
 some ((true,()),((s0,T0,s2,s3,L0,s5,s6,V0,()),()))
 else none
 else
 if !decide (r11.1.1.2.2.1=v3) then
 if al (s7.length+E0.length) then
 some ((true,()),((s0,T0,s2,s3,L0,s5,s6,V0,()),()))
 else none
 else
 if inb v3 s2.length then
 (aq (((rd (dfl .ajU) s2 v3).id,(rd (dfl .ajU) s2 v3).up,(rd (dfl .ajU) s2 v3).log,(rd (dfl .ajU) s2 v3).fo,(rd (dfl .ajU) s2 v3).ajS,()),r11.1.1,())).bind fun r12=>
 if inb v3 s2.length then
 (aM (L0,r12.1.2)).bind fun r13=>
 if al (s7.length+E0.length) then
 some ((true,()),((s0,T0,(aqZ s2 (aqy v3) (ajR.mk r12.1.1.1 r12.1.1.2.1 r12.1.1.2.2.1 r12.1.1.2.2.2.1 r12.1.1.2.2.2.2.1)),s3,r13.1.1,s5,s6,V0,()),()))
 else none
 else none
 else none
 else none
 else none
 else none
 else none
 else none
 else
 if decide (e6=0) then
 if decide (0≤e4)&&decide (e4≤(s4.length:Int)) then
 if al (([]:List ajW).length+(aqR (aqy e4) s4).length) then
 if decide (0≤(w64 (e4+1)))&&decide ((w64 (e4+1))≤(s4.length:Int)) then
 if al ((([]:List ajW)++(aqR (aqy e4) s4)).length+(aq9 (aqy (w64 (e4+1))) s4).length) then
 if decide (e0=5) then
 if al (s7.length+E0.length) then
 some ((true,()),((s0,T0,s2,s3,L0,s5,s6,V0,()),()))
 else none
 else
 if al v4.size then
 (av ((aH v4),())).bind fun r14=>
 if !r14.1.2.1 then
 if al (s7.length+E0.length) then
 some ((true,()),((s0,T0,s2,s3,L0,s5,s6,V0,()),()))
 else none
 else
 if !decide (r14.1.1.2.1=v2) then
 if al (s7.length+E0.length) then
 some ((true,()),((s0,T0,s2,s3,L0,s5,s6,V0,()),()))
 else none
 else
 if !decide (r14.1.1.2.2.1=v3) then
 if al (s7.length+E0.length) then
 some ((true,()),((s0,T0,s2,s3,L0,s5,s6,V0,()),()))
 else none
 else
 if inb v3 s2.length then
 (aq (((rd (dfl .ajU) s2 v3).id,(rd (dfl .ajU) s2 v3).up,(rd (dfl .ajU) s2 v3).log,(rd (dfl .ajU) s2 v3).fo,(rd (dfl .ajU) s2 v3).ajS,()),r14.1.1,())).bind fun r15=>
 if inb v3 s2.length then
 (aM (L0,r15.1.2)).bind fun r16=>
 if al (s7.length+E0.length) then
 some ((true,()),((s0,T0,(aqZ s2 (aqy v3) (ajR.mk r15.1.1.1 r15.1.1.2.1 r15.1.1.2.2.1 r15.1.1.2.2.2.1 r15.1.1.2.2.2.2.1)),s3,r16.1.1,s5,s6,V0,()),()))
 else none
 else none
 else none
 else none
 else none
 else none
 else none
 else none
 else
 if decide (e0=5) then
 if al (s7.length+E0.length) then
 some ((true,()),((s0,T0,s2,s3,s4,s5,s6,V0,()),()))
 else none
 else
 if al v4.size then
 (av ((aH v4),())).bind fun r17=>
 if !r17.1.2.1 then
 if al (s7.length+E0.length) then
 some ((true,()),((s0,T0,s2,s3,s4,s5,s6,V0,()),()))
 else none
 else
 if !decide (r17.1.1.2.1=v2) then
 if al (s7.length+E0.length) then
 some ((true,()),((s0,T0,s2,s3,s4,s5,s6,V0,()),()))
 else none
 else
 if !decide (r17.1.1.2.2.1=v3) then
 if al (s7.length+E0.length) then
 some ((true,()),((s0,T0,s2,s3,s4,s5,s6,V0,()),()))
 else none
 else
 if inb v3 s2.length then
 (aq (((rd (dfl .ajU) s2 v3).id,(rd (dfl .ajU) s2 v3).up,(rd (dfl .ajU) s2 v3).log,(rd (dfl .ajU) s2 v3).fo,(rd (dfl .ajU) s2 v3).ajS,()),r17.1.1,())).bind fun r18=>
 if inb v3 s2.length then
 (aM (s4,r18.1.2)).bind fun r19=>
 if al (s7.length+E0.length) then
 some ((true,()),((s0,T0,(aqZ s2 (aqy v3) (ajR.mk r18.1.1.1 r18.1.1.2.1 r18.1.1.2.2.1 r18.1.1.2.2.2.1 r18.1.1.2.2.2.2.1)),s3,r19.1.1,s5,s6,V0,()),()))
 else none
 else none
 else none
 else none
 else none
 else
 if decide (e0=5) then
 if decide (0≤e4)&&decide (e4≤(s4.length:Int)) then
 if al (([]:List ajW).length+(aqR (aqy e4) s4).length) then
 if decide (0≤(w64 (e4+1)))&&decide ((w64 (e4+1))≤(s4.length:Int)) then
 if al ((([]:List ajW)++(aqR (aqy e4) s4)).length+(aq9 (aqy (w64 (e4+1))) s4).length) then
 if decide (e0=5) then
 if al (s7.length+E0.length) then
 some ((true,()),((s0,T0,s2,s3,L0,s5,s6,V0,()),()))
 else none
 else
 if al v4.size then
 (av ((aH v4),())).bind fun r20=>
 if !r20.1.2.1 then
 if al (s7.length+E0.length) then
 some ((true,()),((s0,T0,s2,s3,L0,s5,s6,V0,()),()))
 else none
 else
 if !decide (r20.1.1.2.1=v2) then
 if al (s7.length+E0.length) then
 some ((true,()),((s0,T0,s2,s3,L0,s5,s6,V0,()),()))
 else none
 else
 if !decide (r20.1.1.2.2.1=v3) then
 if al (s7.length+E0.length) then
 some ((true,()),((s0,T0,s2,s3,L0,s5,s6,V0,()),()))
 else none
 else
 if inb v3 s2.length then
 (aq (((rd (dfl .ajU) s2 v3).id,(rd (dfl .ajU) s2 v3).up,(rd (dfl .ajU) s2 v3).log,(rd (dfl .ajU) s2 v3).fo,(rd (dfl .ajU) s2 v3).ajS,()),r20.1.1,())).bind fun r21=>
 if inb v3 s2.length then
 (aM (L0,r21.1.2)).bind fun r22=>
 if al (s7.length+E0.length) then
 some ((true,()),((s0,T0,(aqZ s2 (aqy v3) (ajR.mk r21.1.1.1 r21.1.1.2.1 r21.1.1.2.2.1 r21.1.1.2.2.2.1 r21.1.1.2.2.2.2.1)),s3,r22.1.1,s5,s6,V0,()),()))
 else none
 else none
 else none
 else none
 else none
 else none
 else none
 else none
 else
 if decide (e6=0) then
 if decide (0≤e4)&&decide (e4≤(s4.length:Int)) then
 if al (([]:List ajW).length+(aqR (aqy e4) s4).length) then
 if decide (0≤(w64 (e4+1)))&&decide ((w64 (e4+1))≤(s4.length:Int)) then
 if al ((([]:List ajW)++(aqR (aqy e4) s4)).length+(aq9 (aqy (w64 (e4+1))) s4).length) then
 if decide (e0=5) then
 if al (s7.length+E0.length) then
 some ((true,()),((s0,T0,s2,s3,L0,s5,s6,V0,()),()))
 else none
 else
 if al v4.size then
 (av ((aH v4),())).bind fun r23=>
 if !r23.1.2.1 then
 if al (s7.length+E0.length) then
 some ((true,()),((s0,T0,s2,s3,L0,s5,s6,V0,()),()))
 else none
 else
 if !decide (r23.1.1.2.1=v2) then
 if al (s7.length+E0.length) then
 some ((true,()),((s0,T0,s2,s3,L0,s5,s6,V0,()),()))
 else none
 else
 if !decide (r23.1.1.2.2.1=v3) then
 if al (s7.length+E0.length) then
 some ((true,()),((s0,T0,s2,s3,L0,s5,s6,V0,()),()))
 else none
 else
 if inb v3 s2.length then
 (aq (((rd (dfl .ajU) s2 v3).id,(rd (dfl .ajU) s2 v3).up,(rd (dfl .ajU) s2 v3).log,(rd (dfl .ajU) s2 v3).fo,(rd (dfl .ajU) s2 v3).ajS,()),r23.1.1,())).bind fun r24=>
 if inb v3 s2.length then
 (aM (L0,r24.1.2)).bind fun r25=>
 if al (s7.length+E0.length) then
 some ((true,()),((s0,T0,(aqZ s2 (aqy v3) (ajR.mk r24.1.1.1 r24.1.1.2.1 r24.1.1.2.2.1 r24.1.1.2.2.2.1 r24.1.1.2.2.2.2.1)),s3,r25.1.1,s5,s6,V0,()),()))
 else none
 else none
 else none
 else none
 else none
 else none
 else none
 else none
 else
 if decide (e0=5) then
 if al (s7.length+E0.length) then
 some ((true,()),((s0,T0,s2,s3,s4,s5,s6,V0,()),()))
 else none
 else
 if al v4.size then
 (av ((aH v4),())).bind fun r26=>
 if !r26.1.2.1 then
 if al (s7.length+E0.length) then
 some ((true,()),((s0,T0,s2,s3,s4,s5,s6,V0,()),()))
 else none
 else
 if !decide (r26.1.1.2.1=v2) then
 if al (s7.length+E0.length) then
 some ((true,()),((s0,T0,s2,s3,s4,s5,s6,V0,()),()))
 else none
 else
 if !decide (r26.1.1.2.2.1=v3) then
 if al (s7.length+E0.length) then
 some ((true,()),((s0,T0,s2,s3,s4,s5,s6,V0,()),()))
 else none
 else
 if inb v3 s2.length then
 (aq (((rd (dfl .ajU) s2 v3).id,(rd (dfl .ajU) s2 v3).up,(rd (dfl .ajU) s2 v3).log,(rd (dfl .ajU) s2 v3).fo,(rd (dfl .ajU) s2 v3).ajS,()),r26.1.1,())).bind fun r27=>
 if inb v3 s2.length then
 (aM (s4,r27.1.2)).bind fun r28=>
 if al (s7.length+E0.length) then
 some ((true,()),((s0,T0,(aqZ s2 (aqy v3) (ajR.mk r27.1.1.1 r27.1.1.2.1 r27.1.1.2.2.1 r27.1.1.2.2.2.1 r27.1.1.2.2.2.2.1)),s3,r28.1.1,s5,s6,V0,()),()))
 else none
 else none
 else none
 else none
 else none
 else
 if decide (e0=5) then
 (ap (e4,0,(w64 ((s4.length:Int) - 1)),())).bind fun r29=>
 if !r29.1.1 then
 some ((false,()),(x.1,()))
 else
 if inb e4 s4.length then
 let v30:=P0.src
 let v31:=P0.dst
 let v32:=P0.data
 let v33:=P0.sp
 if decide (e0=6) then
 if v33 then
 some ((false,()),(x.1,()))
 else
 (ap (e5,0,(w64 ((v32.size:Int) - 1)),())).bind fun r34=>
 if !r34.1.1 then
 some ((false,()),(x.1,()))
 else
 (ap (e6,1,255,())).bind fun r35=>
 if !r35.1.1 then
 some ((false,()),(x.1,()))
 else
 if al v32.size then
 if inb e5 ((aH v32).length) then
 if inb e5 ((aH v32).length) then
 let v36:=(te .u8 (rd (dfl .u8) (aH v32) e5) (w8 e6))
 (if inb e4 s4.length then
 let v37:=(dR (aqZ (aH v32) (aqy e5) v36))
 (if inb e4 ((aqZ s4 (aqy e4) (ajW.mk (P0.src) (P0.dst) v37 (P0.sp))).length) then
 if al (s7.length+E0.length) then
 some ((true,()),((s0,T0,s2,s3,(aqZ (aqZ s4 (aqy e4) (ajW.mk (P0.src) (P0.dst) v37 (P0.sp))) (aqy e4) (ajW.mk ((rd (dfl .aj4) (aqZ s4 (aqy e4) (ajW.mk (P0.src) (P0.dst) v37 (P0.sp))) e4).src) ((rd (dfl .aj4) (aqZ s4 (aqy e4) (ajW.mk (P0.src) (P0.dst) v37 (P0.sp))) e4).dst) ((rd (dfl .aj4) (aqZ s4 (aqy e4) (ajW.mk (P0.src) (P0.dst) v37 (P0.sp))) e4).data) true)),s5,s6,V0,()),()))
 else none
 else none)
 else none)
 else none
 else none
 else none
 else
 if decide (e0=4) then
 (iD (v30,v31,())).bind fun r38=>
 if inb r38.1.1 s3.length then
 if !(rd (dfl .bool) s3 r38.1.1) then
 some ((false,()),(x.1,()))
 else
 if decide (e0=5) then
 if decide (0≤e4)&&decide (e4≤(s4.length:Int)) then
 if al (([]:List ajW).length+(aqR (aqy e4) s4).length) then
 if decide (0≤(w64 (e4+1)))&&decide ((w64 (e4+1))≤(s4.length:Int)) then
 if al ((([]:List ajW)++(aqR (aqy e4) s4)).length+(aq9 (aqy (w64 (e4+1))) s4).length) then
 if decide (e0=5) then
 if al (s7.length+E0.length) then
 some ((true,()),((s0,T0,s2,s3,L0,s5,s6,V0,()),()))
 else none
 else
 if al v32.size then
 (av ((aH v32),())).bind fun r39=>
 if !r39.1.2.1 then
 if al (s7.length+E0.length) then
 some ((true,()),((s0,T0,s2,s3,L0,s5,s6,V0,()),()))
 else none
 else
 if !decide (r39.1.1.2.1=v30) then
 if al (s7.length+E0.length) then
 some ((true,()),((s0,T0,s2,s3,L0,s5,s6,V0,()),()))
 else none
 else
 if !decide (r39.1.1.2.2.1=v31) then
 if al (s7.length+E0.length) then
 some ((true,()),((s0,T0,s2,s3,L0,s5,s6,V0,()),()))
 else none
 else
 if inb v31 s2.length then
 (aq (((rd (dfl .ajU) s2 v31).id,(rd (dfl .ajU) s2 v31).up,(rd (dfl .ajU) s2 v31).log,(rd (dfl .ajU) s2 v31).fo,(rd (dfl .ajU) s2 v31).ajS,()),r39.1.1,())).bind fun r40=>
 if inb v31 s2.length then
 (aM (L0,r40.1.2)).bind fun r41=>
 if al (s7.length+E0.length) then
 some ((true,()),((s0,T0,(aqZ s2 (aqy v31) (ajR.mk r40.1.1.1 r40.1.1.2.1 r40.1.1.2.2.1 r40.1.1.2.2.2.1 r40.1.1.2.2.2.2.1)),s3,r41.1.1,s5,s6,V0,()),()))
 else none
 else none
 else none
 else none
 else none
 else none
 else none
 else none
 else
 if decide (e6=0) then
 if decide (0≤e4)&&decide (e4≤(s4.length:Int)) then
 if al (([]:List ajW).length+(aqR (aqy e4) s4).length) then
 if decide (0≤(w64 (e4+1)))&&decide ((w64 (e4+1))≤(s4.length:Int)) then
 if al ((([]:List ajW)++(aqR (aqy e4) s4)).length+(aq9 (aqy (w64 (e4+1))) s4).length) then
 if decide (e0=5) then
 if al (s7.length+E0.length) then
 some ((true,()),((s0,T0,s2,s3,L0,s5,s6,V0,()),()))
 else none
 else
 if al v32.size then
 (av ((aH v32),())).bind fun r42=>
 if !r42.1.2.1 then
 if al (s7.length+E0.length) then
 some ((true,()),((s0,T0,s2,s3,L0,s5,s6,V0,()),()))
 else none
 else
 if !decide (r42.1.1.2.1=v30) then
 if al (s7.length+E0.length) then
 some ((true,()),((s0,T0,s2,s3,L0,s5,s6,V0,()),()))
 else none
 else
 if !decide (r42.1.1.2.2.1=v31) then
 if al (s7.length+E0.length) then
 some ((true,()),((s0,T0,s2,s3,L0,s5,s6,V0,()),()))
 else none
 else
 if inb v31 s2.length then
 (aq (((rd (dfl .ajU) s2 v31).id,(rd (dfl .ajU) s2 v31).up,(rd (dfl .ajU) s2 v31).log,(rd (dfl .ajU) s2 v31).fo,(rd (dfl .ajU) s2 v31).ajS,()),r42.1.1,())).bind fun r43=>
 if inb v31 s2.length then
 (aM (L0,r43.1.2)).bind fun r44=>
 if al (s7.length+E0.length) then
 some ((true,()),((s0,T0,(aqZ s2 (aqy v31) (ajR.mk r43.1.1.1 r43.1.1.2.1 r43.1.1.2.2.1 r43.1.1.2.2.2.1 r43.1.1.2.2.2.2.1)),s3,r44.1.1,s5,s6,V0,()),()))
 else none
 else none
 else none
 else none
 else none
 else none
 else none
 else none
 else
 if decide (e0=5) then
 if al (s7.length+E0.length) then
 some ((true,()),((s0,T0,s2,s3,s4,s5,s6,V0,()),()))
 else none
 else
 if al v32.size then
 (av ((aH v32),())).bind fun r45=>
 if !r45.1.2.1 then
 if al (s7.length+E0.length) then
 some ((true,()),((s0,T0,s2,s3,s4,s5,s6,V0,()),()))
 else none
 else
 if !decide (r45.1.1.2.1=v30) then
 if al (s7.length+E0.length) then
 some ((true,()),((s0,T0,s2,s3,s4,s5,s6,V0,()),()))
 else none
 else
 if !decide (r45.1.1.2.2.1=v31) then
 if al (s7.length+E0.length) then
 some ((true,()),((s0,T0,s2,s3,s4,s5,s6,V0,()),()))
 else none
 else
 if inb v31 s2.length then
 (aq (((rd (dfl .ajU) s2 v31).id,(rd (dfl .ajU) s2 v31).up,(rd (dfl .ajU) s2 v31).log,(rd (dfl .ajU) s2 v31).fo,(rd (dfl .ajU) s2 v31).ajS,()),r45.1.1,())).bind fun r46=>
 if inb v31 s2.length then
 (aM (s4,r46.1.2)).bind fun r47=>
 if al (s7.length+E0.length) then
 some ((true,()),((s0,T0,(aqZ s2 (aqy v31) (ajR.mk r46.1.1.1 r46.1.1.2.1 r46.1.1.2.2.1 r46.1.1.2.2.2.1 r46.1.1.2.2.2.2.1)),s3,r47.1.1,s5,s6,V0,()),()))
 else none
 else none
 else none
 else none
 else none
 else
 if decide (e0=5) then
 if decide (0≤e4)&&decide (e4≤(s4.length:Int)) then
 if al (([]:List ajW).length+(aqR (aqy e4) s4).length) then
 if decide (0≤(w64 (e4+1)))&&decide ((w64 (e4+1))≤(s4.length:Int)) then
 if al ((([]:List ajW)++(aqR (aqy e4) s4)).length+(aq9 (aqy (w64 (e4+1))) s4).length) then
 if decide (e0=5) then
 if al (s7.length+E0.length) then
 some ((true,()),((s0,T0,s2,s3,L0,s5,s6,V0,()),()))
 else none
 else
 if al v32.size then
 (av ((aH v32),())).bind fun r48=>
 if !r48.1.2.1 then
 if al (s7.length+E0.length) then
 some ((true,()),((s0,T0,s2,s3,L0,s5,s6,V0,()),()))
 else none
 else
 if !decide (r48.1.1.2.1=v30) then
 if al (s7.length+E0.length) then
 some ((true,()),((s0,T0,s2,s3,L0,s5,s6,V0,()),()))
 else none
 else
 if !decide (r48.1.1.2.2.1=v31) then
 if al (s7.length+E0.length) then
 some ((true,()),((s0,T0,s2,s3,L0,s5,s6,V0,()),()))
 else none
 else
 if inb v31 s2.length then
 (aq (((rd (dfl .ajU) s2 v31).id,(rd (dfl .ajU) s2 v31).up,(rd (dfl .ajU) s2 v31).log,(rd (dfl .ajU) s2 v31).fo,(rd (dfl .ajU) s2 v31).ajS,()),r48.1.1,())).bind fun r49=>
 if inb v31 s2.length then
 (aM (L0,r49.1.2)).bind fun r50=>
 if al (s7.length+E0.length) then
 some ((true,()),((s0,T0,(aqZ s2 (aqy v31) (ajR.mk r49.1.1.1 r49.1.1.2.1 r49.1.1.2.2.1 r49.1.1.2.2.2.1 r49.1.1.2.2.2.2.1)),s3,r50.1.1,s5,s6,V0,()),()))
 else none
 else none
 else none
 else none
 else none
 else none
 else none
 else none
 else
 if decide (e6=0) then
 if decide (0≤e4)&&decide (e4≤(s4.length:Int)) then
 if al (([]:List ajW).length+(aqR (aqy e4) s4).length) then
 if decide (0≤(w64 (e4+1)))&&decide ((w64 (e4+1))≤(s4.length:Int)) then
 if al ((([]:List ajW)++(aqR (aqy e4) s4)).length+(aq9 (aqy (w64 (e4+1))) s4).length) then
 if decide (e0=5) then
 if al (s7.length+E0.length) then
 some ((true,()),((s0,T0,s2,s3,L0,s5,s6,V0,()),()))
 else none
 else
 if al v32.size then
 (av ((aH v32),())).bind fun r51=>
 if !r51.1.2.1 then
 if al (s7.length+E0.length) then
 some ((true,()),((s0,T0,s2,s3,L0,s5,s6,V0,()),()))
 else none
 else
 if !decide (r51.1.1.2.1=v30) then
 if al (s7.length+E0.length) then
 some ((true,()),((s0,T0,s2,s3,L0,s5,s6,V0,()),()))
 else none
 else
 if !decide (r51.1.1.2.2.1=v31) then
 if al (s7.length+E0.length) then
 some ((true,()),((s0,T0,s2,s3,L0,s5,s6,V0,()),()))
 else none
 else
 if inb v31 s2.length then
 (aq (((rd (dfl .ajU) s2 v31).id,(rd (dfl .ajU) s2 v31).up,(rd (dfl .ajU) s2 v31).log,(rd (dfl .ajU) s2 v31).fo,(rd (dfl .ajU) s2 v31).ajS,()),r51.1.1,())).bind fun r52=>
 if inb v31 s2.length then
 (aM (L0,r52.1.2)).bind fun r53=>
 if al (s7.length+E0.length) then
 some ((true,()),((s0,T0,(aqZ s2 (aqy v31) (ajR.mk r52.1.1.1 r52.1.1.2.1 r52.1.1.2.2.1 r52.1.1.2.2.2.1 r52.1.1.2.2.2.2.1)),s3,r53.1.1,s5,s6,V0,()),()))
 else none
 else none
 else none
 else none
 else none
 else none
 else none
 else none
 else
 if decide (e0=5) then
 if al (s7.length+E0.length) then
 some ((true,()),((s0,T0,s2,s3,s4,s5,s6,V0,()),()))
 else none
 else
 if al v32.size then
 (av ((aH v32),())).bind fun r54=>
 if !r54.1.2.1 then
 if al (s7.length+E0.length) then
 some ((true,()),((s0,T0,s2,s3,s4,s5,s6,V0,()),()))
 else none
 else
 if !decide (r54.1.1.2.1=v30) then
 if al (s7.length+E0.length) then
 some ((true,()),((s0,T0,s2,s3,s4,s5,s6,V0,()),()))
 else none
 else
 if !decide (r54.1.1.2.2.1=v31) then
 if al (s7.length+E0.length) then
 some ((true,()),((s0,T0,s2,s3,s4,s5,s6,V0,()),()))
 else none
 else
 if inb v31 s2.length then
 (aq (((rd (dfl .ajU) s2 v31).id,(rd (dfl .ajU) s2 v31).up,(rd (dfl .ajU) s2 v31).log,(rd (dfl .ajU) s2 v31).fo,(rd (dfl .ajU) s2 v31).ajS,()),r54.1.1,())).bind fun r55=>
 if inb v31 s2.length then
 (aM (s4,r55.1.2)).bind fun r56=>
 if al (s7.length+E0.length) then
 some ((true,()),((s0,T0,(aqZ s2 (aqy v31) (ajR.mk r55.1.1.1 r55.1.1.2.1 r55.1.1.2.2.1 r55.1.1.2.2.2.1 r55.1.1.2.2.2.2.1)),s3,r56.1.1,s5,s6,V0,()),()))
 else none
 else none
 else none
 else none
 else none
 else
 if decide (e0=6) then
 (ap (e4,0,(w64 ((s4.length:Int) - 1)),())).bind fun r57=>
 if !r57.1.1 then
 some ((false,()),(x.1,()))
 else
 if inb e4 s4.length then
 let v58:=P0.src
 let v59:=P0.dst
 let v60:=P0.data
 let v61:=P0.sp
 if decide (e0=6) then
 if v61 then
 some ((false,()),(x.1,()))
 else
 (ap (e5,0,(w64 ((v60.size:Int) - 1)),())).bind fun r62=>
 if !r62.1.1 then
 some ((false,()),(x.1,()))
 else
 (ap (e6,1,255,())).bind fun r63=>
 if !r63.1.1 then
 some ((false,()),(x.1,()))
 else
 if al v60.size then
 if inb e5 ((aH v60).length) then
 if inb e5 ((aH v60).length) then
 let v64:=(te .u8 (rd (dfl .u8) (aH v60) e5) (w8 e6))
 (if inb e4 s4.length then
 let v65:=(dR (aqZ (aH v60) (aqy e5) v64))
 (if inb e4 ((aqZ s4 (aqy e4) (ajW.mk (P0.src) (P0.dst) v65 (P0.sp))).length) then
 if al (s7.length+E0.length) then
 some ((true,()),((s0,T0,s2,s3,(aqZ (aqZ s4 (aqy e4) (ajW.mk (P0.src) (P0.dst) v65 (P0.sp))) (aqy e4) (ajW.mk ((rd (dfl .aj4) (aqZ s4 (aqy e4) (ajW.mk (P0.src) (P0.dst) v65 (P0.sp))) e4).src) ((rd (dfl .aj4) (aqZ s4 (aqy e4) (ajW.mk (P0.src) (P0.dst) v65 (P0.sp))) e4).dst) ((rd (dfl .aj4) (aqZ s4 (aqy e4) (ajW.mk (P0.src) (P0.dst) v65 (P0.sp))) e4).data) true)),s5,s6,V0,()),()))
 else none
 else none)
 else none)
 else none
 else none
 else none
 else
 if decide (e0=4) then
 (iD (v58,v59,())).bind fun r66=>
 if inb r66.1.1 s3.length then
 if !(rd (dfl .bool) s3 r66.1.1) then
 some ((false,()),(x.1,()))
 else
 if decide (e0=5) then
 if decide (0≤e4)&&decide (e4≤(s4.length:Int)) then
 if al (([]:List ajW).length+(aqR (aqy e4) s4).length) then
 if decide (0≤(w64 (e4+1)))&&decide ((w64 (e4+1))≤(s4.length:Int)) then
 if al ((([]:List ajW)++(aqR (aqy e4) s4)).length+(aq9 (aqy (w64 (e4+1))) s4).length) then
 if decide (e0=5) then
 if al (s7.length+E0.length) then
 some ((true,()),((s0,T0,s2,s3,L0,s5,s6,V0,()),()))
 else none
 else
 if al v60.size then
 (av ((aH v60),())).bind fun r67=>
 if !r67.1.2.1 then
 if al (s7.length+E0.length) then
 some ((true,()),((s0,T0,s2,s3,L0,s5,s6,V0,()),()))
 else none
 else
 if !decide (r67.1.1.2.1=v58) then
 if al (s7.length+E0.length) then
 some ((true,()),((s0,T0,s2,s3,L0,s5,s6,V0,()),()))
 else none
 else
 if !decide (r67.1.1.2.2.1=v59) then
 if al (s7.length+E0.length) then
 some ((true,()),((s0,T0,s2,s3,L0,s5,s6,V0,()),()))
 else none
 else
 if inb v59 s2.length then
 (aq (((rd (dfl .ajU) s2 v59).id,(rd (dfl .ajU) s2 v59).up,(rd (dfl .ajU) s2 v59).log,(rd (dfl .ajU) s2 v59).fo,(rd (dfl .ajU) s2 v59).ajS,()),r67.1.1,())).bind fun r68=>
 if inb v59 s2.length then
 (aM (L0,r68.1.2)).bind fun r69=>
 if al (s7.length+E0.length) then
 some ((true,()),((s0,T0,(aqZ s2 (aqy v59) (ajR.mk r68.1.1.1 r68.1.1.2.1 r68.1.1.2.2.1 r68.1.1.2.2.2.1 r68.1.1.2.2.2.2.1)),s3,r69.1.1,s5,s6,V0,()),()))
 else none
 else none
 else none
 else none
 else none
 else none
 else none
 else none
 else
 if decide (e6=0) then
 if decide (0≤e4)&&decide (e4≤(s4.length:Int)) then
 if al (([]:List ajW).length+(aqR (aqy e4) s4).length) then
 if decide (0≤(w64 (e4+1)))&&decide ((w64 (e4+1))≤(s4.length:Int)) then
 if al ((([]:List ajW)++(aqR (aqy e4) s4)).length+(aq9 (aqy (w64 (e4+1))) s4).length) then
 if decide (e0=5) then
 if al (s7.length+E0.length) then
 some ((true,()),((s0,T0,s2,s3,L0,s5,s6,V0,()),()))
 else none
 else
 if al v60.size then
 (av ((aH v60),())).bind fun r70=>
 if !r70.1.2.1 then
 if al (s7.length+E0.length) then
 some ((true,()),((s0,T0,s2,s3,L0,s5,s6,V0,()),()))
 else none
 else
 if !decide (r70.1.1.2.1=v58) then
 if al (s7.length+E0.length) then
 some ((true,()),((s0,T0,s2,s3,L0,s5,s6,V0,()),()))
 else none
 else
 if !decide (r70.1.1.2.2.1=v59) then
 if al (s7.length+E0.length) then
 some ((true,()),((s0,T0,s2,s3,L0,s5,s6,V0,()),()))
 else none
 else
 if inb v59 s2.length then
 (aq (((rd (dfl .ajU) s2 v59).id,(rd (dfl .ajU) s2 v59).up,(rd (dfl .ajU) s2 v59).log,(rd (dfl .ajU) s2 v59).fo,(rd (dfl .ajU) s2 v59).ajS,()),r70.1.1,())).bind fun r71=>
 if inb v59 s2.length then
 (aM (L0,r71.1.2)).bind fun r72=>
 if al (s7.length+E0.length) then
 some ((true,()),((s0,T0,(aqZ s2 (aqy v59) (ajR.mk r71.1.1.1 r71.1.1.2.1 r71.1.1.2.2.1 r71.1.1.2.2.2.1 r71.1.1.2.2.2.2.1)),s3,r72.1.1,s5,s6,V0,()),()))
 else none
 else none
 else none
 else none
 else none
 else none
 else none
 else none
 else
 if decide (e0=5) then
 if al (s7.length+E0.length) then
 some ((true,()),((s0,T0,s2,s3,s4,s5,s6,V0,()),()))
 else none
 else
 if al v60.size then
 (av ((aH v60),())).bind fun r73=>
 if !r73.1.2.1 then
 if al (s7.length+E0.length) then
 some ((true,()),((s0,T0,s2,s3,s4,s5,s6,V0,()),()))
 else none
 else
 if !decide (r73.1.1.2.1=v58) then
 if al (s7.length+E0.length) then
 some ((true,()),((s0,T0,s2,s3,s4,s5,s6,V0,()),()))
 else none
 else
 if !decide (r73.1.1.2.2.1=v59) then
 if al (s7.length+E0.length) then
 some ((true,()),((s0,T0,s2,s3,s4,s5,s6,V0,()),()))
 else none
 else
 if inb v59 s2.length then
 (aq (((rd (dfl .ajU) s2 v59).id,(rd (dfl .ajU) s2 v59).up,(rd (dfl .ajU) s2 v59).log,(rd (dfl .ajU) s2 v59).fo,(rd (dfl .ajU) s2 v59).ajS,()),r73.1.1,())).bind fun r74=>
 if inb v59 s2.length then
 (aM (s4,r74.1.2)).bind fun r75=>
 if al (s7.length+E0.length) then
 some ((true,()),((s0,T0,(aqZ s2 (aqy v59) (ajR.mk r74.1.1.1 r74.1.1.2.1 r74.1.1.2.2.1 r74.1.1.2.2.2.1 r74.1.1.2.2.2.2.1)),s3,r75.1.1,s5,s6,V0,()),()))
 else none
 else none
 else none
 else none
 else none
 else
 if decide (e0=5) then
 if decide (0≤e4)&&decide (e4≤(s4.length:Int)) then
 if al (([]:List ajW).length+(aqR (aqy e4) s4).length) then
 if decide (0≤(w64 (e4+1)))&&decide ((w64 (e4+1))≤(s4.length:Int)) then
 if al ((([]:List ajW)++(aqR (aqy e4) s4)).length+(aq9 (aqy (w64 (e4+1))) s4).length) then
 if decide (e0=5) then
 if al (s7.length+E0.length) then
 some ((true,()),((s0,T0,s2,s3,L0,s5,s6,V0,()),()))
 else none
 else
 if al v60.size then
 (av ((aH v60),())).bind fun r76=>
 if !r76.1.2.1 then
 if al (s7.length+E0.length) then
 some ((true,()),((s0,T0,s2,s3,L0,s5,s6,V0,()),()))
 else none
 else
 if !decide (r76.1.1.2.1=v58) then
 if al (s7.length+E0.length) then
 some ((true,()),((s0,T0,s2,s3,L0,s5,s6,V0,()),()))
 else none
 else
 if !decide (r76.1.1.2.2.1=v59) then
 if al (s7.length+E0.length) then
 some ((true,()),((s0,T0,s2,s3,L0,s5,s6,V0,()),()))
 else none
 else
 if inb v59 s2.length then
 (aq (((rd (dfl .ajU) s2 v59).id,(rd (dfl .ajU) s2 v59).up,(rd (dfl .ajU) s2 v59).log,(rd (dfl .ajU) s2 v59).fo,(rd (dfl .ajU) s2 v59).ajS,()),r76.1.1,())).bind fun r77=>
 if inb v59 s2.length then
 (aM (L0,r77.1.2)).bind fun r78=>
 if al (s7.length+E0.length) then
 some ((true,()),((s0,T0,(aqZ s2 (aqy v59) (ajR.mk r77.1.1.1 r77.1.1.2.1 r77.1.1.2.2.1 r77.1.1.2.2.2.1 r77.1.1.2.2.2.2.1)),s3,r78.1.1,s5,s6,V0,()),()))
 else none
 else none
 else none
 else none
 else none
 else none
 else none
 else none
 else
 if decide (e6=0) then
 if decide (0≤e4)&&decide (e4≤(s4.length:Int)) then
 if al (([]:List ajW).length+(aqR (aqy e4) s4).length) then
 if decide (0≤(w64 (e4+1)))&&decide ((w64 (e4+1))≤(s4.length:Int)) then
 if al ((([]:List ajW)++(aqR (aqy e4) s4)).length+(aq9 (aqy (w64 (e4+1))) s4).length) then
 if decide (e0=5) then
 if al (s7.length+E0.length) then
 some ((true,()),((s0,T0,s2,s3,L0,s5,s6,V0,()),()))
 else none
 else
 if al v60.size then
 (av ((aH v60),())).bind fun r79=>
 if !r79.1.2.1 then
 if al (s7.length+E0.length) then
 some ((true,()),((s0,T0,s2,s3,L0,s5,s6,V0,()),()))
 else none
 else
 if !decide (r79.1.1.2.1=v58) then
 if al (s7.length+E0.length) then
 some ((true,()),((s0,T0,s2,s3,L0,s5,s6,V0,()),()))
 else none
 else
 if !decide (r79.1.1.2.2.1=v59) then
 if al (s7.length+E0.length) then
 some ((true,()),((s0,T0,s2,s3,L0,s5,s6,V0,()),()))
 else none
 else
 if inb v59 s2.length then
 (aq (((rd (dfl .ajU) s2 v59).id,(rd (dfl .ajU) s2 v59).up,(rd (dfl .ajU) s2 v59).log,(rd (dfl .ajU) s2 v59).fo,(rd (dfl .ajU) s2 v59).ajS,()),r79.1.1,())).bind fun r80=>
 if inb v59 s2.length then
 (aM (L0,r80.1.2)).bind fun r81=>
 if al (s7.length+E0.length) then
 some ((true,()),((s0,T0,(aqZ s2 (aqy v59) (ajR.mk r80.1.1.1 r80.1.1.2.1 r80.1.1.2.2.1 r80.1.1.2.2.2.1 r80.1.1.2.2.2.2.1)),s3,r81.1.1,s5,s6,V0,()),()))
 else none
 else none
 else none
 else none
 else none
 else none
 else none
 else none
 else
 if decide (e0=5) then
 if al (s7.length+E0.length) then
 some ((true,()),((s0,T0,s2,s3,s4,s5,s6,V0,()),()))
 else none
 else
 if al v60.size then
 (av ((aH v60),())).bind fun r82=>
 if !r82.1.2.1 then
 if al (s7.length+E0.length) then
 some ((true,()),((s0,T0,s2,s3,s4,s5,s6,V0,()),()))
 else none
 else
 if !decide (r82.1.1.2.1=v58) then
 if al (s7.length+E0.length) then
 some ((true,()),((s0,T0,s2,s3,s4,s5,s6,V0,()),()))
 else none
 else
 if !decide (r82.1.1.2.2.1=v59) then
 if al (s7.length+E0.length) then
 some ((true,()),((s0,T0,s2,s3,s4,s5,s6,V0,()),()))
 else none
 else
 if inb v59 s2.length then
 (aq (((rd (dfl .ajU) s2 v59).id,(rd (dfl .ajU) s2 v59).up,(rd (dfl .ajU) s2 v59).log,(rd (dfl .ajU) s2 v59).fo,(rd (dfl .ajU) s2 v59).ajS,()),r82.1.1,())).bind fun r83=>
 if inb v59 s2.length then
 (aM (s4,r83.1.2)).bind fun r84=>
 if al (s7.length+E0.length) then
 some ((true,()),((s0,T0,(aqZ s2 (aqy v59) (ajR.mk r83.1.1.1 r83.1.1.2.1 r83.1.1.2.2.1 r83.1.1.2.2.2.1 r83.1.1.2.2.2.2.1)),s3,r84.1.1,s5,s6,V0,()),()))
 else none
 else none
 else none
 else none
 else none
 else
 if decide (e0=9) then
 (ap (e1,0,(w64 ((s3.length:Int) - 1)),())).bind fun r85=>
 if !r85.1.1 then
 some ((false,()),(x.1,()))
 else
 if inb e1 s3.length then
 if decide ((rd (dfl .bool) s3 e1)=(decide (e0=9))) then
 some ((false,()),(x.1,()))
 else
 if inb e1 s3.length then
 if al (s7.length+E0.length) then
 some ((true,()),((s0,T0,s2,(aqZ s3 (aqy e1) (decide (e0=9))),s4,s5,s6,V0,()),()))
 else none
 else none
 else none
 else
 if decide (e0=10) then
 (ap (e1,0,(w64 ((s3.length:Int) - 1)),())).bind fun r86=>
 if !r86.1.1 then
 some ((false,()),(x.1,()))
 else
 if inb e1 s3.length then
 if decide ((rd (dfl .bool) s3 e1)=(decide (e0=9))) then
 some ((false,()),(x.1,()))
 else
 if inb e1 s3.length then
 if al (s7.length+E0.length) then
 some ((true,()),((s0,T0,s2,(aqZ s3 (aqy e1) (decide (e0=9))),s4,s5,s6,V0,()),()))
 else none
 else none
 else none
 else
 (aQ (e1,())).bind fun r87=>
 if !r87.1.1 then
 some ((false,()),(x.1,()))
 else
 if inb e1 s2.length then
 let v88:=K0.id
 let v89:=K0.up
 let v90:=K0.log
 let v91:=K0.fo
 let v92:=K0.ajS
 if decide (e0=1) then
 if decide (6≤(s5.length:Int)) then
 some ((false,()),(x.1,()))
 else
 if inb e1 s2.length then
 (iI ((K0.id,K0.up,K0.log,K0.fo,K0.ajS,()),x.2.1.2.2.2.2.2.2.2)).bind fun r93=>
 if decide (r93.1.2.1=0) then
 some ((false,()),(x.1,()))
 else
 if inb e1 s2.length then
 if al (s5.length+([(ajT.mk e1 r93.1.2.1 e7 x.2.1.2.2.2.2.2.2.2.2.1 x.2.1.2.2.2.2.2.2.2.2.2.1)]:List ajT).length) then
 if al (s7.length+E0.length) then
 some ((true,()),((s0,T0,(aqZ s2 (aqy e1) (ajR.mk r93.1.1.1 r93.1.1.2.1 r93.1.1.2.2.1 r93.1.1.2.2.2.1 r93.1.1.2.2.2.2.1)),s3,s4,(s5++([(ajT.mk e1 r93.1.2.1 e7 x.2.1.2.2.2.2.2.2.2.2.1 x.2.1.2.2.2.2.2.2.2.2.2.1)]:List ajT)),s6,V0,()),()))
 else none
 else none
 else none
 else none
 else
 if decide (e0=2) then
 (gA ((v88,v89,v90,v91,v92,()),())).bind fun r94=>
 if inb e1 s2.length then
 if r94.1.2.1 then
 if al (s7.length+E0.length) then
 some (r94.1.2,((s0,T0,(aqZ s2 (aqy e1) (ajR.mk r94.1.1.1 r94.1.1.2.1 r94.1.1.2.2.1 r94.1.1.2.2.2.1 r94.1.1.2.2.2.2.1)),s3,s4,s5,s6,V0,()),()))
 else none
 else
 some (r94.1.2,((s0,s1,(aqZ s2 (aqy e1) (ajR.mk r94.1.1.1 r94.1.1.2.1 r94.1.1.2.2.1 r94.1.1.2.2.2.1 r94.1.1.2.2.2.2.1)),x.1.2.2.2),()))
 else none
 else
 if decide (e0=3) then
 (ft ((v88,v89,v90,v91,v92,()),e2,e3,e5,())).bind fun r95=>
 if r95.1.2.1 then
 (aM (s4,([(Frame.mk r95.1.1.1 r95.1.1.2.1 r95.1.1.2.2.1 r95.1.1.2.2.2.1 r95.1.1.2.2.2.2.1 r95.1.1.2.2.2.2.2.1 r95.1.1.2.2.2.2.2.2.1 r95.1.1.2.2.2.2.2.2.2.1 r95.1.1.2.2.2.2.2.2.2.2.1 r95.1.1.2.2.2.2.2.2.2.2.2.1)]:List Frame),())).bind fun r96=>
 if r95.1.2.1 then
 if al (s7.length+E0.length) then
 some (r95.1.2,((s0,T0,s2,s3,r96.1.1,s5,s6,V0,()),()))
 else none
 else
 none
 else
 if r95.1.2.1 then
 if al (s7.length+E0.length) then
 some (r95.1.2,((s0,T0,s2,s3,s4,s5,s6,V0,()),()))
 else none
 else
 some (r95.1.2,(x.1,()))
 else
 if decide (e0=7) then
 (gE ((v88,v89,v90,v91,v92,()),e6,())).bind fun r97=>
 if inb e1 s2.length then
 if v89 then
 if al (s7.length+E0.length) then
 some ((v89,()),((s0,T0,(aqZ s2 (aqy e1) (ajR.mk r97.1.1.1 r97.1.1.2.1 r97.1.1.2.2.1 r97.1.1.2.2.2.1 r97.1.1.2.2.2.2.1)),s3,s4,s5,s6,V0,()),()))
 else none
 else
 some ((v89,()),((s0,s1,(aqZ s2 (aqy e1) (ajR.mk r97.1.1.1 r97.1.1.2.1 r97.1.1.2.2.1 r97.1.1.2.2.2.1 r97.1.1.2.2.2.2.1)),x.1.2.2.2),()))
 else none
 else
 if decide (e0=8) then
 (gB ((v88,v89,v90,v91,v92,()),())).bind fun r98=>
 if inb e1 s2.length then
 if !v89 then
 if al (s7.length+E0.length) then
 some (((!v89),()),((s0,T0,(aqZ s2 (aqy e1) (ajR.mk r98.1.1.1 r98.1.1.2.1 r98.1.1.2.2.1 r98.1.1.2.2.2.1 r98.1.1.2.2.2.2.1)),s3,s4,s5,s6,V0,()),()))
 else none
 else
 some (((!v89),()),((s0,s1,(aqZ s2 (aqy e1) (ajR.mk r98.1.1.1 r98.1.1.2.1 r98.1.1.2.2.1 r98.1.1.2.2.2.1 r98.1.1.2.2.2.2.1)),x.1.2.2.2),()))
 else none
 else
 if decide (e0=11) then
 (iJ ((v88,v89,v90,v91,v92,()),e2,e3,())).bind fun r99=>
 if r99.1.2.2.1 then
 if decide ((s6.length:Int) < 6) then
 if inb e1 s2.length then
 if al (s6.length+([(ajT.mk r99.1.2.1.1 r99.1.2.1.2.1 r99.1.2.1.2.2.1 r99.1.2.1.2.2.2.1 r99.1.2.1.2.2.2.2.1)]:List ajT).length) then
 if al (s7.length+E0.length) then
 some ((true,()),((s0,T0,(aqZ s2 (aqy e1) (ajR.mk r99.1.1.1 r99.1.1.2.1 r99.1.1.2.2.1 r99.1.1.2.2.2.1 r99.1.1.2.2.2.2.1)),s3,s4,s5,(s6++([(ajT.mk r99.1.2.1.1 r99.1.2.1.2.1 r99.1.2.1.2.2.1 r99.1.2.1.2.2.2.1 r99.1.2.1.2.2.2.2.1)]:List ajT)),V0,()),()))
 else none
 else none
 else none
 else
 some ((false,()),(x.1,()))
 else
 some ((false,()),(x.1,()))
 else
 if decide (e0=12) then
 (gD ((v88,v89,v90,v91,v92,()),())).bind fun alD=>
 if inb e1 s2.length then
 if alD.1.2.1 then
 if al (s7.length+E0.length) then
 some (alD.1.2,((s0,T0,(aqZ s2 (aqy e1) (ajR.mk alD.1.1.1 alD.1.1.2.1 alD.1.1.2.2.1 alD.1.1.2.2.2.1 alD.1.1.2.2.2.2.1)),s3,s4,s5,s6,V0,()),()))
 else none
 else
 some (alD.1.2,((s0,s1,(aqZ s2 (aqy e1) (ajR.mk alD.1.1.1 alD.1.1.2.1 alD.1.1.2.2.1 alD.1.1.2.2.2.1 alD.1.1.2.2.2.2.1)),x.1.2.2.2),()))
 else none
 else
 if decide (e0=13) then
 (fN ((v88,v89,v90,v91,v92,()),())).bind fun alC=>
 if inb e1 s2.length then
 if alC.1.2.1 then
 if al (s7.length+E0.length) then
 some (alC.1.2,((s0,T0,(aqZ s2 (aqy e1) (ajR.mk alC.1.1.1 alC.1.1.2.1 alC.1.1.2.2.1 alC.1.1.2.2.2.1 alC.1.1.2.2.2.2.1)),s3,s4,s5,s6,V0,()),()))
 else none
 else
 some (alC.1.2,((s0,s1,(aqZ s2 (aqy e1) (ajR.mk alC.1.1.1 alC.1.1.2.1 alC.1.1.2.2.1 alC.1.1.2.2.2.1 alC.1.1.2.2.2.2.1)),x.1.2.2.2),()))
 else none
 else
 some ((false,()),(x.1,()))
 else none)
def cb:Ent:=(130,none,⟨[Z22,Z16],[.bool],ao⟩)
end Go.VS
end
