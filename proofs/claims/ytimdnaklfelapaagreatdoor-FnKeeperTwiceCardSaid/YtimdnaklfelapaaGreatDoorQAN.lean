/- Part 14. -/
import Derived.Shelf.Utf8.RuneCount
import Derived.Shelf.Strconv.Itoa0
import Derived.Shelf.Strconv.Itoa1
import Derived.Shelf.LaysM
import Derived.Shelf.Strconv.Itoa2
import Derived.Shelf.Strconv.Itoa3
import Derived.Shelf.Strings.Search1
import Derived.Shelf.Strings.Search2
import Derived.Shelf.Strings.Search3
import Derived.Shelf.Strings.Cut
import Derived.Shelf.Strings.Count
import Derived.Shelf.Strings.Shaped
import Derived.Shelf.Strings.Split
import Derived.Shelf.Strings.SplitShaped
import Derived.Shelf.Unicode.Decode
import Derived.Shelf.Strings.RuneCount
import Derived.Shelf.Strings.Explode
import Derived.Shelf.Unicode.DecodeSlow
import Derived.Shelf.Unicode.DecodeAny
import Derived.Test.YtimdnaklfelapaaGreatDoorProg
import Derived.Test.YtimdnaklfelapaaGreatDoorQAM
open Go.Lib renaming cellsOf→azt,cut→awQ,pow10Tab→ayd
open Go.Shelf renaming Ren→ayl
open Go.Value renaming string→azn
open Int renaming tdiv→au6,tmod→avq,toNat→auK
open List renaming drop→avp,replicate→au0,set→ave,take→au3
set_option linter.unusedVariables false
set_option linter.unusedSimpArgs false
set_option linter.defProp false
noncomputable section
namespace Go.Proofs
open Go.Shelf
def Tryz.aoU:ayl:=⟨fun | 171=>67 | 243=>124 | 246=>159 | 283=>188 | 284=>189 | 285=>190 | 286=>191 | 129=>207 | 317=>206 | 318=>208 | 319=>209 | 320=>210 | 337=>223 | 338=>224 | n=>n,fun | 3=>3 | 9=>9 | 2=>2 | 4=>4 | 171=>199 | 0=>0 | 53=>200 | 37=>22 | 5=>5 | 173=>203 | 212=>212 | 51=>213 | 20=>20 | 213=>214 | 46=>215 | 232=>226 | 233=>227 | n=>n,fun | 17=>0 | 18=>2 | 19=>3 | n=>n⟩
def Tryz.ap1:Go.Proofs.LaysM.n171 Tryz.prog Tryz.aoU:={
 mixed:=by kernel_rfl
 f129:=Tryz.func207.trans (congrArg some (by kernel_rfl))
 f171:=Tryz.func67.trans (congrArg some (by kernel_rfl))
 f243:=Tryz.func124.trans (congrArg some (by kernel_rfl))
 f246:=Tryz.func159.trans (congrArg some (by kernel_rfl))
 f283:=Tryz.func188.trans (congrArg some (by kernel_rfl))
 f284:=Tryz.func189.trans (congrArg some (by kernel_rfl))
 f285:=Tryz.func190.trans (congrArg some (by kernel_rfl))
 f286:=Tryz.func191.trans (congrArg some (by kernel_rfl))
 f317:=Tryz.func206.trans (congrArg some (by kernel_rfl))
 f318:=Tryz.func208.trans (congrArg some (by kernel_rfl))
 f319:=Tryz.func209.trans (congrArg some (by kernel_rfl))
 f320:=Tryz.func210.trans (congrArg some (by kernel_rfl))
 f337:=Tryz.func223.trans (congrArg some (by kernel_rfl))
 f338:=Tryz.func224.trans (congrArg some (by kernel_rfl))
 t0:=Tryz.underlying0
 a0:=Tryz.isAgg0
 z0:=Tryz.sizeOf0
 v0:=Tryz.zeroValue0
 t2:=Tryz.underlying2
 a2:=Tryz.isAgg2
 z2:=Tryz.sizeOf2
 v2:=Tryz.zeroValue2
 t3:=Tryz.underlying3
 a3:=Tryz.isAgg3
 z3:=Tryz.sizeOf3
 v3:=Tryz.zeroValue3
 t4:=Tryz.underlying4
 a4:=Tryz.isAgg4
 z4:=Tryz.sizeOf4
 v4:=Tryz.zeroValue4
 t5:=Tryz.underlying5
 a5:=Tryz.isAgg5
 z5:=Tryz.sizeOf5
 v5:=Tryz.zeroValue5
 t9:=Tryz.underlying9
 a9:=Tryz.isAgg9
 z9:=Tryz.sizeOf9
 v9:=Tryz.zeroValue9
 t20:=Tryz.underlying20
 a20:=Tryz.isAgg20
 z20:=Tryz.sizeOf20
 v20:=Tryz.zeroValue20
 t37:=Tryz.underlying22
 a37:=Tryz.isAgg22
 z37:=Tryz.sizeOf22
 v37:=Tryz.zeroValue22
 t46:=Tryz.underlying215
 a46:=Tryz.isAgg215
 z46:=Tryz.sizeOf215
 v46:=Tryz.zeroValue215
 t51:=Tryz.underlying213
 a51:=Tryz.isAgg213
 z51:=Tryz.sizeOf213
 v51:=Tryz.zeroValue213
 t53:=Tryz.underlying200
 a53:=Tryz.isAgg200
 z53:=Tryz.sizeOf200
 v53:=Tryz.zeroValue200
 t171:=Tryz.underlying199
 a171:=Tryz.isAgg199
 z171:=Tryz.sizeOf199
 v171:=Tryz.zeroValue199
 t173:=Tryz.underlying203
 a173:=Tryz.isAgg203
 z173:=Tryz.sizeOf203
 v173:=Tryz.zeroValue203
 t212:=Tryz.underlying212
 a212:=Tryz.isAgg212
 z212:=Tryz.sizeOf212
 v212:=Tryz.zeroValue212
 t213:=Tryz.underlying214
 a213:=Tryz.isAgg214
 z213:=Tryz.sizeOf214
 t232:=Tryz.underlying226
 a232:=Tryz.isAgg226
 z232:=Tryz.sizeOf226
 v232:=Tryz.zeroValue226
 t233:=Tryz.underlying227
 a233:=Tryz.isAgg227
 z233:=Tryz.sizeOf227
 v233:=Tryz.zeroValue227
 g17:=by kernel_rfl
 g18:=by kernel_rfl
 g19:=by kernel_rfl
 i0:=by kernel_rfl
 i2:=by kernel_rfl
 i3:=by kernel_rfl
 i4:=by kernel_rfl
 i5:=by kernel_rfl
 i9:=by kernel_rfl
 i20:=by kernel_rfl
 i37:=by kernel_rfl
 i46:=by kernel_rfl
 i51:=by kernel_rfl
 i53:=by kernel_rfl
 i171:=by kernel_rfl
 i173:=by kernel_rfl
 i212:=by kernel_rfl
 i232:=by kernel_rfl
 i233:=by kernel_rfl
 m17:=by kernel_rfl
 m18:=by kernel_rfl
 m19:=by kernel_rfl }
def Tryz.ao9:ayl:=⟨fun | 145=>178 | 220=>198 | 219=>219 | 217=>226 | 225=>227 | 224=>228 | 267=>229 | 266=>233 | 314=>234 | n=>n,fun | 9=>9 | 4=>4 | 59=>189 | 3=>3 | 5=>5 | 46=>215 | 146=>228 | 51=>213 | n=>n,fun | 1=>1 | n=>n⟩
def Tryz.aqs:Go.Proofs.Lays.n145 Tryz.prog Tryz.ao9:={
 mixed:=by kernel_rfl
 f145:=Tryz.func178.trans (congrArg some (by kernel_rfl))
 f217:=Tryz.func226.trans (congrArg some (by kernel_rfl))
 f219:=Tryz.func219.trans (congrArg some (by kernel_rfl))
 f220:=Tryz.func198.trans (congrArg some (by kernel_rfl))
 f224:=Tryz.func228.trans (congrArg some (by kernel_rfl))
 f225:=Tryz.func227.trans (congrArg some (by kernel_rfl))
 f266:=Tryz.func233.trans (congrArg some (by kernel_rfl))
 f267:=Tryz.func229.trans (congrArg some (by kernel_rfl))
 f314:=Tryz.func234.trans (congrArg some (by kernel_rfl))
 t3:=Tryz.underlying3
 a3:=Tryz.isAgg3
 z3:=Tryz.sizeOf3
 v3:=Tryz.zeroValue3
 t4:=Tryz.underlying4
 a4:=Tryz.isAgg4
 z4:=Tryz.sizeOf4
 v4:=Tryz.zeroValue4
 t5:=Tryz.underlying5
 a5:=Tryz.isAgg5
 z5:=Tryz.sizeOf5
 v5:=Tryz.zeroValue5
 t9:=Tryz.underlying9
 a9:=Tryz.isAgg9
 z9:=Tryz.sizeOf9
 v9:=Tryz.zeroValue9
 t46:=Tryz.underlying215
 a46:=Tryz.isAgg215
 z46:=Tryz.sizeOf215
 v46:=Tryz.zeroValue215
 t51:=Tryz.underlying213
 a51:=Tryz.isAgg213
 z51:=Tryz.sizeOf213
 v51:=Tryz.zeroValue213
 t59:=Tryz.underlying189
 a59:=Tryz.isAgg189
 z59:=Tryz.sizeOf189
 v59:=Tryz.zeroValue189
 t146:=Tryz.underlying228
 a146:=Tryz.isAgg228
 z146:=Tryz.sizeOf228
 v146:=Tryz.zeroValue228
 g1:=by kernel_rfl }
def Tryz.aoV:ayl:=⟨fun | 145=>178 | 220=>198 | 219=>219 | 217=>226 | 225=>227 | 224=>228 | 267=>229 | 266=>233 | 314=>234 | n=>n,fun | 9=>9 | 4=>4 | 59=>189 | 3=>3 | 5=>5 | 46=>215 | 146=>228 | 51=>213 | n=>n,fun | 1=>1 | n=>n⟩
def Tryz.aoM:Go.Proofs.LaysM.n145 Tryz.prog Tryz.aoV:={
 mixed:=by kernel_rfl
 f145:=Tryz.func178.trans (congrArg some (by kernel_rfl))
 f217:=Tryz.func226.trans (congrArg some (by kernel_rfl))
 f219:=Tryz.func219.trans (congrArg some (by kernel_rfl))
 f220:=Tryz.func198.trans (congrArg some (by kernel_rfl))
 f224:=Tryz.func228.trans (congrArg some (by kernel_rfl))
 f225:=Tryz.func227.trans (congrArg some (by kernel_rfl))
 f266:=Tryz.func233.trans (congrArg some (by kernel_rfl))
 f267:=Tryz.func229.trans (congrArg some (by kernel_rfl))
 f314:=Tryz.func234.trans (congrArg some (by kernel_rfl))
 t3:=Tryz.underlying3
 a3:=Tryz.isAgg3
 z3:=Tryz.sizeOf3
 v3:=Tryz.zeroValue3
 t4:=Tryz.underlying4
 a4:=Tryz.isAgg4
 z4:=Tryz.sizeOf4
 v4:=Tryz.zeroValue4
 t5:=Tryz.underlying5
 a5:=Tryz.isAgg5
 z5:=Tryz.sizeOf5
 v5:=Tryz.zeroValue5
 t9:=Tryz.underlying9
 a9:=Tryz.isAgg9
 z9:=Tryz.sizeOf9
 v9:=Tryz.zeroValue9
 t46:=Tryz.underlying215
 a46:=Tryz.isAgg215
 z46:=Tryz.sizeOf215
 v46:=Tryz.zeroValue215
 t51:=Tryz.underlying213
 a51:=Tryz.isAgg213
 z51:=Tryz.sizeOf213
 v51:=Tryz.zeroValue213
 t59:=Tryz.underlying189
 a59:=Tryz.isAgg189
 z59:=Tryz.sizeOf189
 v59:=Tryz.zeroValue189
 t146:=Tryz.underlying228
 a146:=Tryz.isAgg228
 z146:=Tryz.sizeOf228
 v146:=Tryz.zeroValue228
 g1:=by kernel_rfl
 i3:=by kernel_rfl
 i4:=by kernel_rfl
 i5:=by kernel_rfl
 i9:=by kernel_rfl
 i46:=by kernel_rfl
 i51:=by kernel_rfl
 i59:=by kernel_rfl
 i146:=by kernel_rfl
 m1:=by kernel_rfl
 s1_3:=fun w h=>Go.Proofs.cell_of_shapedOpen_int (zero:= #[.int .i64 0]) (t:=3) h (of_decide_eq_true (by kernel_rfl)) (by kernel_rfl) rfl (by kernel_rfl) (by kernel_rfl) Tryz.underlying3 }
def Tryz.ao8:ayl:=⟨fun | 146=>183 | 221=>203 | 268=>220 | 138=>221 | 143=>222 | 195=>230 | 197=>231 | 218=>232 | 219=>219 | 260=>235 | 217=>226 | 225=>227 | 224=>228 | 267=>229 | 266=>233 | 314=>234 | n=>n,fun | 9=>9 | 31=>94 | 3=>3 | 4=>4 | 0=>0 | 105=>224 | 21=>21 | 5=>5 | 46=>215 | 119=>230 | 139=>233 | 138=>232 | 146=>228 | 51=>213 | n=>n,fun | 1=>1 | 3=>4 | 4=>5 | n=>n⟩
def Tryz.aqr:Go.Proofs.Lays.n146 Tryz.prog Tryz.ao8:={
 mixed:=by kernel_rfl
 f138:=Tryz.func221.trans (congrArg some (by kernel_rfl))
 f143:=Tryz.func222.trans (congrArg some (by kernel_rfl))
 f146:=Tryz.func183.trans (congrArg some (by kernel_rfl))
 f195:=Tryz.func230.trans (congrArg some (by kernel_rfl))
 f197:=Tryz.func231.trans (congrArg some (by kernel_rfl))
 f217:=Tryz.func226.trans (congrArg some (by kernel_rfl))
 f218:=Tryz.func232.trans (congrArg some (by kernel_rfl))
 f219:=Tryz.func219.trans (congrArg some (by kernel_rfl))
 f221:=Tryz.func203.trans (congrArg some (by kernel_rfl))
 f224:=Tryz.func228.trans (congrArg some (by kernel_rfl))
 f225:=Tryz.func227.trans (congrArg some (by kernel_rfl))
 f260:=Tryz.func235.trans (congrArg some (by kernel_rfl))
 f266:=Tryz.func233.trans (congrArg some (by kernel_rfl))
 f267:=Tryz.func229.trans (congrArg some (by kernel_rfl))
 f268:=Tryz.func220.trans (congrArg some (by kernel_rfl))
 f314:=Tryz.func234.trans (congrArg some (by kernel_rfl))
 t0:=Tryz.underlying0
 a0:=Tryz.isAgg0
 z0:=Tryz.sizeOf0
 v0:=Tryz.zeroValue0
 t3:=Tryz.underlying3
 a3:=Tryz.isAgg3
 z3:=Tryz.sizeOf3
 v3:=Tryz.zeroValue3
 t4:=Tryz.underlying4
 a4:=Tryz.isAgg4
 z4:=Tryz.sizeOf4
 v4:=Tryz.zeroValue4
 t5:=Tryz.underlying5
 a5:=Tryz.isAgg5
 z5:=Tryz.sizeOf5
 v5:=Tryz.zeroValue5
 t9:=Tryz.underlying9
 a9:=Tryz.isAgg9
 z9:=Tryz.sizeOf9
 v9:=Tryz.zeroValue9
 t21:=Tryz.underlying21
 a21:=Tryz.isAgg21
 z21:=Tryz.sizeOf21
 v21:=Tryz.zeroValue21
 t31:=Tryz.underlying94
 a31:=Tryz.isAgg94
 z31:=Tryz.sizeOf94
 v31:=Tryz.zeroValue94
 t46:=Tryz.underlying215
 a46:=Tryz.isAgg215
 z46:=Tryz.sizeOf215
 v46:=Tryz.zeroValue215
 t51:=Tryz.underlying213
 a51:=Tryz.isAgg213
 z51:=Tryz.sizeOf213
 v51:=Tryz.zeroValue213
 t105:=Tryz.underlying224
 a105:=Tryz.isAgg224
 z105:=Tryz.sizeOf224
 v105:=Tryz.zeroValue224
 t119:=Tryz.underlying230
 a119:=Tryz.isAgg230
 z119:=Tryz.sizeOf230
 t138:=Tryz.underlying232
 a138:=Tryz.isAgg232
 z138:=Tryz.sizeOf232
 v138:=Tryz.zeroValue232
 t139:=Tryz.underlying233
 a139:=Tryz.isAgg233
 z139:=Tryz.sizeOf233
 v139:=Tryz.zeroValue233
 t146:=Tryz.underlying228
 a146:=Tryz.isAgg228
 z146:=Tryz.sizeOf228
 v146:=Tryz.zeroValue228
 g1:=by kernel_rfl
 g3:=by kernel_rfl
 g4:=by kernel_rfl }
def Tryz.ao7:ayl:=⟨fun | 147=>200 | 221=>203 | 268=>220 | 138=>221 | 143=>222 | 195=>230 | 197=>231 | 218=>232 | 219=>219 | 260=>235 | 217=>226 | 225=>227 | 224=>228 | 267=>229 | 266=>233 | 314=>234 | n=>n,fun | 9=>9 | 3=>3 | 31=>94 | 4=>4 | 0=>0 | 105=>224 | 21=>21 | 5=>5 | 46=>215 | 119=>230 | 139=>233 | 138=>232 | 146=>228 | 51=>213 | n=>n,fun | 1=>1 | 3=>4 | 4=>5 | n=>n⟩
def Tryz.aqq:Go.Proofs.Lays.n147 Tryz.prog Tryz.ao7:={
 mixed:=by kernel_rfl
 f138:=Tryz.func221.trans (congrArg some (by kernel_rfl))
 f143:=Tryz.func222.trans (congrArg some (by kernel_rfl))
 f147:=Tryz.func200.trans (congrArg some (by kernel_rfl))
 f195:=Tryz.func230.trans (congrArg some (by kernel_rfl))
 f197:=Tryz.func231.trans (congrArg some (by kernel_rfl))
 f217:=Tryz.func226.trans (congrArg some (by kernel_rfl))
 f218:=Tryz.func232.trans (congrArg some (by kernel_rfl))
 f219:=Tryz.func219.trans (congrArg some (by kernel_rfl))
 f221:=Tryz.func203.trans (congrArg some (by kernel_rfl))
 f224:=Tryz.func228.trans (congrArg some (by kernel_rfl))
 f225:=Tryz.func227.trans (congrArg some (by kernel_rfl))
 f260:=Tryz.func235.trans (congrArg some (by kernel_rfl))
 f266:=Tryz.func233.trans (congrArg some (by kernel_rfl))
 f267:=Tryz.func229.trans (congrArg some (by kernel_rfl))
 f268:=Tryz.func220.trans (congrArg some (by kernel_rfl))
 f314:=Tryz.func234.trans (congrArg some (by kernel_rfl))
 t0:=Tryz.underlying0
 a0:=Tryz.isAgg0
 z0:=Tryz.sizeOf0
 v0:=Tryz.zeroValue0
 t3:=Tryz.underlying3
 a3:=Tryz.isAgg3
 z3:=Tryz.sizeOf3
 v3:=Tryz.zeroValue3
 t4:=Tryz.underlying4
 a4:=Tryz.isAgg4
 z4:=Tryz.sizeOf4
 v4:=Tryz.zeroValue4
 t5:=Tryz.underlying5
 a5:=Tryz.isAgg5
 z5:=Tryz.sizeOf5
 v5:=Tryz.zeroValue5
 t9:=Tryz.underlying9
 a9:=Tryz.isAgg9
 z9:=Tryz.sizeOf9
 v9:=Tryz.zeroValue9
 t21:=Tryz.underlying21
 a21:=Tryz.isAgg21
 z21:=Tryz.sizeOf21
 v21:=Tryz.zeroValue21
 t31:=Tryz.underlying94
 a31:=Tryz.isAgg94
 z31:=Tryz.sizeOf94
 v31:=Tryz.zeroValue94
 t46:=Tryz.underlying215
 a46:=Tryz.isAgg215
 z46:=Tryz.sizeOf215
 v46:=Tryz.zeroValue215
 t51:=Tryz.underlying213
 a51:=Tryz.isAgg213
 z51:=Tryz.sizeOf213
 v51:=Tryz.zeroValue213
 t105:=Tryz.underlying224
 a105:=Tryz.isAgg224
 z105:=Tryz.sizeOf224
 v105:=Tryz.zeroValue224
 t119:=Tryz.underlying230
 a119:=Tryz.isAgg230
 z119:=Tryz.sizeOf230
 t138:=Tryz.underlying232
 a138:=Tryz.isAgg232
 z138:=Tryz.sizeOf232
 v138:=Tryz.zeroValue232
 t139:=Tryz.underlying233
 a139:=Tryz.isAgg233
 z139:=Tryz.sizeOf233
 v139:=Tryz.zeroValue233
 t146:=Tryz.underlying228
 a146:=Tryz.isAgg228
 z146:=Tryz.sizeOf228
 v146:=Tryz.zeroValue228
 g1:=by kernel_rfl
 g3:=by kernel_rfl
 g4:=by kernel_rfl }
open Go.RowKit Go.Sort Go.Lib in
theorem Tryz.strconv_Itoa (n:Int) (h0: -9223372036854775808≤n) (h1:n≤9223372036854775807) (w:World) (arB:Lib.TabIs Tryz.prog w "internal/strconv.uint64pow10" .u64 ayd):
  Calls Tryz.prog 67 #[.int .i64 n] w fun e w'=>e= .returned (.string ⟨(Lib.itoa n).toArray⟩)∧ ∃ k os,w'=grow (w.drewN k) os:=Any.strconv_Itoa Tryz.ap1 n h0 h1 w arB
open Go.RowKit Go.Lib in
theorem Tryz.strings_Cut (s sep:ByteArray) (m:Int) (w:World) (hs:s.size < 4294967281) (hm:w.cell? ⟨1,0,none⟩=some (.int .i64 m)):
  Calls Tryz.prog 178 #[.string s,.string sep] w fun e w'=>e= .returned (.tuple #[.string ⟨(awQ s.data.toList sep.data.toList).1.toArray⟩,.string ⟨(awQ s.data.toList sep.data.toList).2.1.toArray⟩,.bool (awQ s.data.toList sep.data.toList).2.2])∧ ∃ n,w'=w.drewN n:=Any.strings_Cut Tryz.aqs s sep m w hs hm
open Go.RowKit Go.Lib in
theorem Tryz.strings_Split (s sep:ByteArray) (m:Int) (w:World) (hs:s.size < 4294967281) (hm:w.cell? ⟨1,0,none⟩=some (.int .i64 m)) (h1:1≤sep.size):
  Calls Tryz.prog 183 #[.string s,.string sep] w fun e w'=>
   e= .returned (.slice (some ⟨w.heap.size,0,none⟩) (Lib.countB s sep+1) (Lib.countB s sep+1))∧w'=w.alloc (.cells ((Lib.splitB sep 0 (Lib.countB s sep) s).map azn).toArray 9):=Any.strings_Split Tryz.aqr (by kernel_rfl) s sep m w hs hm h1
open Go.RowKit Go.Lib in
theorem Tryz.strings_SplitN (s sep:ByteArray) (n:Nat) (m:Int) (w:World) (hs:s.size < 4294967281) (hm:w.cell? ⟨1,0,none⟩=some (.int .i64 m)) (h1:1≤sep.size) (hn:1≤n) (asZ:n≤9223372036854775807):
  Calls Tryz.prog 200 #[.string s,.string sep,.int .i64 n] w fun e w'=>
   e= .returned (.slice (some ⟨w.heap.size,0,none⟩) (Lib.splitB sep 0 (min n (s.size+1) - 1) s).length (min n (s.size+1)))∧w'=w.alloc (.cells (azt (Lib.splitB sep 0 (min n (s.size+1) - 1) s) (min n (s.size+1))) 9):=Any.strings_SplitN Tryz.aqq (by kernel_rfl) s sep n m w hs hm h1 hn asZ
end Go.Proofs
namespace Go.VS
open Go Go.Proofs
set_option maxRecDepth 100000
abbrev t1(v:Adv):Adv:= .two .nil v
def sk{P:Program}{C:Cx}{inl:(Ω:Type)→Inl Ω}{f:Nat}{d:Option Nat}{fn:Func}{m:aoi}{v:Adv}{ls:List (Code×Loop)}(hC:OKC P C inl)(hl:LpK P fn.ntmps (eO 0 m.ps) ls)
  (hf:fnB P f fn m=(some fn,false,true,true):=by kernel_rfl)(hb:fn.body=some (Bk fn):=by kernel_rfl)(h:dU (Bk fn) v=ls:=by kernel_rfl)(hg: ∀ x,alh C inl fn v m x=m.g x:=by intro _;kernel_rfl):SQ P (f,d,m):=
 so hC hf hb h hl hg
def sq{P:Program}{C:Cx}{inl:(Ω:Type)→Inl Ω}(hC:OKC P C inl){n:Nat}{pins:List Nat}{body:Code}{v:Adv}{l:Loop}{b:Lv l.sch→Option (Lv l.sch ⊕ (Lv l.apz ⊕ Lv l.apA))}{ls:List (Code×Loop)}
  (hl:LpK P n pins ls)(hb: ∀ x,evL C inl n pins body v l x=b x:=by intro _;kernel_rfl)(hr:l.run=aV b:=by rfl)(h:dU body v=ls:=by kernel_rfl):LpK P n pins [(body,l)]:=lk hC hb hr h hl
def kd:TypeId→Option K
 | 2=>some .int
 | 3=>some .int
 | 4=>some .bool
 | 5=>some .u8
 | 9=>some .str
 | 10=>some .str
 | 11=>some .str
 | 27=>some .anx
 | 29=>some .frame
 | 42=>some .keep
 | 46=>some .note
 | 59=>some .mark
 | 74=>some .anJ
 | 101=>some .half
 | 120=>some .mixed
 | 158=>some .aoc
 | _=>none
abbrev Y0:Type:=Int×Int×Int×Int×auB×auC
abbrev Z0:Sh:= .box 46 [.int .i64,.int .i64,.int .i64,.int .i64,.str]
abbrev Z1:Sh:= .agg [.int .i64,.int .i64,.int .i64,.int .i64,.str]
abbrev Y1:Type:=Int×Int×Int×List anz×List Mark×List anz×auC
abbrev Z2:Sh:= .box 42 [.int .i64,.int .i64,.int .i64,.sl .note,.sl .mark,.sl .note]
abbrev Z3:Sh:= .agg [.int .i64,.int .i64,.int .i64,.fz .note,.fz .mark,.fz .note]
abbrev Z4:Sh:= .box 42 [.int .i64,.int .i64,.int .i64,.row 46 .note,.row 59 .mark,.row 46 .note]
abbrev Y2:Type:=Int×Int×Int×auC
abbrev Z5:Sh:= .box 59 [.int .i64,.int .i64,.int .i64]
abbrev Z6:Sh:= .agg [.int .i64,.int .i64,.int .i64]
abbrev Z7:Sh:= .agg [.int .i64,.int .i64,.int .i64,.row 46 .note,.row 59 .mark,.row 46 .note]
abbrev Y3:Type:=Int×Bool×auB×Int×List anD×auC
abbrev Z8:Sh:= .agg [.int .i64,.bool,.str,.int .i64,.fz .half]
abbrev Y4:Type:=auB×Int×auC
abbrev Z9:Sh:= .agg [.str,.int .i64]
abbrev Y5:Type:=Int×auB×auC
abbrev Z10:Sh:= .agg [.int .i64,.str]
abbrev Y6:Type:=Int×Int×Int×Int×Int×List anA×auC
abbrev Z11:Sh:= .box 101 [.int .i64,.int .i64,.int .i64,.int .i64,.int .i64,.sl .mixed]
abbrev Z12:Sh:= .agg [.int .i64,.int .i64,.int .i64,.int .i64,.int .i64,.fz .mixed]
abbrev Z13:Sh:= .box 27 [.int .i64,.bool,.str,.int .i64,.sl .half]
abbrev Z14:Sh:= .box 27 [.int .i64,.bool,.str,.int .i64,.row 101 .half]
abbrev Z15:Sh:= .agg [.int .i64,.bool,.str,.int .i64,.row 101 .half]
abbrev Y7:Type:=Int×Int×Int×Int×Int×Int×Int×Int×Int×auB×auC
abbrev Z16:Sh:= .agg [.int .i64,.int .i64,.int .i64,.int .i64,.int .i64,.int .i64,.int .i64,.int .i64,.int .i64,.str]
abbrev Z17:Sh:= .box 24 [.str,.int .i64]
abbrev Z18:Sh:= .box 29 [.int .i64,.int .i64,.int .i64,.int .i64,.int .i64,.int .i64,.int .i64,.int .i64,.int .i64,.str]
abbrev Y8:Type:=List Int×Int×auC
abbrev Z19:Sh:= .box 115 [.fz .u8,.int .i64]
abbrev Y9:Type:=Int×List anv×List Bool×List anB×List anz×List anz×auC
abbrev Z20:Sh:= .box 69 [.int .i64,.row 27 .anx,.row 4 .bool,.row 74 .anJ,.row 46 .note,.row 46 .note]
abbrev Z21:Sh:= .agg [.int .i64,.row 27 .anx,.row 4 .bool,.row 74 .anJ,.row 46 .note,.row 46 .note]
abbrev Y10:Type:=Y8×Int×List anv×List Bool×List anB×List anz×List anz×List Event×auC
abbrev Z22:Sh:= .box 79 [Z19,.int .i64,.row 27 .anx,.row 4 .bool,.row 74 .anJ,.row 46 .note,.row 46 .note,.row 158 .aoc]
abbrev Z23:Sh:= .box 115 [.sl .u8,.int .i64]
abbrev Z24:Sh:= .box 79 [Z23,.int .i64,.row 27 .anx,.row 4 .bool,.row 74 .anJ,.row 46 .note,.row 46 .note,.row 158 .aoc]
abbrev Z27:Sh:= .box 158 [.int .i64,.int .i64,.int .i64,.int .i64,.int .i64,.int .i64,.int .i64,.int .i64,.int .i64,.str]
abbrev Y11:Type:=auC×Int×List anv×List Bool×List anB×List anz×List anz×List Event×auC
abbrev Z28:Sh:= .box 79 [.same 0,.int .i64,.row 27 .anx,.row 4 .bool,.row 74 .anJ,.row 46 .note,.row 46 .note,.row 158 .aoc]
abbrev Z30:Sh:= .box 42 [.int .i64,.int .i64,.int .i64,.row 46 .note,.row 59 .mark,.sl .note]
abbrev Z31:Sh:= .box 120 [.int .i64,.str]
abbrev Rnd(a b c:Type):=Option (a ⊕ (b ⊕ c))
noncomputable abbrev cX(l:List Ent)(cz sp:List (Nat×Nat)):Cx:=⟨Tryz.prog,kd,gam l,inR cz,inR sp⟩
abbrev LF(fn:Func)(pins path:List Nat)(l:Loop):=LpK Tryz.prog fn.ntmps pins [(ad3 path (Bk fn),l)]
def mixed:Tryz.prog.follows .mixedOrders=true:=by kernel_rfl
def ch:(Int×auC)→Option ((auB×auC)×(auC)):=acb
def ko:Ent:=(67,none,⟨[.int .i64],[.str],ch⟩)
def gG:SQ Tryz.prog ko:=⟨adR (qQ Tryz.func67 (by kernel_rfl) (by kernel_rfl:Tryz.f67.body=some (Bk Tryz.f67))) (by kernel_rfl) Tryz.strconv_Itoa,by kernel_rfl⟩
def oY:(auB×auB×auC)→Option ((auB×auB×Bool×auC)×(auC)):=aen
def I9:Ent:=(178,none,⟨[.str,.str],[.str,.str,.bool],oY⟩)
def Lt:SQ Tryz.prog I9:=⟨ahk (gm:=1) (qQ Tryz.func178 (by kernel_rfl) (by kernel_rfl:Tryz.f178.body=some (Bk Tryz.f178))) (auv (by kernel_rfl)) (fun w h=>Tryz.aoM.s1_3 w h) Tryz.strings_Cut,by kernel_rfl⟩
def pq:(auB×auB×auC)→Option ((List auB×auC)×(auC)):=Tu
def Ev:Ent:=(183,none,⟨[.str,.str],[.row 9 .str],pq⟩)
def H6:SQ Tryz.prog Ev:=⟨abp (gm:=1) (qQ Tryz.func183 (by kernel_rfl) (by kernel_rfl:Tryz.f183.body=some (Bk Tryz.f183))) (auv (by kernel_rfl)) (fun w h=>Tryz.aoM.s1_3 w h) Tryz.strings_Split,by kernel_rfl⟩
def ub:(auB×auB×Int×auC)→Option ((List auB×auC)×(auC)):=Lw
def Cn:Ent:=(200,none,⟨[.str,.str,.int .i64],[.row 9 .str],ub⟩)
def Fg:SQ Tryz.prog Cn:=⟨ZR (gm:=1) (qQ Tryz.func200 (by kernel_rfl) (by kernel_rfl:Tryz.f200.body=some (Bk Tryz.f200))) (auv (by kernel_rfl)) (fun w h=>Tryz.aoM.s1_3 w h) Tryz.strings_SplitN,by kernel_rfl⟩
def bS(aoH:(Int×auC)→Option ((auB×auC)×(auC)))(x:Int×auC):Option ((auB×auC)×auC):=
 if decide (x.1 < (-9223372036854775807)) then
 let v2:=(B [45,57,50,50,51,51,55,50,48,51,54,56,53,52,55,55,53,56,48,56])
 some ((v2,()),())
 else
 if decide (x.1 < 0) then
 (aoH ((w64 (0 - x.1)),())).bind fun r4=>
 if decide ((B [45]).size+r4.1.1.size≤4611686018427387904) then
 some ((((B [45])++r4.1.1),()),())
 else none
 else
 if decide (x.1 < 10) then
 let v6:=(eS ([(w8 (w64 (48+x.1)))]:List Int))
 some ((v6,()),())
 else
 (aoH ((w64 (au6 x.1 10)),())).bind fun r7=>
 if decide (r7.1.1.size+(eS ([(w8 (w64 (48+(avq x.1 10))))]:List Int)).size≤4611686018427387904) then
 let v8:=(r7.1.1++(eS ([(w8 (w64 (48+(avq x.1 10))))]:List Int)))
 some ((v8,()),())
 else none
def aG:=acs bS
def XL(g:(Int×auC)→Option ((auB×auC)×(auC))):Cx:=cX [(96,none,⟨[.int .i64],[.str],g⟩)] [] []
def aaT(g:(Int×auC)→Option ((auB×auC)×(auC)))(h:SQ Tryz.prog (96,none,⟨[.int .i64],[.str],g⟩)):OKC Tryz.prog (XL g) af:=okc mixed (gC h (av))
def gi:Ent:=(96,none,⟨[.int .i64],[.str],aG⟩)
def dP:SQ Tryz.prog gi:=soR (qQ (by kernel_rfl:Tryz.prog.funcs[96]? =some Tryz.f96) (by kernel_rfl) (by kernel_rfl:Tryz.f96.body=some (Bk Tryz.f96))) (fun _=>by kernel_rfl) fun g h=>so (v:= .nil) (fn:=Tryz.f96) (aaT g h) (by kernel_rfl) (by kernel_rfl) (by kernel_rfl) kN (fun _=>by kernel_rfl)
def XM:Cx:=cX [gi] [] [(9,11),(24,27)]
def NP:OKC Tryz.prog XM af:=okc mixed (gC dP (av))
def uS(x:auB×Int×Int×auC):Rnd (auB×Int×Int×auC) (Int×auC) (auB×Int×auC):=
 if decide (x.2.2.1 < (x.1.size:Int)) then
 if inb x.2.2.1 x.1.size then
 if aX (!(decide ((bt x.1 x.2.2.1) < 48))) (inb x.2.2.1 x.1.size) then
 if(decide ((bt x.1 x.2.2.1) < 48))||(decide (57 < (bt x.1 x.2.2.1))) then
 some (.inr (.inl ((-1),())))
 else
 if inb x.2.2.1 x.1.size then
 let v7:=(w64 ((w64 (x.2.1 * 10))+(w64 (w8 ((bt x.1 x.2.2.1) - 48)))))
 some (.inl (x.1,v7,(w64 (x.2.2.1+1)),()))
 else none
 else none
 else none
 else
 some (.inr (.inr (x.1,x.2.1,())))
def uj:=aV uS
def Fl:Loop:=⟨[(0,.str),(3,.int .i64),(4,.int .i64)],[(0,.str),(3,.int .i64)],0,[(2,.int .i64)],uj⟩
def Xv:LF Tryz.f148 [] [1,1,1,0,1,0,0] Fl:=sq (v:= .nil) NP (b:=uS) kN
def kM(x:auB×auC):Option ((Int×auC)×auC):=
 if(decide ((x.1.size:Int) < 1))||(decide (4 < (x.1.size:Int))) then
 some (((-1),()),())
 else
 (aK (uj (x.1,0,0,()))
 (fun y8=>some (y8,()))
 (fun y8=>(aG y8.2).bind fun r10=>
 if !decide (r10.1.1=y8.1) then
 some (((-1),()),())
 else
 some (y8.2,())))
def xr:Ent:=(148,none,⟨[.str],[.int .i64],kM⟩)
def ui:SQ Tryz.prog xr:=sk (v:=t1 (t1 (t1 (.two (t1 (.one (.loop Fl))) .nil)))) (fn:=Tryz.f148) NP (kC Xv kN)
def VP:Cx:=cX [xr] [] [(11,12)]
def JA:OKC Tryz.prog VP af:=okc mixed (gC ui (av))
def ff(x:auB×Int×auC):Rnd (auB×Int×auC) (auB×Int×auC) (auC):=
 if(decide (x.2.1 < (x.1.size:Int)))&&(decide (x.2.1 < 3)) then
 if inb x.2.1 x.1.size then
 if !decide ((bt x.1 x.2.1)=58) then
 some (.inl (x.1,(w64 (x.2.1+1)),()))
 else
 if decide (0≤x.2.1)&&decide (x.2.1≤(x.1.size:Int)) then
 (kM ((x.1.extract (0) (auK x.2.1)),())).bind fun r17=>
 if decide (r17.1.1 < 1) then
 some (.inr (.inl (noB,0,())))
 else
 if decide (60 < r17.1.1) then
 some (.inr (.inl (noB,0,())))
 else
 if decide ((x.1.size:Int) < (w64 ((w64 (x.2.1+2))+r17.1.1))) then
 some (.inr (.inl (noB,0,())))
 else
 if inb (w64 ((w64 (x.2.1+1))+r17.1.1)) x.1.size then
 if !decide ((bt x.1 (w64 ((w64 (x.2.1+1))+r17.1.1)))=59) then
 some (.inr (.inl (noB,0,())))
 else
 if(decide (0≤(w64 ((w64 (x.2.1+1))+r17.1.1)))&&decide ((w64 ((w64 (x.2.1+1))+r17.1.1))≤(x.1.size:Int)))&&(decide (0≤(w64 (x.2.1+1)))&&decide ((w64 (x.2.1+1))≤(w64 ((w64 (x.2.1+1))+r17.1.1)))) then
 let v18:=(x.1.extract (auK (w64 (x.2.1+1))) (auK (w64 ((w64 (x.2.1+1))+r17.1.1))))
 let v19:=(w64 ((w64 (x.2.1+2))+r17.1.1))
 some (.inr (.inl (v18,v19,())))
 else none
 else none
 else none
 else none
 else
 some (.inr (.inr ()))
def ry:=aV ff
def D0:Loop:=⟨[(0,.str),(4,.int .i64)],[],0,[(2,.str),(3,.int .i64)],ry⟩
def UM:LF Tryz.f109 [] [1,0,1,0,0] D0:=sq (v:= .nil) JA (b:=ff) kN
def uZ(x:auB×auC):Option ((auB×Int×auC)×auC):=
 (aK (ry (x.1,0,()))
 (fun y20=>some (y20,()))
 (fun y20=>some ((noB,0,()),())))
def Ji:Ent:=(109,none,⟨[.str],[.str,.int .i64],uZ⟩)
def LJ:SQ Tryz.prog Ji:=sk (v:=t1 (.two (t1 (.one (.loop D0))) .nil)) (fn:=Tryz.f109) JA (kC UM kN)
def Nk:Cx:=cX [Ji] [] []
def CF:OKC Tryz.prog Nk af:=okc mixed (gC LJ (av))
def fy(x:auB×List auB×Int×auC):Rnd (auB×List auB×Int×auC) (List auB×Int×auC) (List auB×Int×auC):=
 if decide (x.2.2.1 < (x.1.size:Int)) then
 if decide (0≤x.2.2.1)&&decide (x.2.2.1≤(x.1.size:Int)) then
 (uZ ((x.1.extract (auK x.2.2.1) (x.1.size)),())).bind fun r6=>
 if decide (r6.1.2.1=0) then
 some (.inr (.inl x.2))
 else
 if an (x.2.1.length+([r6.1.1]:List auB).length) then
 let v7:=(w64 (x.2.2.1+r6.1.2.1))
 some (.inl (x.1,(x.2.1++([r6.1.1]:List auB)),v7,()))
 else none
 else none
 else
 some (.inr (.inr x.2))
def mS:=aV fy
def xS:Loop:=⟨[(0,.str),(4,.row 9 .str),(5,.int .i64)],[(4,.row 9 .str),(5,.int .i64)],0,[(2,.row 9 .str),(3,.int .i64)],mS⟩
def My:LF Tryz.f56 [] [1,1,1,0,0,0] xS:=sq (v:= .nil) CF (b:=fy) kN
def cI(x:auB×auC):Option ((List auB×Int×auC)×auC):=
 (aK (mS (x.1,([]:List auB),0,()))
 (fun y8=>some (y8,()))
 (fun y8=>some (y8,())))
def kq:Ent:=(56,none,⟨[.str],[.row 9 .str,.int .i64],cI⟩)
def iw:SQ Tryz.prog kq:=sk (v:=t1 (t1 (t1 (.two (.one (.loop xS)) .nil)))) (fn:=Tryz.f56) CF (kC My kN)
def aaK:Cx:=cX [] [] [(11,13)]
def acT:OKC Tryz.prog aaK af:=okc mixed (av)
def az(x:Int×Int×Int×auC):Option ((Bool×auC)×auC):=
 let v2:=((decide (x.2.1≤x.1))&&(decide (x.1≤x.2.2.1)))
 some ((v2,()),())
def dh:Ent:=(63,none,⟨[.int .i64,.int .i64,.int .i64],[.bool],az⟩)
def bQ:SQ Tryz.prog dh:=sk (v:= .nil) (fn:=Tryz.f63) acT kN
def Pr:Cx:=cX [dh] [] []
def Sr:OKC Tryz.prog Pr af:=okc mixed (gC bQ (av))
def bf(x:Int×auC):Option ((Bool×auC)×auC):=
 (az (x.1,0,3,())).bind fun r1=>
 some (r1.1,())
def cg:Ent:=(54,none,⟨[.int .i64],[.bool],bf⟩)
def bM:SQ Tryz.prog cg:=sk (v:= .nil) (fn:=Tryz.f54) Sr kN
def RZ:Cx:=cX [] [] [(22,28)]
def G8:OKC Tryz.prog RZ af:=okc mixed (av)
def pE(x:List Mark×Int×Int×Int×auC):Rnd (List Mark×Int×Int×Int×auC) (Int×auC) (auC):=
 if decide (x.2.2.2.1 < (x.1.length:Int)) then
 if inb x.2.2.2.1 x.1.length then
 if aX (decide ((rd (dfl .mark) x.1 x.2.2.2.1).mf=x.2.1)) (inb x.2.2.2.1 x.1.length) then
 if(decide ((rd (dfl .mark) x.1 x.2.2.2.1).mf=x.2.1))&&(decide ((rd (dfl .mark) x.1 x.2.2.2.1).mn=x.2.2.1)) then
 some (.inr (.inl x.2.2.2))
 else
 some (.inl (x.1,x.2.1,x.2.2.1,(w64 (x.2.2.2.1+1)),()))
 else none
 else none
 else
 some (.inr (.inr ()))
def p8:=aV pE
def By:Loop:=⟨[(0,.sl .mark),(1,.int .i64),(2,.int .i64),(7,.int .i64)],[],0,[(6,.int .i64)],p8⟩
def Rp:LF Tryz.f84 [] [1,0,1,0,0] By:=sq (v:= .nil) G8 (b:=pE) kN
def db(x:List Mark×Int×Int×auC):Option ((Int×auC)×auC):=
 (aK (p8 (x.1,x.2.1,x.2.2.1,0,()))
 (fun y2=>some (y2,()))
 (fun y2=>some (((-1),()),())))
def nD:Ent:=(84,none,⟨[.fz .mark,.int .i64,.int .i64],[.int .i64],db⟩)
def kQ:SQ Tryz.prog nD:=sk (v:=t1 (.two (t1 (.one (.loop By))) .nil)) (fn:=Tryz.f84) G8 (kC Rp kN)
def VQ:Cx:=cX [cg,dh] [] [(51,55)]
def JB:OKC Tryz.prog VQ af:=okc mixed (gC bM (gC bQ (av)))
def rB(x:Y0×Int×auC):Rnd (Y0×Int×auC) (Bool×auC) (auC):=
 if decide (x.2.1 < (x.1.2.2.2.2.1.size:Int)) then
 if inb x.2.1 x.1.2.2.2.2.1.size then
 if aX (!(decide ((bt x.1.2.2.2.2.1 x.2.1) < 32))) (inb x.2.1 x.1.2.2.2.2.1.size) then
 if(decide ((bt x.1.2.2.2.2.1 x.2.1) < 32))||(decide (126 < (bt x.1.2.2.2.2.1 x.2.1))) then
 some (.inr (.inl (false,())))
 else
 some (.inl (x.1,(w64 (x.2.1+1)),()))
 else none
 else none
 else
 some (.inr (.inr ()))
def rA:=aV rB
def D2:Loop:=⟨[(1,Z0),(3,.int .i64)],[],0,[(2,.bool)],rA⟩
def UN:LF Tryz.f139 [] [1,1,0,1,0,0] D2:=sq (v:= .nil) JB (b:=rB) kN
def lK(x:Y0×auC):Option ((Bool×auC)×auC):=
 (bf (x.1.1,())).bind fun r9=>
 if !r9.1.1 then
 some ((false,()),())
 else
 (bf (x.1.2.2.1,())).bind fun r10=>
 if !r10.1.1 then
 some ((false,()),())
 else
 (az (x.1.2.1,1,99,())).bind fun r11=>
 if !r11.1.1 then
 some ((false,()),())
 else
 (az (x.1.2.2.2.1,1,999,())).bind fun r12=>
 if !r12.1.1 then
 some ((false,()),())
 else
 if decide ((x.1.2.2.2.2.1.size:Int) < 1) then
 some ((false,()),())
 else
 if decide (24 < (x.1.2.2.2.2.1.size:Int)) then
 some ((false,()),())
 else
 (aK (rA (x.1,0,()))
 (fun y14=>some (y14,()))
 (fun y14=>some ((true,()),())))
def vk:Ent:=(139,none,⟨[Z1],[.bool],lK⟩)
def rz:SQ Tryz.prog vk:=sk (v:=t1 (t1 (.two (t1 (.one (.loop D2))) .nil))) (fn:=Tryz.f139) JB (kC UN kN)
def R0:Cx:=cX [] [] [(13,20)]
def Wz:OKC Tryz.prog R0 af:=okc mixed (av)
def ed(x:Int×Int×Int×Int×auC):Option ((Bool×auC)×auC):=
 let v2:=((decide (x.1 < x.2.2.1))||((decide (x.1=x.2.2.1))&&(decide (x.2.1 < x.2.2.2.1))))
 some ((v2,()),())
def nE:Ent:=(196,none,⟨[.int .i64,.int .i64,.int .i64,.int .i64],[.bool],ed⟩)
def kR:SQ Tryz.prog nE:=sk (v:= .nil) (fn:=Tryz.f196) Wz kN
def Px:Cx:=cX [vk,nE] [] [(23,50)]
def EK:OKC Tryz.prog Px af:=okc mixed (gC rz (gC kR (av)))
def nK(x:List anz×Int×auC):Rnd (List anz×Int×auC) (Bool×auC) (auC):=
 if decide (x.2.1 < (x.1.length:Int)) then
 if inb x.2.1 x.1.length then
 (lK (((rd (dfl .note) x.1 x.2.1).fr,(rd (dfl .note) x.1 x.2.1).nu,(rd (dfl .note) x.1 x.2.1).to,(rd (dfl .note) x.1 x.2.1).un,(rd (dfl .note) x.1 x.2.1).tx,()),())).bind fun r10=>
 if aX ((!(!r10.1.1))&&(decide (0 < x.2.1))) (inb (w64 (x.2.1 - 1)) x.1.length) then
 if aX ((!(!r10.1.1))&&(decide (0 < x.2.1))) (inb (w64 (x.2.1 - 1)) x.1.length) then
 if aX ((!(!r10.1.1))&&(decide (0 < x.2.1))) (inb x.2.1 x.1.length) then
 if aX ((!(!r10.1.1))&&(decide (0 < x.2.1))) (inb x.2.1 x.1.length) then
 if aX ((!(!r10.1.1))&&(decide (0 < x.2.1))) ((ed ((rd (dfl .note) x.1 (w64 (x.2.1 - 1))).fr,(rd (dfl .note) x.1 (w64 (x.2.1 - 1))).nu,(rd (dfl .note) x.1 x.2.1).fr,(rd (dfl .note) x.1 x.2.1).nu,())).isSome) then
 if(!r10.1.1)||((decide (0 < x.2.1))&&(!(((ed ((rd (dfl .note) x.1 (w64 (x.2.1 - 1))).fr,(rd (dfl .note) x.1 (w64 (x.2.1 - 1))).nu,(rd (dfl .note) x.1 x.2.1).fr,(rd (dfl .note) x.1 x.2.1).nu,())).getD ((false,()),())).1.1))) then
 some (.inr (.inl (false,())))
 else
 some (.inl (x.1,(w64 (x.2.1+1)),()))
 else none
 else none
 else none
 else none
 else none
 else none
 else
 some (.inr (.inr ()))
def oJ:=aV nK
def zv:Loop:=⟨[(0,.sl .note),(5,.int .i64)],[],0,[(4,.bool)],oJ⟩
def OV:LF Tryz.f166 [] [1,1,0,1,0,0] zv:=sq (v:= .nil) EK (b:=nK) kN
def lp(x:List anz×Int×auC):Option ((Bool×auC)×auC):=
 if decide (x.2.1 < (x.1.length:Int)) then
 some ((false,()),())
 else
 (aK (oJ (x.1,0,()))
 (fun y11=>some (y11,()))
 (fun y11=>some ((true,()),())))
def EA:Ent:=(166,none,⟨[.fz .note,.int .i64],[.bool],lp⟩)
def Ib:SQ Tryz.prog EA:=sk (v:=t1 (t1 (.two (t1 (.one (.loop zv))) .nil))) (fn:=Tryz.f166) EK (kC OV kN)
def Py:Cx:=cX [cg,dh,nE] [] []
def EL:OKC Tryz.prog Py af:=okc mixed (gC bM (gC bQ (gC kR (av))))
def nL(x:List Mark×Int×auC):Rnd (List Mark×Int×auC) (Bool×auC) (auC):=
 if decide (x.2.1 < (x.1.length:Int)) then
 if inb x.2.1 x.1.length then
 let v49:=(rd (dfl .mark) x.1 x.2.1).mf
 let v50:=(rd (dfl .mark) x.1 x.2.1).mn
 let v51:=(rd (dfl .mark) x.1 x.2.1).mu
 (bf (v49,())).bind fun r52=>
 if !r52.1.1 then
 some (.inr (.inl (false,())))
 else
 (az (v50,1,99,())).bind fun r53=>
 if !r53.1.1 then
 some (.inr (.inl (false,())))
 else
 (az (v51,1,999,())).bind fun r54=>
 if !r54.1.1 then
 some (.inr (.inl (false,())))
 else
 if decide (0 < x.2.1) then
 if inb (w64 (x.2.1 - 1)) x.1.length then
 if inb (w64 (x.2.1 - 1)) x.1.length then
 (ed ((rd (dfl .mark) x.1 (w64 (x.2.1 - 1))).mf,(rd (dfl .mark) x.1 (w64 (x.2.1 - 1))).mn,v49,v50,())).bind fun r55=>
 if !r55.1.1 then
 some (.inr (.inl (false,())))
 else
 some (.inl (x.1,(w64 (x.2.1+1)),()))
 else none
 else none
 else
 some (.inl (x.1,(w64 (x.2.1+1)),()))
 else none
 else
 some (.inr (.inr ()))
def oK:=aV nL
def zw:Loop:=⟨[(0,.sl .mark),(3,.int .i64)],[],0,[(2,.bool)],oK⟩
def OW:LF Tryz.f167 [] [1,1,0,1,0,0] zw:=sq (v:= .nil) EL (b:=nL) kN
def pD(x:List Mark×auC):Option ((Bool×auC)×auC):=
 if decide (12 < (x.1.length:Int)) then
 some ((false,()),())
 else
 (aK (oK (x.1,0,()))
 (fun y56=>some (y56,()))
 (fun y56=>some ((true,()),())))
def EB:Ent:=(167,none,⟨[.fz .mark],[.bool],pD⟩)
def Ic:SQ Tryz.prog EB:=sk (v:=t1 (t1 (.two (t1 (.one (.loop zw))) .nil))) (fn:=Tryz.f167) EL (kC OW kN)
def VK:Cx:=cX [] [] [(16,25)]
def X3:OKC Tryz.prog VK af:=okc mixed (av)
def uV(x:Y0×Int×auC):Option ((Bool×auC)×auC):=
 if decide (x.1.1≤x.2.1) then
 let v3:=((decide (x.2.1 < x.1.2.2.1))||((decide (x.1.2.2.1 < x.2.1))&&(decide (x.2.1≤x.1.1))))
 some ((v3,()),())
 else
 let v4:=((decide (x.1.2.2.1 < x.2.1))&&(decide (x.2.1≤x.1.1)))
 some ((v4,()),())
def Je:Ent:=(168,none,⟨[Z1,.int .i64],[.bool],uV⟩)
def LD:SQ Tryz.prog Je:=sk (v:= .nil) (fn:=Tryz.f168) X3 kN
def VT:Cx:=cX [cg,dh,nD,EA,EB,Je] [] [(109,120)]
def vm:OKC Tryz.prog VT af:=okc mixed (gC bM (gC bQ (gC kQ (gC Ib (gC Ic (gC LD (av)))))))
def rM(x:Y1×Int×auC):Rnd (Y1×Int×auC) (Bool×auC) (auC):=
 if decide (x.2.1 < (x.1.2.2.2.2.2.1.length:Int)) then
 if inb x.2.1 x.1.2.2.2.2.2.1.length then
 let arP:=(rd (dfl .note) x.1.2.2.2.2.2.1 x.2.1).fr
 let v141:=(rd (dfl .note) x.1.2.2.2.2.2.1 x.2.1).nu
 let ato:=(rd (dfl .note) x.1.2.2.2.2.2.1 x.2.1).to
 let v143:=(rd (dfl .note) x.1.2.2.2.2.2.1 x.2.1).un
 let aul:=(rd (dfl .note) x.1.2.2.2.2.2.1 x.2.1).tx
 (if !decide (ato=x.1.1) then
 some (.inr (.inl (false,())))
 else
 if decide (arP=x.1.1) then
 if decide (x.1.2.2.1≤v141) then
 some (.inr (.inl (false,())))
 else
 if decide (x.1.2.1 < v143) then
 (db (x.1.2.2.2.2.1,arP,v141,())).bind fun atC=>
 if decide (atC.1.1 < 0) then
 some (.inr (.inl (false,())))
 else
 some (.inl (x.1,(w64 (x.2.1+1)),()))
 else
 some (.inl (x.1,(w64 (x.2.1+1)),()))
 else
 if decide (x.1.2.1 < v143) then
 (db (x.1.2.2.2.2.1,arP,v141,())).bind fun atB=>
 if decide (atB.1.1 < 0) then
 some (.inr (.inl (false,())))
 else
 some (.inl (x.1,(w64 (x.2.1+1)),()))
 else
 some (.inl (x.1,(w64 (x.2.1+1)),())))
 else none
 else
 some (.inr (.inr ()))
def rJ:=aV rM
def D6:Loop:=⟨[(1,Z2),(7,.int .i64)],[],4,[(2,.bool)],rJ⟩
def UB:LF Tryz.f140 [] [1,1,1,1,0,1,0,0] D6:=sq (v:= .nil) vm (b:=rM) kN
def rN(x:Y1×Int×auC):Rnd (Y1×Int×auC) (Bool×auC) (Y1×auC):=
 if decide (x.2.1 < (x.1.2.2.2.2.1.length:Int)) then
 if inb x.2.1 x.1.2.2.2.2.1.length then
 let v94:=(rd (dfl .mark) x.1.2.2.2.2.1 x.2.1).mf
 let v95:=(rd (dfl .mark) x.1.2.2.2.2.1 x.2.1).mn
 let v96:=(rd (dfl .mark) x.1.2.2.2.2.1 x.2.1).mu
 if(decide (v96≤x.1.2.1))||((decide (v94=x.1.1))&&(decide (x.1.2.2.1≤v95))) then
 some (.inr (.inl (false,())))
 else
 some (.inl (x.1,(w64 (x.2.1+1)),()))
 else none
 else
 some (.inr (.inr (x.1,())))
def rK:=aV rN
def D7:Loop:=⟨[(1,Z2),(5,.int .i64)],[(1,Z2)],2,[(2,.bool)],rK⟩
def UE:LF Tryz.f140 [] [1,1,1,0,1,0,0] D7:=sq (v:= .nil) vm (b:=rN) kN
def rO(x:Y1×Int×auC):Rnd (Y1×Int×auC) (Bool×auC) (Y1×auC):=
 if decide (x.2.1 < (x.1.2.2.2.1.length:Int)) then
 if inb x.2.1 x.1.2.2.2.1.length then
 let v69:=(rd (dfl .note) x.1.2.2.2.1 x.2.1).fr
 let v70:=(rd (dfl .note) x.1.2.2.2.1 x.2.1).nu
 let v71:=(rd (dfl .note) x.1.2.2.2.1 x.2.1).to
 let v72:=(rd (dfl .note) x.1.2.2.2.1 x.2.1).un
 let v73:=(rd (dfl .note) x.1.2.2.2.1 x.2.1).tx
 if decide (v72≤x.1.2.1) then
 some (.inr (.inl (false,())))
 else
 (uV ((v69,v70,v71,v72,v73,()),x.1.1,())).bind fun r74=>
 if !r74.1.1 then
 some (.inr (.inl (false,())))
 else
 if decide (v69=x.1.1) then
 if decide (x.1.2.2.1≤v70) then
 some (.inr (.inl (false,())))
 else
 (db (x.1.2.2.2.2.1,v69,v70,())).bind fun r75=>
 if decide (0≤r75.1.1) then
 some (.inr (.inl (false,())))
 else
 some (.inl (x.1,(w64 (x.2.1+1)),()))
 else
 (db (x.1.2.2.2.2.1,v69,v70,())).bind fun r76=>
 if decide (0≤r76.1.1) then
 some (.inr (.inl (false,())))
 else
 some (.inl (x.1,(w64 (x.2.1+1)),()))
 else none
 else
 some (.inr (.inr (x.1,())))
def rL:=aV rO
def D8:Loop:=⟨[(1,Z2),(3,.int .i64)],[(1,Z2)],0,[(2,.bool)],rL⟩
def UP:LF Tryz.f140 [] [1,1,0,1,0,0] D8:=sq (v:= .nil) vm (b:=rO) kN
def iV(x:Y1×auC):Option ((Bool×auC)×auC):=
 (bf (x.1.1,())).bind fun r13=>
 if !r13.1.1 then
 some ((false,()),())
 else
 (az (x.1.2.1,0,999,())).bind fun r14=>
 if !r14.1.1 then
 some ((false,()),())
 else
 (az (x.1.2.2.1,1,100,())).bind fun r15=>
 if !r15.1.1 then
 some ((false,()),())
 else
 (lp (x.1.2.2.2.1,6,())).bind fun r16=>
 if !r16.1.1 then
 some ((false,()),())
 else
 (pD (x.1.2.2.2.2.1,())).bind fun r17=>
 if !r17.1.1 then
 some ((false,()),())
 else
 (lp (x.1.2.2.2.2.2.1,6,())).bind fun r18=>
 if !r18.1.1 then
 some ((false,()),())
 else
 (aK (rL (x.1,0,()))
 (fun y77=>some (y77,()))
 (fun y77=>(aK (rK (y77.1,0,()))
 (fun y97=>some (y97,()))
 (fun y97=>(aK (rJ (y97.1,0,()))
 (fun asE=>some (asE,()))
 (fun asE=>some ((true,()),())))))))
def A7:Ent:=(140,none,⟨[Z3],[.bool],iV⟩)
def zE:SQ Tryz.prog A7:=sk (v:=t1 (t1 (.two (t1 (.one (.loop D8))) (.two (t1 (.one (.loop D7))) (.two (t1 (.one (.loop D6))) .nil))))) (fn:=Tryz.f140) vm (kC UP (kC UE (kC UB kN)))
def R3:Cx:=cX [] [] [(22,28)]
def G9:OKC Tryz.prog R3 af:=okc mixed (av)
def pF(x:List anz×Int×Int×Int×auC):Rnd (List anz×Int×Int×Int×auC) (Int×auC) (auC):=
 if decide (x.2.2.2.1 < (x.1.length:Int)) then
 if inb x.2.2.2.1 x.1.length then
 if aX (decide ((rd (dfl .note) x.1 x.2.2.2.1).fr=x.2.1)) (inb x.2.2.2.1 x.1.length) then
 if(decide ((rd (dfl .note) x.1 x.2.2.2.1).fr=x.2.1))&&(decide ((rd (dfl .note) x.1 x.2.2.2.1).nu=x.2.2.1)) then
 some (.inr (.inl x.2.2.2))
 else
 some (.inl (x.1,x.2.1,x.2.2.1,(w64 (x.2.2.2.1+1)),()))
 else none
 else none
 else
 some (.inr (.inr ()))
def p9:=aV pF
def Bz:Loop:=⟨[(0,.sl .note),(1,.int .i64),(2,.int .i64),(7,.int .i64)],[],0,[(6,.int .i64)],p9⟩
def Rq:LF Tryz.f44 [] [1,0,1,0,0] Bz:=sq (v:= .nil) G9 (b:=pF) kN
def bo(x:List anz×Int×Int×auC):Option ((Int×auC)×auC):=
 (aK (p9 (x.1,x.2.1,x.2.2.1,0,()))
 (fun y2=>some (y2,()))
 (fun y2=>some (((-1),()),())))
def ew:Ent:=(44,none,⟨[.fz .note,.int .i64,.int .i64],[.int .i64],bo⟩)
def dd:SQ Tryz.prog ew:=sk (v:=t1 (.two (t1 (.one (.loop Bz))) .nil)) (fn:=Tryz.f44) G9 (kC Rq kN)
def VD:Cx:=cX [] [] []
def Jw:OKC Tryz.prog VD af:=okc mixed (av)
def rk(x:auB×Int×auC):Rnd (auB×Int×auC) (auB×auB×auC) (auB×auC):=
 if decide (x.2.1 < (x.1.size:Int)) then
 if inb x.2.1 x.1.size then
 if decide ((bt x.1 x.2.1)=32) then
 if decide (0≤x.2.1)&&decide (x.2.1≤(x.1.size:Int)) then
 if decide (0≤(w64 (x.2.1+1)))&&decide ((w64 (x.2.1+1))≤(x.1.size:Int)) then
 let v12:=(x.1.extract (0) (auK x.2.1))
 let v13:=(x.1.extract (auK (w64 (x.2.1+1))) (x.1.size))
 some (.inr (.inl (v12,v13,())))
 else none
 else none
 else
 some (.inl (x.1,(w64 (x.2.1+1)),()))
 else none
 else
 some (.inr (.inr (x.1,())))
def rj:=aV rk
def DV:Loop:=⟨[(0,.str),(4,.int .i64)],[(0,.str)],0,[(2,.str),(3,.str)],rj⟩
def UI:LF Tryz.f169 [] [1,0,1,0,0] DV:=sq (v:= .nil) Jw (b:=rk) kN
def gn(x:auB×auC):Option ((auB×auB×auC)×auC):=
 (aK (rj (x.1,0,()))
 (fun y14=>some (y14,()))
 (fun y14=>some ((y14.1,noB,()),())))
def A5:Ent:=(169,none,⟨[.str],[.str,.str],gn⟩)
def zr:SQ Tryz.prog A5:=sk (v:=t1 (.two (t1 (.one (.loop DV))) .nil)) (fn:=Tryz.f169) Jw (kC UI kN)
def RW:Cx:=cX [] [] []
def yU:OKC Tryz.prog RW af:=okc mixed (av)
def pB(x:Int×Y1×Y1×List anz×List Mark×Int×auC):Rnd (Int×Y1×Y1×List anz×List Mark×Int×auC) (auC) (Int×Y1×Y1×List anz×List Mark×auC):=
 if decide (x.2.2.2.2.2.1 < (x.2.1.2.2.2.2.1.length:Int)) then
 if inb x.2.2.2.2.2.1 x.2.1.2.2.2.2.1.length then
 if decide (x.1 < (rd (dfl .mark) x.2.1.2.2.2.2.1 x.2.2.2.2.2.1).mu) then
 if inb x.2.2.2.2.2.1 x.2.1.2.2.2.2.1.length then
 if an (x.2.2.2.2.1.length+([(rd (dfl .mark) x.2.1.2.2.2.2.1 x.2.2.2.2.2.1)]:List Mark).length) then
 let v8:=(w64 (x.2.2.2.2.2.1+1))
 some (.inl (x.1,x.2.1,x.2.2.1,x.2.2.2.1,(x.2.2.2.2.1++([(rd (dfl .mark) x.2.1.2.2.2.2.1 x.2.2.2.2.2.1)]:List Mark)),v8,()))
 else none
 else none
 else
 let v9:=(w64 (x.2.2.2.2.2.1+1))
 some (.inl (x.1,x.2.1,x.2.2.1,x.2.2.2.1,x.2.2.2.2.1,v9,()))
 else none
 else
 some (.inr (.inr (x.1,x.2.1,x.2.2.1,x.2.2.2.1,x.2.2.2.2.1,())))
def p6:=aV pB
def Bw:Loop:=⟨[(1,.int .i64),(2,Z2),(4,Z4),(5,.row 46 .note),(7,.row 59 .mark),(8,.int .i64)],[(1,.int .i64),(2,Z2),(4,Z4),(5,.row 46 .note),(7,.row 59 .mark)],2,[],p6⟩
def Rb:LF Tryz.f170 [] [1,1,1,1,0,1,0,0] Bw:=sq (v:= .nil) yU (b:=pB) kN
def pC(x:Int×Y1×Y1×List anz×Int×auC):Rnd (Int×Y1×Y1×List anz×Int×auC) (auC) (Int×Y1×Y1×List anz×auC):=
 if decide (x.2.2.2.2.1 < (x.2.1.2.2.2.1.length:Int)) then
 if inb x.2.2.2.2.1 x.2.1.2.2.2.1.length then
 if decide (x.1 < (rd (dfl .note) x.2.1.2.2.2.1 x.2.2.2.2.1).un) then
 if inb x.2.2.2.2.1 x.2.1.2.2.2.1.length then
 if an (x.2.2.2.1.length+([(rd (dfl .note) x.2.1.2.2.2.1 x.2.2.2.2.1)]:List anz).length) then
 some (.inl (x.1,x.2.1,x.2.2.1,(x.2.2.2.1++([(rd (dfl .note) x.2.1.2.2.2.1 x.2.2.2.2.1)]:List anz)),(w64 (x.2.2.2.2.1+1)),()))
 else none
 else none
 else
 some (.inl (x.1,x.2.1,x.2.2.1,x.2.2.2.1,(w64 (x.2.2.2.2.1+1)),()))
 else none
 else
 some (.inr (.inr (x.1,x.2.1,x.2.2.1,x.2.2.2.1,())))
def p7:=aV pC
def Bx:Loop:=⟨[(1,.int .i64),(2,Z2),(4,Z4),(5,.row 46 .note),(6,.int .i64)],[(1,.int .i64),(2,Z2),(4,Z4),(5,.row 46 .note)],0,[],p7⟩
def Ro:LF Tryz.f170 [] [1,1,0,1,0,0] Bx:=sq (v:= .nil) yU (b:=pC) kN
def ru(x:Y1×Int×auC):Option ((Y1×auC)×auC):=
 (aK (p7 (x.2.1,x.1,(0,0,0,([]:List anz),([]:List Mark),([]:List anz),()),([]:List anz),0,()))
 (fun _=>none)
 (fun y2=>(aK (p6 (y2.1,y2.2.1,y2.2.2.1,y2.2.2.2.1,([]:List Mark),0,()))
 (fun _=>none)
 (fun y10=>some (((y10.2.1.1,y10.1,y10.2.1.2.2.1,y10.2.2.2.1,y10.2.2.2.2.1,y10.2.1.2.2.2.2.2),()),())))))
def GB:Ent:=(170,none,⟨[Z3,.int .i64],[Z3],ru⟩)
def J1:SQ Tryz.prog GB:=sk (v:=t1 (t1 (.two (t1 (.one (.loop Bx))) (t1 (.two (t1 (.one (.loop Bw))) .nil))))) (fn:=Tryz.f170) yU (kC Ro (kC Rb kN))
def No:Cx:=cX [gi,vk] [] []
def P5:OKC Tryz.prog No af:=okc mixed (gC dP (gC rz (av)))
def cj(x:Y0×auC):Option ((auB×auC)×auC):=
 (lK x).bind fun r2=>
 if !r2.1.1 then
 some ((noB,()),())
 else
 (aG (x.1.1,())).bind fun r3=>
 if decide (r3.1.1.size+(B [32]).size≤4611686018427387904) then
 (aG (x.1.2.1,())).bind fun r4=>
 if decide ((r3.1.1++(B [32])).size+r4.1.1.size≤4611686018427387904) then
 if decide (((r3.1.1++(B [32]))++r4.1.1).size+(B [32]).size≤4611686018427387904) then
 (aG (x.1.2.2.1,())).bind fun r5=>
 if decide ((((r3.1.1++(B [32]))++r4.1.1)++(B [32])).size+r5.1.1.size≤4611686018427387904) then
 if decide (((((r3.1.1++(B [32]))++r4.1.1)++(B [32]))++r5.1.1).size+(B [32]).size≤4611686018427387904) then
 (aG (x.1.2.2.2.1,())).bind fun r6=>
 if decide ((((((r3.1.1++(B [32]))++r4.1.1)++(B [32]))++r5.1.1)++(B [32])).size+r6.1.1.size≤4611686018427387904) then
 if decide (((((((r3.1.1++(B [32]))++r4.1.1)++(B [32]))++r5.1.1)++(B [32]))++r6.1.1).size+(B [32]).size≤4611686018427387904) then
 if decide ((((((((r3.1.1++(B [32]))++r4.1.1)++(B [32]))++r5.1.1)++(B [32]))++r6.1.1)++(B [32])).size+x.1.2.2.2.2.1.size≤4611686018427387904) then
 let v7:=((((((((r3.1.1++(B [32]))++r4.1.1)++(B [32]))++r5.1.1)++(B [32]))++r6.1.1)++(B [32]))++x.1.2.2.2.2.1)
 some ((v7,()),())
 else none
 else none
 else none
 else none
 else none
 else none
 else none
 else none
def gE:Ent:=(91,none,⟨[Z1],[.str],cj⟩)
def fh:SQ Tryz.prog gE:=sk (v:= .nil) (fn:=Tryz.f91) P5 kN
def VE:Cx:=cX [xr,A5] [] []
def Jx:OKC Tryz.prog VE af:=okc mixed (gC ui (gC zr (av)))
def rn(x:auB×Int×List Int×Int×auC):Rnd (auB×Int×List Int×Int×auC) (auC) (auB×List Int×auC):=
 if decide (x.2.2.2.1 < x.2.1) then
 (gn (x.1,())).bind fun r12=>
 (kM (r12.1.1,())).bind fun r13=>
 if an (x.2.2.1.length+([r13.1.1]:List Int).length) then
 some (.inl (r12.1.2.1,x.2.1,(x.2.2.1++([r13.1.1]:List Int)),(w64 (x.2.2.2.1+1)),()))
 else none
 else
 some (.inr (.inr (x.1,x.2.2.1,())))
def rm:=aV rn
def DW:Loop:=⟨[(0,.str),(1,.int .i64),(6,.row 3 .int),(7,.int .i64)],[(0,.str),(6,.row 3 .int)],0,[],rm⟩
def UJ:LF Tryz.f174 [] [1,1,0,1,0,0] DW:=sq (v:= .nil) Jx (b:=rn) kN
def iU(x:auB×Int×auC):Option ((List Int×auB×auC)×auC):=
 (aK (rm (x.1,x.2.1,([]:List Int),0,()))
 (fun _=>none)
 (fun y14=>some ((y14.2.1,y14.1,()),())))
def A6:Ent:=(174,none,⟨[.str,.int .i64],[.row 3 .int,.str],iU⟩)
def zt:SQ Tryz.prog A6:=sk (v:=t1 (t1 (.two (t1 (.one (.loop DW))) .nil))) (fn:=Tryz.f174) Jx (kC UJ kN)
def PD:Cx:=cX [gE,A6] [] [(29,32)]
def SD:OKC Tryz.prog PD af:=okc mixed (gC fh (gC zt (av)))
def ie(x:auB×auC):Option ((Y0×Bool×auC)×auC):=
 (iU (x.1,4,())).bind fun r1=>
 if inb 0 r1.1.1.length then
 if inb 1 r1.1.1.length then
 if inb 2 r1.1.1.length then
 if inb 3 r1.1.1.length then
 if aX (!(decide (x.1=noB))) ((cj (((rd (dfl .int) r1.1.1 0),(rd (dfl .int) r1.1.1 1),(rd (dfl .int) r1.1.1 2),(rd (dfl .int) r1.1.1 3),r1.1.2),())).isSome) then
 if(decide (x.1=noB))||(!decide (((cj (((rd (dfl .int) r1.1.1 0),(rd (dfl .int) r1.1.1 1),(rd (dfl .int) r1.1.1 2),(rd (dfl .int) r1.1.1 3),r1.1.2),())).getD ((noB,()),())).1.1=x.1)) then
 some (((0,0,0,0,noB,()),false,()),())
 else
 some ((((rd (dfl .int) r1.1.1 0),(rd (dfl .int) r1.1.1 1),(rd (dfl .int) r1.1.1 2),(rd (dfl .int) r1.1.1 3),r1.1.2),true,()),())
 else none
 else none
 else none
 else none
 else none
def ED:Ent:=(171,none,⟨[.str],[Z1,.bool],ie⟩)
def Ig:SQ Tryz.prog ED:=sk (v:= .nil) (fn:=Tryz.f171) SD kN
def KR:Cx:=cX [nE] [] [(18,32)]
def Au:OKC Tryz.prog KR af:=okc mixed (gC kR (av))
def kO(x:List anz×Y0×List anz×Bool×Int×auC):Rnd (List anz×Y0×List anz×Bool×Int×auC) (auC) (Y0×List anz×Bool×auC):=
 if decide (x.2.2.2.2.1 < (x.1.length:Int)) then
 (bH (X:=List anz×Y0×List anz×Bool×Int×auC) (fun j7=>
 if inb j7.2.2.2.2.1 j7.1.length then
 if an (j7.2.2.1.length+([(rd (dfl .note) j7.1 j7.2.2.2.2.1)]:List anz).length) then
 some (.inl (j7.1,j7.2.1,(j7.2.2.1++([(rd (dfl .note) j7.1 j7.2.2.2.2.1)]:List anz)),j7.2.2.2.1,(w64 (j7.2.2.2.2.1+1)),()))
 else none
 else none)
 ((if aX (!x.2.2.2.1) (inb x.2.2.2.2.1 x.1.length) then
 if aX (!x.2.2.2.1) (inb x.2.2.2.2.1 x.1.length) then
 if aX (!x.2.2.2.1) ((ed (x.2.1.1,x.2.1.2.1,(rd (dfl .note) x.1 x.2.2.2.2.1).fr,(rd (dfl .note) x.1 x.2.2.2.2.1).nu,())).isSome) then
 if(!x.2.2.2.1)&&(((ed (x.2.1.1,x.2.1.2.1,(rd (dfl .note) x.1 x.2.2.2.2.1).fr,(rd (dfl .note) x.1 x.2.2.2.2.1).nu,())).getD ((false,()),())).1.1) then
 if an (x.2.2.1.length+([(anz.mk x.2.1.1 x.2.1.2.1 x.2.1.2.2.1 x.2.1.2.2.2.1 x.2.1.2.2.2.2.1)]:List anz).length) then
 some (.inr (x.1,x.2.1,(x.2.2.1++([(anz.mk x.2.1.1 x.2.1.2.1 x.2.1.2.2.1 x.2.1.2.2.2.1 x.2.1.2.2.2.2.1)]:List anz)),true,x.2.2.2.2))
 else none
 else
 some (.inr x)
 else none
 else none
 else none)))
 else
 some (.inr (.inr (x.2.1,x.2.2.1,x.2.2.2.1,())))
def lY:=aV kO
def wM:Loop:=⟨[(0,.sl .note),(3,Z0),(5,.row 46 .note),(6,.bool),(7,.int .i64)],[(3,Z0),(5,.row 46 .note),(6,.bool)],0,[],lY⟩
def Ks:LF Tryz.f173 [] [1,1,1,0,1,0,0] wM:=sq (v:=t1 (.two (.one (.join [(0,.sl .note),(3,Z0),(5,.row 46 .note),(6,.bool),(7,.int .i64)] .nil .nil)) .nil)) Au (b:=kO) kN
def ec(x:List anz×Y0×auC):Option ((List anz×auC)×auC):=
 (aK (lY (x.1,x.2.1,([]:List anz),false,0,()))
 (fun _=>none)
 (fun y8=>(if !y8.2.2.1 then
 if an (y8.2.1.length+([(anz.mk y8.1.1 y8.1.2.1 y8.1.2.2.1 y8.1.2.2.2.1 y8.1.2.2.2.2.1)]:List anz).length) then
 some (((y8.2.1++([(anz.mk y8.1.1 y8.1.2.1 y8.1.2.2.1 y8.1.2.2.2.1 y8.1.2.2.2.2.1)]:List anz)),()),())
 else none
 else
 some ((y8.2.1,()),()))))
def tk:Ent:=(173,none,⟨[.fz .note,Z1],[.row 46 .note],ec⟩)
def tQ:SQ Tryz.prog tk:=sk (v:=t1 (t1 (t1 (.two (t1 (.one (.loop wM))) .nil)))) (fn:=Tryz.f173) Au (kC Ks kN)
def KS:Cx:=cX [nE] [] [(18,32)]
def Av:OKC Tryz.prog KS af:=okc mixed (gC kR (av))
def kP(x:List Mark×Y2×List Mark×Bool×Int×auC):Rnd (List Mark×Y2×List Mark×Bool×Int×auC) (auC) (Y2×List Mark×Bool×auC):=
 if decide (x.2.2.2.2.1 < (x.1.length:Int)) then
 (bH (X:=List Mark×Y2×List Mark×Bool×Int×auC) (fun j7=>
 if inb j7.2.2.2.2.1 j7.1.length then
 if an (j7.2.2.1.length+([(rd (dfl .mark) j7.1 j7.2.2.2.2.1)]:List Mark).length) then
 some (.inl (j7.1,j7.2.1,(j7.2.2.1++([(rd (dfl .mark) j7.1 j7.2.2.2.2.1)]:List Mark)),j7.2.2.2.1,(w64 (j7.2.2.2.2.1+1)),()))
 else none
 else none)
 ((if aX (!x.2.2.2.1) (inb x.2.2.2.2.1 x.1.length) then
 if aX (!x.2.2.2.1) (inb x.2.2.2.2.1 x.1.length) then
 if aX (!x.2.2.2.1) ((ed (x.2.1.1,x.2.1.2.1,(rd (dfl .mark) x.1 x.2.2.2.2.1).mf,(rd (dfl .mark) x.1 x.2.2.2.2.1).mn,())).isSome) then
 if(!x.2.2.2.1)&&(((ed (x.2.1.1,x.2.1.2.1,(rd (dfl .mark) x.1 x.2.2.2.2.1).mf,(rd (dfl .mark) x.1 x.2.2.2.2.1).mn,())).getD ((false,()),())).1.1) then
 if an (x.2.2.1.length+([(Mark.mk x.2.1.1 x.2.1.2.1 x.2.1.2.2.1)]:List Mark).length) then
 some (.inr (x.1,x.2.1,(x.2.2.1++([(Mark.mk x.2.1.1 x.2.1.2.1 x.2.1.2.2.1)]:List Mark)),true,x.2.2.2.2))
 else none
 else
 some (.inr x)
 else none
 else none
 else none)))
 else
 some (.inr (.inr (x.2.1,x.2.2.1,x.2.2.2.1,())))
def l4:=aV kP
def wN:Loop:=⟨[(0,.sl .mark),(3,Z5),(5,.row 59 .mark),(6,.bool),(7,.int .i64)],[(3,Z5),(5,.row 59 .mark),(6,.bool)],0,[],l4⟩
def Ku:LF Tryz.f177 [] [1,1,1,0,1,0,0] wN:=sq (v:=t1 (.two (.one (.join [(0,.sl .mark),(3,Z5),(5,.row 59 .mark),(6,.bool),(7,.int .i64)] .nil .nil)) .nil)) Av (b:=kP) kN
def fw(x:List Mark×Y2×auC):Option ((List Mark×auC)×auC):=
 (aK (l4 (x.1,x.2.1,([]:List Mark),false,0,()))
 (fun _=>none)
 (fun y8=>(if !y8.2.2.1 then
 if an (y8.2.1.length+([(Mark.mk y8.1.1 y8.1.2.1 y8.1.2.2.1)]:List Mark).length) then
 some (((y8.2.1++([(Mark.mk y8.1.1 y8.1.2.1 y8.1.2.2.1)]:List Mark)),()),())
 else none
 else
 some ((y8.2.1,()),()))))
def mI:Ent:=(177,none,⟨[.fz .mark,Z6],[.row 59 .mark],fw⟩)
def lZ:SQ Tryz.prog mI:=sk (v:=t1 (t1 (t1 (.two (t1 (.one (.loop wN))) .nil)))) (fn:=Tryz.f177) Av (kC Ku kN)
def Pz:Cx:=cX [ew,nD,vk] [] [(35,42)]
def Sy:OKC Tryz.prog Pz af:=okc mixed (gC dd (gC kQ (gC rz (av))))
def pG(x:Y1×Y0×auC):Option ((Bool×auC)×auC):=
 (lK x.2).bind fun r5=>
 if r5.1.1 then
 if decide (x.1.2.1 < x.2.1.2.2.2.1) then
 (bo (x.1.2.2.2.1,x.2.1.1,x.2.1.2.1,())).bind fun r6=>
 if decide (r6.1.1 < 0) then
 (db (x.1.2.2.2.2.1,x.2.1.1,x.2.1.2.1,())).bind fun r7=>
 if aX (decide (r7.1.1 < 0)) ((bo (x.1.2.2.2.2.2.1,x.2.1.1,x.2.1.2.1,())).isSome) then
 let v8:=((decide (r7.1.1 < 0))&&(decide (((bo (x.1.2.2.2.2.2.1,x.2.1.1,x.2.1.2.1,())).getD ((0,()),())).1.1 < 0)))
 some ((v8,()),())
 else none
 else
 if aX false ((bo (x.1.2.2.2.2.2.1,x.2.1.1,x.2.1.2.1,())).isSome) then
 some ((false,()),())
 else none
 else
 if aX false ((bo (x.1.2.2.2.2.2.1,x.2.1.1,x.2.1.2.1,())).isSome) then
 some ((false,()),())
 else none
 else
 if aX false ((bo (x.1.2.2.2.2.2.1,x.2.1.1,x.2.1.2.1,())).isSome) then
 some ((false,()),())
 else none
def EC:Ent:=(197,none,⟨[Z3,Z1],[.bool],pG⟩)
def Ie:SQ Tryz.prog EC:=sk (v:= .nil) (fn:=Tryz.f197) Sy kN
def RY:Cx:=cX [tk,mI,EC] [] []
def Wy:OKC Tryz.prog RY af:=okc mixed (gC tQ (gC lZ (gC Ie (av))))
def mR(x:Y1×Y0×auC):Option ((Y1×Bool×auC)×auC):=
 (pG x).bind fun r2=>
 if !r2.1.1 then
 some ((x.1,false,()),())
 else
 if !decide (x.2.1.2.2.1=x.1.1) then
 (ec (x.1.2.2.2.1,x.2)).bind fun r5=>
 let v6:=(decide ((w64 ((r5.1.1.length:Int)+(x.1.2.2.2.2.1.length:Int)))≤12))
 some (((x.1.1,x.1.2.1,x.1.2.2.1,r5.1.1,x.1.2.2.2.2),v6,()),())
 else
 (ec (x.1.2.2.2.2.2.1,x.2)).bind fun r7=>
 (fw (x.1.2.2.2.2.1,(x.2.1.1,x.2.1.2.1,x.2.1.2.2.2.1,()),())).bind fun r8=>
 let v9:=(decide ((w64 ((x.1.2.2.2.1.length:Int)+(r8.1.1.length:Int)))≤12))
 some (((x.1.1,x.1.2.1,x.1.2.2.1,x.1.2.2.2.1,r8.1.1,r7.1),v9,()),())
def GC:Ent:=(172,none,⟨[Z3,Z1],[Z3,.bool],mR⟩)
def J2:SQ Tryz.prog GC:=sk (v:= .nil) (fn:=Tryz.f172) Wy kN
def VM:Cx:=cX [ew,mI] [] []
def X5:OKC Tryz.prog VM af:=okc mixed (gC dd (gC lZ (av)))
def uW(x:Y1×Int×Int×auC):Option ((Y1×Bool×auC)×auC):=
 (bo (x.1.2.2.2.1,x.2)).bind fun r1=>
 if decide (r1.1.1 < 0) then
 some ((x.1,false,()),())
 else
 if inb r1.1.1 x.1.2.2.2.1.length then
 let v2:=(rd (dfl .note) x.1.2.2.2.1 r1.1.1).fr
 let v3:=(rd (dfl .note) x.1.2.2.2.1 r1.1.1).nu
 let v4:=(rd (dfl .note) x.1.2.2.2.1 r1.1.1).to
 let v5:=(rd (dfl .note) x.1.2.2.2.1 r1.1.1).un
 let v6:=(rd (dfl .note) x.1.2.2.2.1 r1.1.1).tx
 if decide (0≤r1.1.1)&&decide (r1.1.1≤(x.1.2.2.2.1.length:Int)) then
 if an (([]:List anz).length+(au3 (auK r1.1.1) x.1.2.2.2.1).length) then
 if decide (0≤(w64 (r1.1.1+1)))&&decide ((w64 (r1.1.1+1))≤(x.1.2.2.2.1.length:Int)) then
 if an ((([]:List anz)++(au3 (auK r1.1.1) x.1.2.2.2.1)).length+(avp (auK (w64 (r1.1.1+1))) x.1.2.2.2.1).length) then
 (fw (x.1.2.2.2.2.1,(x.2.1,x.2.2.1,v5,()),())).bind fun r7=>
 some (((x.1.1,x.1.2.1,x.1.2.2.1,((([]:List anz)++(au3 (auK r1.1.1) x.1.2.2.2.1))++(avp (auK (w64 (r1.1.1+1))) x.1.2.2.2.1)),r7.1.1,x.1.2.2.2.2.2),true,()),())
 else none
 else none
 else none
 else none
 else none
def Jg:Ent:=(175,none,⟨[Z3,.int .i64,.int .i64],[Z3,.bool],uW⟩)
def LH:SQ Tryz.prog Jg:=sk (v:= .nil) (fn:=Tryz.f175) X5 kN
def VN:Cx:=cX [ew] [] []
def X6:OKC Tryz.prog VN af:=okc mixed (gC dd (av))
def uX(x:Y1×Int×Int×auC):Option ((Y1×Bool×auC)×auC):=
 (bo (x.1.2.2.2.2.2.1,x.2)).bind fun r1=>
 if decide (r1.1.1 < 0) then
 some ((x.1,false,()),())
 else
 if decide (0≤r1.1.1)&&decide (r1.1.1≤(x.1.2.2.2.2.2.1.length:Int)) then
 if an (([]:List anz).length+(au3 (auK r1.1.1) x.1.2.2.2.2.2.1).length) then
 if decide (0≤(w64 (r1.1.1+1)))&&decide ((w64 (r1.1.1+1))≤(x.1.2.2.2.2.2.1.length:Int)) then
 if an ((([]:List anz)++(au3 (auK r1.1.1) x.1.2.2.2.2.2.1)).length+(avp (auK (w64 (r1.1.1+1))) x.1.2.2.2.2.2.1).length) then
 some (((x.1.1,x.1.2.1,x.1.2.2.1,x.1.2.2.2.1,x.1.2.2.2.2.1,((([]:List anz)++(au3 (auK r1.1.1) x.1.2.2.2.2.2.1))++(avp (auK (w64 (r1.1.1+1))) x.1.2.2.2.2.2.1)),()),true,()),())
 else none
 else none
 else none
 else none
def Jh:Ent:=(176,none,⟨[Z3,.int .i64,.int .i64],[Z3,.bool],uX⟩)
def LI:SQ Tryz.prog Jh:=sk (v:= .nil) (fn:=Tryz.f176) X6 kN
def VL:Cx:=cX [ew,nD,gi,xr,A5,GB,ED,GC,tk,A6,Jg,Jh,mI] [] [(81,85),(157,174),(192,201),(228,237)]
def X4:OKC Tryz.prog VL af:=okc mixed (gC dd (gC kQ (gC dP (gC ui (gC zr (gC J1 (gC Ig (gC J2 (gC tQ (gC zt (gC LH (gC LI (gC lZ (av))))))))))))))
def o4(x:Y1×auB×auC):Option ((Y1×Bool×auC)×auC):=
 (gn x.2).bind fun r1=>
 let v29:=(decide (r1.1.1=(B [116,105,109,101])))
 (if v29 then
 (kM r1.1.2).bind fun r30=>
 if decide (r30.1.1≤x.1.2.1) then
 some ((x.1,false,()),())
 else
 (ru (x.1,r30.1)).bind fun r31=>
 some ((r31.1.1,true,()),())
 else
 let v32:=(decide (r1.1.1=(B [111,119,110])))
 (if v32 then
 (ie r1.1.2).bind fun r33=>
 if !r33.1.2.1 then
 some ((x.1,false,()),())
 else
 if !decide (r33.1.1.1=x.1.1) then
 some ((x.1,false,()),())
 else
 if !decide (r33.1.1.2.1=x.1.2.2.1) then
 some ((x.1,false,()),())
 else
 (mR ((x.1.1,x.1.2.1,(w64 (x.1.2.2.1+1)),x.1.2.2.2),r33.1.1,())).bind fun r34=>
 some (r34.1,())
 else
 let v35:=(decide (r1.1.1=(B [116,97,107,101])))
 (if v35 then
 (ie r1.1.2).bind fun r36=>
 if(!r36.1.2.1)||(decide (r36.1.1.1=x.1.1)) then
 some ((x.1,false,()),())
 else
 (mR (x.1,r36.1.1,())).bind fun r37=>
 some (r37.1,())
 else
 let v38:=(decide (r1.1.1=(B [110,101,120,116])))
 (if v38 then
 (kM r1.1.2).bind fun r39=>
 if decide (r39.1.1≤x.1.2.2.1) then
 some ((x.1,false,()),())
 else
 some (((x.1.1,x.1.2.1,r39.1.1,x.1.2.2.2),true,()),())
 else
 (bH (X:=Y1×Y1×auB×auB×Bool×auC) (fun j40=>
 if j40.2.2.2.2.1 then
 (ie (j40.2.2.2.1,())).bind fun r43=>
 if !r43.1.2.1 then
 some ((j40.1,false,()),())
 else
 (bo (j40.1.2.2.2.1,r43.1.1.1,r43.1.1.2.1,())).bind fun r44=>
 if decide (0≤r44.1.1) then
 some ((j40.1,false,()),())
 else
 (bo (j40.1.2.2.2.2.2.1,r43.1.1.1,r43.1.1.2.1,())).bind fun r45=>
 if decide (0≤r45.1.1) then
 some ((j40.1,false,()),())
 else
 if decide (j40.2.2.1=(B [104,101,108,100])) then
 (ec (j40.1.2.2.2.1,r43.1.1,())).bind fun r46=>
 some (((j40.1.1,j40.1.2.1,j40.1.2.2.1,r46.1.1,j40.1.2.2.2.2),true,()),())
 else
 (ec (j40.1.2.2.2.2.2.1,r43.1.1,())).bind fun r47=>
 some (((j40.1.1,j40.1.2.1,j40.1.2.2.1,j40.1.2.2.2.1,j40.1.2.2.2.2.1,r47.1),true,()),())
 else
 (iU (j40.2.2.2.1,3,())).bind fun r48=>
 if aX (!(!decide (r48.1.2.1=noB))) (inb 0 r48.1.1.length) then
 if aX (!(!decide (r48.1.2.1=noB))) ((aG ((rd (dfl .int) r48.1.1 0),())).isSome) then
 if aX (!(!decide (r48.1.2.1=noB))) (decide ((((aG ((rd (dfl .int) r48.1.1 0),())).getD ((noB,()),())).1.1).size+(B [32]).size≤4611686018427387904)) then
 if aX (!(!decide (r48.1.2.1=noB))) (inb 1 r48.1.1.length) then
 if aX (!(!decide (r48.1.2.1=noB))) ((aG ((rd (dfl .int) r48.1.1 1),())).isSome) then
 if aX (!(!decide (r48.1.2.1=noB))) (decide (((((aG ((rd (dfl .int) r48.1.1 0),())).getD ((noB,()),())).1.1)++(B [32])).size+(((aG ((rd (dfl .int) r48.1.1 1),())).getD ((noB,()),())).1.1).size≤4611686018427387904)) then
 if aX (!(!decide (r48.1.2.1=noB))) (decide ((((((aG ((rd (dfl .int) r48.1.1 0),())).getD ((noB,()),())).1.1)++(B [32]))++(((aG ((rd (dfl .int) r48.1.1 1),())).getD ((noB,()),())).1.1)).size+(B [32]).size≤4611686018427387904)) then
 if aX (!(!decide (r48.1.2.1=noB))) (inb 2 r48.1.1.length) then
 if aX (!(!decide (r48.1.2.1=noB))) ((aG ((rd (dfl .int) r48.1.1 2),())).isSome) then
 if aX (!(!decide (r48.1.2.1=noB))) (decide (((((((aG ((rd (dfl .int) r48.1.1 0),())).getD ((noB,()),())).1.1)++(B [32]))++(((aG ((rd (dfl .int) r48.1.1 1),())).getD ((noB,()),())).1.1))++(B [32])).size+(((aG ((rd (dfl .int) r48.1.1 2),())).getD ((noB,()),())).1.1).size≤4611686018427387904)) then
 if(!decide (r48.1.2.1=noB))||(!decide (j40.2.2.2.1=(((((((aG ((rd (dfl .int) r48.1.1 0),())).getD ((noB,()),())).1.1)++(B [32]))++(((aG ((rd (dfl .int) r48.1.1 1),())).getD ((noB,()),())).1.1))++(B [32]))++(((aG ((rd (dfl .int) r48.1.1 2),())).getD ((noB,()),())).1.1)))) then
 some ((j40.1,false,()),())
 else
 let v59:=(decide (j40.2.2.1=(B [108,101,116])))
 (if v59 then
 if inb 0 r48.1.1.length then
 if inb 1 r48.1.1.length then
 (bo (j40.1.2.2.2.1,(rd (dfl .int) r48.1.1 0),(rd (dfl .int) r48.1.1 1),())).bind fun r60=>
 if aX (!(decide (r60.1.1 < 0))) (inb r60.1.1 j40.1.2.2.2.1.length) then
 if aX (!(decide (r60.1.1 < 0))) (inb 2 r48.1.1.length) then
 if(decide (r60.1.1 < 0))||(!decide ((rd (dfl .note) j40.1.2.2.2.1 r60.1.1).un=(rd (dfl .int) r48.1.1 2))) then
 some ((j40.1,false,()),())
 else
 if inb 0 r48.1.1.length then
 if inb 1 r48.1.1.length then
 (uW (j40.1,(rd (dfl .int) r48.1.1 0),(rd (dfl .int) r48.1.1 1),())).bind fun r61=>
 some (r61.1,())
 else none
 else none
 else none
 else none
 else none
 else none
 else
 let v62:=(decide (j40.2.2.1=(B [101,97,116])))
 (if v62 then
 if inb 0 r48.1.1.length then
 if inb 1 r48.1.1.length then
 (bo (j40.1.2.2.2.2.2.1,(rd (dfl .int) r48.1.1 0),(rd (dfl .int) r48.1.1 1),())).bind fun r63=>
 if aX (!(decide (r63.1.1 < 0))) (inb r63.1.1 j40.1.2.2.2.2.2.1.length) then
 if aX (!(decide (r63.1.1 < 0))) (inb 2 r48.1.1.length) then
 if(decide (r63.1.1 < 0))||(!decide ((rd (dfl .note) j40.1.2.2.2.2.2.1 r63.1.1).un=(rd (dfl .int) r48.1.1 2))) then
 some ((j40.1,false,()),())
 else
 if inb 0 r48.1.1.length then
 if inb 1 r48.1.1.length then
 (uX (j40.1,(rd (dfl .int) r48.1.1 0),(rd (dfl .int) r48.1.1 1),())).bind fun r64=>
 some (r64.1,())
 else none
 else none
 else none
 else none
 else none
 else none
 else
 let v65:=(decide (j40.2.2.1=(B [109,97,114,107])))
 (if v65 then
 if inb 0 r48.1.1.length then
 if inb 1 r48.1.1.length then
 (db (j40.1.2.2.2.2.1,(rd (dfl .int) r48.1.1 0),(rd (dfl .int) r48.1.1 1),())).bind fun r66=>
 if decide (0≤r66.1.1) then
 some ((j40.1,false,()),())
 else
 if inb 0 r48.1.1.length then
 if inb 1 r48.1.1.length then
 if inb 2 r48.1.1.length then
 (fw (j40.1.2.2.2.2.1,((rd (dfl .int) r48.1.1 0),(rd (dfl .int) r48.1.1 1),(rd (dfl .int) r48.1.1 2),()),())).bind fun r67=>
 some (((j40.1.1,j40.1.2.1,j40.1.2.2.1,j40.1.2.2.2.1,r67.1.1,j40.1.2.2.2.2.2),true,()),())
 else none
 else none
 else none
 else none
 else none
 else
 some ((j40.1,false,()),()))))
 else none
 else none
 else none
 else none
 else none
 else none
 else none
 else none
 else none
 else none)
 (let v41:=(decide (r1.1.1=(B [104,101,108,100])))
 (if v41 then
 some (.inr (x.1,(0,0,0,([]:List anz),([]:List Mark),([]:List anz),()),r1.1.1,r1.1.2.1,v41,()))
 else
 let v42:=(decide (r1.1.1=(B [105,110,98,111,120])))
 some (.inr (x.1,(0,0,0,([]:List anz),([]:List Mark),([]:List anz),()),r1.1.1,r1.1.2.1,v42,())))))))))
def Jf:Ent:=(141,none,⟨[Z3,.str],[Z3,.bool],o4⟩)
def LG:SQ Tryz.prog Jf:=sk (v:=t1 (t1 (.two (t1 (.one (t1 (t1 (t1 (t1 (t1 (t1 (t1 (t1 (.join [(2,Z2),(4,Z4),(6,.str),(7,.str),(105,.bool)] .nil .nil))))))))))) .nil))) (fn:=Tryz.f141) X4 kN
def R4:Cx:=cX [] [] []
def WA:OKC Tryz.prog R4 af:=okc mixed (av)
def jL(x:Y1×auC):Option ((Y1×auC)×auC):=
 if an (([]:List anz).length+x.1.2.2.2.1.length) then
 if an (([]:List Mark).length+x.1.2.2.2.2.1.length) then
 if an (([]:List anz).length+x.1.2.2.2.2.2.1.length) then
 some (((x.1.1,x.1.2.1,x.1.2.2.1,(([]:List anz)++x.1.2.2.2.1),(([]:List Mark)++x.1.2.2.2.2.1),(([]:List anz)++x.1.2.2.2.2.2.1),()),()),())
 else none
 else none
 else none
def GD:Ent:=(142,none,⟨[Z3],[Z7],jL⟩)
def J3:SQ Tryz.prog GD:=sk (v:= .nil) (fn:=Tryz.f142) WA kN
def VV:Cx:=cX [A7,Jf,GD] [] [(22,24)]
def X8:OKC Tryz.prog VV af:=okc mixed (gC zE (gC LG (gC J3 (av))))
def lO(x:Y1×auB×auC):Option ((Y1×Bool×auC)×auC):=
 (iV (x.1,())).bind fun r2=>
 if !r2.1.1 then
 some (((0,0,0,([]:List anz),([]:List Mark),([]:List anz),()),false,()),())
 else
 (jL (x.1,())).bind fun r3=>
 (o4 (r3.1.1,x.2)).bind fun r4=>
 if aX (!(!r4.1.2.1)) ((iV (r4.1.1,())).isSome) then
 if(!r4.1.2.1)||(!(((iV (r4.1.1,())).getD ((false,()),())).1.1)) then
 (jL (x.1,())).bind fun r6=>
 some ((r6.1.1,false,()),())
 else
 (jL (r4.1.1,())).bind fun r7=>
 some ((r7.1.1,true,()),())
 else none
def A9:Ent:=(92,none,⟨[Z3,.str],[Z7,.bool],lO⟩)
def zH:SQ Tryz.prog A9:=sk (v:= .nil) (fn:=Tryz.f92) X8 kN
def Nu:Cx:=cX [cg] [] []
def Qa:OKC Tryz.prog Nu af:=okc mixed (gC bM (av))
def nR(x:Int×auC):Option ((Y1×auC)×auC):=
 (bf x).bind fun r2=>
 if !r2.1.1 then
 some (((0,0,0,([]:List anz),([]:List Mark),([]:List anz),()),()),())
 else
 some (((x.1,0,1,([]:List anz),([]:List Mark),([]:List anz),()),()),())
def Cv:Ent:=(110,none,⟨[.int .i64],[Z7],nR⟩)
def FD:SQ Tryz.prog Cv:=sk (v:= .nil) (fn:=Tryz.f110) Qa kN
def VU:Cx:=cX [cg,A9,Cv] [] []
def JC:OKC Tryz.prog VU af:=okc mixed (gC bM (gC zH (gC FD (av))))
def mW(x:List auB×Y1×Y1×Int×auC):Rnd (List auB×Y1×Y1×Int×auC) (Y1×Bool×auC) (Y1×Y1×auC):=
 if decide (x.2.2.2.1 < (x.1.length:Int)) then
 if inb x.2.2.2.1 x.1.length then
 (lO (x.2.2.1,(rd (dfl .str) x.1 x.2.2.2.1),())).bind fun r10=>
 if !r10.1.2.1 then
 some (.inr (.inl ((0,0,0,([]:List anz),([]:List Mark),([]:List anz),()),false,())))
 else
 some (.inl (x.1,x.2.1,r10.1.1,(w64 (x.2.2.2.1+1)),()))
 else none
 else
 some (.inr (.inr (x.2.1,x.2.2.1,())))
def rP:=aV mW
def D9:Loop:=⟨[(1,.sl .str),(4,Z4),(6,Z4),(7,.int .i64)],[(4,Z4),(6,Z4)],0,[(4,Z4),(5,.bool)],rP⟩
def UQ:LF Tryz.f57 [] [1,1,1,0,1,0,0] D9:=sq (v:= .nil) JC (b:=mW) kN
def lL(x:Int×List auB×auC):Option ((Y1×Bool×auC)×auC):=
 (nR (x.1,())).bind fun r1=>
 (bf (x.1,())).bind fun r3=>
 if !r3.1.1 then
 some ((r1.1.1,false,()),())
 else
 (aK (rP (x.2.1,(0,0,0,([]:List anz),([]:List Mark),([]:List anz),()),r1.1.1,0,()))
 (fun y11=>some (y11,()))
 (fun y11=>some ((y11.2.1,true,()),())))
def A8:Ent:=(57,none,⟨[.int .i64,.fz .str],[Z7,.bool],lL⟩)
def zG:SQ Tryz.prog A8:=sk (v:=t1 (t1 (t1 (.two (t1 (.one (.loop D9))) .nil)))) (fn:=Tryz.f57) JC (kC UQ kN)
def VH:Cx:=cX [kq,A8] [] []
def X1:OKC Tryz.prog VH af:=okc mixed (gC iw (gC zG (av)))
def bm(x:Y3×auC):Option ((Y1×Bool×auC)×auC):=
 (cI (x.1.2.2.1,())).bind fun r1=>
 (lL (x.1.1,r1.1.1,())).bind fun r2=>
 some (r2.1,())
def cb:Ent:=(43,none,⟨[Z8],[Z7,.bool],bm⟩)
def bw:SQ Tryz.prog cb:=sk (v:= .nil) (fn:=Tryz.f43) X1 kN
def R5:Cx:=cX [kq,dh] [] [(12,18),(41,44)]
def WB:OKC Tryz.prog R5 af:=okc mixed (gC iw (gC bQ (av)))
def fg(x:Y4×auC):Option ((Bool×auC)×auC):=
 if aX (!(decide (2400 < (x.1.1.size:Int)))) ((az (x.1.2.1,0,(x.1.1.size:Int),())).isSome) then
 if(decide (2400 < (x.1.1.size:Int)))||(!(((az (x.1.2.1,0,(x.1.1.size:Int),())).getD ((false,()),())).1.1)) then
 some ((false,()),())
 else
 (cI (x.1.1,())).bind fun r1=>
 if decide (0≤x.1.2.1)&&decide (x.1.2.1≤(x.1.1.size:Int)) then
 (cI ((x.1.1.extract (0) (auK x.1.2.1)),())).bind fun r2=>
 let v4:=((decide (r1.1.2.1=(x.1.1.size:Int)))&&(decide (r2.1.2.1=x.1.2.1)))
 some ((v4,()),())
 else none
 else none
def kr:Ent:=(55,none,⟨[Z9],[.bool],fg⟩)
def gJ:SQ Tryz.prog kr:=sk (v:= .nil) (fn:=Tryz.f55) WB kN
def Ps:Cx:=cX [] [] []
def Ss:OKC Tryz.prog Ps af:=okc mixed (av)
def di(x:Int×auC):Option ((Int×auC)×auC):=
 let v1:=(w64 (au6 (w64 ((w64 (x.1+4)) - 1)) 4))
 some ((v1,()),())
def lH:Ent:=(87,none,⟨[.int .i64],[.int .i64],di⟩)
def jl:SQ Tryz.prog lH:=sk (v:= .nil) (fn:=Tryz.f87) Ss kN
def aaL:Cx:=cX [dh] [] [(8,9)]
def acU:OKC Tryz.prog aaL af:=okc mixed (gC bQ (av))
def iv(x:Int×Int×auC):Option ((Bool×auC)×auC):=
 (az (x.1,1,6,())).bind fun r3=>
 if aX r3.1.1 ((az (x.2.1,0,999,())).isSome) then
 let v4:=(r3.1.1&&(((az (x.2.1,0,999,())).getD ((false,()),())).1.1))
 some ((v4,()),())
 else none
def vY:Ent:=(86,none,⟨[.int .i64,.int .i64],[.bool],iv⟩)
def pz:SQ Tryz.prog vY:=sk (v:= .nil) (fn:=Tryz.f86) acU kN
def RR:Cx:=cX [vY] [] [(10,13)]
def Wv:OKC Tryz.prog RR af:=okc mixed (gC pz (av))
def jJ(x:Int×Y5×auC):Option ((Bool×auC)×auC):=
 (iv (x.1,x.2.1.1,())).bind fun r3=>
 let v4:=(r3.1.1&&(decide ((x.2.1.2.1.size:Int)=4)))
 some ((v4,()),())
def yE:Ent:=(111,none,⟨[.int .i64,Z10],[.bool],jJ⟩)
def xN:SQ Tryz.prog yE:=sk (v:= .nil) (fn:=Tryz.f111) Wv kN
def Nh:Cx:=cX [cg,dh,lH,yE] [] []
def uO:OKC Tryz.prog Nh af:=okc mixed (gC bM (gC bQ (gC jl (gC xN (av)))))
def mi(x:Y6×Int×Int×auC):Rnd (Y6×Int×Int×auC) (Bool×auC) (Y6×Int×auC):=
 if decide (x.2.2.1 < x.2.1) then
 if inb x.2.2.1 x.1.2.2.2.2.2.1.length then
 if inb x.2.1 x.1.2.2.2.2.2.1.length then
 if decide ((rd (dfl .mixed) x.1.2.2.2.2.2.1 x.2.2.1).nu=(rd (dfl .mixed) x.1.2.2.2.2.2.1 x.2.1).nu) then
 some (.inr (.inl (false,())))
 else
 some (.inl (x.1,x.2.1,(w64 (x.2.2.1+1)),()))
 else none
 else none
 else
 some (.inr (.inr (x.1,x.2.1,())))
def mP:=aV mi
def xP:Loop:=⟨[(1,Z11),(3,.int .i64),(4,.int .i64)],[(1,Z11),(3,.int .i64)],2,[(2,.bool)],mP⟩
def Mt:LF Tryz.f58 [] [1,1,0,1,0,0,1,0,0,1,1,0,0] xP:=sq (v:= .nil) uO (b:=mi) kN
def mj(x:Y6×Int×auC):Rnd (Y6×Int×auC) (Bool×auC) (auC):=
 if decide (x.2.1 < (x.1.2.2.2.2.2.1.length:Int)) then
 (di (x.1.2.2.2.2.1,())).bind fun r38=>
 if inb x.2.1 x.1.2.2.2.2.2.1.length then
 (jJ (r38.1.1,((rd (dfl .mixed) x.1.2.2.2.2.2.1 x.2.1).nu,(rd (dfl .mixed) x.1.2.2.2.2.2.1 x.2.1).da,()),())).bind fun r39=>
 if !r39.1.1 then
 some (.inr (.inl (false,())))
 else
 (aK (mP (x.1,x.2.1,0,()))
 (fun y40=>some (.inr (.inl y40)))
 (fun y40=>some (.inl (y40.1,(w64 (y40.2.1+1)),()))))
 else none
 else
 some (.inr (.inr ()))
def mQ:=aV mj
def xQ:Loop:=⟨[(1,Z11),(3,.int .i64)],[],0,[(2,.bool)],mQ⟩
def Mx:LF Tryz.f58 [] [1,1,0,1,0,0] xQ:=sq (v:=t1 (.two (.one (t1 (t1 (.one (.loop xP))))) .nil)) uO (b:=mj) (kC Mt kN)
def nI(x:Y6×auC):Option ((Bool×auC)×auC):=
 (bf (x.1.1,())).bind fun r11=>
 if !r11.1.1 then
 some ((false,()),())
 else
 (bf (x.1.2.2.1,())).bind fun r12=>
 if !r12.1.1 then
 some ((false,()),())
 else
 (az (x.1.2.1,1,99,())).bind fun r13=>
 if !r13.1.1 then
 some ((false,()),())
 else
 (az (x.1.2.2.2.1,1,999,())).bind fun r14=>
 if !r14.1.1 then
 some ((false,()),())
 else
 (az (x.1.2.2.2.2.1,1,24,())).bind fun r15=>
 if !r15.1.1 then
 some ((false,()),())
 else
 if decide (14 < (x.1.2.2.2.2.2.1.length:Int)) then
 some ((false,()),())
 else
 (aK (mQ (x.1,0,()))
 (fun y41=>some (y41,()))
 (fun y41=>some ((true,()),())))
def Co:Ent:=(58,none,⟨[Z12],[.bool],nI⟩)
def Fo:SQ Tryz.prog Co:=sk (v:=t1 (t1 (.two (t1 (.one (.loop xQ))) .nil))) (fn:=Tryz.f58) uO (kC Mx kN)
def PF:Cx:=cX [cb,cg,kr,kq,A8,Co] [] [(64,65),(100,112)]
def wI:OKC Tryz.prog PF af:=okc mixed (gC bw (gC bM (gC gJ (gC iw (gC zG (gC Fo (av)))))))
def nP(x:Y3×Int×Int×auC):Rnd (Y3×Int×Int×auC) (Bool×auC) (Y3×Int×auC):=
 if decide (x.2.2.1 < x.2.1) then
 if inb x.2.2.1 x.1.2.2.2.2.1.length then
 if inb x.2.1 x.1.2.2.2.2.1.length then
 if aX (decide ((rd (dfl .half) x.1.2.2.2.2.1 x.2.2.1).fr=(rd (dfl .half) x.1.2.2.2.2.1 x.2.1).fr)) (inb x.2.2.1 x.1.2.2.2.2.1.length) then
 if aX (decide ((rd (dfl .half) x.1.2.2.2.2.1 x.2.2.1).fr=(rd (dfl .half) x.1.2.2.2.2.1 x.2.1).fr)) (inb x.2.1 x.1.2.2.2.2.1.length) then
 if(decide ((rd (dfl .half) x.1.2.2.2.2.1 x.2.2.1).fr=(rd (dfl .half) x.1.2.2.2.2.1 x.2.1).fr))&&(decide ((rd (dfl .half) x.1.2.2.2.2.1 x.2.2.1).nu=(rd (dfl .half) x.1.2.2.2.2.1 x.2.1).nu)) then
 some (.inr (.inl (false,())))
 else
 some (.inl (x.1,x.2.1,(w64 (x.2.2.1+1)),()))
 else none
 else none
 else none
 else none
 else
 some (.inr (.inr (x.1,x.2.1,())))
def oL:=aV nP
def zy:Loop:=⟨[(1,Z13),(9,.int .i64),(10,.int .i64)],[(1,Z13),(9,.int .i64)],2,[(2,.bool)],oL⟩
def OQ:LF Tryz.f16 [] [1,1,1,1,1,1,0,1,0,0,1,0,0,1,1,0,0] zy:=sq (v:= .nil) wI (b:=nP) kN
def nQ(x:Y3×Int×auC):Rnd (Y3×Int×auC) (Bool×auC) (auC):=
 if decide (x.2.1 < (x.1.2.2.2.2.1.length:Int)) then
 if inb x.2.1 x.1.2.2.2.2.1.length then
 (nI (((rd (dfl .half) x.1.2.2.2.2.1 x.2.1).fr,(rd (dfl .half) x.1.2.2.2.2.1 x.2.1).nu,(rd (dfl .half) x.1.2.2.2.2.1 x.2.1).to,(rd (dfl .half) x.1.2.2.2.2.1 x.2.1).un,(rd (dfl .half) x.1.2.2.2.2.1 x.2.1).sz,(rd (dfl .half) x.1.2.2.2.2.1 x.2.1).got,()),())).bind fun r25=>
 if !r25.1.1 then
 some (.inr (.inl (false,())))
 else
 (aK (oL (x.1,x.2.1,0,()))
 (fun y26=>some (.inr (.inl y26)))
 (fun y26=>some (.inl (y26.1,(w64 (y26.2.1+1)),()))))
 else none
 else
 some (.inr (.inr ()))
def jn:=aV nQ
def zz:Loop:=⟨[(1,Z13),(9,.int .i64)],[],0,[(2,.bool)],jn⟩
def OX:LF Tryz.f16 [] [1,1,1,1,1,1,0,1,0,0] zz:=sq (v:=t1 (.two (.one (t1 (t1 (.one (.loop zy))))) .nil)) wI (b:=nQ) (kC OQ kN)
def aS(x:Y3×auC):Option ((Bool×auC)×auC):=
 (bH (X:=Y3×auC) (fun j5=>
 if decide (0≤j5.1.2.2.2.1)&&decide (j5.1.2.2.2.1≤(j5.1.2.2.1.size:Int)) then
 (cI ((j5.1.2.2.1.extract (0) (auK j5.1.2.2.2.1)),())).bind fun r8=>
 (lL (j5.1.1,r8.1.1,())).bind fun r9=>
 (bm j5).bind fun r10=>
 if(!r10.1.2.1)||(!r9.1.2.1) then
 some ((false,()),())
 else
 (aK (jn (j5.1,0,()))
 (fun y27=>some (y27,()))
 (fun y27=>some ((true,()),())))
 else none)
 ((bf (x.1.1,())).bind fun r6=>
 if !r6.1.1 then
 some (.inl ((false,()),()))
 else
 (fg ((x.1.2.2.1,x.1.2.2.2.1,()),())).bind fun r7=>
 if !r7.1.1 then
 some (.inl ((false,()),()))
 else
 if decide (3 < (x.1.2.2.2.2.1.length:Int)) then
 some (.inl ((false,()),()))
 else
 if !x.1.2.1 then
 if decide (0 < (x.1.2.2.2.2.1.length:Int)) then
 some (.inl ((false,()),()))
 else
 some (.inr x)
 else
 some (.inr x)))
def br:Ent:=(16,none,⟨[Z8],[.bool],aS⟩)
def aQ:SQ Tryz.prog br:=sk (v:=t1 (.join [(1,Z13)] .nil (t1 (t1 (t1 (t1 (.two (t1 (.one (.loop zz))) .nil))))))) (fn:=Tryz.f16) wI (kC OX kN)
def RV:Cx:=cX [] [] []
def G7:OKC Tryz.prog RV af:=okc mixed (av)
def px(x:Y3×Y3×List anD×Int×auC):Rnd (Y3×Y3×List anD×Int×auC) (auC) (Y3×Y3×List anD×auC):=
 if decide (x.2.2.2.1 < (x.1.2.2.2.2.1.length:Int)) then
 if inb x.2.2.2.1 x.1.2.2.2.2.1.length then
 let v32:=(rd (dfl .half) x.1.2.2.2.2.1 x.2.2.2.1).fr
 let v33:=(rd (dfl .half) x.1.2.2.2.2.1 x.2.2.2.1).nu
 let v34:=(rd (dfl .half) x.1.2.2.2.2.1 x.2.2.2.1).to
 let v35:=(rd (dfl .half) x.1.2.2.2.2.1 x.2.2.2.1).un
 let v36:=(rd (dfl .half) x.1.2.2.2.2.1 x.2.2.2.1).sz
 let v37:=(rd (dfl .half) x.1.2.2.2.2.1 x.2.2.2.1).got
 if an (([]:List anA).length+v37.length) then
 if an (x.2.2.1.length+([(anD.mk v32 v33 v34 v35 v36 (([]:List anA)++v37))]:List anD).length) then
 some (.inl (x.1,x.2.1,(x.2.2.1++([(anD.mk v32 v33 v34 v35 v36 (([]:List anA)++v37))]:List anD)),(w64 (x.2.2.2.1+1)),()))
 else none
 else none
 else none
 else
 some (.inr (.inr (x.1,x.2.1,x.2.2.1,())))
def pZ:=aV px
def Bv:Loop:=⟨[(1,Z13),(2,Z14),(3,.row 101 .half),(4,.int .i64)],[(1,Z13),(2,Z14),(3,.row 101 .half)],0,[],pZ⟩
def Rm:LF Tryz.f40 [] [1,1,0,1,0,0] Bv:=sq (v:= .nil) G7 (b:=px) kN
def bu(x:Y3×auC):Option ((Y3×auC)×auC):=
 (aK (pZ (x.1,(0,false,noB,0,([]:List anD),()),([]:List anD),0,()))
 (fun _=>none)
 (fun y38=>some (((y38.1.1,y38.1.2.1,y38.1.2.2.1,y38.1.2.2.2.1,y38.2.2),()),())))
def eu:Ent:=(40,none,⟨[Z8],[Z15],bu⟩)
def c9:SQ Tryz.prog eu:=sk (v:=t1 (t1 (.two (t1 (.one (.loop Bv))) .nil))) (fn:=Tryz.f40) G7 (kC Rm kN)
def PE:Cx:=cX [cg] [] []
def SE:OKC Tryz.prog PE af:=okc mixed (gC bM (av))
def eF(x:Int×Int×auC):Option ((Int×auC)×auC):=
 (bH (X:=Int×Int×Bool×auC) (fun j6=>
 if j6.2.2.1 then
 some (((-1),()),())
 else
 if decide (j6.1 < j6.2.1) then
 some (((w64 (j6.1+1)),()),())
 else
 some (((w64 (j6.1 - 1)),()),()))
 ((bf (x.1,())).bind fun r7=>
 if !r7.1.1 then
 some (.inr (x.1,x.2.1,true,()))
 else
 (bf x.2).bind fun r8=>
 if !r8.1.1 then
 some (.inr (x.1,x.2.1,true,()))
 else
 some (.inr (x.1,x.2.1,(decide (x.1=x.2.1)),()))))
def lI:Ent:=(38,none,⟨[.int .i64,.int .i64],[.int .i64],eF⟩)
def jm:SQ Tryz.prog lI:=sk (v:=t1 (.two (.one (.join [(0,.int .i64),(1,.int .i64),(5,.bool)] .nil .nil)) .nil)) (fn:=Tryz.f38) SE kN
def R9:Cx:=cX [lI,cg,dh] [] [(65,67),(88,91)]
def WC:OKC Tryz.prog R9 af:=okc mixed (gC jm (gC bM (gC bQ (av))))
def mX(x:Y7×auC):Option ((Bool×auC)×auC):=
 (az (x.1.1,1,3,())).bind fun r15=>
 if !r15.1.1 then
 some ((false,()),())
 else
 (bf (x.1.2.1,())).bind fun r16=>
 if !r16.1.1 then
 some ((false,()),())
 else
 (bf (x.1.2.2.1,())).bind fun r17=>
 if !r17.1.1 then
 some ((false,()),())
 else
 (bf (x.1.2.2.2.1,())).bind fun r18=>
 if !r18.1.1 then
 some ((false,()),())
 else
 (bf (x.1.2.2.2.2.2.1,())).bind fun r19=>
 if !r19.1.1 then
 some ((false,()),())
 else
 (az (x.1.2.2.2.2.1,1,99,())).bind fun r20=>
 if !r20.1.1 then
 some ((false,()),())
 else
 (az (x.1.2.2.2.2.2.2.1,1,999,())).bind fun r21=>
 if !r21.1.1 then
 some ((false,()),())
 else
 if !decide (x.1.1=1) then
 (eF (x.1.2.2.1,x.1.2.2.2.2.2.1,())).bind fun r26=>
 if decide (r26.1.1=x.1.2.1) then
 if decide (x.1.2.2.2.2.2.2.2.1=0) then
 let v27:=((decide (x.1.2.2.2.2.2.2.2.2.1=0))&&(decide (x.1.2.2.2.2.2.2.2.2.2.1=noB)))
 some ((v27,()),())
 else
 some ((false,()),())
 else
 some ((false,()),())
 else
 (eF (x.1.2.1,x.1.2.2.2.2.2.1,())).bind fun r32=>
 if decide (r32.1.1=x.1.2.2.1) then
 (az (x.1.2.2.2.2.2.2.2.1,1,24,())).bind fun r33=>
 if r33.1.1 then
 (az (x.1.2.2.2.2.2.2.2.2.1,0,999,())).bind fun r34=>
 let v35:=(r34.1.1&&(decide ((x.1.2.2.2.2.2.2.2.2.2.1.size:Int)=4)))
 some ((v35,()),())
 else
 some ((false,()),())
 else
 some ((false,()),())
def yJ:Ent:=(41,none,⟨[Z16],[.bool],mX⟩)
def xX:SQ Tryz.prog yJ:=sk (v:= .nil) (fn:=Tryz.f41) WC kN
def KT:Cx:=cX [kr] [] []
def NR:OKC Tryz.prog KT af:=okc mixed (gC gJ (av))
def dz(x:Y4×auC):Option ((Y4×auC)×auC):=
 (fg x).bind fun r2=>
 if !r2.1.1 then
 some (((noB,0,()),()),())
 else
 some (((x.1.1,(x.1.1.size:Int),()),()),())
def iP:Ent:=(85,none,⟨[Z9],[Z9],dz⟩)
def gZ:SQ Tryz.prog iP:=sk (v:= .nil) (fn:=Tryz.f85) NR kN
def VO:Cx:=cX [gi] [] []
def X7:OKC Tryz.prog VO af:=okc mixed (gC dP (av))
def dF(x:auB×auC):Option ((auB×auC)×auC):=
 (aG ((x.1.size:Int),())).bind fun r1=>
 if decide (r1.1.1.size+(B [58]).size≤4611686018427387904) then
 if decide ((r1.1.1++(B [58])).size+x.1.size≤4611686018427387904) then
 if decide (((r1.1.1++(B [58]))++x.1).size+(B [59]).size≤4611686018427387904) then
 let v2:=(((r1.1.1++(B [58]))++x.1)++(B [59]))
 some ((v2,()),())
 else none
 else none
 else none
def pf:Ent:=(78,none,⟨[.str],[.str],dF⟩)
def mr:SQ Tryz.prog pf:=sk (v:= .nil) (fn:=Tryz.f78) X7 kN
def PA:Cx:=cX [dh] [] []
def SA:OKC Tryz.prog PA af:=okc mixed (gC bQ (av))
def pH(x:auB×auC):Option ((Bool×auC)×auC):=
 (az ((x.1.size:Int),1,60,())).bind fun r1=>
 some (r1.1,())
def wz:Ent:=(143,none,⟨[.str],[.bool],pH⟩)
def wO:SQ Tryz.prog wz:=sk (v:= .nil) (fn:=Tryz.f143) SA kN
def PB:Cx:=cX [kr,pf,wz] [] [(14,21)]
def SB:OKC Tryz.prog PB af:=okc mixed (gC gJ (gC mr (gC wO (av))))
def eE(x:Y4×auB×auC):Option ((Y4×Bool×auC)×auC):=
 (fg (x.1,())).bind fun r2=>
 if !r2.1.1 then
 some (((noB,0,()),false,()),())
 else
 (pH x.2).bind fun r5=>
 if aX (!(!r5.1.1)) ((dF x.2).isSome) then
 if(!r5.1.1)||(decide (2400 < (w64 ((x.1.1.size:Int)+((((dF x.2).getD ((noB,()),())).1.1).size:Int))))) then
 some ((x.1,false,()),())
 else
 (dF x.2).bind fun r6=>
 if decide (x.1.1.size+r6.1.1.size≤4611686018427387904) then
 some ((((x.1.1++r6.1.1),x.1.2),true,()),())
 else none
 else none
def wA:Ent:=(93,none,⟨[Z9,.str],[Z9,.bool],eE⟩)
def wP:SQ Tryz.prog wA:=sk (v:= .nil) (fn:=Tryz.f93) SB kN
def Nl:Cx:=cX [kr,pf,wz] [] []
def CG:OKC Tryz.prog Nl af:=okc mixed (gC gJ (gC mr (gC wO (av))))
def fA(x:List auB×Y4×Y4×auB×Int×auC):Rnd (List auB×Y4×Y4×auB×Int×auC) (Y4×Bool×auC) (Y4×Y4×auB×auC):=
 if decide (x.2.2.2.2.1 < (x.1.length:Int)) then
 if inb x.2.2.2.2.1 x.1.length then
 (pH ((rd (dfl .str) x.1 x.2.2.2.2.1),())).bind fun r17=>
 if !r17.1.1 then
 some (.inr (.inl (x.2.1,false,())))
 else
 if inb x.2.2.2.2.1 x.1.length then
 (dF ((rd (dfl .str) x.1 x.2.2.2.2.1),())).bind fun r18=>
 if decide (x.2.2.2.1.size+r18.1.1.size≤4611686018427387904) then
 some (.inl (x.1,x.2.1,x.2.2.1,(x.2.2.2.1++r18.1.1),(w64 (x.2.2.2.2.1+1)),()))
 else none
 else none
 else none
 else
 some (.inr (.inr (x.2.1,x.2.2.1,x.2.2.2.1,())))
def iy:=aV fA
def xT:Loop:=⟨[(1,.sl .str),(2,Z17),(4,Z17),(6,.str),(7,.int .i64)],[(2,Z17),(4,Z17),(6,.str)],0,[(4,Z17),(5,.bool)],iy⟩
def Mz:LF Tryz.f94 [] [1,1,1,0,1,0,0] xT:=sq (v:= .nil) CG (b:=fA) kN
def gu(x:Y4×List auB×auC):Option ((Y4×Bool×auC)×auC):=
 (fg (x.1,())).bind fun r2=>
 if !r2.1.1 then
 some (((noB,0,()),false,()),())
 else
 (aK (iy (x.2.1,x.1,(noB,0,()),noB,0,()))
 (fun y19=>some (y19,()))
 (fun y19=>(if decide (2400 < (y19.2.2.1.size:Int)) then
 some ((y19.1,false,()),())
 else
 some (((y19.2.2.1,(y19.2.2.1.size:Int),()),true,()),()))))
def uG:Ent:=(94,none,⟨[Z9,.fz .str],[Z9,.bool],gu⟩)
def vB:SQ Tryz.prog uG:=sk (v:=t1 (t1 (t1 (.two (t1 (.one (.loop xT))) .nil)))) (fn:=Tryz.f94) CG (kC Mz kN)
def PG:Cx:=cX [gE,gi,A7] [] []
def pU:OKC Tryz.prog PG af:=okc mixed (gC fh (gC dP (gC zE (av))))
def nS(x:Y1×List auB×Int×auC):Rnd (Y1×List auB×Int×auC) (auC) (List auB×auC):=
 if decide (x.2.2.1 < (x.1.2.2.2.2.2.1.length:Int)) then
 if inb x.2.2.1 x.1.2.2.2.2.2.1.length then
 (cj (((rd (dfl .note) x.1.2.2.2.2.2.1 x.2.2.1).fr,(rd (dfl .note) x.1.2.2.2.2.2.1 x.2.2.1).nu,(rd (dfl .note) x.1.2.2.2.2.2.1 x.2.2.1).to,(rd (dfl .note) x.1.2.2.2.2.2.1 x.2.2.1).un,(rd (dfl .note) x.1.2.2.2.2.2.1 x.2.2.1).tx,()),())).bind fun r61=>
 if decide ((B [105,110,98,111,120,32]).size+r61.1.1.size≤4611686018427387904) then
 if an (x.2.1.length+([((B [105,110,98,111,120,32])++r61.1.1)]:List auB).length) then
 some (.inl (x.1,(x.2.1++([((B [105,110,98,111,120,32])++r61.1.1)]:List auB)),(w64 (x.2.2.1+1)),()))
 else none
 else none
 else none
 else
 some (.inr (.inr (x.2.1,())))
def jo:=aV nS
def zB:Loop:=⟨[(1,Z2),(3,.row 9 .str),(7,.int .i64)],[(3,.row 9 .str)],4,[],jo⟩
def ON:LF Tryz.f95 [] [1,1,1,1,1,1,1,0,1,0,0] zB:=sq (v:= .nil) pU (b:=nS) kN
def nT(x:Y1×List auB×Int×auC):Rnd (Y1×List auB×Int×auC) (auC) (Y1×List auB×auC):=
 if decide (x.2.2.1 < (x.1.2.2.2.1.length:Int)) then
 if inb x.2.2.1 x.1.2.2.2.1.length then
 (cj (((rd (dfl .note) x.1.2.2.2.1 x.2.2.1).fr,(rd (dfl .note) x.1.2.2.2.1 x.2.2.1).nu,(rd (dfl .note) x.1.2.2.2.1 x.2.2.1).to,(rd (dfl .note) x.1.2.2.2.1 x.2.2.1).un,(rd (dfl .note) x.1.2.2.2.1 x.2.2.1).tx,()),())).bind fun r53=>
 if decide ((B [104,101,108,100,32]).size+r53.1.1.size≤4611686018427387904) then
 if an (x.2.1.length+([((B [104,101,108,100,32])++r53.1.1)]:List auB).length) then
 some (.inl (x.1,(x.2.1++([((B [104,101,108,100,32])++r53.1.1)]:List auB)),(w64 (x.2.2.1+1)),()))
 else none
 else none
 else none
 else
 some (.inr (.inr (x.1,x.2.1,())))
def jq:=aV nT
def zC:Loop:=⟨[(1,Z2),(3,.row 9 .str),(6,.int .i64)],[(1,Z2),(3,.row 9 .str)],2,[],jq⟩
def OR:LF Tryz.f95 [] [1,1,1,1,1,1,0,1,0,0] zC:=sq (v:= .nil) pU (b:=nT) kN
def nU(x:Y1×List auB×Int×auC):Rnd (Y1×List auB×Int×auC) (auC) (Y1×List auB×auC):=
 if decide (x.2.2.1 < (x.1.2.2.2.2.1.length:Int)) then
 if inb x.2.2.1 x.1.2.2.2.2.1.length then
 let v40:=(rd (dfl .mark) x.1.2.2.2.2.1 x.2.2.1).mf
 let v41:=(rd (dfl .mark) x.1.2.2.2.2.1 x.2.2.1).mn
 let v42:=(rd (dfl .mark) x.1.2.2.2.2.1 x.2.2.1).mu
 (aG (v40,())).bind fun r43=>
 if decide ((B [109,97,114,107,32]).size+r43.1.1.size≤4611686018427387904) then
 if decide (((B [109,97,114,107,32])++r43.1.1).size+(B [32]).size≤4611686018427387904) then
 (aG (v41,())).bind fun r44=>
 if decide ((((B [109,97,114,107,32])++r43.1.1)++(B [32])).size+r44.1.1.size≤4611686018427387904) then
 if decide (((((B [109,97,114,107,32])++r43.1.1)++(B [32]))++r44.1.1).size+(B [32]).size≤4611686018427387904) then
 (aG (v42,())).bind fun r45=>
 if decide ((((((B [109,97,114,107,32])++r43.1.1)++(B [32]))++r44.1.1)++(B [32])).size+r45.1.1.size≤4611686018427387904) then
 if an (x.2.1.length+([((((((B [109,97,114,107,32])++r43.1.1)++(B [32]))++r44.1.1)++(B [32]))++r45.1.1)]:List auB).length) then
 some (.inl (x.1,(x.2.1++([((((((B [109,97,114,107,32])++r43.1.1)++(B [32]))++r44.1.1)++(B [32]))++r45.1.1)]:List auB)),(w64 (x.2.2.1+1)),()))
 else none
 else none
 else none
 else none
 else none
 else none
 else none
 else
 some (.inr (.inr (x.1,x.2.1,())))
def jr:=aV nU
def zD:Loop:=⟨[(1,Z2),(3,.row 9 .str),(4,.int .i64)],[(1,Z2),(3,.row 9 .str)],0,[],jr⟩
def OY:LF Tryz.f95 [] [1,1,1,1,1,0,1,0,0] zD:=sq (v:= .nil) pU (b:=nU) kN
def lu(x:Y1×auC):Option ((List auB×auC)×auC):=
 (iV x).bind fun r2=>
 if !r2.1.1 then
 some ((([]:List auB),()),())
 else
 (bH (X:=Y1×List auB×auC) (fun j4=>
 (bH (X:=Y1×List auB×auC) (fun j7=>
 (aK (jr (j7.1,j7.2.1,0,()))
 (fun _=>none)
 (fun y46=>(aK (jq (y46.1,y46.2.1,0,()))
 (fun _=>none)
 (fun y54=>(aK (jo (y54.1,y54.2.1,0,()))
 (fun _=>none)
 (fun y62=>some (y62,()))))))))
 ((if decide (1 < j4.1.2.2.1) then
 (aG (j4.1.2.2.1,())).bind fun r8=>
 if decide ((B [110,101,120,116,32]).size+r8.1.1.size≤4611686018427387904) then
 if an (j4.2.1.length+([((B [110,101,120,116,32])++r8.1.1)]:List auB).length) then
 some (.inr (j4.1,(j4.2.1++([((B [110,101,120,116,32])++r8.1.1)]:List auB)),()))
 else none
 else none
 else
 some (.inr j4)))))
 ((if decide (0 < x.1.2.1) then
 (aG (x.1.2.1,())).bind fun r5=>
 if decide ((B [116,105,109,101,32]).size+r5.1.1.size≤4611686018427387904) then
 if an (([]:List auB).length+([((B [116,105,109,101,32])++r5.1.1)]:List auB).length) then
 some (.inr (x.1,(([]:List auB)++([((B [116,105,109,101,32])++r5.1.1)]:List auB)),()))
 else none
 else none
 else
 some (.inr (x.1,([]:List auB),())))))
def wC:Ent:=(95,none,⟨[Z3],[.row 9 .str],lu⟩)
def wT:SQ Tryz.prog wC:=sk (v:=t1 (t1 (t1 (.join [(1,Z2),(3,.row 9 .str)] .nil (.join [(1,Z2),(3,.row 9 .str)] .nil (.two (t1 (.one (.loop zD))) (.two (t1 (.one (.loop zC))) (.two (t1 (.one (.loop zB))) .nil)))))))) (fn:=Tryz.f95) pU (kC OY (kC OR (kC ON kN)))
def Pt:Cx:=cX [cb,iP,A9,wA,uG,wC] [] []
def Su:OKC Tryz.prog Pt af:=okc mixed (gC bw (gC gZ (gC zH (gC wP (gC vB (gC wT (av)))))))
def cC(x:Y3×auB×Bool×auC):Option ((Y3×Bool×auC)×auC):=
 (bm (x.1,())).bind fun r1=>
 (lO (r1.1.1,x.2.1,())).bind fun r2=>
 if !r2.1.2.1 then
 some ((x.1,false,()),())
 else
 (eE ((x.1.2.2.1,x.1.2.2.2.1,()),x.2.1,())).bind fun r3=>
 (bH (X:=Bool×Y3×Y3×Y4×Bool×auC) (fun j7=>
 if !j7.2.2.2.2.1 then
 some ((j7.2.1,false,()),())
 else
 if j7.1 then
 (dz (j7.2.2.2.1,())).bind fun r12=>
 some (((j7.2.1.1,j7.2.1.2.1,r12.1.1.1,r12.1.1.2.1,j7.2.1.2.2.2.2),true,()),())
 else
 some (((j7.2.1.1,j7.2.1.2.1,j7.2.2.2.1.1,j7.2.2.2.1.2.1,j7.2.1.2.2.2.2),true,()),()))
 ((if !r3.1.2.1 then
 (lu (r1.1.1,())).bind fun r8=>
 (gu ((x.1.2.2.1,x.1.2.2.2.1,()),r8.1)).bind fun r9=>
 (eE (r9.1.1,x.2.1,())).bind fun r10=>
 some (.inr (x.2.2.1,x.1,(0,false,noB,0,([]:List anD),()),r10.1))
 else
 some (.inr (x.2.2.1,x.1,(0,false,noB,0,([]:List anD),()),r3.1)))))
def ir:Ent:=(45,none,⟨[Z8,.str,.bool],[Z8,.bool],cC⟩)
def fZ:SQ Tryz.prog ir:=sk (v:=t1 (t1 (t1 (t1 (t1 (.join [(2,.bool),(3,Z13),(6,Z14),(12,Z17),(13,.bool)] .nil .nil)))))) (fn:=Tryz.f45) Su kN
def Nj:Cx:=cX [] [] []
def P3:OKC Tryz.prog Nj af:=okc mixed (av)
def nJ(x:Int×Y7×auC):Option ((Y7×auC)×auC):=
 some (((x.1,x.2.1.2.2.1,x.2.1.2.1,x.2.1.2.2.2.1,x.2.1.2.2.2.2.1,x.2.1.2.2.2.2.2.1,x.2.1.2.2.2.2.2.2.1,0,0,noB,()),()),())
def Cp:Ent:=(83,none,⟨[.int .i64,Z16],[Z16],nJ⟩)
def Fq:SQ Tryz.prog Cp:=sk (v:= .nil) (fn:=Tryz.f83) P3 kN
def RU:Cx:=cX [] [] []
def Ww:OKC Tryz.prog RU af:=okc mixed (av)
def gI(x:List anD×Int×auC):Option ((List anD×auC)×auC):=
 if decide (0≤x.2.1)&&decide (x.2.1≤(x.1.length:Int)) then
 if an (([]:List anD).length+(au3 (auK x.2.1) x.1).length) then
 if decide (0≤(w64 (x.2.1+1)))&&decide ((w64 (x.2.1+1))≤(x.1.length:Int)) then
 if an ((([]:List anD)++(au3 (auK x.2.1) x.1)).length+(avp (auK (w64 (x.2.1+1))) x.1).length) then
 some ((((([]:List anD)++(au3 (auK x.2.1) x.1))++(avp (auK (w64 (x.2.1+1))) x.1)),()),())
 else none
 else none
 else none
 else none
def yF:Ent:=(90,none,⟨[.fz .half,.int .i64],[.row 101 .half],gI⟩)
def xR:SQ Tryz.prog yF:=sk (v:= .nil) (fn:=Tryz.f90) Ww kN
def RS:Cx:=cX [] [] [(22,28)]
def G6:OKC Tryz.prog RS af:=okc mixed (av)
def pw(x:List anD×Int×Int×Int×auC):Rnd (List anD×Int×Int×Int×auC) (Int×auC) (auC):=
 if decide (x.2.2.2.1 < (x.1.length:Int)) then
 if inb x.2.2.2.1 x.1.length then
 if aX (decide ((rd (dfl .half) x.1 x.2.2.2.1).fr=x.2.1)) (inb x.2.2.2.1 x.1.length) then
 if(decide ((rd (dfl .half) x.1 x.2.2.2.1).fr=x.2.1))&&(decide ((rd (dfl .half) x.1 x.2.2.2.1).nu=x.2.2.1)) then
 some (.inr (.inl x.2.2.2))
 else
 some (.inl (x.1,x.2.1,x.2.2.1,(w64 (x.2.2.2.1+1)),()))
 else none
 else none
 else
 some (.inr (.inr ()))
def pY:=aV pw
def Bu:Loop:=⟨[(0,.sl .half),(1,.int .i64),(2,.int .i64),(7,.int .i64)],[],0,[(6,.int .i64)],pY⟩
def Rl:LF Tryz.f137 [] [1,0,1,0,0] Bu:=sq (v:= .nil) G6 (b:=pw) kN
def rq(x:List anD×Int×Int×auC):Option ((Int×auC)×auC):=
 (aK (pY (x.1,x.2.1,x.2.2.1,0,()))
 (fun y2=>some (y2,()))
 (fun y2=>some (((-1),()),())))
def GA:Ent:=(137,none,⟨[.fz .half,.int .i64,.int .i64],[.int .i64],rq⟩)
def J0:SQ Tryz.prog GA:=sk (v:=t1 (.two (t1 (.one (.loop Bu))) .nil)) (fn:=Tryz.f137) G6 (kC Rl kN)
def VI:Cx:=cX [yF,GA] [] []
def Jz:OKC Tryz.prog VI af:=okc mixed (gC xR (gC J0 (av)))
def rr(x:Y3×Y7×Y3×Int×Y6×List anA×Int×auC):Rnd (Y3×Y7×Y3×Int×Y6×List anA×Int×auC) (auC) (Y3×Y7×Y3×Int×Y6×List anA×auC):=
 if decide (x.2.2.2.2.2.2.1 < (x.2.2.2.2.1.2.2.2.2.2.1.length:Int)) then
 if inb x.2.2.2.2.2.2.1 x.2.2.2.2.1.2.2.2.2.2.1.length then
 if !decide ((rd (dfl .mixed) x.2.2.2.2.1.2.2.2.2.2.1 x.2.2.2.2.2.2.1).nu=x.2.1.2.2.2.2.2.2.2.2.1) then
 if inb x.2.2.2.2.2.2.1 x.2.2.2.2.1.2.2.2.2.2.1.length then
 if an (x.2.2.2.2.2.1.length+([(rd (dfl .mixed) x.2.2.2.2.1.2.2.2.2.2.1 x.2.2.2.2.2.2.1)]:List anA).length) then
 let v21:=(w64 (x.2.2.2.2.2.2.1+1))
 some (.inl (x.1,x.2.1,x.2.2.1,x.2.2.2.1,x.2.2.2.2.1,(x.2.2.2.2.2.1++([(rd (dfl .mixed) x.2.2.2.2.1.2.2.2.2.2.1 x.2.2.2.2.2.2.1)]:List anA)),v21,()))
 else none
 else none
 else
 let v22:=(w64 (x.2.2.2.2.2.2.1+1))
 some (.inl (x.1,x.2.1,x.2.2.1,x.2.2.2.1,x.2.2.2.2.1,x.2.2.2.2.2.1,v22,()))
 else none
 else
 some (.inr (.inr (x.1,x.2.1,x.2.2.1,x.2.2.2.1,x.2.2.2.2.1,x.2.2.2.2.2.1,())))
def mm:=aV rr
def DY:Loop:=⟨[(2,Z14),(3,Z18),(4,Z14),(6,.int .i64),(7,Z11),(8,.row 120 .mixed),(9,.int .i64)],[(2,Z14),(3,Z18),(4,Z14),(6,.int .i64),(7,Z11),(8,.row 120 .mixed)],0,[],mm⟩
def UL:LF Tryz.f88 [] [1,1,1,1,1,1,0,1,0,0] DY:=sq (v:= .nil) Jz (b:=rr) kN
def uU(x:Y3×Y7×auC):Option ((Y3×Int×auC)×auC):=
 (rq (x.1.2.2.2.2.1,x.2.1.2.2.2.1,x.2.1.2.2.2.2.1,())).bind fun r1=>
 (bH (X:=Y3×Y7×Y3×Int×auC) (fun j6=>
 if inb j6.2.2.2.1 j6.1.2.2.2.2.1.length then
 let v10:=(rd (dfl .half) j6.1.2.2.2.2.1 j6.2.2.2.1).fr
 let v11:=(rd (dfl .half) j6.1.2.2.2.2.1 j6.2.2.2.1).nu
 let v12:=(rd (dfl .half) j6.1.2.2.2.2.1 j6.2.2.2.1).to
 let v13:=(rd (dfl .half) j6.1.2.2.2.2.1 j6.2.2.2.1).un
 let v14:=(rd (dfl .half) j6.1.2.2.2.2.1 j6.2.2.2.1).sz
 let v15:=(rd (dfl .half) j6.1.2.2.2.2.1 j6.2.2.2.1).got
 if !decide (v12=j6.2.1.2.2.2.2.2.1) then
 some ((j6.1,(-1),()),())
 else
 if !decide (v13=j6.2.1.2.2.2.2.2.2.1) then
 some ((j6.1,(-1),()),())
 else
 if !decide (v14=j6.2.1.2.2.2.2.2.2.2.1) then
 some ((j6.1,(-1),()),())
 else
 (aK (mm (j6.1,j6.2.1,j6.2.2.1,j6.2.2.2.1,(v10,v11,v12,v13,v14,v15,()),([]:List anA),0,()))
 (fun _=>none)
 (fun y23=>(bH (X:=Y3×Y7×Y3×Int×Y6×List anA×auC) (fun j24=>
 if an (j24.2.2.2.2.2.1.length+([(anA.mk j24.2.1.2.2.2.2.2.2.2.2.1 j24.2.1.2.2.2.2.2.2.2.2.2.1)]:List anA).length) then
 if inb j24.2.2.2.1 j24.1.2.2.2.2.1.length then
 some (((j24.1.1,j24.1.2.1,j24.1.2.2.1,j24.1.2.2.2.1,(ave j24.1.2.2.2.2.1 (auK j24.2.2.2.1) (anD.mk j24.2.2.2.2.1.1 j24.2.2.2.2.1.2.1 j24.2.2.2.2.1.2.2.1 j24.2.2.2.2.1.2.2.2.1 j24.2.2.2.2.1.2.2.2.2.1 (j24.2.2.2.2.2.1++([(anA.mk j24.2.1.2.2.2.2.2.2.2.2.1 j24.2.1.2.2.2.2.2.2.2.2.2.1)]:List anA)))),()),j24.2.2.2.1,()),())
 else none
 else none)
 ((if decide (14≤(y23.2.2.2.2.2.1.length:Int)) then
 if decide (0≤1)&&decide (1≤(y23.2.2.2.2.2.1.length:Int)) then
 if an (([]:List anA).length+(avp (auK 1) y23.2.2.2.2.2.1).length) then
 some (.inr (y23.1,y23.2.1,y23.2.2.1,y23.2.2.2.1,y23.2.2.2.2.1,(([]:List anA)++(avp (auK 1) y23.2.2.2.2.2.1)),()))
 else none
 else none
 else
 some (.inr y23))))))
 else none)
 ((if decide (r1.1.1 < 0) then
 (bH (X:=Y3×Y7×Y3×auC) (fun j7=>
 if an (j7.1.2.2.2.2.1.length+([(anD.mk j7.2.1.2.2.2.1 j7.2.1.2.2.2.2.1 j7.2.1.2.2.2.2.2.1 j7.2.1.2.2.2.2.2.2.1 j7.2.1.2.2.2.2.2.2.2.1 ([]:List anA))]:List anD).length) then
 let v9:=(w64 (((j7.1.2.2.2.2.1++([(anD.mk j7.2.1.2.2.2.1 j7.2.1.2.2.2.2.1 j7.2.1.2.2.2.2.2.1 j7.2.1.2.2.2.2.2.2.1 j7.2.1.2.2.2.2.2.2.2.1 ([]:List anA))]:List anD)).length:Int) - 1))
 some (.inr ((j7.1.1,j7.1.2.1,j7.1.2.2.1,j7.1.2.2.2.1,(j7.1.2.2.2.2.1++([(anD.mk j7.2.1.2.2.2.1 j7.2.1.2.2.2.2.1 j7.2.1.2.2.2.2.2.1 j7.2.1.2.2.2.2.2.2.1 j7.2.1.2.2.2.2.2.2.2.1 ([]:List anA))]:List anD)),()),j7.2.1,j7.2.2.1,v9,()))
 else none)
 ((if decide (3≤(x.1.2.2.2.2.1.length:Int)) then
 (gI (x.1.2.2.2.2.1,0,())).bind fun r8=>
 some (.inr ((x.1.1,x.1.2.1,x.1.2.2.1,x.1.2.2.2.1,r8.1),x.2.1,(0,false,noB,0,([]:List anD),()),()))
 else
 some (.inr (x.1,x.2.1,(0,false,noB,0,([]:List anD),()),())))))
 else
 some (.inr (x.1,x.2.1,(0,false,noB,0,([]:List anD),()),r1.1)))))
def Jc:Ent:=(88,none,⟨[Z15,Z16],[Z15,.int .i64],uU⟩)
def LB:SQ Tryz.prog Jc:=sk (v:=t1 (t1 (.join [(2,Z14),(3,Z18),(4,Z14),(6,.int .i64)] (t1 (.two (.join [(2,Z14),(3,Z18),(4,Z14)] .nil .nil) .nil)) (t1 (t1 (t1 (.two (t1 (.one (.loop DY))) (.join [(2,Z14),(3,Z18),(4,Z14),(6,.int .i64),(7,Z11),(8,.row 120 .mixed)] .nil .nil)))))))) (fn:=Tryz.f88) Jz (kC UL kN)
def PC:Cx:=cX [dh] [] []
def SC:OKC Tryz.prog PC af:=okc mixed (gC bQ (av))
def fQ(x:Int×auC):Option ((Int×auC)×auC):=
 (az (x.1,0,65535,())).bind fun r2=>
 if !r2.1.1 then
 some ((0,()),())
 else
 let v3:=(avq (w64 ((w64 (x.1 * 25173))+13849)) 65536)
 some ((v3,()),())
def wB:Ent:=(153,none,⟨[.int .i64],[.int .i64],fQ⟩)
def wS:SQ Tryz.prog wB:=sk (v:= .nil) (fn:=Tryz.f153) SC kN
def Pw:Cx:=cX [] [] []
def Sx:OKC Tryz.prog Pw af:=okc mixed (av)
def py(x:Int×Int×auC):Option ((Int×auC)×auC):=
 if decide (x.2.1=1) then
 if !decide (x.1=0) then
 let v2:=(w64 ((w64 (au6 60 x.1))+10))
 some ((v2,()),())
 else none
 else
 if !decide ((w64 (x.2.1 * (w64 (x.2.1 - 1))))=0) then
 let v3:=(w64 (au6 60 (w64 (x.2.1 * (w64 (x.2.1 - 1))))))
 some ((v3,()),())
 else none
def Ez:Ent:=(187,none,⟨[.int .i64,.int .i64],[.int .i64],py⟩)
def Ia:SQ Tryz.prog Ez:=sk (v:= .nil) (fn:=Tryz.f187) Sx kN
def Np:Cx:=cX [vY,wB,Ez] [] []
def uP:OKC Tryz.prog Np af:=okc mixed (gC pz (gC wS (gC Ia (av))))
def iB(x:Int×Int×Int×auC):Rnd (Int×Int×Int×auC) (Int×auC) (Int×auC):=
 if decide (x.2.2.1 < x.1) then
 (py (x.1,x.2.2)).bind fun r20=>
 if decide ((w64 (x.2.1 - r20.1.1)) < 0) then
 some (.inr (.inl x.2.2))
 else
 some (.inl (x.1,(w64 (x.2.1 - r20.1.1)),(w64 (x.2.2.1+1)),()))
 else
 some (.inr (.inr (x.1,())))
def iz:=aV iB
def xV:Loop:=⟨[(0,.int .i64),(7,.int .i64),(8,.int .i64)],[(0,.int .i64)],2,[(4,.int .i64)],iz⟩
def Mu:LF Tryz.f154 [] [1,1,1,1,1,1,0,1,0,0] xV:=sq (v:= .nil) uP (b:=iB) kN
def zx(x:Int×Int×Int×Int×auC):Rnd (Int×Int×Int×Int×auC) (auC) (Int×Int×Int×auC):=
 if decide (x.2.2.2.1≤x.1) then
 (py (x.1,x.2.2.2)).bind fun r9=>
 some (.inl (x.1,x.2.1,(w64 (x.2.2.1+r9.1.1)),(w64 (x.2.2.2.1+1)),()))
 else
 some (.inr (.inr (x.1,x.2.1,x.2.2.1,())))
def iA:=aV zx
def xW:Loop:=⟨[(0,.int .i64),(1,.int .i64),(5,.int .i64),(6,.int .i64)],[(0,.int .i64),(1,.int .i64),(5,.int .i64)],0,[],iA⟩
def MA:LF Tryz.f154 [] [1,1,1,1,0,1,0,0] xW:=sq (v:= .nil) uP (b:=zx) kN
def nO(x:Int×Int×auC):Option ((Int×auC)×auC):=
 (iv x).bind fun r2=>
 if !r2.1.1 then
 some ((0,()),())
 else
 if decide (x.2.1 < x.1) then
 some ((1,()),())
 else
 (aK (iA (x.1,x.2.1,0,1,()))
 (fun _=>none)
 (fun y10=>(fQ ((w64 ((w64 (y10.2.1 * 31))+y10.1)),())).bind fun r11=>
 (fQ r11.1).bind fun r12=>
 if !decide (y10.2.2.1=0) then
 let v13:=(avq (w64 (au6 r12.1.1 16)) y10.2.2.1)
 (aK (iz (y10.1,v13,1,()))
 (fun y21=>some (y21,()))
 (fun y21=>some (y21,())))
 else none))
def Cr:Ent:=(154,none,⟨[.int .i64,.int .i64],[.int .i64],nO⟩)
def Fz:SQ Tryz.prog Cr:=sk (v:=t1 (t1 (t1 (t1 (.two (t1 (.one (.loop xW))) (t1 (.two (t1 (.one (.loop xV))) .nil))))))) (fn:=Tryz.f154) uP (kC MA (kC Mu kN))
def XO:Cx:=cX [vY,wB,Cr] [] []
def xw:OKC Tryz.prog XO af:=okc mixed (gC pz (gC wS (gC Fz (av))))
def o5(x:Int×List Int×List Bool×Int×Int×Int×auC):Rnd (Int×List Int×List Bool×Int×Int×Int×auC) (auC) (Int×List Int×List Bool×Int×Int×Int×auC):=
 if inb x.2.2.2.2.2.1 x.2.2.1.length then
 if rd (dfl .bool) x.2.2.1 x.2.2.2.2.2.1 then
 if !decide (x.1=0) then
 let v38:=(avq (w64 (x.2.2.2.2.2.1+1)) x.1)
 some (.inl (x.1,x.2.1,x.2.2.1,x.2.2.2.1,x.2.2.2.2.1,v38,()))
 else none
 else
 some (.inr (.inr x))
 else none
def nN:=aV o5
def Fv:Loop:=⟨[(0,.int .i64),(5,.row 3 .int),(6,.row 4 .bool),(7,.int .i64),(8,.int .i64),(9,.int .i64)],[(0,.int .i64),(5,.row 3 .int),(6,.row 4 .bool),(7,.int .i64),(8,.int .i64),(9,.int .i64)],2,[],nN⟩
def Xt:LF Tryz.f118 [] [1,1,1,1,1,1,0,1,0,0,1,0,0,1,1,0,0,0] Fv:=sq (v:= .nil) xw (b:=o5) kN
def u7(x:Int×List Int×List Bool×Int×auC):Rnd (Int×List Int×List Bool×Int×auC) (auC) (List Int×auC):=
 if decide (x.2.2.2.1 < x.1) then
 if inb x.2.2.2.1 x.2.2.1.length then
 if rd (dfl .bool) x.2.2.1 x.2.2.2.1 then
 if an (x.2.1.length+([x.2.2.2.1]:List Int).length) then
 some (.inl (x.1,(x.2.1++([x.2.2.2.1]:List Int)),x.2.2.1,(w64 (x.2.2.2.1+1)),()))
 else none
 else
 some (.inl (x.1,x.2.1,x.2.2.1,(w64 (x.2.2.2.1+1)),()))
 else none
 else
 some (.inr (.inr (x.2.1,())))
def um:=aV u7
def Fu:Loop:=⟨[(0,.int .i64),(5,.row 3 .int),(6,.row 4 .bool),(10,.int .i64)],[(5,.row 3 .int)],4,[],um⟩
def Xr:LF Tryz.f118 [] [1,1,1,1,1,1,1,0,1,0,0] Fu:=sq (v:= .nil) xw (b:=u7) kN
def AD(x:Int×List Int×List Bool×Int×Int×auC):Rnd (Int×List Int×List Bool×Int×Int×auC) (auC) (Int×List Int×List Bool×auC):=
 if decide (0 < x.2.2.2.2.1) then
 (fQ (x.2.2.2.1,())).bind fun r35=>
 if !decide (x.1=0) then
 let v36:=(avq (w64 (au6 r35.1.1 16)) x.1)
 (aK (nN (x.1,x.2.1,x.2.2.1,r35.1.1,x.2.2.2.2.1,v36,()))
 (fun _=>some (.inr (.inl ())))
 (fun y39=>(if inb y39.2.2.2.2.2.1 y39.2.2.1.length then
 let v40:=(w64 (y39.2.2.2.2.1 - 1))
 some (.inl (y39.1,y39.2.1,(ave y39.2.2.1 (auK y39.2.2.2.2.2.1) true),y39.2.2.2.1,v40,()))
 else none)))
 else none
 else
 some (.inr (.inr (x.1,x.2.1,x.2.2.1,())))
def uo:=aV AD
def Fw:Loop:=⟨[(0,.int .i64),(5,.row 3 .int),(6,.row 4 .bool),(7,.int .i64),(8,.int .i64)],[(0,.int .i64),(5,.row 3 .int),(6,.row 4 .bool)],0,[],uo⟩
def Xx:LF Tryz.f118 [] [1,1,1,1,1,1,0,1,0,0] Fw:=sq (v:=t1 (.two (.one (t1 (t1 (.two (.one (.loop Fv)) .nil)))) .nil)) xw (b:=AD) (kC Xt kN)
def rE(x:Int×Int×auC):Option ((List Int×auC)×auC):=
 (iv x).bind fun r2=>
 if !r2.1.1 then
 some ((([]:List Int),()),())
 else
 if decide (x.2.1 < x.1) then
 if an (([]:List Int).length+([x.2.1]:List Int).length) then
 some (((([]:List Int)++([x.2.1]:List Int)),()),())
 else none
 else
 if decide (0≤x.1)&&decide (x.1≤4294967296) then
 (fQ ((w64 ((w64 (x.2.1 * 7))+1)),())).bind fun r3=>
 (nO x).bind fun r17=>
 (aK (uo (x.1,([]:List Int),(au0 (auK x.1) (dfl .bool)),r3.1.1,r17.1))
 (fun _=>none)
 (fun y41=>(aK (um (y41.1,y41.2.1,y41.2.2.1,0,()))
 (fun _=>none)
 (fun y43=>some (y43,())))))
 else none
def DC:Ent:=(118,none,⟨[.int .i64,.int .i64],[.row 3 .int],rE⟩)
def BF:SQ Tryz.prog DC:=sk (v:=t1 (t1 (t1 (t1 (t1 (t1 (.two (t1 (.one (.loop Fw))) (.two (t1 (.one (.loop Fu))) .nil)))))))) (fn:=Tryz.f118) xw (kC Xx (kC Xr kN))
def XN:Cx:=cX [] [] []
def NQ:OKC Tryz.prog XN af:=okc mixed (av)
def IQ(x:auB×auB×List Int×Int×auC):Rnd (auB×auB×List Int×Int×auC) (auC) (List Int×auC):=
 if decide (x.2.2.2.1 < 4) then
 if inb x.2.2.2.1 x.1.size then
 if inb x.2.2.2.1 x.2.1.size then
 if an (x.2.2.1.length+([(vQ .u8 (bt x.1 x.2.2.2.1) (bt x.2.1 x.2.2.2.1))]:List Int).length) then
 some (.inl (x.1,x.2.1,(x.2.2.1++([(vQ .u8 (bt x.1 x.2.2.2.1) (bt x.2.1 x.2.2.2.1))]:List Int)),(w64 (x.2.2.2.1+1)),()))
 else none
 else none
 else none
 else
 some (.inr (.inr (x.2.2.1,())))
def uk:=aV IQ
def Fm:Loop:=⟨[(0,.str),(1,.str),(5,.row 5 .u8),(6,.int .i64)],[(5,.row 5 .u8)],0,[],uk⟩
def Xw:LF Tryz.f120 [] [1,1,0,1,0,0] Fm:=sq (v:= .nil) NQ (b:=IQ) kN
def rp(x:auB×auB×auC):Option ((auB×auC)×auC):=
 (aK (uk (x.1,x.2.1,([]:List Int),0,()))
 (fun _=>none)
 (fun y2=>some (((eS y2.1),()),())))
def DB:Ent:=(120,none,⟨[.str,.str],[.str],rp⟩)
def Bt:SQ Tryz.prog DB:=sk (v:=t1 (t1 (.two (t1 (.one (.loop Fm))) .nil))) (fn:=Tryz.f120) NQ (kC Xw kN)
def VG:Cx:=cX [DC,DB] [] []
def Jy:OKC Tryz.prog VG af:=okc mixed (gC BF (gC Bt (av)))
def mO(x:List auB×List Int×auB×List Int×Int×auC):Rnd (List auB×List Int×auB×List Int×Int×auC) (auC) (List Int×auB×auC):=
 if decide (x.2.2.2.2.1 < (x.2.2.2.1.length:Int)) then
 if inb x.2.2.2.2.1 x.2.2.2.1.length then
 if inb (rd (dfl .int) x.2.2.2.1 x.2.2.2.2.1) x.1.length then
 if decide ((rd (dfl .str) x.1 (rd (dfl .int) x.2.2.2.1 x.2.2.2.2.1))=noB) then
 if inb x.2.2.2.2.1 x.2.2.2.1.length then
 if an (x.2.1.length+([(rd (dfl .int) x.2.2.2.1 x.2.2.2.2.1)]:List Int).length) then
 some (.inl (x.1,(x.2.1++([(rd (dfl .int) x.2.2.2.1 x.2.2.2.2.1)]:List Int)),x.2.2.1,x.2.2.2.1,(w64 (x.2.2.2.2.1+1)),()))
 else none
 else none
 else
 if inb x.2.2.2.2.1 x.2.2.2.1.length then
 if inb (rd (dfl .int) x.2.2.2.1 x.2.2.2.2.1) x.1.length then
 (rp (x.2.2.1,(rd (dfl .str) x.1 (rd (dfl .int) x.2.2.2.1 x.2.2.2.2.1)),())).bind fun r8=>
 some (.inl (x.1,x.2.1,r8.1.1,x.2.2.2.1,(w64 (x.2.2.2.2.1+1)),()))
 else none
 else none
 else none
 else none
 else
 some (.inr (.inr (x.2.1,x.2.2.1,())))
def mh:=aV mO
def DX:Loop:=⟨[(2,.sl .str),(8,.row 3 .int),(9,.str),(10,.row 3 .int),(11,.int .i64)],[(8,.row 3 .int),(9,.str)],0,[],mh⟩
def UK:LF Tryz.f165 [] [1,1,1,1,0,1,0,0] DX:=sq (v:= .nil) Jy (b:=mO) kN
def uT(x:Int×Y5×List auB×auC):Option ((List Int×auB×auC)×auC):=
 (rE (x.1,x.2.1.1,())).bind fun r1=>
 (aK (mh (x.2.2.1,([]:List Int),x.2.1.2.1,r1.1.1,0,()))
 (fun _=>none)
 (fun y9=>some (y9,())))
def Jb:Ent:=(165,none,⟨[.int .i64,Z10,.fz .str],[.row 3 .int,.str],uT⟩)
def LA:SQ Tryz.prog Jb:=sk (v:=t1 (t1 (t1 (t1 (.two (t1 (.one (.loop DX))) .nil))))) (fn:=Tryz.f165) Jy (kC UK kN)
def R7:Cx:=cX [dh,yE,Jb] [] []
def yW:OKC Tryz.prog R7 af:=okc mixed (gC bQ (gC xN (gC LA (av))))
def fR(x:Int×List anA×List auB×Bool×Int×auC):Rnd (Int×List anA×List auB×Bool×Int×auC) (auC) (Int×List anA×List auB×Bool×auC):=
 if decide (x.2.2.2.2.1 < (x.2.1.length:Int)) then
 if inb x.2.2.2.2.1 x.2.1.length then
 (jJ (x.1,((rd (dfl .mixed) x.2.1 x.2.2.2.2.1).nu,(rd (dfl .mixed) x.2.1 x.2.2.2.2.1).da,()),())).bind fun r24=>
 if !r24.1.1 then
 some (.inl (x.1,x.2.1,x.2.2.1,x.2.2.2.1,(w64 (x.2.2.2.2.1+1)),()))
 else
 if inb x.2.2.2.2.1 x.2.1.length then
 (uT (x.1,((rd (dfl .mixed) x.2.1 x.2.2.2.2.1).nu,(rd (dfl .mixed) x.2.1 x.2.2.2.2.1).da,()),x.2.2.1,())).bind fun r25=>
 if decide ((r25.1.1.length:Int)=1) then
 if inb 0 r25.1.1.length then
 if inb (rd (dfl .int) r25.1.1 0) x.2.2.1.length then
 some (.inl (x.1,x.2.1,(ave x.2.2.1 (auK (rd (dfl .int) r25.1.1 0)) r25.1.2.1),true,(w64 (x.2.2.2.2.1+1)),()))
 else none
 else none
 else
 some (.inl (x.1,x.2.1,x.2.2.1,x.2.2.2.1,(w64 (x.2.2.2.2.1+1)),()))
 else none
 else none
 else
 some (.inr (.inr (x.1,x.2.1,x.2.2.1,x.2.2.2.1,())))
def gL:=aV fR
def BD:Loop:=⟨[(0,.int .i64),(1,.sl .mixed),(5,.row 9 .str),(6,.bool),(7,.int .i64)],[(0,.int .i64),(1,.sl .mixed),(5,.row 9 .str),(6,.bool)],2,[],gL⟩
def Re:LF Tryz.f138 [] [1,1,1,1,0,0,0,1,0,1,1,0,0] BD:=sq (v:= .nil) yW (b:=fR) kN
def wq(x:Int×List anA×List auB×Bool×auC):Rnd (Int×List anA×List auB×Bool×auC) (auC) (List auB×auC):=
 if x.2.2.2.1 then
 (aK (gL (x.1,x.2.1,x.2.2.1,false,0,()))
 (fun _=>some (.inr (.inl ())))
 (fun y26=>some (.inl y26)))
 else
 some (.inr (.inr (x.2.2.1,())))
def qb:=aV wq
def BE:Loop:=⟨[(0,.int .i64),(1,.sl .mixed),(5,.row 9 .str),(6,.bool)],[(5,.row 9 .str)],0,[],qb⟩
def Rs:LF Tryz.f138 [] [1,1,1,1,0,0,0] BE:=sq (v:=t1 (.one (t1 (t1 (.one (.loop BD)))))) yW (b:=wq) (kC Re kN)
def rD(x:Int×List anA×auC):Option ((List auB×auC)×auC):=
 (az (x.1,1,6,())).bind fun r2=>
 if !r2.1.1 then
 some ((([]:List auB),()),())
 else
 if decide (0≤x.1)&&decide (x.1≤4294967296) then
 (aK (qb (x.1,x.2.1,(au0 (auK x.1) (dfl .str)),true,()))
 (fun _=>none)
 (fun y27=>some (y27,())))
 else none
def GG:Ent:=(138,none,⟨[.int .i64,.fz .mixed],[.row 9 .str],rD⟩)
def J6:SQ Tryz.prog GG:=sk (v:=t1 (t1 (t1 (t1 (.two (.one (.loop BE)) .nil))))) (fn:=Tryz.f138) yW (kC Rs kN)
def R6:Cx:=cX [dh,lH,GG] [] []
def yV:OKC Tryz.prog R6 af:=okc mixed (gC bQ (gC jl (gC J6 (av))))
def pI(x:Int×auB×Int×auC):Rnd (Int×auB×Int×auC) (auB×Bool×auC) (Int×auB×auC):=
 if decide (x.2.2.1 < (x.2.1.size:Int)) then
 if inb x.2.2.1 x.2.1.size then
 if !decide ((bt x.2.1 x.2.2.1)=0) then
 some (.inr (.inl (noB,false,())))
 else
 some (.inl (x.1,x.2.1,(w64 (x.2.2.1+1)),()))
 else none
 else
 some (.inr (.inr (x.1,x.2.1,())))
def qa:=aV pI
def BB:Loop:=⟨[(0,.int .i64),(7,.str),(9,.int .i64)],[(0,.int .i64),(7,.str)],2,[(4,.str),(5,.bool)],qa⟩
def Rc:LF Tryz.f89 [] [1,1,1,1,1,0,1,0,0] BB:=sq (v:= .nil) yV (b:=pI) kN
def lr(x:Int×List auB×auB×Int×auC):Rnd (Int×List auB×auB×Int×auC) (auB×Bool×auC) (Int×auB×auC):=
 if decide (x.2.2.2.1 < (x.2.1.length:Int)) then
 if inb x.2.2.2.1 x.2.1.length then
 if decide ((rd (dfl .str) x.2.1 x.2.2.2.1)=noB) then
 some (.inr (.inl (noB,false,())))
 else
 if inb x.2.2.2.1 x.2.1.length then
 if decide (x.2.2.1.size+(rd (dfl .str) x.2.1 x.2.2.2.1).size≤4611686018427387904) then
 let v11:=(x.2.2.1++(rd (dfl .str) x.2.1 x.2.2.2.1))
 some (.inl (x.1,x.2.1,v11,(w64 (x.2.2.2.1+1)),()))
 else none
 else none
 else none
 else
 some (.inr (.inr (x.1,x.2.2.1,())))
def kV:=aV lr
def BC:Loop:=⟨[(0,.int .i64),(6,.row 9 .str),(7,.str),(8,.int .i64)],[(0,.int .i64),(7,.str)],0,[(4,.str),(5,.bool)],kV⟩
def Rr:LF Tryz.f89 [] [1,1,1,1,0,1,0,0] BC:=sq (v:= .nil) yV (b:=lr) kN
def rC(x:Int×List anA×auC):Option ((auB×Bool×auC)×auC):=
 (az (x.1,1,24,())).bind fun r2=>
 if !r2.1.1 then
 some ((noB,false,()),())
 else
 (di (x.1,())).bind fun r3=>
 (rD (r3.1.1,x.2)).bind fun r4=>
 (aK (kV (x.1,r4.1.1,noB,0,()))
 (fun y12=>some (y12,()))
 (fun y12=>(aK (qa (y12.1,y12.2.1,y12.1,()))
 (fun y14=>some (y14,()))
 (fun y14=>(if decide (0≤y14.1)&&decide (y14.1≤(y14.2.1.size:Int)) then
 let v15:=(y14.2.1.extract (0) (auK y14.1))
 some ((v15,true,()),())
 else none)))))
def GF:Ent:=(89,none,⟨[.int .i64,.fz .mixed],[.str,.bool],rC⟩)
def J5:SQ Tryz.prog GF:=sk (v:=t1 (t1 (t1 (t1 (.two (t1 (.one (.loop BC))) (.two (t1 (.one (.loop BB))) .nil)))))) (fn:=Tryz.f89) yV (kC Rr (kC Rc kN))
def Pv:Cx:=cX [cb,ew,ir,Cp,nD,iP,vY,lH,Jc,GF,yF,gE] [] [(39,46),(62,68)]
def Sw:OKC Tryz.prog Pv af:=okc mixed (gC bw (gC dd (gC fZ (gC Fq (gC kQ (gC gZ (gC pz (gC jl (gC LB (gC J5 (gC xR (gC fh (av)))))))))))))
def ln(x:Y3×Y7×auC):Option ((Y3×List Frame×auC)×auC):=
 (bm (x.1,())).bind fun r1=>
 if decide (x.2.1.2.2.2.2.2.2.1≤r1.1.1.2.1) then
 (nJ (3,x.2)).bind fun r3=>
 some ((x.1,([(Frame.mk r3.1.1.1 r3.1.1.2.1 r3.1.1.2.2.1 r3.1.1.2.2.2.1 r3.1.1.2.2.2.2.1 r3.1.1.2.2.2.2.2.1 r3.1.1.2.2.2.2.2.2.1 r3.1.1.2.2.2.2.2.2.2.1 r3.1.1.2.2.2.2.2.2.2.2.1 r3.1.1.2.2.2.2.2.2.2.2.2.1)]:List Frame),()),())
 else
 (bo (r1.1.1.2.2.2.1,x.2.1.2.2.2.1,x.2.1.2.2.2.2.1,())).bind fun r8=>
 if aX (!(decide (0≤r8.1.1))) ((db (r1.1.1.2.2.2.2.1,x.2.1.2.2.2.1,x.2.1.2.2.2.2.1,())).isSome) then
 if(decide (0≤r8.1.1))||(decide (0≤((db (r1.1.1.2.2.2.2.1,x.2.1.2.2.2.1,x.2.1.2.2.2.2.1,())).getD ((0,()),())).1.1)) then
 (dz ((x.1.2.2.1,x.1.2.2.2.1,()),())).bind fun r9=>
 (nJ (2,x.2)).bind fun r10=>
 some (((x.1.1,x.1.2.1,r9.1.1.1,r9.1.1.2.1,x.1.2.2.2.2),([(Frame.mk r10.1.1.1 r10.1.1.2.1 r10.1.1.2.2.1 r10.1.1.2.2.2.1 r10.1.1.2.2.2.2.1 r10.1.1.2.2.2.2.2.1 r10.1.1.2.2.2.2.2.2.1 r10.1.1.2.2.2.2.2.2.2.1 r10.1.1.2.2.2.2.2.2.2.2.1 r10.1.1.2.2.2.2.2.2.2.2.2.1)]:List Frame),()),())
 else
 if aX (!(decide (x.2.1.2.2.2.1=x.1.1))) ((di (x.2.1.2.2.2.2.2.2.2.1,())).isSome) then
 if aX (!(decide (x.2.1.2.2.2.1=x.1.1))) ((iv (((di (x.2.1.2.2.2.2.2.2.2.1,())).getD ((0,()),())).1.1,x.2.1.2.2.2.2.2.2.2.2.1,())).isSome) then
 if(decide (x.2.1.2.2.2.1=x.1.1))||(!(((iv (((di (x.2.1.2.2.2.2.2.2.2.1,())).getD ((0,()),())).1.1,x.2.1.2.2.2.2.2.2.2.2.1,())).getD ((false,()),())).1.1)) then
 some ((x.1,([]:List Frame),()),())
 else
 (uU x).bind fun r11=>
 if decide (r11.1.2.1 < 0) then
 some ((r11.1.1,([]:List Frame),()),())
 else
 if inb r11.1.2.1 r11.1.1.2.2.2.2.1.length then
 (rC (x.2.1.2.2.2.2.2.2.2.1,(rd (dfl .half) r11.1.1.2.2.2.2.1 r11.1.2.1).got,())).bind fun r12=>
 if !r12.1.2.1 then
 some ((r11.1.1,([]:List Frame),()),())
 else
 (gI (r11.1.1.2.2.2.2.1,r11.1.2)).bind fun r13=>
 (cj ((x.2.1.2.2.2.1,x.2.1.2.2.2.2.1,x.2.1.2.2.2.2.2.1,x.2.1.2.2.2.2.2.2.1,r12.1.1,()),())).bind fun r14=>
 if decide (r14.1.1=noB) then
 some (((r11.1.1.1,r11.1.1.2.1,r11.1.1.2.2.1,r11.1.1.2.2.2.1,r13.1),([]:List Frame),()),())
 else
 if decide ((B [116,97,107,101,32]).size+r14.1.1.size≤4611686018427387904) then
 (cC ((r11.1.1.1,r11.1.1.2.1,r11.1.1.2.2.1,r11.1.1.2.2.2.1,r13.1),((B [116,97,107,101,32])++r14.1.1),true,())).bind fun r15=>
 if !r15.1.2.1 then
 some ((r15.1.1,([]:List Frame),()),())
 else
 (nJ (2,x.2)).bind fun r16=>
 some ((r15.1.1,([(Frame.mk r16.1.1.1 r16.1.1.2.1 r16.1.1.2.2.1 r16.1.1.2.2.2.1 r16.1.1.2.2.2.2.1 r16.1.1.2.2.2.2.2.1 r16.1.1.2.2.2.2.2.2.1 r16.1.1.2.2.2.2.2.2.2.1 r16.1.1.2.2.2.2.2.2.2.2.1 r16.1.1.2.2.2.2.2.2.2.2.2.1)]:List Frame),()),())
 else none
 else none
 else none
 else none
 else none
def Ey:Ent:=(42,none,⟨[Z15,Z16],[Z8,.fz .frame],ln⟩)
def H9:SQ Tryz.prog Ey:=sk (v:= .nil) (fn:=Tryz.f42) Sw kN
def Pu:Cx:=cX [gi] [] []
def Sv:OKC Tryz.prog Pu af:=okc mixed (gC dP (av))
def eD(x:Int×Int×Int×auC):Option ((auB×auC)×auC):=
 (aG (x.1,())).bind fun r1=>
 if decide (r1.1.1.size+(B [32]).size≤4611686018427387904) then
 (aG (x.2.1,())).bind fun r2=>
 if decide ((r1.1.1++(B [32])).size+r2.1.1.size≤4611686018427387904) then
 if decide (((r1.1.1++(B [32]))++r2.1.1).size+(B [32]).size≤4611686018427387904) then
 (aG x.2.2).bind fun r3=>
 if decide ((((r1.1.1++(B [32]))++r2.1.1)++(B [32])).size+r3.1.1.size≤4611686018427387904) then
 let v4:=((((r1.1.1++(B [32]))++r2.1.1)++(B [32]))++r3.1.1)
 some ((v4,()),())
 else none
 else none
 else none
 else none
def pS:Ent:=(46,none,⟨[.int .i64,.int .i64,.int .i64],[.str],eD⟩)
def oI:SQ Tryz.prog pS:=sk (v:= .nil) (fn:=Tryz.f46) Sv kN
def KY:Cx:=cX [br,eu,yJ,Ey,cb,ew,ir,pS] [] []
def NV:OKC Tryz.prog KY af:=okc mixed (gC aQ (gC c9 (gC xX (gC H9 (gC bw (gC dd (gC fZ (gC oI (av)))))))))
def al(x:Y3×Y7×auC):Option ((Y3×List Frame×auC)×auC):=
 (aS (x.1,())).bind fun r2=>
 if !r2.1.1 then
 some (((0,false,noB,0,([]:List anD),()),([]:List Frame),()),())
 else
 (bu (x.1,())).bind fun r3=>
 if !x.1.2.1 then
 some ((r3.1.1,([]:List Frame),()),())
 else
 (mX x.2).bind fun r6=>
 if !r6.1.1 then
 some ((r3.1.1,([]:List Frame),()),())
 else
 if !decide (x.2.1.2.2.1=x.1.1) then
 some ((r3.1.1,([]:List Frame),()),())
 else
 if decide (x.2.1.1=1) then
 (ln (r3.1.1,x.2)).bind fun r9=>
 (bu (r9.1.1,())).bind fun r10=>
 some ((r10.1.1,r9.1.2),())
 else
 (bm (x.1,())).bind fun r11=>
 (bo (r11.1.1.2.2.2.1,x.2.1.2.2.2.1,x.2.1.2.2.2.2.1,())).bind fun r12=>
 if !decide (x.2.1.1=2) then
 some ((r3.1.1,([]:List Frame),()),())
 else
 if decide (r12.1.1 < 0) then
 some ((r3.1.1,([]:List Frame),()),())
 else
 if inb r12.1.1 r11.1.1.2.2.2.1.length then
 if !decide ((rd (dfl .note) r11.1.1.2.2.2.1 r12.1.1).un=x.2.1.2.2.2.2.2.2.1) then
 some ((r3.1.1,([]:List Frame),()),())
 else
 if inb r12.1.1 r11.1.1.2.2.2.1.length then
 if !decide ((rd (dfl .note) r11.1.1.2.2.2.1 r12.1.1).to=x.2.1.2.2.2.2.2.1) then
 some ((r3.1.1,([]:List Frame),()),())
 else
 (eD (x.2.1.2.2.2.1,x.2.1.2.2.2.2.1,x.2.1.2.2.2.2.2.2.1,())).bind fun r13=>
 if decide ((B [108,101,116,32]).size+r13.1.1.size≤4611686018427387904) then
 (cC (r3.1.1,((B [108,101,116,32])++r13.1.1),false,())).bind fun r14=>
 some ((r14.1.1,([]:List Frame),()),())
 else none
 else none
 else none
def cU:Ent:=(12,none,⟨[Z8,Z16],[Z8,.fz .frame],al⟩)
def cc:SQ Tryz.prog cU:=sk (v:= .nil) (fn:=Tryz.f12) NV kN
def VR:Cx:=cX [lH] [] [(12,14)]
def Bi:OKC Tryz.prog VR af:=okc mixed (gC jl (av))
def rH(x:auB×List auB×Int×List Int×Int×auC):Rnd (auB×List auB×Int×List Int×Int×auC) (auC) (auB×List auB×Int×List Int×auC):=
 if decide (x.2.2.2.2.1 < (w64 ((w64 (x.2.2.1+1)) * 4))) then
 if decide (x.2.2.2.2.1 < (x.1.size:Int)) then
 if inb x.2.2.2.2.1 x.1.size then
 if an (x.2.2.2.1.length+([(bt x.1 x.2.2.2.2.1)]:List Int).length) then
 some (.inl (x.1,x.2.1,x.2.2.1,(x.2.2.2.1++([(bt x.1 x.2.2.2.2.1)]:List Int)),(w64 (x.2.2.2.2.1+1)),()))
 else none
 else none
 else
 if an (x.2.2.2.1.length+([0]:List Int).length) then
 some (.inl (x.1,x.2.1,x.2.2.1,(x.2.2.2.1++([0]:List Int)),(w64 (x.2.2.2.2.1+1)),()))
 else none
 else
 some (.inr (.inr (x.1,x.2.1,x.2.2.1,x.2.2.2.1,())))
def rF:=aV rH
def D3:Loop:=⟨[(0,.str),(3,.row 9 .str),(4,.int .i64),(5,.row 5 .u8),(6,.int .i64)],[(0,.str),(3,.row 9 .str),(4,.int .i64),(5,.row 5 .u8)],2,[],rF⟩
def UD:LF Tryz.f117 [] [1,1,1,0,1,0,0,1,0,0,1,0,1,0,0] D3:=sq (v:= .nil) Bi (b:=rH) kN
def rI(x:auB×List auB×Int×auC):Rnd (auB×List auB×Int×auC) (auC) (List auB×auC):=
 (di ((x.1.size:Int),())).bind fun r13=>
 if decide (x.2.2.1 < r13.1.1) then
 (aK (rF (x.1,x.2.1,x.2.2.1,([]:List Int),(w64 (x.2.2.1 * 4)),()))
 (fun _=>some (.inr (.inl ())))
 (fun y16=>(if an (y16.2.1.length+([(eS y16.2.2.2.1)]:List auB).length) then
 some (.inl (y16.1,(y16.2.1++([(eS y16.2.2.2.1)]:List auB)),(w64 (y16.2.2.1+1)),()))
 else none)))
 else
 some (.inr (.inr (x.2.1,())))
def rG:=aV rI
def D4:Loop:=⟨[(0,.str),(3,.row 9 .str),(4,.int .i64)],[(3,.row 9 .str)],0,[],rG⟩
def UO:LF Tryz.f117 [] [1,1,1,0,1,0,0] D4:=sq (v:=t1 (.two (.one (t1 (.two (t1 (.one (.loop D3))) .nil))) .nil)) Bi (b:=rI) (kC UD kN)
def u9(x:auB×auC):Option ((List auB×auC)×auC):=
 if(decide ((x.1.size:Int) < 1))||(decide (24 < (x.1.size:Int))) then
 some ((([]:List auB),()),())
 else
 (aK (rG (x.1,([]:List auB),0,()))
 (fun _=>none)
 (fun y17=>some (y17,())))
def Jj:Ent:=(117,none,⟨[.str],[.row 9 .str],u9⟩)
def LM:SQ Tryz.prog Jj:=sk (v:=t1 (t1 (t1 (.two (t1 (.one (.loop D4))) .nil)))) (fn:=Tryz.f117) Bi (kC UO kN)
def VF:Cx:=cX [] [] []
def X0:OKC Tryz.prog VF af:=okc mixed (av)
def Ay(x:auC):Option ((auB×auC)×auC):=
 if decide (0≤4)&&decide (4≤4294967296) then
 let v1:=(eS (au0 (auK 4) (dfl .u8)))
 some ((v1,()),())
 else none
def Ja:Ent:=(119,none,⟨[],[.str],Ay⟩)
def Lz:SQ Tryz.prog Ja:=sk (v:= .nil) (fn:=Tryz.f119) X0 kN
def R8:Cx:=cX [Jj,DC,Ja,DB] [] [(19,21)]
def Ha:OKC Tryz.prog R8 af:=okc mixed (gC LM (gC BF (gC Lz (gC Bt (av)))))
def pJ(x:List auB×List Int×auB×Int×auC):Rnd (List auB×List Int×auB×Int×auC) (auC) (auB×auC):=
 if decide (x.2.2.2.1 < (x.2.1.length:Int)) then
 if inb x.2.2.2.1 x.2.1.length then
 if inb (rd (dfl .int) x.2.1 x.2.2.2.1) x.1.length then
 (rp (x.2.2.1,(rd (dfl .str) x.1 (rd (dfl .int) x.2.1 x.2.2.2.1)),())).bind fun r10=>
 some (.inl (x.1,x.2.1,r10.1.1,(w64 (x.2.2.2.1+1)),()))
 else none
 else none
 else
 some (.inr (.inr (x.2.2.1,())))
def kW:=aV pJ
def BG:Loop:=⟨[(5,.row 9 .str),(6,.row 3 .int),(7,.str),(8,.int .i64)],[(7,.str)],0,[],kW⟩
def Rt:LF Tryz.f64 [] [1,1,1,1,1,0,1,0,0] BG:=sq (v:= .nil) Ha (b:=pJ) kN
def mU(x:auB×Int×auC):Option ((auB×auC)×auC):=
 (u9 (x.1,())).bind fun r1=>
 (rE ((r1.1.1.length:Int),x.2)).bind fun r2=>
 if(decide ((r1.1.1.length:Int)=0))||(decide ((r2.1.1.length:Int)=0)) then
 some ((noB,()),())
 else
 (Ay ()).bind fun r3=>
 (aK (kW (r1.1.1,r2.1.1,r3.1.1,0,()))
 (fun _=>none)
 (fun y11=>some (y11,())))
def yG:Ent:=(64,none,⟨[.str,.int .i64],[.str],mU⟩)
def xU:SQ Tryz.prog yG:=sk (v:=t1 (t1 (t1 (t1 (t1 (.two (t1 (.one (.loop BG))) .nil)))))) (fn:=Tryz.f64) Ha (kC Rt kN)
def Nr:Cx:=cX [br,lI,cb,ew,dh,yG] [] [(18,20),(36,38)]
def P7:OKC Tryz.prog Nr af:=okc mixed (gC aQ (gC jm (gC bw (gC dd (gC bQ (gC xU (av)))))))
def dk(x:Y3×Int×Int×Int×auC):Option ((Y7×Bool×auC)×auC):=
 (aS (x.1,())).bind fun r3=>
 if(!r3.1.1)||(!x.1.2.1) then
 some (((0,0,0,0,0,0,0,0,0,noB,()),false,()),())
 else
 (bm (x.1,())).bind fun r4=>
 (bo (r4.1.1.2.2.2.1,x.2.1,x.2.2.1,())).bind fun r5=>
 if aX (!(decide (r5.1.1 < 0))) ((az (x.2.2.2.1,0,999,())).isSome) then
 if(decide (r5.1.1 < 0))||(!(((az (x.2.2.2.1,0,999,())).getD ((false,()),())).1.1)) then
 some (((0,0,0,0,0,0,0,0,0,noB,()),false,()),())
 else
 if inb r5.1.1 r4.1.1.2.2.2.1.length then
 let v6:=(rd (dfl .note) r4.1.1.2.2.2.1 r5.1.1).fr
 let v7:=(rd (dfl .note) r4.1.1.2.2.2.1 r5.1.1).nu
 let v8:=(rd (dfl .note) r4.1.1.2.2.2.1 r5.1.1).to
 let v9:=(rd (dfl .note) r4.1.1.2.2.2.1 r5.1.1).un
 let v10:=(rd (dfl .note) r4.1.1.2.2.2.1 r5.1.1).tx
 (eF (x.1.1,v8,())).bind fun r11=>
 (mU (v10,x.2.2.2)).bind fun r12=>
 some (((1,x.1.1,r11.1.1,v6,v7,v8,v9,(v10.size:Int),x.2.2.2.1,r12.1),true,()),())
 else none
 else none
def oq:Ent:=(23,none,⟨[Z8,.int .i64,.int .i64,.int .i64],[Z16,.bool],dk⟩)
def mV:SQ Tryz.prog oq:=sk (v:= .nil) (fn:=Tryz.f23) P7 kN
def VB:Cx:=cX [] [] []
def XZ:OKC Tryz.prog VB af:=okc mixed (av)
def o3(x:List Int×auC):Option ((Y8×auC)×auC):=
 if decide (2000 < (x.1.length:Int)) then
 if decide (0≤2000)&&decide (2000≤(x.1.length:Int)) then
 let v2:=(au3 (auK 2000) x.1)
 some (((v2,0,()),()),())
 else none
 else
 some (((x.1,0,()),()),())
def A4:Ent:=(33,none,⟨[.fz .u8],[Z19],o3⟩)
def zp:SQ Tryz.prog A4:=sk (v:= .nil) (fn:=Tryz.f33) XZ kN
def Ng:Cx:=cX [] [] [(18,23)]
def P2:OKC Tryz.prog Ng af:=okc mixed (av)
def ab(x:Y8×Int×auC):Option ((Int×auC)×(Y8×auC)):=
 if(decide (x.2.1 < 1))||(decide ((x.1.1.length:Int)=0)) then
 some ((0,()),((x.1.1,(w64 (x.1.2.1+1)),()),()))
 else
 let v1:=(w64 ((w64 (x.1.2.1+1)) - 1))
 (if decide (v1 < (x.1.1.length:Int)) then
 if inb v1 x.1.1.length then
 if !decide (x.2.1=0) then
 let v3:=(avq (w64 (rd (dfl .u8) x.1.1 v1)) x.2.1)
 some ((v3,()),((x.1.1,(w64 (x.1.2.1+1)),()),()))
 else none
 else none
 else
 if !decide ((x.1.1.length:Int)=0) then
 if inb (avq v1 (x.1.1.length:Int)) x.1.1.length then
 if !decide ((x.1.1.length:Int)=0) then
 if inb (avq (w64 ((w64 (v1 * 7))+3)) (x.1.1.length:Int)) x.1.1.length then
 if !decide ((x.1.1.length:Int)=0) then
 let v4:=(w64 ((w64 ((w64 ((w64 ((w64 (rd (dfl .u8) x.1.1 (avq v1 (x.1.1.length:Int)))) * 131))+(w64 ((w64 (rd (dfl .u8) x.1.1 (avq (w64 ((w64 (v1 * 7))+3)) (x.1.1.length:Int)))) * 1117))))+(w64 (v1 * 29))))+(w64 ((w64 (au6 v1 (x.1.1.length:Int))) * 53))))
 let v5:=(vQ .i64 v4 (w64 (au6 v4 64)))
 (if !decide (x.2.1=0) then
 some (((avq v5 x.2.1),()),((x.1.1,(w64 (x.1.2.1+1)),()),()))
 else none)
 else none
 else none
 else none
 else none
 else none)
def aY:Ent:=(36,none,⟨[Z19,.int .i64],[.int .i64],ab⟩)
def aE:SQ Tryz.prog aY:=sk (v:= .nil) (fn:=Tryz.f36) P2 kN
def ID:Cx:=cX [cg] [] []
def La:OKC Tryz.prog ID af:=okc mixed (gC bM (av))
def gM(x:Int×auC):Option ((Y3×auC)×auC):=
 (bf x).bind fun r2=>
 if !r2.1.1 then
 some (((0,false,noB,0,([]:List anD),()),()),())
 else
 some (((x.1,true,noB,0,([]:List anD),()),()),())
def yH:Ent:=(151,none,⟨[.int .i64],[Z15],gM⟩)
def CV:SQ Tryz.prog yH:=sk (v:= .nil) (fn:=Tryz.f151) La kN
def KU:Cx:=cX [yH] [] []
def tA:OKC Tryz.prog KU af:=okc mixed (gC CV (av))
def gK(x:Y9×Y9×Int×auC):Rnd (Y9×Y9×Int×auC) (auC) (Y9×Y9×auC):=
 if decide ((w64 (x.2.2.1+1)) < 4) then
 if an (x.2.1.2.2.1.length+([true]:List Bool).length) then
 some (.inl (x.1,(x.2.1.1,x.2.1.2.1,(x.2.1.2.2.1++([true]:List Bool)),x.2.1.2.2.2),(w64 (x.2.2.1+1)),()))
 else none
 else
 some (.inr (.inr (x.1,x.2.1,())))
def l5:=aV gK
def wQ:Loop:=⟨[(0,Z20),(1,Z20),(3,.int .i64)],[(0,Z20),(1,Z20)],2,[],l5⟩
def Kr:LF Tryz.f114 [] [1,1,1,0,1,0,0] wQ:=sq (v:= .nil) tA (b:=gK) kN
def kU(x:Y9×Y9×Int×auC):Rnd (Y9×Y9×Int×auC) (auC) (Y9×Y9×auC):=
 if decide (x.2.2.1 < 4) then
 (gM x.2.2).bind fun r11=>
 if an (x.2.1.2.1.length+([(anv.mk r11.1.1.1 r11.1.1.2.1 r11.1.1.2.2.1 r11.1.1.2.2.2.1 r11.1.1.2.2.2.2.1)]:List anv).length) then
 some (.inl (x.1,(x.2.1.1,(x.2.1.2.1++([(anv.mk r11.1.1.1 r11.1.1.2.1 r11.1.1.2.2.1 r11.1.1.2.2.2.1 r11.1.1.2.2.2.2.1)]:List anv)),x.2.1.2.2),(w64 (x.2.2.1+1)),()))
 else none
 else
 some (.inr (.inr (x.1,x.2.1,())))
def l6:=aV kU
def wR:Loop:=⟨[(0,Z20),(1,Z20),(2,.int .i64)],[(0,Z20),(1,Z20)],0,[],l6⟩
def Kv:LF Tryz.f114 [] [1,1,0,1,0,0] wR:=sq (v:= .nil) tA (b:=kU) kN
def mw(x:auC):Option ((Y9×auC)×auC):=
 (aK (l6 ((0,([]:List anv),([]:List Bool),([]:List anB),([]:List anz),([]:List anz),()),(0,([]:List anv),([]:List Bool),([]:List anB),([]:List anz),([]:List anz),()),0,()))
 (fun _=>none)
 (fun y12=>(aK (l5 (y12.1,y12.2.1,0,()))
 (fun _=>none)
 (fun y14=>some (y14.2,())))))
def Ak:Ent:=(114,none,⟨[],[Z21],mw⟩)
def ES:SQ Tryz.prog Ak:=sk (v:=t1 (t1 (.two (t1 (.one (.loop wR))) (.two (t1 (.one (.loop wQ))) .nil)))) (fn:=Tryz.f114) tA (kC Kv (kC Kr kN))
def RO:Cx:=cX [aY] [] []
def Wt:OKC Tryz.prog RO af:=okc mixed (gC aE (av))
def cB(x:Y8×List auB×auC):Option ((auB×auC)×(Y8×auC)):=
 (ab (x.1,(x.2.1.length:Int),())).bind fun r1=>
 if inb r1.1.1 x.2.1.length then
 let v2:=(rd (dfl .str) x.2.1 r1.1.1)
 some ((v2,()),r1.2)
 else none
def gV:Ent:=(82,none,⟨[Z19,.fz .str],[.str],cB⟩)
def eT:SQ Tryz.prog gV:=sk (v:= .nil) (fn:=Tryz.f82) Wt kN
def VJ:Cx:=cX [] [] []
def X2:OKC Tryz.prog VJ af:=okc mixed (av)
def gp(x:List Int×Int×auC):Option ((List Int×auC)×auC):=
 if an (x.1.length+([(w8 (w64 (au6 x.2.1 256))),(w8 (avq x.2.1 256))]:List Int).length) then
 some (((x.1++([(w8 (w64 (au6 x.2.1 256))),(w8 (avq x.2.1 256))]:List Int)),()),())
 else none
def Jd:Ent:=(134,none,⟨[.row 5 .u8,.int .i64],[.row 5 .u8],gp⟩)
def LC:SQ Tryz.prog Jd:=sk (v:= .nil) (fn:=Tryz.f134) X2 kN
def PH:Cx:=cX [] [] []
def EM:OKC Tryz.prog PH af:=okc mixed (av)
def nV(x:List Int×Int×Int×auC):Rnd (List Int×Int×Int×auC) (auC) (Int×auC):=
 if decide (x.2.2.1 < (x.1.length:Int)) then
 if inb x.2.2.1 x.1.length then
 let v7:=(avq (w64 (x.2.1+(w64 ((w64 ((avq x.2.2.1 1000)+1)) * (w64 (rd (dfl .u8) x.1 x.2.2.1)))))) 65521)
 some (.inl (x.1,v7,(w64 (x.2.2.1+1)),()))
 else none
 else
 some (.inr (.inr (x.2.1,())))
def js:=aV nV
def zI:Loop:=⟨[(0,.sl .u8),(3,.int .i64),(4,.int .i64)],[(3,.int .i64)],0,[],js⟩
def OZ:LF Tryz.f135 [] [1,1,0,1,0,0] zI:=sq (v:= .nil) EM (b:=nV) kN
def ig(x:List Int×auC):Option ((Int×auC)×auC):=
 (aK (js (x.1,0,0,()))
 (fun _=>none)
 (fun y8=>some (y8,())))
def EE:Ent:=(135,none,⟨[.fz .u8],[.int .i64],ig⟩)
def Ih:SQ Tryz.prog EE:=sk (v:=t1 (t1 (.two (t1 (.one (.loop zI))) .nil))) (fn:=Tryz.f135) EM (kC OZ kN)
def Nv:Cx:=cX [yJ,Jd,EE] [] []
def Qb:OKC Tryz.prog Nv af:=okc mixed (gC xX (gC LC (gC Ih (av))))
def eU(x:Y7×auC):Option ((List Int×auC)×auC):=
 (mX x).bind fun r2=>
 if !r2.1.1 then
 some ((([]:List Int),()),())
 else
 if an (([]:List Int).length+([(w8 x.1.1),(w8 x.1.2.1),(w8 x.1.2.2.1),(w8 x.1.2.2.2.1),(w8 x.1.2.2.2.2.1),(w8 x.1.2.2.2.2.2.1)]:List Int).length) then
 (gp ((([]:List Int)++([(w8 x.1.1),(w8 x.1.2.1),(w8 x.1.2.2.1),(w8 x.1.2.2.2.1),(w8 x.1.2.2.2.2.1),(w8 x.1.2.2.2.2.2.1)]:List Int)),x.1.2.2.2.2.2.2.1,())).bind fun r3=>
 if decide (x.1.1=1) then
 if an (r3.1.1.length+([(w8 x.1.2.2.2.2.2.2.2.1)]:List Int).length) then
 (gp ((r3.1.1++([(w8 x.1.2.2.2.2.2.2.2.1)]:List Int)),x.1.2.2.2.2.2.2.2.2.1,())).bind fun r5=>
 if an x.1.2.2.2.2.2.2.2.2.2.1.size then
 if an (r5.1.1.length+(aL x.1.2.2.2.2.2.2.2.2.2.1).length) then
 (ig ((r5.1.1++(aL x.1.2.2.2.2.2.2.2.2.2.1)),())).bind fun r6=>
 (gp ((r5.1.1++(aL x.1.2.2.2.2.2.2.2.2.2.1)),r6.1)).bind fun r7=>
 some (r7.1,())
 else none
 else none
 else none
 else
 (ig r3.1).bind fun r8=>
 (gp (r3.1.1,r8.1)).bind fun r9=>
 some (r9.1,())
 else none
def uH:Ent:=(80,none,⟨[Z16],[.row 5 .u8],eU⟩)
def vC:SQ Tryz.prog uH:=sk (v:= .nil) (fn:=Tryz.f80) Qb kN
def IF:Cx:=cX [uH] [] [(9,11)]
def Ld:OKC Tryz.prog IF af:=okc mixed (gC vC (av))
def ax(x:List Int×auC):Option ((Y7×Bool×auC)×auC):=
 if(!decide ((x.1.length:Int)=10))&&(!decide ((x.1.length:Int)=17)) then
 some (((0,0,0,0,0,0,0,0,0,noB,()),false,()),())
 else
 if inb 0 x.1.length then
 if inb 1 x.1.length then
 if inb 2 x.1.length then
 if inb 3 x.1.length then
 if inb 4 x.1.length then
 if inb 5 x.1.length then
 if inb 6 x.1.length then
 if inb 7 x.1.length then
 let v1:=(w64 (rd (dfl .u8) x.1 0))
 let v2:=(w64 (rd (dfl .u8) x.1 1))
 let v3:=(w64 (rd (dfl .u8) x.1 2))
 let v4:=(w64 (rd (dfl .u8) x.1 3))
 let v5:=(w64 (rd (dfl .u8) x.1 4))
 let v6:=(w64 (rd (dfl .u8) x.1 5))
 let v7:=(w64 ((w64 ((w64 (rd (dfl .u8) x.1 6)) * 256))+(w64 (rd (dfl .u8) x.1 7))))
 (bH (X:=List Int×Y7×Y7×auC) (fun j11=>
 (eU j11.2.2).bind fun r16=>
 if !decide ((eS r16.1.1)=(eS j11.1)) then
 some (((0,0,0,0,0,0,0,0,0,noB,()),false,()),())
 else
 some ((j11.2.2.1,true,()),()))
 ((if decide (10 < (x.1.length:Int)) then
 if inb 8 x.1.length then
 let v12:=(w64 (rd (dfl .u8) x.1 8))
 (if inb 9 x.1.length then
 if inb 10 x.1.length then
 let v13:=(w64 ((w64 ((w64 (rd (dfl .u8) x.1 9)) * 256))+(w64 (rd (dfl .u8) x.1 10))))
 (if(decide (0≤15)&&decide (15≤(x.1.length:Int)))&&(decide (0≤11)&&decide (11≤15)) then
 let v14:=(eS (avp (auK 11) (au3 (auK 15) x.1)))
 some (.inr (x.1,(0,0,0,0,0,0,0,0,0,noB,()),(v1,v2,v3,v4,v5,v6,v7,v12,v13,v14,()),()))
 else none)
 else none
 else none)
 else none
 else
 some (.inr (x.1,(0,0,0,0,0,0,0,0,0,noB,()),(v1,v2,v3,v4,v5,v6,v7,0,0,noB,()),())))))
 else none
 else none
 else none
 else none
 else none
 else none
 else none
 else none
def qB:Ent:=(35,none,⟨[.fz .u8],[Z16,.bool],ax⟩)
def rQ:SQ Tryz.prog qB:=sk (v:=t1 (t1 (t1 (.join [(0,.sl .u8),(2,Z18),(4,Z18)] .nil .nil)))) (fn:=Tryz.f35) Ld kN
def RQ:Cx:=cX [] [] []
def Wu:OKC Tryz.prog RQ af:=okc mixed (av)
def jI(x:Int×Int×auC):Option ((Int×auC)×auC):=
 if decide (x.1 < x.2.1) then
 some ((x.1,()),())
 else
 some (x.2,())
def Gz:Ent:=(211,none,⟨[.int .i64,.int .i64],[.int .i64],jI⟩)
def JZ:SQ Tryz.prog Gz:=sk (v:= .nil) (fn:=Tryz.f211) Wu kN
def RP:Cx:=cX [uH] [] [(11,13)]
def G5:OKC Tryz.prog RP af:=okc mixed (gC vC (av))
def lj(x:List anB×List Frame×Int×auC):Rnd (List anB×List Frame×Int×auC) (auC) (List anB×auC):=
 if(decide (x.2.2.1 < (x.2.1.length:Int)))&&(decide ((x.1.length:Int) < 30)) then
 if inb x.2.2.1 x.2.1.length then
 if inb x.2.2.1 x.2.1.length then
 if inb x.2.2.1 x.2.1.length then
 (eU (((rd (dfl .frame) x.2.1 x.2.2.1).ki,(rd (dfl .frame) x.2.1 x.2.2.1).src,(rd (dfl .frame) x.2.1 x.2.2.1).dst,(rd (dfl .frame) x.2.1 x.2.2.1).fr,(rd (dfl .frame) x.2.1 x.2.2.1).nu,(rd (dfl .frame) x.2.1 x.2.2.1).to,(rd (dfl .frame) x.2.1 x.2.2.1).un,(rd (dfl .frame) x.2.1 x.2.2.1).sz,(rd (dfl .frame) x.2.1 x.2.2.1).mix,(rd (dfl .frame) x.2.1 x.2.2.1).da,()),())).bind fun r7=>
 if an (x.1.length+([(anB.mk ((rd (dfl .frame) x.2.1 x.2.2.1).src) ((rd (dfl .frame) x.2.1 x.2.2.1).dst) (eS r7.1.1) false)]:List anB).length) then
 some (.inl ((x.1++([(anB.mk ((rd (dfl .frame) x.2.1 x.2.2.1).src) ((rd (dfl .frame) x.2.1 x.2.2.1).dst) (eS r7.1.1) false)]:List anB)),x.2.1,(w64 (x.2.2.1+1)),()))
 else none
 else none
 else none
 else none
 else
 some (.inr (.inr (x.1,())))
def pX:=aV lj
def Bs:Loop:=⟨[(0,.row 74 .anJ),(1,.sl .frame),(5,.int .i64)],[(0,.row 74 .anJ)],0,[],pX⟩
def Rk:LF Tryz.f212 [] [1,0,1,0,0] Bs:=sq (v:= .nil) G5 (b:=lj) kN
def aR(x:List anB×List Frame×auC):Option ((List anB×auC)×auC):=
 (aK (pX (x.1,x.2.1,0,()))
 (fun _=>none)
 (fun y8=>some (y8,())))
def Gy:Ent:=(212,none,⟨[.row 74 .anJ,.fz .frame],[.row 74 .anJ],aR⟩)
def JY:SQ Tryz.prog Gy:=sk (v:=t1 (.two (t1 (.one (.loop Bs))) .nil)) (fn:=Tryz.f212) G5 (kC Rk kN)
def Nn:Cx:=cX [kr,kq] [] []
def P4:OKC Tryz.prog Nn af:=okc mixed (gC gJ (gC iw (av)))
def nM(x:Y4×Int×auC):Option ((Y4×auC)×auC):=
 (fg (x.1,())).bind fun r2=>
 if !r2.1.1 then
 some (((noB,0,()),()),())
 else
 (bH (X:=Int×Y4×Y4×Int×auC) (fun j4=>
 (bH (X:=Y4×Y4×Int×auC) (fun j7=>
 if decide (0≤j7.2.2.1)&&decide (j7.2.2.1≤(j7.1.1.size:Int)) then
 (cI ((j7.1.1.extract (0) (auK j7.2.2.1)),())).bind fun r9=>
 if decide (0≤r9.1.2.1)&&decide (r9.1.2.1≤(j7.1.1.size:Int)) then
 let v10:=(j7.1.1.extract (0) (auK r9.1.2.1))
 some (((v10,r9.1.2),()),())
 else none
 else none)
 ((if decide (0 < j4.1) then
 let v8:=(w64 (j4.2.2.2.1+j4.1))
 some (.inr (j4.2.1,j4.2.2.1,v8,()))
 else
 some (.inr j4.2)))))
 ((if decide ((w64 ((x.1.1.size:Int) - x.1.2.1)) < x.2.1) then
 let v5:=(w64 ((x.1.1.size:Int) - x.1.2.1))
 some (.inr (v5,x.1,(noB,0,()),x.1.2))
 else
 some (.inr (x.2.1,x.1,(noB,0,()),x.1.2)))))
def Cq:Ent:=(71,none,⟨[Z9,.int .i64],[Z9],nM⟩)
def Ft:SQ Tryz.prog Cq:=sk (v:=t1 (t1 (t1 (.join [(1,.int .i64),(2,Z17),(4,Z17),(5,.int .i64)] .nil (.join [(2,Z17),(4,Z17),(5,.int .i64)] .nil .nil))))) (fn:=Tryz.f71) P4 kN
def KZ:Cx:=cX [br,Cq] [] []
def NX:OKC Tryz.prog KZ af:=okc mixed (gC aQ (gC Ft (av)))
def fB(x:Y3×Int×auC):Option ((Y3×auC)×auC):=
 (aS (x.1,())).bind fun r2=>
 if !r2.1.1 then
 some (((0,false,noB,0,([]:List anD),()),()),())
 else
 (nM ((x.1.2.2.1,x.1.2.2.2.1,()),x.2)).bind fun r3=>
 some (((x.1.1,false,r3.1.1.1,r3.1.1.2.1,([]:List anD),()),()),())
def tl:Ent:=(29,none,⟨[Z8,.int .i64],[Z15],fB⟩)
def tR:SQ Tryz.prog tl:=sk (v:= .nil) (fn:=Tryz.f29) NX kN
def Nq:Cx:=cX [br,eu,cb,ir,gE] [] [(37,38)]
def P6:OKC Tryz.prog Nq af:=okc mixed (gC aQ (gC c9 (gC bw (gC fZ (gC fh (av))))))
def jN(x:Y3×Int×Int×auB×auC):Option ((Y3×Int×auC)×auC):=
 (aS (x.1,())).bind fun r2=>
 if !r2.1.1 then
 some (((0,false,noB,0,([]:List anD),()),0,()),())
 else
 (bm (x.1,())).bind fun r3=>
 (cj ((x.1.1,r3.1.1.2.2.1,x.2),())).bind fun r4=>
 if(!x.1.2.1)||(decide (r4.1.1=noB)) then
 (bu (x.1,())).bind fun r6=>
 some ((r6.1.1,0,()),())
 else
 (bu (x.1,())).bind fun r7=>
 if decide ((B [111,119,110,32]).size+r4.1.1.size≤4611686018427387904) then
 (cC (r7.1.1,((B [111,119,110,32])++r4.1.1),true,())).bind fun r8=>
 if !r8.1.2.1 then
 (bu (x.1,())).bind fun r10=>
 some ((r10.1.1,0,()),())
 else
 some ((r8.1.1,r3.1.1.2.2.1,()),())
 else none
def Cs:Ent:=(225,none,⟨[Z8,.int .i64,.int .i64,.str],[Z8,.int .i64],jN⟩)
def FA:SQ Tryz.prog Cs:=sk (v:= .nil) (fn:=Tryz.f225) P6 kN
def KV:Cx:=cX [br,eu,cb,ir,gi] [] [(19,21)]
def NS:OKC Tryz.prog KV af:=okc mixed (gC aQ (gC c9 (gC bw (gC fZ (gC dP (av))))))
def iC(x:Y3×auC):Option ((Y3×Bool×auC)×auC):=
 (aS x).bind fun r2=>
 if !r2.1.1 then
 some (((0,false,noB,0,([]:List anD),()),false,()),())
 else
 (bm x).bind fun r3=>
 if(!x.1.2.1)||(decide (999≤r3.1.1.2.1)) then
 (bu x).bind fun r5=>
 some ((r5.1.1,false,()),())
 else
 (bu x).bind fun r6=>
 (aG ((w64 (r3.1.1.2.1+1)),())).bind fun r7=>
 if decide ((B [116,105,109,101,32]).size+r7.1.1.size≤4611686018427387904) then
 (cC (r6.1.1,((B [116,105,109,101,32])++r7.1.1),true,())).bind fun r8=>
 some (r8.1,())
 else none
def Al:Ent:=(214,none,⟨[Z8],[Z8,.bool],iC⟩)
def ET:SQ Tryz.prog Al:=sk (v:= .nil) (fn:=Tryz.f214) NS kN
def KW:Cx:=cX [br,eu] [] []
def NT:OKC Tryz.prog KW af:=okc mixed (gC aQ (gC c9 (av)))
def iD(x:Y3×auC):Option ((Y3×auC)×auC):=
 (aS x).bind fun r2=>
 if !r2.1.1 then
 some (((0,false,noB,0,([]:List anD),()),()),())
 else
 if x.1.2.1 then
 (bu x).bind fun r4=>
 some (r4.1,())
 else
 some (((x.1.1,true,x.1.2.2.1,x.1.2.2.2.1,([]:List anD),()),()),())
def Am:Ent:=(215,none,⟨[Z8],[Z15],iD⟩)
def EU:SQ Tryz.prog Am:=sk (v:= .nil) (fn:=Tryz.f215) NT kN
def Nt:Cx:=cX [br,eu,cb,ew,ir,pS] [] [(33,34)]
def P9:OKC Tryz.prog Nt af:=okc mixed (gC aQ (gC c9 (gC bw (gC dd (gC fZ (gC oI (av)))))))
def jO(x:Y3×Int×Int×auC):Option ((Y3×Y0×Bool×auC)×auC):=
 (aS (x.1,())).bind fun r2=>
 if !r2.1.1 then
 some (((0,false,noB,0,([]:List anD),()),(0,0,0,0,noB,()),false,()),())
 else
 (bm (x.1,())).bind fun r3=>
 (bo (r3.1.1.2.2.2.2.2.1,x.2)).bind fun r4=>
 if(!x.1.2.1)||(decide (r4.1.1 < 0)) then
 (bu (x.1,())).bind fun r6=>
 some ((r6.1.1,(0,0,0,0,noB,()),false,()),())
 else
 (bu (x.1,())).bind fun r7=>
 if inb r4.1.1 r3.1.1.2.2.2.2.2.1.length then
 (eD (x.2.1,x.2.2.1,(rd (dfl .note) r3.1.1.2.2.2.2.2.1 r4.1.1).un,())).bind fun r8=>
 if decide ((B [101,97,116,32]).size+r8.1.1.size≤4611686018427387904) then
 (cC (r7.1.1,((B [101,97,116,32])++r8.1.1),true,())).bind fun r9=>
 if !r9.1.2.1 then
 (bu (x.1,())).bind fun r11=>
 some ((r11.1.1,(0,0,0,0,noB,()),false,()),())
 else
 if inb r4.1.1 r3.1.1.2.2.2.2.2.1.length then
 let v12:=(rd (dfl .note) r3.1.1.2.2.2.2.2.1 r4.1.1).fr
 let v13:=(rd (dfl .note) r3.1.1.2.2.2.2.2.1 r4.1.1).nu
 let v14:=(rd (dfl .note) r3.1.1.2.2.2.2.2.1 r4.1.1).to
 let v15:=(rd (dfl .note) r3.1.1.2.2.2.2.2.1 r4.1.1).un
 let v16:=(rd (dfl .note) r3.1.1.2.2.2.2.2.1 r4.1.1).tx
 some ((r9.1.1,(v12,v13,v14,v15,v16,()),true,()),())
 else none
 else none
 else none
def Cu:Ent:=(216,none,⟨[Z8,.int .i64,.int .i64],[Z8,Z1,.bool],jO⟩)
def FC:SQ Tryz.prog Cu:=sk (v:= .nil) (fn:=Tryz.f216) P9 kN
def KX:Cx:=cX [br,eu,cb,uG,wC] [] [(32,33)]
def NU:OKC Tryz.prog KX af:=okc mixed (gC aQ (gC c9 (gC bw (gC vB (gC wT (av))))))
def iE(x:Y3×auC):Option ((Y3×Bool×auC)×auC):=
 (aS x).bind fun r2=>
 if !r2.1.1 then
 some (((0,false,noB,0,([]:List anD),()),false,()),())
 else
 (bu x).bind fun r3=>
 (bm x).bind fun r4=>
 (lu (r4.1.1,())).bind fun r5=>
 (gu ((x.1.2.2.1,x.1.2.2.2.1,()),r5.1)).bind fun r6=>
 if(!x.1.2.1)||(!r6.1.2.1) then
 some ((r3.1.1,false,()),())
 else
 some (((r3.1.1.1,r3.1.1.2.1,r6.1.1.1,r6.1.1.2.1,r3.1.1.2.2.2.2),true,()),())
def An:Ent:=(217,none,⟨[Z8],[Z8,.bool],iE⟩)
def EV:SQ Tryz.prog An:=sk (v:= .nil) (fn:=Tryz.f217) NU kN
def IE:Cx:=cX [br,eu,iP] [] [(15,22)]
def Lc:OKC Tryz.prog IE af:=okc mixed (gC aQ (gC c9 (gC gZ (av))))
def gN(x:Y3×auC):Option ((Y3×Bool×auC)×auC):=
 (aS x).bind fun r2=>
 if !r2.1.1 then
 some (((0,false,noB,0,([]:List anD),()),false,()),())
 else
 (bu x).bind fun r3=>
 if(!x.1.2.1)||(decide (x.1.2.2.2.1=(x.1.2.2.1.size:Int))) then
 some ((r3.1.1,false,()),())
 else
 (dz ((x.1.2.2.1,x.1.2.2.2.1,()),())).bind fun r4=>
 some (((r3.1.1.1,r3.1.1.2.1,r4.1.1.1,r4.1.1.2.1,r3.1.1.2.2.2.2),true,()),())
def yI:Ent:=(218,none,⟨[Z8],[Z8,.bool],gN⟩)
def CW:SQ Tryz.prog yI:=sk (v:= .nil) (fn:=Tryz.f218) Lc kN
def fM:Cx:=cX [cU,oq,tl,qB,cg,dh,Gz,Gy,Al,Am,Cu,An,yI,Cs] [] []
def P1:OKC Tryz.prog fM (adU fM 3):=anp 3 mixed (gC cc (gC mV (gC tR (gC rQ (gC bM (gC bQ (gC JZ (gC JY (gC ET (gC EU (gC FC (gC EV (gC CW (gC FA (av)))))))))))))))
def ap(x:Y10×Y7×auC):Option ((Bool×auC)×(Y10×auC)):=
 let s0:=x.1.1
 let s1:=x.1.2.1
 let s2:=x.1.2.2.1
 let s3:=x.1.2.2.2.1
 let s4:=x.1.2.2.2.2.1
 let s5:=x.1.2.2.2.2.2.1
 let s6:=x.1.2.2.2.2.2.2.1
 let s7:=x.1.2.2.2.2.2.2.2.1
 let e0:=x.2.1.1
 let e1:=x.2.1.2.1
 let e2:=x.2.1.2.2.1
 let e3:=x.2.1.2.2.2.1
 let e4:=x.2.1.2.2.2.2.1
 let e5:=x.2.1.2.2.2.2.2.1
 let e6:=x.2.1.2.2.2.2.2.2.1
 let e7:=x.2.1.2.2.2.2.2.2.2.1
 let E0:=([(Event.mk x.2.1.1 x.2.1.2.1 x.2.1.2.2.1 x.2.1.2.2.2.1 x.2.1.2.2.2.2.1 x.2.1.2.2.2.2.2.1 x.2.1.2.2.2.2.2.2.1 x.2.1.2.2.2.2.2.2.2.1 x.2.1.2.2.2.2.2.2.2.2.1 x.2.1.2.2.2.2.2.2.2.2.2.1)]:List Event)
 let P0:=(rd (dfl .anJ) s4 e4)
 let T0:=(w64 (s1+1))
 let V0:=(s7++E0)
 let L0:=((([]:List anB)++(au3 (auK e4) s4))++(avp (auK (w64 (e4+1))) s4))
 let K0:=(rd (dfl .anx) s2 e1)
 (if decide (e0=4) then
 (az (e4,0,(w64 ((s4.length:Int) - 1)),())).bind fun r1=>
 if !r1.1.1 then
 some ((false,()),(x.1,()))
 else
 if inb e4 s4.length then
 let v2:=P0.src
 let v3:=P0.dst
 let v4:=P0.data
 let v5:=P0.sp
 if decide (e0=6) then
 if v5 then
 some ((false,()),(x.1,()))
 else
 (az (e5,0,(w64 ((v4.size:Int) - 1)),())).bind fun r6=>
 if !r6.1.1 then
 some ((false,()),(x.1,()))
 else
 (az (e6,1,255,())).bind fun r7=>
 if !r7.1.1 then
 some ((false,()),(x.1,()))
 else
 if an v4.size then
 if inb e5 ((aL v4).length) then
 if inb e5 ((aL v4).length) then
 let v8:=(vQ .u8 (rd (dfl .u8) (aL v4) e5) (w8 e6))
 (if inb e4 s4.length then
 let v9:=(eS (ave (aL v4) (auK e5) v8))
 (if inb e4 ((ave s4 (auK e4) (anB.mk (P0.src) (P0.dst) v9 (P0.sp))).length) then
 if an (s7.length+E0.length) then
 some ((true,()),((s0,T0,s2,s3,(ave (ave s4 (auK e4) (anB.mk (P0.src) (P0.dst) v9 (P0.sp))) (auK e4) (anB.mk ((rd (dfl .anJ) (ave s4 (auK e4) (anB.mk (P0.src) (P0.dst) v9 (P0.sp))) e4).src) ((rd (dfl .anJ) (ave s4 (auK e4) (anB.mk (P0.src) (P0.dst) v9 (P0.sp))) e4).dst) ((rd (dfl .anJ) (ave s4 (auK e4) (anB.mk (P0.src) (P0.dst) v9 (P0.sp))) e4).data) true)),s5,s6,V0,()),()))
 else none
 else none)
 else none)
 else none
 else none
 else none
 else
 if decide (e0=4) then
 (jI (v2,v3,())).bind fun r10=>
 if inb r10.1.1 s3.length then
 if !(rd (dfl .bool) s3 r10.1.1) then
 some ((false,()),(x.1,()))
 else
 if decide (e0=5) then
 if decide (0≤e4)&&decide (e4≤(s4.length:Int)) then
 if an (([]:List anB).length+(au3 (auK e4) s4).length) then
 if decide (0≤(w64 (e4+1)))&&decide ((w64 (e4+1))≤(s4.length:Int)) then
 if an ((([]:List anB)++(au3 (auK e4) s4)).length+(avp (auK (w64 (e4+1))) s4).length) then
 if decide (e0=5) then
 if an (s7.length+E0.length) then
 some ((true,()),((s0,T0,s2,s3,L0,s5,s6,V0,()),()))
 else none
 else
 if an v4.size then
 (ax ((aL v4),())).bind fun r11=>
 if !r11.1.2.1 then
 if an (s7.length+E0.length) then
 some ((true,()),((s0,T0,s2,s3,L0,s5,s6,V0,()),()))
 else none
 else
 if !decide (r11.1.1.2.1=v2) then
 if an (s7.length+E0.length) then
 some ((true,()),((s0,T0,s2,s3,L0,s5,s6,V0,()),()))
 else none
 else
 if !decide (r11.1.1.2.2.1=v3) then
 if an (s7.length+E0.length) then
 some ((true,()),((s0,T0,s2,s3,L0,s5,s6,V0,()),()))
 else none
 else
 if inb v3 s2.length then
 (al (((rd (dfl .anx) s2 v3).id,(rd (dfl .anx) s2 v3).up,(rd (dfl .anx) s2 v3).log,(rd (dfl .anx) s2 v3).fo,(rd (dfl .anx) s2 v3).anw,()),r11.1.1,())).bind fun r12=>
 if inb v3 s2.length then
 (aR (L0,r12.1.2)).bind fun r13=>
 if an (s7.length+E0.length) then
 some ((true,()),((s0,T0,(ave s2 (auK v3) (anv.mk r12.1.1.1 r12.1.1.2.1 r12.1.1.2.2.1 r12.1.1.2.2.2.1 r12.1.1.2.2.2.2.1)),s3,r13.1.1,s5,s6,V0,()),()))
 else none
 else none
 else none
 else none
 else none
 else none
 else none
 else none
 else
 if decide (e6=0) then
 if decide (0≤e4)&&decide (e4≤(s4.length:Int)) then
 if an (([]:List anB).length+(au3 (auK e4) s4).length) then
 if decide (0≤(w64 (e4+1)))&&decide ((w64 (e4+1))≤(s4.length:Int)) then
 if an ((([]:List anB)++(au3 (auK e4) s4)).length+(avp (auK (w64 (e4+1))) s4).length) then
 if decide (e0=5) then
 if an (s7.length+E0.length) then
 some ((true,()),((s0,T0,s2,s3,L0,s5,s6,V0,()),()))
 else none
 else
 if an v4.size then
 (ax ((aL v4),())).bind fun r14=>
 if !r14.1.2.1 then
 if an (s7.length+E0.length) then
 some ((true,()),((s0,T0,s2,s3,L0,s5,s6,V0,()),()))
 else none
 else
 if !decide (r14.1.1.2.1=v2) then
 if an (s7.length+E0.length) then
 some ((true,()),((s0,T0,s2,s3,L0,s5,s6,V0,()),()))
 else none
 else
 if !decide (r14.1.1.2.2.1=v3) then
 if an (s7.length+E0.length) then
 some ((true,()),((s0,T0,s2,s3,L0,s5,s6,V0,()),()))
 else none
 else
 if inb v3 s2.length then
 (al (((rd (dfl .anx) s2 v3).id,(rd (dfl .anx) s2 v3).up,(rd (dfl .anx) s2 v3).log,(rd (dfl .anx) s2 v3).fo,(rd (dfl .anx) s2 v3).anw,()),r14.1.1,())).bind fun r15=>
 if inb v3 s2.length then
 (aR (L0,r15.1.2)).bind fun r16=>
 if an (s7.length+E0.length) then
 some ((true,()),((s0,T0,(ave s2 (auK v3) (anv.mk r15.1.1.1 r15.1.1.2.1 r15.1.1.2.2.1 r15.1.1.2.2.2.1 r15.1.1.2.2.2.2.1)),s3,r16.1.1,s5,s6,V0,()),()))
 else none
 else none
 else none
 else none
 else none
 else none
 else none
 else none
 else
 if decide (e0=5) then
 if an (s7.length+E0.length) then
 some ((true,()),((s0,T0,s2,s3,s4,s5,s6,V0,()),()))
 else none
 else
 if an v4.size then
 (ax ((aL v4),())).bind fun r17=>
 if !r17.1.2.1 then
 if an (s7.length+E0.length) then
 some ((true,()),((s0,T0,s2,s3,s4,s5,s6,V0,()),()))
 else none
 else
 if !decide (r17.1.1.2.1=v2) then
 if an (s7.length+E0.length) then
 some ((true,()),((s0,T0,s2,s3,s4,s5,s6,V0,()),()))
 else none
 else
 if !decide (r17.1.1.2.2.1=v3) then
 if an (s7.length+E0.length) then
 some ((true,()),((s0,T0,s2,s3,s4,s5,s6,V0,()),()))
 else none
 else
 if inb v3 s2.length then
 (al (((rd (dfl .anx) s2 v3).id,(rd (dfl .anx) s2 v3).up,(rd (dfl .anx) s2 v3).log,(rd (dfl .anx) s2 v3).fo,(rd (dfl .anx) s2 v3).anw,()),r17.1.1,())).bind fun r18=>
 if inb v3 s2.length then
 (aR (s4,r18.1.2)).bind fun r19=>
 if an (s7.length+E0.length) then
 some ((true,()),((s0,T0,(ave s2 (auK v3) (anv.mk r18.1.1.1 r18.1.1.2.1 r18.1.1.2.2.1 r18.1.1.2.2.2.1 r18.1.1.2.2.2.2.1)),s3,r19.1.1,s5,s6,V0,()),()))
 else none
 else none
 else none
 else none
 else none
 else
 if decide (e0=5) then
 if decide (0≤e4)&&decide (e4≤(s4.length:Int)) then
 if an (([]:List anB).length+(au3 (auK e4) s4).length) then
 if decide (0≤(w64 (e4+1)))&&decide ((w64 (e4+1))≤(s4.length:Int)) then
 if an ((([]:List anB)++(au3 (auK e4) s4)).length+(avp (auK (w64 (e4+1))) s4).length) then
 if decide (e0=5) then
 if an (s7.length+E0.length) then
 some ((true,()),((s0,T0,s2,s3,L0,s5,s6,V0,()),()))
 else none
 else
 if an v4.size then
 (ax ((aL v4),())).bind fun r20=>
 if !r20.1.2.1 then
 if an (s7.length+E0.length) then
 some ((true,()),((s0,T0,s2,s3,L0,s5,s6,V0,()),()))
 else none
 else
 if !decide (r20.1.1.2.1=v2) then
 if an (s7.length+E0.length) then
 some ((true,()),((s0,T0,s2,s3,L0,s5,s6,V0,()),()))
 else none
 else
 if !decide (r20.1.1.2.2.1=v3) then
 if an (s7.length+E0.length) then
 some ((true,()),((s0,T0,s2,s3,L0,s5,s6,V0,()),()))
 else none
 else
 if inb v3 s2.length then
 (al (((rd (dfl .anx) s2 v3).id,(rd (dfl .anx) s2 v3).up,(rd (dfl .anx) s2 v3).log,(rd (dfl .anx) s2 v3).fo,(rd (dfl .anx) s2 v3).anw,()),r20.1.1,())).bind fun r21=>
 if inb v3 s2.length then
 (aR (L0,r21.1.2)).bind fun r22=>
 if an (s7.length+E0.length) then
 some ((true,()),((s0,T0,(ave s2 (auK v3) (anv.mk r21.1.1.1 r21.1.1.2.1 r21.1.1.2.2.1 r21.1.1.2.2.2.1 r21.1.1.2.2.2.2.1)),s3,r22.1.1,s5,s6,V0,()),()))
 else none
 else none
 else none
 else none
 else none
 else none
 else none
 else none
 else
 if decide (e6=0) then
 if decide (0≤e4)&&decide (e4≤(s4.length:Int)) then
 if an (([]:List anB).length+(au3 (auK e4) s4).length) then
 if decide (0≤(w64 (e4+1)))&&decide ((w64 (e4+1))≤(s4.length:Int)) then
 if an ((([]:List anB)++(au3 (auK e4) s4)).length+(avp (auK (w64 (e4+1))) s4).length) then
 if decide (e0=5) then
 if an (s7.length+E0.length) then
 some ((true,()),((s0,T0,s2,s3,L0,s5,s6,V0,()),()))
 else none
 else
 if an v4.size then
 (ax ((aL v4),())).bind fun r23=>
 if !r23.1.2.1 then
 if an (s7.length+E0.length) then
 some ((true,()),((s0,T0,s2,s3,L0,s5,s6,V0,()),()))
 else none
 else
 if !decide (r23.1.1.2.1=v2) then
 if an (s7.length+E0.length) then
 some ((true,()),((s0,T0,s2,s3,L0,s5,s6,V0,()),()))
 else none
 else
 if !decide (r23.1.1.2.2.1=v3) then
 if an (s7.length+E0.length) then
 some ((true,()),((s0,T0,s2,s3,L0,s5,s6,V0,()),()))
 else none
 else
 if inb v3 s2.length then
 (al (((rd (dfl .anx) s2 v3).id,(rd (dfl .anx) s2 v3).up,(rd (dfl .anx) s2 v3).log,(rd (dfl .anx) s2 v3).fo,(rd (dfl .anx) s2 v3).anw,()),r23.1.1,())).bind fun r24=>
 if inb v3 s2.length then
 (aR (L0,r24.1.2)).bind fun r25=>
 if an (s7.length+E0.length) then
 some ((true,()),((s0,T0,(ave s2 (auK v3) (anv.mk r24.1.1.1 r24.1.1.2.1 r24.1.1.2.2.1 r24.1.1.2.2.2.1 r24.1.1.2.2.2.2.1)),s3,r25.1.1,s5,s6,V0,()),()))
 else none
 else none
 else none
 else none
 else none
 else none
 else none
 else none
 else
 if decide (e0=5) then
 if an (s7.length+E0.length) then
 some ((true,()),((s0,T0,s2,s3,s4,s5,s6,V0,()),()))
 else none
 else
 if an v4.size then
 (ax ((aL v4),())).bind fun r26=>
 if !r26.1.2.1 then
 if an (s7.length+E0.length) then
 some ((true,()),((s0,T0,s2,s3,s4,s5,s6,V0,()),()))
 else none
 else
 if !decide (r26.1.1.2.1=v2) then
 if an (s7.length+E0.length) then
 some ((true,()),((s0,T0,s2,s3,s4,s5,s6,V0,()),()))
 else none
 else
 if !decide (r26.1.1.2.2.1=v3) then
 if an (s7.length+E0.length) then
 some ((true,()),((s0,T0,s2,s3,s4,s5,s6,V0,()),()))
 else none
 else
 if inb v3 s2.length then
 (al (((rd (dfl .anx) s2 v3).id,(rd (dfl .anx) s2 v3).up,(rd (dfl .anx) s2 v3).log,(rd (dfl .anx) s2 v3).fo,(rd (dfl .anx) s2 v3).anw,()),r26.1.1,())).bind fun r27=>
 if inb v3 s2.length then
 (aR (s4,r27.1.2)).bind fun r28=>
 if an (s7.length+E0.length) then
 some ((true,()),((s0,T0,(ave s2 (auK v3) (anv.mk r27.1.1.1 r27.1.1.2.1 r27.1.1.2.2.1 r27.1.1.2.2.2.1 r27.1.1.2.2.2.2.1)),s3,r28.1.1,s5,s6,V0,()),()))
 else none
 else none
 else none
 else none
 else none
 else
 if decide (e0=5) then
 (az (e4,0,(w64 ((s4.length:Int) - 1)),())).bind fun r29=>
 if !r29.1.1 then
 some ((false,()),(x.1,()))
 else
 if inb e4 s4.length then
 let v30:=P0.src
 let v31:=P0.dst
 let v32:=P0.data
 let v33:=P0.sp
 if decide (e0=6) then
 if v33 then
 some ((false,()),(x.1,()))
 else
 (az (e5,0,(w64 ((v32.size:Int) - 1)),())).bind fun r34=>
 if !r34.1.1 then
 some ((false,()),(x.1,()))
 else
 (az (e6,1,255,())).bind fun r35=>
 if !r35.1.1 then
 some ((false,()),(x.1,()))
 else
 if an v32.size then
 if inb e5 ((aL v32).length) then
 if inb e5 ((aL v32).length) then
 let v36:=(vQ .u8 (rd (dfl .u8) (aL v32) e5) (w8 e6))
 (if inb e4 s4.length then
 let v37:=(eS (ave (aL v32) (auK e5) v36))
 (if inb e4 ((ave s4 (auK e4) (anB.mk (P0.src) (P0.dst) v37 (P0.sp))).length) then
 if an (s7.length+E0.length) then
 some ((true,()),((s0,T0,s2,s3,(ave (ave s4 (auK e4) (anB.mk (P0.src) (P0.dst) v37 (P0.sp))) (auK e4) (anB.mk ((rd (dfl .anJ) (ave s4 (auK e4) (anB.mk (P0.src) (P0.dst) v37 (P0.sp))) e4).src) ((rd (dfl .anJ) (ave s4 (auK e4) (anB.mk (P0.src) (P0.dst) v37 (P0.sp))) e4).dst) ((rd (dfl .anJ) (ave s4 (auK e4) (anB.mk (P0.src) (P0.dst) v37 (P0.sp))) e4).data) true)),s5,s6,V0,()),()))
 else none
 else none)
 else none)
 else none
 else none
 else none
 else
 if decide (e0=4) then
 (jI (v30,v31,())).bind fun r38=>
 if inb r38.1.1 s3.length then
 if !(rd (dfl .bool) s3 r38.1.1) then
 some ((false,()),(x.1,()))
 else
 if decide (e0=5) then
 if decide (0≤e4)&&decide (e4≤(s4.length:Int)) then
 if an (([]:List anB).length+(au3 (auK e4) s4).length) then
 if decide (0≤(w64 (e4+1)))&&decide ((w64 (e4+1))≤(s4.length:Int)) then
 if an ((([]:List anB)++(au3 (auK e4) s4)).length+(avp (auK (w64 (e4+1))) s4).length) then
 if decide (e0=5) then
 if an (s7.length+E0.length) then
 some ((true,()),((s0,T0,s2,s3,L0,s5,s6,V0,()),()))
 else none
 else
 if an v32.size then
 (ax ((aL v32),())).bind fun r39=>
 if !r39.1.2.1 then
 if an (s7.length+E0.length) then
 some ((true,()),((s0,T0,s2,s3,L0,s5,s6,V0,()),()))
 else none
 else
 if !decide (r39.1.1.2.1=v30) then
 if an (s7.length+E0.length) then
 some ((true,()),((s0,T0,s2,s3,L0,s5,s6,V0,()),()))
 else none
 else
 if !decide (r39.1.1.2.2.1=v31) then
 if an (s7.length+E0.length) then
 some ((true,()),((s0,T0,s2,s3,L0,s5,s6,V0,()),()))
 else none
 else
 if inb v31 s2.length then
 (al (((rd (dfl .anx) s2 v31).id,(rd (dfl .anx) s2 v31).up,(rd (dfl .anx) s2 v31).log,(rd (dfl .anx) s2 v31).fo,(rd (dfl .anx) s2 v31).anw,()),r39.1.1,())).bind fun r40=>
 if inb v31 s2.length then
 (aR (L0,r40.1.2)).bind fun r41=>
 if an (s7.length+E0.length) then
 some ((true,()),((s0,T0,(ave s2 (auK v31) (anv.mk r40.1.1.1 r40.1.1.2.1 r40.1.1.2.2.1 r40.1.1.2.2.2.1 r40.1.1.2.2.2.2.1)),s3,r41.1.1,s5,s6,V0,()),()))
 else none
 else none
 else none
 else none
 else none
 else none
 else none
 else none
 else
 if decide (e6=0) then
 if decide (0≤e4)&&decide (e4≤(s4.length:Int)) then
 if an (([]:List anB).length+(au3 (auK e4) s4).length) then
 if decide (0≤(w64 (e4+1)))&&decide ((w64 (e4+1))≤(s4.length:Int)) then
 if an ((([]:List anB)++(au3 (auK e4) s4)).length+(avp (auK (w64 (e4+1))) s4).length) then
 if decide (e0=5) then
 if an (s7.length+E0.length) then
 some ((true,()),((s0,T0,s2,s3,L0,s5,s6,V0,()),()))
 else none
 else
 if an v32.size then
 (ax ((aL v32),())).bind fun r42=>
 if !r42.1.2.1 then
 if an (s7.length+E0.length) then
 some ((true,()),((s0,T0,s2,s3,L0,s5,s6,V0,()),()))
 else none
 else
 if !decide (r42.1.1.2.1=v30) then
 if an (s7.length+E0.length) then
 some ((true,()),((s0,T0,s2,s3,L0,s5,s6,V0,()),()))
 else none
 else
 if !decide (r42.1.1.2.2.1=v31) then
 if an (s7.length+E0.length) then
 some ((true,()),((s0,T0,s2,s3,L0,s5,s6,V0,()),()))
 else none
 else
 if inb v31 s2.length then
 (al (((rd (dfl .anx) s2 v31).id,(rd (dfl .anx) s2 v31).up,(rd (dfl .anx) s2 v31).log,(rd (dfl .anx) s2 v31).fo,(rd (dfl .anx) s2 v31).anw,()),r42.1.1,())).bind fun r43=>
 if inb v31 s2.length then
 (aR (L0,r43.1.2)).bind fun r44=>
 if an (s7.length+E0.length) then
 some ((true,()),((s0,T0,(ave s2 (auK v31) (anv.mk r43.1.1.1 r43.1.1.2.1 r43.1.1.2.2.1 r43.1.1.2.2.2.1 r43.1.1.2.2.2.2.1)),s3,r44.1.1,s5,s6,V0,()),()))
 else none
 else none
 else none
 else none
 else none
 else none
 else none
 else none
 else
 if decide (e0=5) then
 if an (s7.length+E0.length) then
 some ((true,()),((s0,T0,s2,s3,s4,s5,s6,V0,()),()))
 else none
 else
 if an v32.size then
 (ax ((aL v32),())).bind fun r45=>
 if !r45.1.2.1 then
 if an (s7.length+E0.length) then
 some ((true,()),((s0,T0,s2,s3,s4,s5,s6,V0,()),()))
 else none
 else
 if !decide (r45.1.1.2.1=v30) then
 if an (s7.length+E0.length) then
 some ((true,()),((s0,T0,s2,s3,s4,s5,s6,V0,()),()))
 else none
 else
 if !decide (r45.1.1.2.2.1=v31) then
 if an (s7.length+E0.length) then
 some ((true,()),((s0,T0,s2,s3,s4,s5,s6,V0,()),()))
 else none
 else
 if inb v31 s2.length then
 (al (((rd (dfl .anx) s2 v31).id,(rd (dfl .anx) s2 v31).up,(rd (dfl .anx) s2 v31).log,(rd (dfl .anx) s2 v31).fo,(rd (dfl .anx) s2 v31).anw,()),r45.1.1,())).bind fun r46=>
 if inb v31 s2.length then
 (aR (s4,r46.1.2)).bind fun r47=>
 if an (s7.length+E0.length) then
 some ((true,()),((s0,T0,(ave s2 (auK v31) (anv.mk r46.1.1.1 r46.1.1.2.1 r46.1.1.2.2.1 r46.1.1.2.2.2.1 r46.1.1.2.2.2.2.1)),s3,r47.1.1,s5,s6,V0,()),()))
 else none
 else none
 else none
 else none
 else none
 else
 if decide (e0=5) then
 if decide (0≤e4)&&decide (e4≤(s4.length:Int)) then
 if an (([]:List anB).length+(au3 (auK e4) s4).length) then
 if decide (0≤(w64 (e4+1)))&&decide ((w64 (e4+1))≤(s4.length:Int)) then
 if an ((([]:List anB)++(au3 (auK e4) s4)).length+(avp (auK (w64 (e4+1))) s4).length) then
 if decide (e0=5) then
 if an (s7.length+E0.length) then
 some ((true,()),((s0,T0,s2,s3,L0,s5,s6,V0,()),()))
 else none
 else
 if an v32.size then
 (ax ((aL v32),())).bind fun r48=>
 if !r48.1.2.1 then
 if an (s7.length+E0.length) then
 some ((true,()),((s0,T0,s2,s3,L0,s5,s6,V0,()),()))
 else none
 else
 if !decide (r48.1.1.2.1=v30) then
 if an (s7.length+E0.length) then
 some ((true,()),((s0,T0,s2,s3,L0,s5,s6,V0,()),()))
 else none
 else
 if !decide (r48.1.1.2.2.1=v31) then
 if an (s7.length+E0.length) then
 some ((true,()),((s0,T0,s2,s3,L0,s5,s6,V0,()),()))
 else none
 else
 if inb v31 s2.length then
 (al (((rd (dfl .anx) s2 v31).id,(rd (dfl .anx) s2 v31).up,(rd (dfl .anx) s2 v31).log,(rd (dfl .anx) s2 v31).fo,(rd (dfl .anx) s2 v31).anw,()),r48.1.1,())).bind fun r49=>
 if inb v31 s2.length then
 (aR (L0,r49.1.2)).bind fun r50=>
 if an (s7.length+E0.length) then
 some ((true,()),((s0,T0,(ave s2 (auK v31) (anv.mk r49.1.1.1 r49.1.1.2.1 r49.1.1.2.2.1 r49.1.1.2.2.2.1 r49.1.1.2.2.2.2.1)),s3,r50.1.1,s5,s6,V0,()),()))
 else none
 else none
 else none
 else none
 else none
 else none
 else none
 else none
 else
 if decide (e6=0) then
 if decide (0≤e4)&&decide (e4≤(s4.length:Int)) then
 if an (([]:List anB).length+(au3 (auK e4) s4).length) then
 if decide (0≤(w64 (e4+1)))&&decide ((w64 (e4+1))≤(s4.length:Int)) then
 if an ((([]:List anB)++(au3 (auK e4) s4)).length+(avp (auK (w64 (e4+1))) s4).length) then
 if decide (e0=5) then
 if an (s7.length+E0.length) then
 some ((true,()),((s0,T0,s2,s3,L0,s5,s6,V0,()),()))
 else none
 else
 if an v32.size then
 (ax ((aL v32),())).bind fun r51=>
 if !r51.1.2.1 then
 if an (s7.length+E0.length) then
 some ((true,()),((s0,T0,s2,s3,L0,s5,s6,V0,()),()))
 else none
 else
 if !decide (r51.1.1.2.1=v30) then
 if an (s7.length+E0.length) then
 some ((true,()),((s0,T0,s2,s3,L0,s5,s6,V0,()),()))
 else none
 else
 if !decide (r51.1.1.2.2.1=v31) then
 if an (s7.length+E0.length) then
 some ((true,()),((s0,T0,s2,s3,L0,s5,s6,V0,()),()))
 else none
 else
 if inb v31 s2.length then
 (al (((rd (dfl .anx) s2 v31).id,(rd (dfl .anx) s2 v31).up,(rd (dfl .anx) s2 v31).log,(rd (dfl .anx) s2 v31).fo,(rd (dfl .anx) s2 v31).anw,()),r51.1.1,())).bind fun r52=>
 if inb v31 s2.length then
 (aR (L0,r52.1.2)).bind fun r53=>
 if an (s7.length+E0.length) then
 some ((true,()),((s0,T0,(ave s2 (auK v31) (anv.mk r52.1.1.1 r52.1.1.2.1 r52.1.1.2.2.1 r52.1.1.2.2.2.1 r52.1.1.2.2.2.2.1)),s3,r53.1.1,s5,s6,V0,()),()))
 else none
 else none
 else none
 else none
 else none
 else none
 else none
 else none
 else
 if decide (e0=5) then
 if an (s7.length+E0.length) then
 some ((true,()),((s0,T0,s2,s3,s4,s5,s6,V0,()),()))
 else none
 else
 if an v32.size then
 (ax ((aL v32),())).bind fun r54=>
 if !r54.1.2.1 then
 if an (s7.length+E0.length) then
 some ((true,()),((s0,T0,s2,s3,s4,s5,s6,V0,()),()))
 else none
 else
 if !decide (r54.1.1.2.1=v30) then
 if an (s7.length+E0.length) then
 some ((true,()),((s0,T0,s2,s3,s4,s5,s6,V0,()),()))
 else none
 else
 if !decide (r54.1.1.2.2.1=v31) then
 if an (s7.length+E0.length) then
 some ((true,()),((s0,T0,s2,s3,s4,s5,s6,V0,()),()))
 else none
 else
 if inb v31 s2.length then
 (al (((rd (dfl .anx) s2 v31).id,(rd (dfl .anx) s2 v31).up,(rd (dfl .anx) s2 v31).log,(rd (dfl .anx) s2 v31).fo,(rd (dfl .anx) s2 v31).anw,()),r54.1.1,())).bind fun r55=>
 if inb v31 s2.length then
 (aR (s4,r55.1.2)).bind fun r56=>
 if an (s7.length+E0.length) then
 some ((true,()),((s0,T0,(ave s2 (auK v31) (anv.mk r55.1.1.1 r55.1.1.2.1 r55.1.1.2.2.1 r55.1.1.2.2.2.1 r55.1.1.2.2.2.2.1)),s3,r56.1.1,s5,s6,V0,()),()))
 else none
 else none
 else none
 else none
 else none
 else
 if decide (e0=6) then
 (az (e4,0,(w64 ((s4.length:Int) - 1)),())).bind fun r57=>
 if !r57.1.1 then
 some ((false,()),(x.1,()))
 else
 if inb e4 s4.length then
 let v58:=P0.src
 let v59:=P0.dst
 let v60:=P0.data
 let v61:=P0.sp
 if decide (e0=6) then
 if v61 then
 some ((false,()),(x.1,()))
 else
 (az (e5,0,(w64 ((v60.size:Int) - 1)),())).bind fun r62=>
 if !r62.1.1 then
 some ((false,()),(x.1,()))
 else
 (az (e6,1,255,())).bind fun r63=>
 if !r63.1.1 then
 some ((false,()),(x.1,()))
 else
 if an v60.size then
 if inb e5 ((aL v60).length) then
 if inb e5 ((aL v60).length) then
 let v64:=(vQ .u8 (rd (dfl .u8) (aL v60) e5) (w8 e6))
 (if inb e4 s4.length then
 let v65:=(eS (ave (aL v60) (auK e5) v64))
 (if inb e4 ((ave s4 (auK e4) (anB.mk (P0.src) (P0.dst) v65 (P0.sp))).length) then
 if an (s7.length+E0.length) then
 some ((true,()),((s0,T0,s2,s3,(ave (ave s4 (auK e4) (anB.mk (P0.src) (P0.dst) v65 (P0.sp))) (auK e4) (anB.mk ((rd (dfl .anJ) (ave s4 (auK e4) (anB.mk (P0.src) (P0.dst) v65 (P0.sp))) e4).src) ((rd (dfl .anJ) (ave s4 (auK e4) (anB.mk (P0.src) (P0.dst) v65 (P0.sp))) e4).dst) ((rd (dfl .anJ) (ave s4 (auK e4) (anB.mk (P0.src) (P0.dst) v65 (P0.sp))) e4).data) true)),s5,s6,V0,()),()))
 else none
 else none)
 else none)
 else none
 else none
 else none
 else
 if decide (e0=4) then
 (jI (v58,v59,())).bind fun r66=>
 if inb r66.1.1 s3.length then
 if !(rd (dfl .bool) s3 r66.1.1) then
 some ((false,()),(x.1,()))
 else
 if decide (e0=5) then
 if decide (0≤e4)&&decide (e4≤(s4.length:Int)) then
 if an (([]:List anB).length+(au3 (auK e4) s4).length) then
 if decide (0≤(w64 (e4+1)))&&decide ((w64 (e4+1))≤(s4.length:Int)) then
 if an ((([]:List anB)++(au3 (auK e4) s4)).length+(avp (auK (w64 (e4+1))) s4).length) then
 if decide (e0=5) then
 if an (s7.length+E0.length) then
 some ((true,()),((s0,T0,s2,s3,L0,s5,s6,V0,()),()))
 else none
 else
 if an v60.size then
 (ax ((aL v60),())).bind fun r67=>
 if !r67.1.2.1 then
 if an (s7.length+E0.length) then
 some ((true,()),((s0,T0,s2,s3,L0,s5,s6,V0,()),()))
 else none
 else
 if !decide (r67.1.1.2.1=v58) then
 if an (s7.length+E0.length) then
 some ((true,()),((s0,T0,s2,s3,L0,s5,s6,V0,()),()))
 else none
 else
 if !decide (r67.1.1.2.2.1=v59) then
 if an (s7.length+E0.length) then
 some ((true,()),((s0,T0,s2,s3,L0,s5,s6,V0,()),()))
 else none
 else
 if inb v59 s2.length then
 (al (((rd (dfl .anx) s2 v59).id,(rd (dfl .anx) s2 v59).up,(rd (dfl .anx) s2 v59).log,(rd (dfl .anx) s2 v59).fo,(rd (dfl .anx) s2 v59).anw,()),r67.1.1,())).bind fun r68=>
 if inb v59 s2.length then
 (aR (L0,r68.1.2)).bind fun r69=>
 if an (s7.length+E0.length) then
 some ((true,()),((s0,T0,(ave s2 (auK v59) (anv.mk r68.1.1.1 r68.1.1.2.1 r68.1.1.2.2.1 r68.1.1.2.2.2.1 r68.1.1.2.2.2.2.1)),s3,r69.1.1,s5,s6,V0,()),()))
 else none
 else none
 else none
 else none
 else none
 else none
 else none
 else none
 else
 if decide (e6=0) then
 if decide (0≤e4)&&decide (e4≤(s4.length:Int)) then
 if an (([]:List anB).length+(au3 (auK e4) s4).length) then
 if decide (0≤(w64 (e4+1)))&&decide ((w64 (e4+1))≤(s4.length:Int)) then
 if an ((([]:List anB)++(au3 (auK e4) s4)).length+(avp (auK (w64 (e4+1))) s4).length) then
 if decide (e0=5) then
 if an (s7.length+E0.length) then
 some ((true,()),((s0,T0,s2,s3,L0,s5,s6,V0,()),()))
 else none
 else
 if an v60.size then
 (ax ((aL v60),())).bind fun r70=>
 if !r70.1.2.1 then
 if an (s7.length+E0.length) then
 some ((true,()),((s0,T0,s2,s3,L0,s5,s6,V0,()),()))
 else none
 else
 if !decide (r70.1.1.2.1=v58) then
 if an (s7.length+E0.length) then
 some ((true,()),((s0,T0,s2,s3,L0,s5,s6,V0,()),()))
 else none
 else
 if !decide (r70.1.1.2.2.1=v59) then
 if an (s7.length+E0.length) then
 some ((true,()),((s0,T0,s2,s3,L0,s5,s6,V0,()),()))
 else none
 else
 if inb v59 s2.length then
 (al (((rd (dfl .anx) s2 v59).id,(rd (dfl .anx) s2 v59).up,(rd (dfl .anx) s2 v59).log,(rd (dfl .anx) s2 v59).fo,(rd (dfl .anx) s2 v59).anw,()),r70.1.1,())).bind fun r71=>
 if inb v59 s2.length then
 (aR (L0,r71.1.2)).bind fun r72=>
 if an (s7.length+E0.length) then
 some ((true,()),((s0,T0,(ave s2 (auK v59) (anv.mk r71.1.1.1 r71.1.1.2.1 r71.1.1.2.2.1 r71.1.1.2.2.2.1 r71.1.1.2.2.2.2.1)),s3,r72.1.1,s5,s6,V0,()),()))
 else none
 else none
 else none
 else none
 else none
 else none
 else none
 else none
 else
 if decide (e0=5) then
 if an (s7.length+E0.length) then
 some ((true,()),((s0,T0,s2,s3,s4,s5,s6,V0,()),()))
 else none
 else
 if an v60.size then
 (ax ((aL v60),())).bind fun r73=>
 if !r73.1.2.1 then
 if an (s7.length+E0.length) then
 some ((true,()),((s0,T0,s2,s3,s4,s5,s6,V0,()),()))
 else none
 else
 if !decide (r73.1.1.2.1=v58) then
 if an (s7.length+E0.length) then
 some ((true,()),((s0,T0,s2,s3,s4,s5,s6,V0,()),()))
 else none
 else
 if !decide (r73.1.1.2.2.1=v59) then
 if an (s7.length+E0.length) then
 some ((true,()),((s0,T0,s2,s3,s4,s5,s6,V0,()),()))
 else none
 else
 if inb v59 s2.length then
 (al (((rd (dfl .anx) s2 v59).id,(rd (dfl .anx) s2 v59).up,(rd (dfl .anx) s2 v59).log,(rd (dfl .anx) s2 v59).fo,(rd (dfl .anx) s2 v59).anw,()),r73.1.1,())).bind fun r74=>
 if inb v59 s2.length then
 (aR (s4,r74.1.2)).bind fun r75=>
 if an (s7.length+E0.length) then
 some ((true,()),((s0,T0,(ave s2 (auK v59) (anv.mk r74.1.1.1 r74.1.1.2.1 r74.1.1.2.2.1 r74.1.1.2.2.2.1 r74.1.1.2.2.2.2.1)),s3,r75.1.1,s5,s6,V0,()),()))
 else none
 else none
 else none
 else none
 else none
 else
 if decide (e0=5) then
 if decide (0≤e4)&&decide (e4≤(s4.length:Int)) then
 if an (([]:List anB).length+(au3 (auK e4) s4).length) then
 if decide (0≤(w64 (e4+1)))&&decide ((w64 (e4+1))≤(s4.length:Int)) then
 if an ((([]:List anB)++(au3 (auK e4) s4)).length+(avp (auK (w64 (e4+1))) s4).length) then
 if decide (e0=5) then
 if an (s7.length+E0.length) then
 some ((true,()),((s0,T0,s2,s3,L0,s5,s6,V0,()),()))
 else none
 else
 if an v60.size then
 (ax ((aL v60),())).bind fun r76=>
 if !r76.1.2.1 then
 if an (s7.length+E0.length) then
 some ((true,()),((s0,T0,s2,s3,L0,s5,s6,V0,()),()))
 else none
 else
 if !decide (r76.1.1.2.1=v58) then
 if an (s7.length+E0.length) then
 some ((true,()),((s0,T0,s2,s3,L0,s5,s6,V0,()),()))
 else none
 else
 if !decide (r76.1.1.2.2.1=v59) then
 if an (s7.length+E0.length) then
 some ((true,()),((s0,T0,s2,s3,L0,s5,s6,V0,()),()))
 else none
 else
 if inb v59 s2.length then
 (al (((rd (dfl .anx) s2 v59).id,(rd (dfl .anx) s2 v59).up,(rd (dfl .anx) s2 v59).log,(rd (dfl .anx) s2 v59).fo,(rd (dfl .anx) s2 v59).anw,()),r76.1.1,())).bind fun r77=>
 if inb v59 s2.length then
 (aR (L0,r77.1.2)).bind fun r78=>
 if an (s7.length+E0.length) then
 some ((true,()),((s0,T0,(ave s2 (auK v59) (anv.mk r77.1.1.1 r77.1.1.2.1 r77.1.1.2.2.1 r77.1.1.2.2.2.1 r77.1.1.2.2.2.2.1)),s3,r78.1.1,s5,s6,V0,()),()))
 else none
 else none
 else none
 else none
 else none
 else none
 else none
 else none
 else
 if decide (e6=0) then
 if decide (0≤e4)&&decide (e4≤(s4.length:Int)) then
 if an (([]:List anB).length+(au3 (auK e4) s4).length) then
 if decide (0≤(w64 (e4+1)))&&decide ((w64 (e4+1))≤(s4.length:Int)) then
 if an ((([]:List anB)++(au3 (auK e4) s4)).length+(avp (auK (w64 (e4+1))) s4).length) then
 if decide (e0=5) then
 if an (s7.length+E0.length) then
 some ((true,()),((s0,T0,s2,s3,L0,s5,s6,V0,()),()))
 else none
 else
 if an v60.size then
 (ax ((aL v60),())).bind fun r79=>
 if !r79.1.2.1 then
 if an (s7.length+E0.length) then
 some ((true,()),((s0,T0,s2,s3,L0,s5,s6,V0,()),()))
 else none
 else
 if !decide (r79.1.1.2.1=v58) then
 if an (s7.length+E0.length) then
 some ((true,()),((s0,T0,s2,s3,L0,s5,s6,V0,()),()))
 else none
 else
 if !decide (r79.1.1.2.2.1=v59) then
 if an (s7.length+E0.length) then
 some ((true,()),((s0,T0,s2,s3,L0,s5,s6,V0,()),()))
 else none
 else
 if inb v59 s2.length then
 (al (((rd (dfl .anx) s2 v59).id,(rd (dfl .anx) s2 v59).up,(rd (dfl .anx) s2 v59).log,(rd (dfl .anx) s2 v59).fo,(rd (dfl .anx) s2 v59).anw,()),r79.1.1,())).bind fun r80=>
 if inb v59 s2.length then
 (aR (L0,r80.1.2)).bind fun r81=>
 if an (s7.length+E0.length) then
 some ((true,()),((s0,T0,(ave s2 (auK v59) (anv.mk r80.1.1.1 r80.1.1.2.1 r80.1.1.2.2.1 r80.1.1.2.2.2.1 r80.1.1.2.2.2.2.1)),s3,r81.1.1,s5,s6,V0,()),()))
 else none
 else none
 else none
 else none
 else none
 else none
 else none
 else none
 else
 if decide (e0=5) then
 if an (s7.length+E0.length) then
 some ((true,()),((s0,T0,s2,s3,s4,s5,s6,V0,()),()))
 else none
 else
 if an v60.size then
 (ax ((aL v60),())).bind fun r82=>
 if !r82.1.2.1 then
 if an (s7.length+E0.length) then
 some ((true,()),((s0,T0,s2,s3,s4,s5,s6,V0,()),()))
 else none
 else
 if !decide (r82.1.1.2.1=v58) then
 if an (s7.length+E0.length) then
 some ((true,()),((s0,T0,s2,s3,s4,s5,s6,V0,()),()))
 else none
 else
 if !decide (r82.1.1.2.2.1=v59) then
 if an (s7.length+E0.length) then
 some ((true,()),((s0,T0,s2,s3,s4,s5,s6,V0,()),()))
 else none
 else
 if inb v59 s2.length then
 (al (((rd (dfl .anx) s2 v59).id,(rd (dfl .anx) s2 v59).up,(rd (dfl .anx) s2 v59).log,(rd (dfl .anx) s2 v59).fo,(rd (dfl .anx) s2 v59).anw,()),r82.1.1,())).bind fun r83=>
 if inb v59 s2.length then
 (aR (s4,r83.1.2)).bind fun r84=>
 if an (s7.length+E0.length) then
 some ((true,()),((s0,T0,(ave s2 (auK v59) (anv.mk r83.1.1.1 r83.1.1.2.1 r83.1.1.2.2.1 r83.1.1.2.2.2.1 r83.1.1.2.2.2.2.1)),s3,r84.1.1,s5,s6,V0,()),()))
 else none
 else none
 else none
 else none
 else none
 else
 if decide (e0=9) then
 (az (e1,0,(w64 ((s3.length:Int) - 1)),())).bind fun r85=>
 if !r85.1.1 then
 some ((false,()),(x.1,()))
 else
 if inb e1 s3.length then
 if decide ((rd (dfl .bool) s3 e1)=(decide (e0=9))) then
 some ((false,()),(x.1,()))
 else
 if inb e1 s3.length then
 if an (s7.length+E0.length) then
 some ((true,()),((s0,T0,s2,(ave s3 (auK e1) (decide (e0=9))),s4,s5,s6,V0,()),()))
 else none
 else none
 else none
 else
 if decide (e0=10) then
 (az (e1,0,(w64 ((s3.length:Int) - 1)),())).bind fun r86=>
 if !r86.1.1 then
 some ((false,()),(x.1,()))
 else
 if inb e1 s3.length then
 if decide ((rd (dfl .bool) s3 e1)=(decide (e0=9))) then
 some ((false,()),(x.1,()))
 else
 if inb e1 s3.length then
 if an (s7.length+E0.length) then
 some ((true,()),((s0,T0,s2,(ave s3 (auK e1) (decide (e0=9))),s4,s5,s6,V0,()),()))
 else none
 else none
 else none
 else
 (bf (e1,())).bind fun r87=>
 if !r87.1.1 then
 some ((false,()),(x.1,()))
 else
 if inb e1 s2.length then
 let v88:=K0.id
 let v89:=K0.up
 let v90:=K0.log
 let v91:=K0.fo
 let v92:=K0.anw
 if decide (e0=1) then
 if decide (6≤(s5.length:Int)) then
 some ((false,()),(x.1,()))
 else
 if inb e1 s2.length then
 (jN ((K0.id,K0.up,K0.log,K0.fo,K0.anw,()),x.2.1.2.2.2.2.2.2.2)).bind fun r93=>
 if decide (r93.1.2.1=0) then
 some ((false,()),(x.1,()))
 else
 if inb e1 s2.length then
 if an (s5.length+([(anz.mk e1 r93.1.2.1 e7 x.2.1.2.2.2.2.2.2.2.2.1 x.2.1.2.2.2.2.2.2.2.2.2.1)]:List anz).length) then
 if an (s7.length+E0.length) then
 some ((true,()),((s0,T0,(ave s2 (auK e1) (anv.mk r93.1.1.1 r93.1.1.2.1 r93.1.1.2.2.1 r93.1.1.2.2.2.1 r93.1.1.2.2.2.2.1)),s3,s4,(s5++([(anz.mk e1 r93.1.2.1 e7 x.2.1.2.2.2.2.2.2.2.2.1 x.2.1.2.2.2.2.2.2.2.2.2.1)]:List anz)),s6,V0,()),()))
 else none
 else none
 else none
 else none
 else
 if decide (e0=2) then
 (iC ((v88,v89,v90,v91,v92,()),())).bind fun r94=>
 if inb e1 s2.length then
 if r94.1.2.1 then
 if an (s7.length+E0.length) then
 some (r94.1.2,((s0,T0,(ave s2 (auK e1) (anv.mk r94.1.1.1 r94.1.1.2.1 r94.1.1.2.2.1 r94.1.1.2.2.2.1 r94.1.1.2.2.2.2.1)),s3,s4,s5,s6,V0,()),()))
 else none
 else
 some (r94.1.2,((s0,s1,(ave s2 (auK e1) (anv.mk r94.1.1.1 r94.1.1.2.1 r94.1.1.2.2.1 r94.1.1.2.2.2.1 r94.1.1.2.2.2.2.1)),x.1.2.2.2),()))
 else none
 else
 if decide (e0=3) then
 (dk ((v88,v89,v90,v91,v92,()),e2,e3,e5,())).bind fun r95=>
 if r95.1.2.1 then
 (aR (s4,([(Frame.mk r95.1.1.1 r95.1.1.2.1 r95.1.1.2.2.1 r95.1.1.2.2.2.1 r95.1.1.2.2.2.2.1 r95.1.1.2.2.2.2.2.1 r95.1.1.2.2.2.2.2.2.1 r95.1.1.2.2.2.2.2.2.2.1 r95.1.1.2.2.2.2.2.2.2.2.1 r95.1.1.2.2.2.2.2.2.2.2.2.1)]:List Frame),())).bind fun r96=>
 if r95.1.2.1 then
 if an (s7.length+E0.length) then
 some (r95.1.2,((s0,T0,s2,s3,r96.1.1,s5,s6,V0,()),()))
 else none
 else
 none
 else
 if r95.1.2.1 then
 if an (s7.length+E0.length) then
 some (r95.1.2,((s0,T0,s2,s3,s4,s5,s6,V0,()),()))
 else none
 else
 some (r95.1.2,(x.1,()))
 else
 if decide (e0=7) then
 (fB ((v88,v89,v90,v91,v92,()),e6,())).bind fun r97=>
 if inb e1 s2.length then
 if v89 then
 if an (s7.length+E0.length) then
 some ((v89,()),((s0,T0,(ave s2 (auK e1) (anv.mk r97.1.1.1 r97.1.1.2.1 r97.1.1.2.2.1 r97.1.1.2.2.2.1 r97.1.1.2.2.2.2.1)),s3,s4,s5,s6,V0,()),()))
 else none
 else
 some ((v89,()),((s0,s1,(ave s2 (auK e1) (anv.mk r97.1.1.1 r97.1.1.2.1 r97.1.1.2.2.1 r97.1.1.2.2.2.1 r97.1.1.2.2.2.2.1)),x.1.2.2.2),()))
 else none
 else
 if decide (e0=8) then
 (iD ((v88,v89,v90,v91,v92,()),())).bind fun r98=>
 if inb e1 s2.length then
 if !v89 then
 if an (s7.length+E0.length) then
 some (((!v89),()),((s0,T0,(ave s2 (auK e1) (anv.mk r98.1.1.1 r98.1.1.2.1 r98.1.1.2.2.1 r98.1.1.2.2.2.1 r98.1.1.2.2.2.2.1)),s3,s4,s5,s6,V0,()),()))
 else none
 else
 some (((!v89),()),((s0,s1,(ave s2 (auK e1) (anv.mk r98.1.1.1 r98.1.1.2.1 r98.1.1.2.2.1 r98.1.1.2.2.2.1 r98.1.1.2.2.2.2.1)),x.1.2.2.2),()))
 else none
 else
 if decide (e0=11) then
 (jO ((v88,v89,v90,v91,v92,()),e2,e3,())).bind fun r99=>
 if r99.1.2.2.1 then
 if decide ((s6.length:Int) < 6) then
 if inb e1 s2.length then
 if an (s6.length+([(anz.mk r99.1.2.1.1 r99.1.2.1.2.1 r99.1.2.1.2.2.1 r99.1.2.1.2.2.2.1 r99.1.2.1.2.2.2.2.1)]:List anz).length) then
 if an (s7.length+E0.length) then
 some ((true,()),((s0,T0,(ave s2 (auK e1) (anv.mk r99.1.1.1 r99.1.1.2.1 r99.1.1.2.2.1 r99.1.1.2.2.2.1 r99.1.1.2.2.2.2.1)),s3,s4,s5,(s6++([(anz.mk r99.1.2.1.1 r99.1.2.1.2.1 r99.1.2.1.2.2.1 r99.1.2.1.2.2.2.1 r99.1.2.1.2.2.2.2.1)]:List anz)),V0,()),()))
 else none
 else none
 else none
 else
 some ((false,()),(x.1,()))
 else
 some ((false,()),(x.1,()))
 else
 if decide (e0=12) then
 (iE ((v88,v89,v90,v91,v92,()),())).bind fun apv=>
 if inb e1 s2.length then
 if apv.1.2.1 then
 if an (s7.length+E0.length) then
 some (apv.1.2,((s0,T0,(ave s2 (auK e1) (anv.mk apv.1.1.1 apv.1.1.2.1 apv.1.1.2.2.1 apv.1.1.2.2.2.1 apv.1.1.2.2.2.2.1)),s3,s4,s5,s6,V0,()),()))
 else none
 else
 some (apv.1.2,((s0,s1,(ave s2 (auK e1) (anv.mk apv.1.1.1 apv.1.1.2.1 apv.1.1.2.2.1 apv.1.1.2.2.2.1 apv.1.1.2.2.2.2.1)),x.1.2.2.2),()))
 else none
 else
 if decide (e0=13) then
 (gN ((v88,v89,v90,v91,v92,()),())).bind fun apu=>
 if inb e1 s2.length then
 if apu.1.2.1 then
 if an (s7.length+E0.length) then
 some (apu.1.2,((s0,T0,(ave s2 (auK e1) (anv.mk apu.1.1.1 apu.1.1.2.1 apu.1.1.2.2.1 apu.1.1.2.2.2.1 apu.1.1.2.2.2.2.1)),s3,s4,s5,s6,V0,()),()))
 else none
 else
 some (apu.1.2,((s0,s1,(ave s2 (auK e1) (anv.mk apu.1.1.1 apu.1.1.2.1 apu.1.1.2.2.1 apu.1.1.2.2.2.1 apu.1.1.2.2.2.2.1)),x.1.2.2.2),()))
 else none
 else
 some ((false,()),(x.1,()))
 else none)
def cK:Ent:=(130,none,⟨[Z22,Z16],[.bool],ap⟩)
end Go.VS
end
