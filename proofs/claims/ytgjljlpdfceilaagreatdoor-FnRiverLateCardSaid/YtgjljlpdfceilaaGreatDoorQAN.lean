/- Part 14. -/
import Derived.Shelf.Utf8.RuneCount
import Derived.Shelf.Strconv.Itoa0
import Derived.Shelf.Strconv.Itoa1
import Derived.Shelf.LaysM
import Derived.Shelf.Strconv.Itoa2
import Derived.Shelf.Strconv.Itoa3
import Derived.Shelf.Strings.Search1
import Derived.Shelf.Strings.Search2
import Derived.Shelf.Strings.Search3
import Derived.Shelf.Strings.Cut
import Derived.Shelf.Strings.Count
import Derived.Shelf.Strings.Shaped
import Derived.Shelf.Strings.Split
import Derived.Shelf.Strings.SplitShaped
import Derived.Shelf.Unicode.Decode
import Derived.Shelf.Strings.RuneCount
import Derived.Shelf.Strings.Explode
import Derived.Shelf.Unicode.DecodeSlow
import Derived.Shelf.Unicode.DecodeAny
import Derived.Test.YtgjljlpdfceilaaGreatDoorProg
import Derived.Test.YtgjljlpdfceilaaGreatDoorQAM
open Bool renaming false->A3,true->U
open Decidable renaming decide->A1
open Go.Lib renaming TabIs->Mv,cellsOf->bQ,countB->Nn,cut->Fp,itoa->BA,pow10Tab->Nv,splitB->JD
open Go.Shelf renaming Ren->Uz
open Go.Value renaming string->bS
open Int renaming tdiv->B5,tmod->BO,toNat->AR
open List renaming drop->Bv,replicate->BV,set->Bw,take->BS
open Option renaming none->A0,some->I
set_option linter.all false
noncomputable section
namespace Go.Proofs
open Go.Shelf
def Tryz.azZ:Uz:=⟨fun|171=>152|243=>189|246=>231|283=>252|284=>253|285=>254|286=>255|129=>263|317=>262|318=>264|319=>265|320=>266|337=>274|338=>275|n=>n,fun|3=>3|9=>9|2=>2|4=>4|171=>226|0=>0|53=>227|37=>22|5=>5|173=>230|212=>236|51=>237|20=>20|213=>238|46=>239|232=>247|233=>248|n=>n,fun|17=>0|18=>2|19=>3|n=>n⟩
def Tryz.azm:Go.Proofs.LaysM.n171 Tryz.prog Tryz.azZ:={
 mixed:=by kernel_rfl
 f129:=Tryz.func263.trans (congrArg I<|by kernel_rfl)
 f171:=Tryz.func152.trans (congrArg I<|by kernel_rfl)
 f243:=Tryz.func189.trans (congrArg I<|by kernel_rfl)
 f246:=Tryz.func231.trans (congrArg I<|by kernel_rfl)
 f283:=Tryz.func252.trans (congrArg I<|by kernel_rfl)
 f284:=Tryz.func253.trans (congrArg I<|by kernel_rfl)
 f285:=Tryz.func254.trans (congrArg I<|by kernel_rfl)
 f286:=Tryz.func255.trans (congrArg I<|by kernel_rfl)
 f317:=Tryz.func262.trans (congrArg I<|by kernel_rfl)
 f318:=Tryz.func264.trans (congrArg I<|by kernel_rfl)
 f319:=Tryz.func265.trans (congrArg I<|by kernel_rfl)
 f320:=Tryz.func266.trans (congrArg I<|by kernel_rfl)
 f337:=Tryz.func274.trans (congrArg I<|by kernel_rfl)
 f338:=Tryz.func275.trans (congrArg I<|by kernel_rfl)
 t0:=Tryz.underlying0
 a0:=Tryz.isAgg0
 z0:=Tryz.sizeOf0
 v0:=Tryz.zeroValue0
 t2:=Tryz.underlying2
 a2:=Tryz.isAgg2
 z2:=Tryz.sizeOf2
 v2:=Tryz.zeroValue2
 t3:=Tryz.underlying3
 a3:=Tryz.isAgg3
 z3:=Tryz.sizeOf3
 v3:=Tryz.zeroValue3
 t4:=Tryz.underlying4
 a4:=Tryz.isAgg4
 z4:=Tryz.sizeOf4
 v4:=Tryz.zeroValue4
 t5:=Tryz.underlying5
 a5:=Tryz.isAgg5
 z5:=Tryz.sizeOf5
 v5:=Tryz.zeroValue5
 t9:=Tryz.underlying9
 a9:=Tryz.isAgg9
 z9:=Tryz.sizeOf9
 v9:=Tryz.zeroValue9
 t20:=Tryz.underlying20
 a20:=Tryz.isAgg20
 z20:=Tryz.sizeOf20
 v20:=Tryz.zeroValue20
 t37:=Tryz.underlying22
 a37:=Tryz.isAgg22
 z37:=Tryz.sizeOf22
 v37:=Tryz.zeroValue22
 t46:=Tryz.underlying239
 a46:=Tryz.isAgg239
 z46:=Tryz.sizeOf239
 v46:=Tryz.zeroValue239
 t51:=Tryz.underlying237
 a51:=Tryz.isAgg237
 z51:=Tryz.sizeOf237
 v51:=Tryz.zeroValue237
 t53:=Tryz.underlying227
 a53:=Tryz.isAgg227
 z53:=Tryz.sizeOf227
 v53:=Tryz.zeroValue227
 t171:=Tryz.underlying226
 a171:=Tryz.isAgg226
 z171:=Tryz.sizeOf226
 v171:=Tryz.zeroValue226
 t173:=Tryz.underlying230
 a173:=Tryz.isAgg230
 z173:=Tryz.sizeOf230
 v173:=Tryz.zeroValue230
 t212:=Tryz.underlying236
 a212:=Tryz.isAgg236
 z212:=Tryz.sizeOf236
 v212:=Tryz.zeroValue236
 t213:=Tryz.underlying238
 a213:=Tryz.isAgg238
 z213:=Tryz.sizeOf238
 t232:=Tryz.underlying247
 a232:=Tryz.isAgg247
 z232:=Tryz.sizeOf247
 v232:=Tryz.zeroValue247
 t233:=Tryz.underlying248
 a233:=Tryz.isAgg248
 z233:=Tryz.sizeOf248
 v233:=Tryz.zeroValue248
 g17:=by kernel_rfl
 g18:=by kernel_rfl
 g19:=by kernel_rfl
 i0:=by kernel_rfl
 i2:=by kernel_rfl
 i3:=by kernel_rfl
 i4:=by kernel_rfl
 i5:=by kernel_rfl
 i9:=by kernel_rfl
 i20:=by kernel_rfl
 i37:=by kernel_rfl
 i46:=by kernel_rfl
 i51:=by kernel_rfl
 i53:=by kernel_rfl
 i171:=by kernel_rfl
 i173:=by kernel_rfl
 i212:=by kernel_rfl
 i232:=by kernel_rfl
 i233:=by kernel_rfl
 m17:=by kernel_rfl
 m18:=by kernel_rfl
 m19:=by kernel_rfl }
def Tryz.azd:Uz:=⟨fun|145=>198|220=>238|219=>256|217=>267|225=>268|224=>269|267=>270|266=>276|314=>277|n=>n,fun|9=>9|4=>4|59=>189|3=>3|5=>5|46=>239|146=>245|51=>237|n=>n,fun|1=>1|n=>n⟩
def Tryz.azj:Go.Proofs.Lays.n145 Tryz.prog Tryz.azd:={
 mixed:=by kernel_rfl
 f145:=Tryz.func198.trans (congrArg I<|by kernel_rfl)
 f217:=Tryz.func267.trans (congrArg I<|by kernel_rfl)
 f219:=Tryz.func256.trans (congrArg I<|by kernel_rfl)
 f220:=Tryz.func238.trans (congrArg I<|by kernel_rfl)
 f224:=Tryz.func269.trans (congrArg I<|by kernel_rfl)
 f225:=Tryz.func268.trans (congrArg I<|by kernel_rfl)
 f266:=Tryz.func276.trans (congrArg I<|by kernel_rfl)
 f267:=Tryz.func270.trans (congrArg I<|by kernel_rfl)
 f314:=Tryz.func277.trans (congrArg I<|by kernel_rfl)
 t3:=Tryz.underlying3
 a3:=Tryz.isAgg3
 z3:=Tryz.sizeOf3
 v3:=Tryz.zeroValue3
 t4:=Tryz.underlying4
 a4:=Tryz.isAgg4
 z4:=Tryz.sizeOf4
 v4:=Tryz.zeroValue4
 t5:=Tryz.underlying5
 a5:=Tryz.isAgg5
 z5:=Tryz.sizeOf5
 v5:=Tryz.zeroValue5
 t9:=Tryz.underlying9
 a9:=Tryz.isAgg9
 z9:=Tryz.sizeOf9
 v9:=Tryz.zeroValue9
 t46:=Tryz.underlying239
 a46:=Tryz.isAgg239
 z46:=Tryz.sizeOf239
 v46:=Tryz.zeroValue239
 t51:=Tryz.underlying237
 a51:=Tryz.isAgg237
 z51:=Tryz.sizeOf237
 v51:=Tryz.zeroValue237
 t59:=Tryz.underlying189
 a59:=Tryz.isAgg189
 z59:=Tryz.sizeOf189
 v59:=Tryz.zeroValue189
 t146:=Tryz.underlying245
 a146:=Tryz.isAgg245
 z146:=Tryz.sizeOf245
 v146:=Tryz.zeroValue245
 g1:=by kernel_rfl }
def Tryz.aza:Uz:=⟨fun|145=>198|220=>238|219=>256|217=>267|225=>268|224=>269|267=>270|266=>276|314=>277|n=>n,fun|9=>9|4=>4|59=>189|3=>3|5=>5|46=>239|146=>245|51=>237|n=>n,fun|1=>1|n=>n⟩
def Tryz.sR:Go.Proofs.LaysM.n145 Tryz.prog Tryz.aza:={
 mixed:=by kernel_rfl
 f145:=Tryz.func198.trans (congrArg I<|by kernel_rfl)
 f217:=Tryz.func267.trans (congrArg I<|by kernel_rfl)
 f219:=Tryz.func256.trans (congrArg I<|by kernel_rfl)
 f220:=Tryz.func238.trans (congrArg I<|by kernel_rfl)
 f224:=Tryz.func269.trans (congrArg I<|by kernel_rfl)
 f225:=Tryz.func268.trans (congrArg I<|by kernel_rfl)
 f266:=Tryz.func276.trans (congrArg I<|by kernel_rfl)
 f267:=Tryz.func270.trans (congrArg I<|by kernel_rfl)
 f314:=Tryz.func277.trans (congrArg I<|by kernel_rfl)
 t3:=Tryz.underlying3
 a3:=Tryz.isAgg3
 z3:=Tryz.sizeOf3
 v3:=Tryz.zeroValue3
 t4:=Tryz.underlying4
 a4:=Tryz.isAgg4
 z4:=Tryz.sizeOf4
 v4:=Tryz.zeroValue4
 t5:=Tryz.underlying5
 a5:=Tryz.isAgg5
 z5:=Tryz.sizeOf5
 v5:=Tryz.zeroValue5
 t9:=Tryz.underlying9
 a9:=Tryz.isAgg9
 z9:=Tryz.sizeOf9
 v9:=Tryz.zeroValue9
 t46:=Tryz.underlying239
 a46:=Tryz.isAgg239
 z46:=Tryz.sizeOf239
 v46:=Tryz.zeroValue239
 t51:=Tryz.underlying237
 a51:=Tryz.isAgg237
 z51:=Tryz.sizeOf237
 v51:=Tryz.zeroValue237
 t59:=Tryz.underlying189
 a59:=Tryz.isAgg189
 z59:=Tryz.sizeOf189
 v59:=Tryz.zeroValue189
 t146:=Tryz.underlying245
 a146:=Tryz.isAgg245
 z146:=Tryz.sizeOf245
 v146:=Tryz.zeroValue245
 g1:=by kernel_rfl
 i3:=by kernel_rfl
 i4:=by kernel_rfl
 i5:=by kernel_rfl
 i9:=by kernel_rfl
 i46:=by kernel_rfl
 i51:=by kernel_rfl
 i59:=by kernel_rfl
 i146:=by kernel_rfl
 m1:=by kernel_rfl
 s1_3:=λw h=>Go.Proofs.cell_of_shapedOpen_int (zero:= #[.int .i64 0]) (t:=3) h (of_decide_eq_true<|by kernel_rfl) (by kernel_rfl) rfl (by kernel_rfl) (by kernel_rfl) Tryz.underlying3 }
def Tryz.azc:Uz:=⟨fun|146=>203|221=>243|268=>257|138=>258|143=>259|195=>271|197=>272|218=>273|219=>256|260=>278|217=>267|225=>268|224=>269|267=>270|266=>276|314=>277|n=>n,fun|9=>9|31=>101|3=>3|4=>4|0=>0|105=>242|21=>21|5=>5|46=>239|119=>249|139=>252|138=>251|146=>245|51=>237|n=>n,fun|1=>1|3=>4|4=>5|n=>n⟩
def Tryz.azi:Go.Proofs.Lays.n146 Tryz.prog Tryz.azc:={
 mixed:=by kernel_rfl
 f138:=Tryz.func258.trans (congrArg I<|by kernel_rfl)
 f143:=Tryz.func259.trans (congrArg I<|by kernel_rfl)
 f146:=Tryz.func203.trans (congrArg I<|by kernel_rfl)
 f195:=Tryz.func271.trans (congrArg I<|by kernel_rfl)
 f197:=Tryz.func272.trans (congrArg I<|by kernel_rfl)
 f217:=Tryz.func267.trans (congrArg I<|by kernel_rfl)
 f218:=Tryz.func273.trans (congrArg I<|by kernel_rfl)
 f219:=Tryz.func256.trans (congrArg I<|by kernel_rfl)
 f221:=Tryz.func243.trans (congrArg I<|by kernel_rfl)
 f224:=Tryz.func269.trans (congrArg I<|by kernel_rfl)
 f225:=Tryz.func268.trans (congrArg I<|by kernel_rfl)
 f260:=Tryz.func278.trans (congrArg I<|by kernel_rfl)
 f266:=Tryz.func276.trans (congrArg I<|by kernel_rfl)
 f267:=Tryz.func270.trans (congrArg I<|by kernel_rfl)
 f268:=Tryz.func257.trans (congrArg I<|by kernel_rfl)
 f314:=Tryz.func277.trans (congrArg I<|by kernel_rfl)
 t0:=Tryz.underlying0
 a0:=Tryz.isAgg0
 z0:=Tryz.sizeOf0
 v0:=Tryz.zeroValue0
 t3:=Tryz.underlying3
 a3:=Tryz.isAgg3
 z3:=Tryz.sizeOf3
 v3:=Tryz.zeroValue3
 t4:=Tryz.underlying4
 a4:=Tryz.isAgg4
 z4:=Tryz.sizeOf4
 v4:=Tryz.zeroValue4
 t5:=Tryz.underlying5
 a5:=Tryz.isAgg5
 z5:=Tryz.sizeOf5
 v5:=Tryz.zeroValue5
 t9:=Tryz.underlying9
 a9:=Tryz.isAgg9
 z9:=Tryz.sizeOf9
 v9:=Tryz.zeroValue9
 t21:=Tryz.underlying21
 a21:=Tryz.isAgg21
 z21:=Tryz.sizeOf21
 v21:=Tryz.zeroValue21
 t31:=Tryz.underlying101
 a31:=Tryz.isAgg101
 z31:=Tryz.sizeOf101
 v31:=Tryz.zeroValue101
 t46:=Tryz.underlying239
 a46:=Tryz.isAgg239
 z46:=Tryz.sizeOf239
 v46:=Tryz.zeroValue239
 t51:=Tryz.underlying237
 a51:=Tryz.isAgg237
 z51:=Tryz.sizeOf237
 v51:=Tryz.zeroValue237
 t105:=Tryz.underlying242
 a105:=Tryz.isAgg242
 z105:=Tryz.sizeOf242
 v105:=Tryz.zeroValue242
 t119:=Tryz.underlying249
 a119:=Tryz.isAgg249
 z119:=Tryz.sizeOf249
 t138:=Tryz.underlying251
 a138:=Tryz.isAgg251
 z138:=Tryz.sizeOf251
 v138:=Tryz.zeroValue251
 t139:=Tryz.underlying252
 a139:=Tryz.isAgg252
 z139:=Tryz.sizeOf252
 v139:=Tryz.zeroValue252
 t146:=Tryz.underlying245
 a146:=Tryz.isAgg245
 z146:=Tryz.sizeOf245
 v146:=Tryz.zeroValue245
 g1:=by kernel_rfl
 g3:=by kernel_rfl
 g4:=by kernel_rfl }
def Tryz.azb:Uz:=⟨fun|147=>240|221=>243|268=>257|138=>258|143=>259|195=>271|197=>272|218=>273|219=>256|260=>278|217=>267|225=>268|224=>269|267=>270|266=>276|314=>277|n=>n,fun|9=>9|3=>3|31=>101|4=>4|0=>0|105=>242|21=>21|5=>5|46=>239|119=>249|139=>252|138=>251|146=>245|51=>237|n=>n,fun|1=>1|3=>4|4=>5|n=>n⟩
def Tryz.azh:Go.Proofs.Lays.n147 Tryz.prog Tryz.azb:={
 mixed:=by kernel_rfl
 f138:=Tryz.func258.trans (congrArg I<|by kernel_rfl)
 f143:=Tryz.func259.trans (congrArg I<|by kernel_rfl)
 f147:=Tryz.func240.trans (congrArg I<|by kernel_rfl)
 f195:=Tryz.func271.trans (congrArg I<|by kernel_rfl)
 f197:=Tryz.func272.trans (congrArg I<|by kernel_rfl)
 f217:=Tryz.func267.trans (congrArg I<|by kernel_rfl)
 f218:=Tryz.func273.trans (congrArg I<|by kernel_rfl)
 f219:=Tryz.func256.trans (congrArg I<|by kernel_rfl)
 f221:=Tryz.func243.trans (congrArg I<|by kernel_rfl)
 f224:=Tryz.func269.trans (congrArg I<|by kernel_rfl)
 f225:=Tryz.func268.trans (congrArg I<|by kernel_rfl)
 f260:=Tryz.func278.trans (congrArg I<|by kernel_rfl)
 f266:=Tryz.func276.trans (congrArg I<|by kernel_rfl)
 f267:=Tryz.func270.trans (congrArg I<|by kernel_rfl)
 f268:=Tryz.func257.trans (congrArg I<|by kernel_rfl)
 f314:=Tryz.func277.trans (congrArg I<|by kernel_rfl)
 t0:=Tryz.underlying0
 a0:=Tryz.isAgg0
 z0:=Tryz.sizeOf0
 v0:=Tryz.zeroValue0
 t3:=Tryz.underlying3
 a3:=Tryz.isAgg3
 z3:=Tryz.sizeOf3
 v3:=Tryz.zeroValue3
 t4:=Tryz.underlying4
 a4:=Tryz.isAgg4
 z4:=Tryz.sizeOf4
 v4:=Tryz.zeroValue4
 t5:=Tryz.underlying5
 a5:=Tryz.isAgg5
 z5:=Tryz.sizeOf5
 v5:=Tryz.zeroValue5
 t9:=Tryz.underlying9
 a9:=Tryz.isAgg9
 z9:=Tryz.sizeOf9
 v9:=Tryz.zeroValue9
 t21:=Tryz.underlying21
 a21:=Tryz.isAgg21
 z21:=Tryz.sizeOf21
 v21:=Tryz.zeroValue21
 t31:=Tryz.underlying101
 a31:=Tryz.isAgg101
 z31:=Tryz.sizeOf101
 v31:=Tryz.zeroValue101
 t46:=Tryz.underlying239
 a46:=Tryz.isAgg239
 z46:=Tryz.sizeOf239
 v46:=Tryz.zeroValue239
 t51:=Tryz.underlying237
 a51:=Tryz.isAgg237
 z51:=Tryz.sizeOf237
 v51:=Tryz.zeroValue237
 t105:=Tryz.underlying242
 a105:=Tryz.isAgg242
 z105:=Tryz.sizeOf242
 v105:=Tryz.zeroValue242
 t119:=Tryz.underlying249
 a119:=Tryz.isAgg249
 z119:=Tryz.sizeOf249
 t138:=Tryz.underlying251
 a138:=Tryz.isAgg251
 z138:=Tryz.sizeOf251
 v138:=Tryz.zeroValue251
 t139:=Tryz.underlying252
 a139:=Tryz.isAgg252
 z139:=Tryz.sizeOf252
 v139:=Tryz.zeroValue252
 t146:=Tryz.underlying245
 a146:=Tryz.isAgg245
 z146:=Tryz.sizeOf245
 v146:=Tryz.zeroValue245
 g1:=by kernel_rfl
 g3:=by kernel_rfl
 g4:=by kernel_rfl }
open Go.RowKit Go.Sort Go.Lib in
theorem Tryz.strconv_Itoa (n:Int) (h0: -9223372036854775808<=n) (h1:n<=9223372036854775807) (w:World) (ak:Mv Tryz.prog w "internal/strconv.uint64pow10" .u64 Nv):
  Calls Tryz.prog 152 #[.int .i64 n] w λe w'=>e= .returned (.string ⟨(BA n).toArray⟩)/\ ∃k os,w'=grow (w.drewN k) os:=Any.strconv_Itoa Tryz.azm n h0 h1 w ak
open Go.RowKit Go.Lib in
theorem Tryz.strings_Cut (s sep:ByteArray) (m:Int) (w:World) (hs:s.size<4294967281) (hm:w.cell? ⟨1,0,A0⟩=I (.int .i64 m)):
  Calls Tryz.prog 198 #[.string s,.string sep] w λe w'=>e= .returned (.tuple #[.string ⟨(Fp s.data.toList sep.data.toList).1.toArray⟩,.string ⟨(Fp s.data.toList sep.data.toList).2.1.toArray⟩,.bool (Fp s.data.toList sep.data.toList).2.2])/\ ∃n,w'=w.drewN n:=Any.strings_Cut Tryz.azj s sep m w hs hm
open Go.RowKit Go.Lib in
theorem Tryz.strings_Split (s sep:ByteArray) (m:Int) (w:World) (hs:s.size<4294967281) (hm:w.cell? ⟨1,0,A0⟩=I (.int .i64 m)) (h1:1<=sep.size):
  Calls Tryz.prog 203 #[.string s,.string sep] w λe w'=>
   e= .returned (.slice (I ⟨w.heap.size,0,A0⟩) (Nn s sep+1)<|Nn s sep+1)/\w'=w.alloc (.cells ((JD sep 0 (Nn s sep) s).map bS).toArray 9):=Any.strings_Split Tryz.azi (by kernel_rfl) s sep m w hs hm h1
open Go.RowKit Go.Lib in
theorem Tryz.strings_SplitN (s sep:ByteArray) (n:Nat) (m:Int) (w:World) (hs:s.size<4294967281) (hm:w.cell? ⟨1,0,A0⟩=I (.int .i64 m)) (h1:1<=sep.size) (hn:1<=n) (aF7:n<=9223372036854775807):
  Calls Tryz.prog 240 #[.string s,.string sep,.int .i64 n] w λe w'=>
   e= .returned (.slice (I ⟨w.heap.size,0,A0⟩) (JD sep 0 (min n (s.size+1) - 1) s).length<|min n<|s.size+1)/\w'=w.alloc (.cells (bQ (JD sep 0 (min n (s.size+1) - 1) s)<|min n<|s.size+1) 9):=Any.strings_SplitN Tryz.azh (by kernel_rfl) s sep n m w hs hm h1 hn aF7
end Go.Proofs
namespace Go.VS
open Go Go.Proofs
set_option linter.unusedVariables false
set_option maxRecDepth 100000
abbrev t1(v:Adv):Adv:= .two .nil v
def sk{P:Program}{C:Cx}{inl:(Ω:Type)->Inl Ω}{f:Nat}{d:Option Nat}{fn:Func}{m:Dd}{v:Adv}{ls:List (Code×Loop)}(hC:OKC P C inl)(hl:LpK P fn.ntmps (EC 0 m.ps) ls)
  (hf:fnB P f fn m=(I fn,A3,U,U):=by kernel_rfl)(hb:fn.body=I (LZ fn):=by kernel_rfl)(h:GB (LZ fn) v=ls:=by kernel_rfl)(hg:∀x,cw C inl fn v m x=m.g x:=by intro _;kernel_rfl):SQ P (f,d,m):=
 so hC hf hb h hl hg
def sq{P:Program}{C:Cx}{inl:(Ω:Type)->Inl Ω}(hC:OKC P C inl){n:Nat}{pins:List Nat}{body:Code}{v:Adv}{l:Loop}{b:Lv l.sch->Option (Lv l.sch ⊕ (Lv l.L4 ⊕ Lv l.L5))}{ls:List (Code×Loop)}
  (hl:LpK P n pins ls)(hb:∀x,evL C inl n pins body v l x=b x:=by intro _;kernel_rfl)(hr:l.run=AW b:=by rfl)(h:GB body v=ls:=by kernel_rfl):LpK P n pins [(body,l)]:=lk hC hb hr h hl
def kd:TypeId->Option K
 | 2=>I .int
 | 3=>I .int
 | 4=>I .bool
 | 5=>I .u8
 | 9=>I .str
 | 10=>I .str
 | 11=>I .str
 | 36=>I .note
 | 39=>I .keep
 | 45=>I .AN
 | 51=>I .CO
 | 59=>I .Ak
 | 61=>I .mark
 | 107=>I .half
 | 124=>I .frame
 | 142=>I .mixed
 | _=>A0
abbrev Y0:Type:=List Int×Int×A2
abbrev Z0:Sh:= .box 92 [.fz .u8,.int .i64]
abbrev Y1:Type:=Int×Bool×A4×Int×List AJ×A2
abbrev Z1:Sh:= .agg [.int .i64,.bool,.str,.int .i64,.row 107 .half]
abbrev Y2:Type:=Int×List AA×List Bool×List AO×List A6×List A6×A2
abbrev Z2:Sh:= .box 31 [.int .i64,.row 45 .AN,.row 4 .bool,.row 59 .Ak,.row 36 .note,.row 36 .note]
abbrev Z3:Sh:= .agg [.int .i64,.row 45 .AN,.row 4 .bool,.row 59 .Ak,.row 36 .note,.row 36 .note]
abbrev Y3:Type:=Int×Int×Int×List A6×List Mark×List A6×A2
abbrev Z4:Sh:= .agg [.int .i64,.int .i64,.int .i64,.row 36 .note,.row 61 .mark,.row 36 .note]
abbrev Y4:Type:=Int×Int×Int×Int×A4×A2
abbrev Z5:Sh:= .box 36 [.int .i64,.int .i64,.int .i64,.int .i64,.str]
abbrev Z6:Sh:= .agg [.int .i64,.int .i64,.int .i64,.int .i64,.str]
abbrev Z7:Sh:= .box 39 [.int .i64,.int .i64,.int .i64,.sl .note,.sl .mark,.sl .note]
abbrev Z8:Sh:= .agg [.int .i64,.int .i64,.int .i64,.fz .note,.fz .mark,.fz .note]
abbrev Z9:Sh:= .box 39 [.int .i64,.int .i64,.int .i64,.row 36 .note,.row 61 .mark,.row 36 .note]
abbrev Y5:Type:=Int×Int×Int×A2
abbrev Z10:Sh:= .box 61 [.int .i64,.int .i64,.int .i64]
abbrev Z11:Sh:= .agg [.int .i64,.int .i64,.int .i64]
abbrev Z12:Sh:= .agg [.int .i64,.bool,.str,.int .i64,.fz .half]
abbrev Y6:Type:=Int×Int×Int×Int×Int×Int×Int×Int×Int×A4×A2
abbrev Z13:Sh:= .agg [.int .i64,.int .i64,.int .i64,.int .i64,.int .i64,.int .i64,.int .i64,.int .i64,.int .i64,.str]
abbrev Z14:Sh:= .box 124 [.int .i64,.int .i64,.int .i64,.int .i64,.int .i64,.int .i64,.int .i64,.int .i64,.int .i64,.str]
abbrev Y7:Type:=A4×Int×A2
abbrev Z15:Sh:= .agg [.str,.int .i64]
abbrev Y8:Type:=Int×A4×A2
abbrev Z16:Sh:= .agg [.int .i64,.str]
abbrev Y9:Type:=Int×Int×Int×Int×Int×List AX×A2
abbrev Z17:Sh:= .box 107 [.int .i64,.int .i64,.int .i64,.int .i64,.int .i64,.sl .mixed]
abbrev Z18:Sh:= .agg [.int .i64,.int .i64,.int .i64,.int .i64,.int .i64,.fz .mixed]
abbrev Z19:Sh:= .box 45 [.int .i64,.bool,.str,.int .i64,.sl .half]
abbrev Z20:Sh:= .box 45 [.int .i64,.bool,.str,.int .i64,.row 107 .half]
abbrev Z21:Sh:= .box 42 [.str,.int .i64]
abbrev Y10:Type:=Y0×Int×List AA×List Bool×List AO×List A6×List A6×List Event×A2
abbrev Z22:Sh:= .box 69 [Z0,.int .i64,.row 45 .AN,.row 4 .bool,.row 59 .Ak,.row 36 .note,.row 36 .note,.row 51 .CO]
abbrev Z23:Sh:= .box 92 [.sl .u8,.int .i64]
abbrev Z24:Sh:= .box 69 [Z23,.int .i64,.row 45 .AN,.row 4 .bool,.row 59 .Ak,.row 36 .note,.row 36 .note,.row 51 .CO]
abbrev Z25:Sh:= .box 51 [.int .i64,.int .i64,.int .i64,.int .i64,.int .i64,.int .i64,.int .i64,.int .i64,.int .i64,.str]
abbrev Y11:Type:=A2×Int×List AA×List Bool×List AO×List A6×List A6×List Event×A2
abbrev Z28:Sh:= .box 69 [.same 0,.int .i64,.row 45 .AN,.row 4 .bool,.row 59 .Ak,.row 36 .note,.row 36 .note,.row 51 .CO]
abbrev Z29:Sh:= .box 31 [.int .i64,.sl .AN,.sl .bool,.sl .Ak,.sl .note,.sl .note]
abbrev Z30:Sh:= .agg [.int .i64,.fz .AN,.fz .bool,.fz .Ak,.fz .note,.fz .note]
abbrev Z31:Sh:= .box 39 [.int .i64,.int .i64,.int .i64,.row 36 .note,.row 61 .mark,.sl .note]
abbrev Z32:Sh:= .box 142 [.int .i64,.str]
abbrev Y12:Type:=Int×Int×A4×Bool×A2
abbrev Z33:Sh:= .box 59 [.int .i64,.int .i64,.str,.bool]
abbrev Z34:Sh:= .box 45 [.int .i64,.bool,.str,.int .i64,.fz .half]
abbrev Z35:Sh:= .box 31 [.int .i64,.fz .AN,.fz .bool,.fz .Ak,.fz .note,.fz .note]
abbrev Rnd(a b c:Type):=Option<|a ⊕ (b ⊕ c)
noncomputable abbrev cX(l:List Ent)(cz sp:List (Nat×Nat)):Cx:=⟨Tryz.prog,kd,gam l,inR cz,inR sp⟩
abbrev LF(fn:Func)(pins path:List Nat)(l:Loop):=LpK Tryz.prog fn.ntmps pins [(Pt path<|LZ fn,l)]
def mixed:Tryz.prog.follows .mixedOrders=U:=by kernel_rfl
def JH:(Int×A2)->Option ((A4×A2)×(A2)):=VK
def T7:Ent:=(152,A0,⟨[.int .i64],[.str],JH⟩)
def Vz:SQ Tryz.prog T7:=⟨arm (Ow Tryz.func152 (by kernel_rfl) (by kernel_rfl:Tryz.f152.body=I (LZ Tryz.f152))) (by kernel_rfl) Tryz.strconv_Itoa,by kernel_rfl⟩
def XS:(A4×A4×A2)->Option ((A4×A4×Bool×A2)×(A2)):=Q2
def aDM:Ent:=(198,A0,⟨[.str,.str],[.str,.str,.bool],XS⟩)
def aeu:SQ Tryz.prog aDM:=⟨atu (gm:=1) (Ow Tryz.func198 (by kernel_rfl) (by kernel_rfl:Tryz.f198.body=I (LZ Tryz.f198))) (BX<|by kernel_rfl) (λw h=>Tryz.sR.s1_3 w h) Tryz.strings_Cut,by kernel_rfl⟩
def iD:(A4×A4×A2)->Option ((List A4×A2)×(A2)):=V4
def aBA:Ent:=(203,A0,⟨[.str,.str],[.row 9 .str],iD⟩)
def adO:SQ Tryz.prog aBA:=⟨ar8 (gm:=1) (Ow Tryz.func203 (by kernel_rfl) (by kernel_rfl:Tryz.f203.body=I (LZ Tryz.f203))) (BX<|by kernel_rfl) (λw h=>Tryz.sR.s1_3 w h) Tryz.strings_Split,by kernel_rfl⟩
def vj:(A4×A4×Int×A2)->Option ((List A4×A2)×(A2)):=UB
def zm:Ent:=(240,A0,⟨[.str,.str,.int .i64],[.row 9 .str],vj⟩)
def ad0:SQ Tryz.prog zm:=⟨aqb (gm:=1) (Ow Tryz.func240 (by kernel_rfl) (by kernel_rfl:Tryz.f240.body=I (LZ Tryz.f240))) (BX<|by kernel_rfl) (λw h=>Tryz.sR.s1_3 w h) Tryz.strings_SplitN,by kernel_rfl⟩
def anY:Cx:=cX [] [] []
def aqC:OKC Tryz.prog anY AI:=okc mixed<|AL
def jU(x:List Int×A2):Option ((Y0×A2)×A2):=if A1 (2000<(x.1.length:Int)) then if A1 (0<=2000)&&A1 (2000<=(x.1.length:Int)) then let a:=(BS (AR 2000) x.1);I (((a,0,()),()),()) else A0 else I (((x.1,0,()),()),())
def aDN:Ent:=(32,A0,⟨[.fz .u8],[Z0],jU⟩)
def aev:SQ Tryz.prog aDN:=sk (v:= .nil) (fn:=Tryz.f32) aqC kN
def agu:Cx:=cX [] [] [(18,23)]
def aij:OKC Tryz.prog agu AI:=okc mixed<|AL
def Co(x:Y0×Int×A2):Option ((Int×A2)×(Y0×A2)):=if(A1<|x.2.1<1)||(A1<|(x.1.1.length:Int)=0) then I ((0,()),((x.1.1,(w64<|x.1.2.1+1),()),())) else let a:=(w64<|(w64<|x.1.2.1+1) - 1);(if A1 (a<(x.1.1.length:Int)) then if inb a x.1.1.length then if !decide (x.2.1=0) then let c:=(BO (w64<|rd (dfl .u8) x.1.1 a) x.2.1);I ((c,()),((x.1.1,(w64<|x.1.2.1+1),()),())) else A0 else A0 else if !decide ((x.1.1.length:Int)=0) then if inb (BO a (x.1.1.length:Int)) x.1.1.length then if !decide ((x.1.1.length:Int)=0) then if inb (BO (w64<|(w64<|a * 7)+3) (x.1.1.length:Int)) x.1.1.length then if !decide ((x.1.1.length:Int)=0) then let b:=(w64<|(w64<|(w64<|(w64<|(w64<|rd (dfl .u8) x.1.1<|BO a (x.1.1.length:Int)) * 131)+(w64<|(w64<|rd (dfl .u8) x.1.1<|BO (w64<|(w64<|a * 7)+3) (x.1.1.length:Int)) * 1117))+(w64<|a * 29))+(w64<|(w64<|B5 a (x.1.1.length:Int)) * 53));let d:=(E4 .i64 b<|w64<|B5 b 64);(if !decide (x.2.1=0) then I (((BO d x.2.1),()),((x.1.1,(w64<|x.1.2.1+1),()),())) else A0) else A0 else A0 else A0 else A0 else A0)
def M3:Ent:=(33,A0,⟨[Z0,.int .i64],[.int .i64],Co⟩)
def N8:SQ Tryz.prog M3:=sk (v:= .nil) (fn:=Tryz.f33) aij kN
def aqw:Cx:=cX [] [] [(11,13)]
def arK:OKC Tryz.prog aqw AI:=okc mixed<|AL
def DL(x:Int×Int×Int×A2):Option ((Bool×A2)×A2):=let a:=((A1<|x.2.1<=x.1)&&(A1<|x.1<=x.2.2.1));I ((a,()),())
def HK:Ent:=(56,A0,⟨[.int .i64,.int .i64,.int .i64],[.bool],DL⟩)
def Hk:SQ Tryz.prog HK:=sk (v:= .nil) (fn:=Tryz.f56) arK kN
def ahl:Cx:=cX [HK] [] []
def akU:OKC Tryz.prog ahl AI:=okc mixed<|gC Hk<|AL
def Fq(x:Int×A2):Option ((Bool×A2)×A2):=(DL (x.1,0,3,())).bind λa=>I (a.1,())
def Il:Ent:=(58,A0,⟨[.int .i64],[.bool],Fq⟩)
def JF:SQ Tryz.prog Il:=sk (v:= .nil) (fn:=Tryz.f58) akU kN
def adp:Cx:=cX [Il] [] []
def af4:OKC Tryz.prog adp AI:=okc mixed<|gC JF<|AL
def W3(x:Int×A2):Option ((Y1×A2)×A2):=(Fq x).bind λa=>if !a.1.1 then I (((0,A3,noB,0,([]:List AJ),()),()),()) else I (((x.1,U,noB,0,([]:List AJ),()),()),())
def xk:Ent:=(64,A0,⟨[.int .i64],[Z1],W3⟩)
def ach:SQ Tryz.prog xk:=sk (v:= .nil) (fn:=Tryz.f64) af4 kN
def afS:Cx:=cX [xk] [] []
def vi:OKC Tryz.prog afS AI:=okc mixed<|gC ach<|AL
def W1(x:Y2×Y2×Int×A2):Rnd (Y2×Y2×Int×A2) (A2) (Y2×Y2×A2):=if A1 ((w64<|x.2.2.1+1)<4) then if Af (x.2.1.2.2.1.length+([U]:List Bool).length) then I (.inl (x.1,(x.2.1.1,x.2.1.2.1,(x.2.1.2.2.1++([U]:List Bool)),x.2.1.2.2.2),(w64<|x.2.2.1+1),())) else A0 else I (.inr<|.inr (x.1,x.2.1,()))
def tM:=AW W1
def wq:Loop:=⟨[(0,Z2),(1,Z2),(3,.int .i64)],[(0,Z2),(1,Z2)],2,[],tM⟩
def aea:LF Tryz.f35 [] [1,1,1,0,1,0,0] wq:=sq (v:= .nil) vi (b:=W1) kN
def eJ(x:Y2×Y2×Int×A2):Rnd (Y2×Y2×Int×A2) (A2) (Y2×Y2×A2):=if A1 (x.2.2.1<4) then(W3 x.2.2).bind λa=>if Af (x.2.1.2.1.length+([(AA.mk a.1.1.1 a.1.1.2.1 a.1.1.2.2.1 a.1.1.2.2.2.1 a.1.1.2.2.2.2.1)]:List AA).length) then I (.inl (x.1,(x.2.1.1,(x.2.1.2.1++([(AA.mk a.1.1.1 a.1.1.2.1 a.1.1.2.2.1 a.1.1.2.2.2.1 a.1.1.2.2.2.2.1)]:List AA)),x.2.1.2.2),(w64<|x.2.2.1+1),())) else A0 else I (.inr<|.inr (x.1,x.2.1,()))
def tD:=AW eJ
def wu:Loop:=⟨[(0,Z2),(1,Z2),(2,.int .i64)],[(0,Z2),(1,Z2)],0,[],tD⟩
def aee:LF Tryz.f35 [] [1,1,0,1,0,0] wu:=sq (v:= .nil) vi (b:=eJ) kN
def Si(x:A2):Option ((Y2×A2)×A2):=(AP (tD ((0,([]:List AA),([]:List Bool),([]:List AO),([]:List A6),([]:List A6),()),(0,([]:List AA),([]:List Bool),([]:List AO),([]:List A6),([]:List A6),()),0,())) (λ_=>A0) λa=>(AP (tM (a.1,a.2.1,0,())) (λ_=>A0) λb=>I (b.2,())))
def vr:Ent:=(35,A0,⟨[],[Z3],Si⟩)
def abr:SQ Tryz.prog vr:=sk (v:=t1<|t1<|.two (t1<|.one<|.loop wu)<|.two (t1<|.one<|.loop wq) .nil) (fn:=Tryz.f35) vi<|kC aee<|kC aea kN
def Gt(abV:(Int×A2)->Option ((A4×A2)×(A2)))(x:Int×A2):Option ((A4×A2)×A2):=
 if A1 (x.1<(-9223372036854775807)) then
 let v2:=(B [45,57,50,50,51,51,55,50,48,51,54,56,53,52,55,55,53,56,48,56])
 I ((v2,()),())
 else
 if A1 (x.1<0) then
 (abV ((w64<|0 - x.1),())).bind λr4=>
 if A1 ((B [45]).size+r4.1.1.size<=4611686018427387904) then
 I ((((B [45])++r4.1.1),()),())
 else A0
 else
 if A1 (x.1<10) then
 let v6:=(BK ([(w8<|w64<|48+x.1)]:List Int))
 I ((v6,()),())
 else
 (abV ((w64<|B5 x.1 10),())).bind λr7=>
 if A1 (r7.1.1.size+(BK ([(w8<|w64<|48+(BO x.1 10))]:List Int)).size<=4611686018427387904) then
 let v8:=(r7.1.1++(BK ([(w8<|w64<|48+(BO x.1 10))]:List Int)))
 I ((v8,()),())
 else A0
def Dc:=OA Gt
def apv(g:(Int×A2)->Option ((A4×A2)×(A2))):Cx:=cX [(168,A0,⟨[.int .i64],[.str],g⟩)] [] []
def aqk(g:(Int×A2)->Option ((A4×A2)×(A2)))(h:SQ Tryz.prog (168,A0,⟨[.int .i64],[.str],g⟩)):OKC Tryz.prog (apv g) AI:=okc mixed<|gC h<|AL
def Oh:Ent:=(168,A0,⟨[.int .i64],[.str],Dc⟩)
def QN:SQ Tryz.prog Oh:=soR (Ow (by kernel_rfl:Tryz.prog.funcs[168]? =I Tryz.f168) (by kernel_rfl) (by kernel_rfl:Tryz.f168.body=I (LZ Tryz.f168))) (λ_=>by kernel_rfl) λg h=>so (v:= .nil) (fn:=Tryz.f168) (aqk g h) (by kernel_rfl) (by kernel_rfl) (by kernel_rfl) kN λ_=>by kernel_rfl
def apw:Cx:=cX [Oh] [] [(9,11),(24,27)]
def aDh:OKC Tryz.prog apw AI:=okc mixed<|gC QN<|AL
def jV(x:A4×Int×Int×A2):Rnd (A4×Int×Int×A2) (Int×A2) (A4×Int×A2):=if A1 (x.2.2.1<(x.1.size:Int)) then if inb x.2.2.1 x.1.size then if Ah (!(A1<|(bt x.1 x.2.2.1)<48)) (inb x.2.2.1 x.1.size) then if(A1<|(bt x.1 x.2.2.1)<48)||(A1<|57<(bt x.1 x.2.2.1)) then I (.inr<|.inl ((-1),())) else if inb x.2.2.1 x.1.size then let a:=(w64<|(w64<|x.2.1 * 10)+(w64<|w8<|(bt x.1 x.2.2.1) - 48));I (.inl (x.1,a,(w64<|x.2.2.1+1),())) else A0 else A0 else A0 else I (.inr<|.inr (x.1,x.2.1,()))
def vh:=AW jV
def aB3:Loop:=⟨[(0,.str),(3,.int .i64),(4,.int .i64)],[(0,.str),(3,.int .i64)],0,[(2,.int .i64)],vh⟩
def ap4:LF Tryz.f161 [] [1,1,1,0,1,0,0] aB3:=sq (v:= .nil) aDh (b:=jV) kN
def Qh(x:A4×A2):Option ((Int×A2)×A2):=if(A1<|(x.1.size:Int)<1)||(A1<|4<(x.1.size:Int)) then I (((-1),()),()) else(AP (vh (x.1,0,0,())) (λa=>I (a,())) λa=>(Dc a.2).bind λb=>if !decide (b.1.1=a.1) then I (((-1),()),()) else I (a.2,()))
def YM:Ent:=(161,A0,⟨[.str],[.int .i64],Qh⟩)
def vg:SQ Tryz.prog YM:=sk (v:=t1<|t1<|t1<|.two (t1<|.one<|.loop aB3) .nil) (fn:=Tryz.f161) aDh<|kC ap4 kN
def anT:Cx:=cX [YM] [] [(11,12)]
def aD3:OKC Tryz.prog anT AI:=okc mixed<|gC vg<|AL
def OU(x:A4×Int×A2):Rnd (A4×Int×A2) (A4×Int×A2) (A2):=if(A1<|x.2.1<(x.1.size:Int))&&(A1<|x.2.1<3) then if inb x.2.1 x.1.size then if !decide ((bt x.1 x.2.1)=58) then I (.inl (x.1,(w64<|x.2.1+1),())) else if A1 (0<=x.2.1)&&A1 (x.2.1<=(x.1.size:Int)) then(Qh ((x.1.extract (0)<|AR x.2.1),())).bind λa=>if A1 (a.1.1<1) then I (.inr<|.inl (noB,0,())) else if A1 (60<a.1.1) then I (.inr<|.inl (noB,0,())) else if A1 ((x.1.size:Int)<(w64<|(w64<|x.2.1+2)+a.1.1)) then I (.inr<|.inl (noB,0,())) else if inb (w64<|(w64<|x.2.1+1)+a.1.1) x.1.size then if !decide ((bt x.1<|w64<|(w64<|x.2.1+1)+a.1.1)=59) then I (.inr<|.inl (noB,0,())) else if(A1 (0<=(w64<|(w64<|x.2.1+1)+a.1.1))&&A1 ((w64<|(w64<|x.2.1+1)+a.1.1)<=(x.1.size:Int)))&&(A1 (0<=(w64<|x.2.1+1))&&A1 ((w64<|x.2.1+1)<=(w64<|(w64<|x.2.1+1)+a.1.1))) then let b:=(x.1.extract (AR<|w64<|x.2.1+1)<|AR<|w64<|(w64<|x.2.1+1)+a.1.1);let c:=(w64<|(w64<|x.2.1+2)+a.1.1);I (.inr<|.inl (b,c,())) else A0 else A0 else A0 else A0 else I (.inr<|.inr ())
def vQ:=AW OU
def aAa:Loop:=⟨[(0,.str),(4,.int .i64)],[],0,[(2,.str),(3,.int .i64)],vQ⟩
def an6:LF Tryz.f123 [] [1,0,1,0,0] aAa:=sq (v:= .nil) aD3 (b:=OU) kN
def jb(x:A4×A2):Option ((A4×Int×A2)×A2):=(AP (vQ (x.1,0,())) (λa=>I (a,())) λa=>I ((noB,0,()),()))
def aCl:Ent:=(123,A0,⟨[.str],[.str,.int .i64],jb⟩)
def afj:SQ Tryz.prog aCl:=sk (v:=t1<|.two (t1<|.one<|.loop aAa) .nil) (fn:=Tryz.f123) aD3<|kC an6 kN
def agx:Cx:=cX [aCl] [] []
def zX:OKC Tryz.prog agx AI:=okc mixed<|gC afj<|AL
def Sf(x:A4×List A4×Int×A2):Rnd (A4×List A4×Int×A2) (List A4×Int×A2) (List A4×Int×A2):=if A1 (x.2.2.1<(x.1.size:Int)) then if A1 (0<=x.2.2.1)&&A1 (x.2.2.1<=(x.1.size:Int)) then(jb ((x.1.extract (AR x.2.2.1)<|x.1.size),())).bind λa=>if A1 (a.1.2.1=0) then I (.inr<|.inl x.2) else if Af (x.2.1.length+([a.1.1]:List A4).length) then let b:=(w64<|x.2.2.1+a.1.2.1);I (.inl (x.1,(x.2.1++([a.1.1]:List A4)),b,())) else A0 else A0 else I (.inr<|.inr x.2)
def u7:=AW Sf
def xM:Loop:=⟨[(0,.str),(4,.row 9 .str),(5,.int .i64)],[(4,.row 9 .str),(5,.int .i64)],0,[(2,.row 9 .str),(3,.int .i64)],u7⟩
def agK:LF Tryz.f87 [] [1,1,1,0,0,0] xM:=sq (v:= .nil) zX (b:=Sf) kN
def Lz(x:A4×A2):Option ((List A4×Int×A2)×A2):=(AP (u7 (x.1,([]:List A4),0,())) (λa=>I (a,())) λa=>I (a,()))
def Wg:Ent:=(87,A0,⟨[.str],[.row 9 .str,.int .i64],Lz⟩)
def dW:SQ Tryz.prog Wg:=sk (v:=t1<|t1<|t1<|.two (.one<|.loop xM) .nil) (fn:=Tryz.f87) zX<|kC agK kN
def agY:Cx:=cX [Il] [] []
def aiD:OKC Tryz.prog agY AI:=okc mixed<|gC JF<|AL
def gR(x:Int×A2):Option ((Y3×A2)×A2):=(Fq x).bind λa=>if !a.1.1 then I (((0,0,0,([]:List A6),([]:List Mark),([]:List A6),()),()),()) else I (((x.1,0,1,([]:List A6),([]:List Mark),([]:List A6),()),()),())
def zt:Ent:=(124,A0,⟨[.int .i64],[Z4],gR⟩)
def acm:SQ Tryz.prog zt:=sk (v:= .nil) (fn:=Tryz.f124) aiD kN
def anU:Cx:=cX [HK,Il] [] [(51,55)]
def aD4:OKC Tryz.prog anU AI:=okc mixed<|gC Hk<|gC JF<|AL
def ie(x:Y4×Int×A2):Rnd (Y4×Int×A2) (Bool×A2) (A2):=if A1 (x.2.1<(x.1.2.2.2.2.1.size:Int)) then if inb x.2.1 x.1.2.2.2.2.1.size then if Ah (!(A1<|(bt x.1.2.2.2.2.1 x.2.1)<32)) (inb x.2.1 x.1.2.2.2.2.1.size) then if(A1<|(bt x.1.2.2.2.2.1 x.2.1)<32)||(A1<|126<(bt x.1.2.2.2.2.1 x.2.1)) then I (.inr<|.inl (A3,())) else I (.inl (x.1,(w64<|x.2.1+1),())) else A0 else A0 else I (.inr<|.inr ())
def vS:=AW ie
def aAd:Loop:=⟨[(1,Z5),(3,.int .i64)],[],0,[(2,.bool)],vS⟩
def an7:LF Tryz.f59 [] [1,1,0,1,0,0] aAd:=sq (v:= .nil) aD4 (b:=ie) kN
def Od(x:Y4×A2):Option ((Bool×A2)×A2):=(Fq (x.1.1,())).bind λb=>if !b.1.1 then I ((A3,()),()) else(Fq (x.1.2.2.1,())).bind λc=>if !c.1.1 then I ((A3,()),()) else(DL (x.1.2.1,1,99,())).bind λd=>if !d.1.1 then I ((A3,()),()) else(DL (x.1.2.2.2.1,1,999,())).bind λe=>if !e.1.1 then I ((A3,()),()) else if A1 ((x.1.2.2.2.2.1.size:Int)<1) then I ((A3,()),()) else if A1 (24<(x.1.2.2.2.2.1.size:Int)) then I ((A3,()),()) else(AP (vS (x.1,0,())) (λa=>I (a,())) λa=>I ((U,()),()))
def Xh:Ent:=(59,A0,⟨[Z6],[.bool],Od⟩)
def fJ:SQ Tryz.prog Xh:=sk (v:=t1<|t1<|.two (t1<|.one<|.loop aAd) .nil) (fn:=Tryz.f59) aD4<|kC an7 kN
def ajR:Cx:=cX [] [] [(13,20)]
def aoB:OKC Tryz.prog ajR AI:=okc mixed<|AL
def NE(x:Int×Int×Int×Int×A2):Option ((Bool×A2)×A2):=let a:=((A1<|x.1<x.2.2.1)||((A1<|x.1=x.2.2.1)&&(A1<|x.2.1<x.2.2.2.1)));I ((a,()),())
def XL:Ent:=(246,A0,⟨[.int .i64,.int .i64,.int .i64,.int .i64],[.bool],NE⟩)
def fE:SQ Tryz.prog XL:=sk (v:= .nil) (fn:=Tryz.f246) aoB kN
def ahT:Cx:=cX [Xh,XL] [] [(23,50)]
def aBQ:OKC Tryz.prog ahT AI:=okc mixed<|gC fJ<|gC fE<|AL
def gK(x:List A6×Int×A2):Rnd (List A6×Int×A2) (Bool×A2) (A2):=if A1 (x.2.1<(x.1.length:Int)) then if inb x.2.1 x.1.length then(Od (((rd (dfl .note) x.1 x.2.1).fr,(rd (dfl .note) x.1 x.2.1).nu,(rd (dfl .note) x.1 x.2.1).to,(rd (dfl .note) x.1 x.2.1).un,(rd (dfl .note) x.1 x.2.1).tx,()),())).bind λa=>if Ah ((!(!a.1.1))&&(A1<|0<x.2.1)) (inb (w64<|x.2.1 - 1) x.1.length) then if Ah ((!(!a.1.1))&&(A1<|0<x.2.1)) (inb (w64<|x.2.1 - 1) x.1.length) then if Ah ((!(!a.1.1))&&(A1<|0<x.2.1)) (inb x.2.1 x.1.length) then if Ah ((!(!a.1.1))&&(A1<|0<x.2.1)) (inb x.2.1 x.1.length) then if Ah ((!(!a.1.1))&&(A1<|0<x.2.1)) ((NE ((rd (dfl .note) x.1<|w64<|x.2.1 - 1).fr,(rd (dfl .note) x.1<|w64<|x.2.1 - 1).nu,(rd (dfl .note) x.1 x.2.1).fr,(rd (dfl .note) x.1 x.2.1).nu,())).isSome) then if(!a.1.1)||((A1<|0<x.2.1)&&(!(((NE ((rd (dfl .note) x.1<|w64<|x.2.1 - 1).fr,(rd (dfl .note) x.1<|w64<|x.2.1 - 1).nu,(rd (dfl .note) x.1 x.2.1).fr,(rd (dfl .note) x.1 x.2.1).nu,())).getD ((A3,()),())).1.1))) then I (.inr<|.inl (A3,())) else I (.inl (x.1,(w64<|x.2.1+1),())) else A0 else A0 else A0 else A0 else A0 else A0 else I (.inr<|.inr ())
def uC:=AW gK
def yG:Loop:=⟨[(0,.sl .note),(5,.int .i64)],[],0,[(4,.bool)],uC⟩
def ahu:LF Tryz.f206 [] [1,1,0,1,0,0] yG:=sq (v:= .nil) aBQ (b:=gK) kN
def X2(x:List A6×Int×A2):Option ((Bool×A2)×A2):=if A1 (x.2.1<(x.1.length:Int)) then I ((A3,()),()) else(AP (uC (x.1,0,())) (λa=>I (a,())) λa=>I ((U,()),()))
def aBD:Ent:=(206,A0,⟨[.fz .note,.int .i64],[.bool],X2⟩)
def adR:SQ Tryz.prog aBD:=sk (v:=t1<|t1<|.two (t1<|.one<|.loop yG) .nil) (fn:=Tryz.f206) aBQ<|kC ahu kN
def ahU:Cx:=cX [HK,Il,XL] [] []
def aBR:OKC Tryz.prog ahU AI:=okc mixed<|gC Hk<|gC JF<|gC fE<|AL
def gL(x:List Mark×Int×A2):Rnd (List Mark×Int×A2) (Bool×A2) (A2):=if A1 (x.2.1<(x.1.length:Int)) then if inb x.2.1 x.1.length then let a:=(rd (dfl .mark) x.1 x.2.1).mf;let b:=(rd (dfl .mark) x.1 x.2.1).mn;let c:=(rd (dfl .mark) x.1 x.2.1).mu;(Fq (a,())).bind λd=>if !d.1.1 then I (.inr<|.inl (A3,())) else(DL (b,1,99,())).bind λe=>if !e.1.1 then I (.inr<|.inl (A3,())) else(DL (c,1,999,())).bind λf=>if !f.1.1 then I (.inr<|.inl (A3,())) else if A1 (0<x.2.1) then if inb (w64<|x.2.1 - 1) x.1.length then if inb (w64<|x.2.1 - 1) x.1.length then(NE ((rd (dfl .mark) x.1<|w64<|x.2.1 - 1).mf,(rd (dfl .mark) x.1<|w64<|x.2.1 - 1).mn,a,b,())).bind λg=>if !g.1.1 then I (.inr<|.inl (A3,())) else I (.inl (x.1,(w64<|x.2.1+1),())) else A0 else A0 else I (.inl (x.1,(w64<|x.2.1+1),())) else A0 else I (.inr<|.inr ())
def uD:=AW gL
def yH:Loop:=⟨[(0,.sl .mark),(3,.int .i64)],[],0,[(2,.bool)],uD⟩
def ahv:LF Tryz.f207 [] [1,1,0,1,0,0] yH:=sq (v:= .nil) aBR (b:=gL) kN
def iM(x:List Mark×A2):Option ((Bool×A2)×A2):=if A1 (12<(x.1.length:Int)) then I ((A3,()),()) else(AP (uD (x.1,0,())) (λa=>I (a,())) λa=>I ((U,()),()))
def aBE:Ent:=(207,A0,⟨[.fz .mark],[.bool],iM⟩)
def adS:SQ Tryz.prog aBE:=sk (v:=t1<|t1<|.two (t1<|.one<|.loop yH) .nil) (fn:=Tryz.f207) aBR<|kC ahv kN
def anO:Cx:=cX [] [] [(16,25)]
def aqG:OKC Tryz.prog anO AI:=okc mixed<|AL
def jY(x:Y4×Int×A2):Option ((Bool×A2)×A2):=if A1 (x.1.1<=x.2.1) then let a:=((A1<|x.2.1<x.1.2.2.1)||((A1<|x.1.2.2.1<x.2.1)&&(A1<|x.2.1<=x.1.1)));I ((a,()),()) else let b:=((A1<|x.1.2.2.1<x.2.1)&&(A1<|x.2.1<=x.1.1));I ((b,()),())
def aDS:Ent:=(208,A0,⟨[Z6,.int .i64],[.bool],jY⟩)
def aff:SQ Tryz.prog aDS:=sk (v:= .nil) (fn:=Tryz.f208) aqG kN
def ajQ:Cx:=cX [] [] [(22,28)]
def aBu:OKC Tryz.prog ajQ AI:=okc mixed<|AL
def iN(x:List Mark×Int×Int×Int×A2):Rnd (List Mark×Int×Int×Int×A2) (Int×A2) (A2):=if A1 (x.2.2.2.1<(x.1.length:Int)) then if inb x.2.2.2.1 x.1.length then if Ah (A1<|(rd (dfl .mark) x.1 x.2.2.2.1).mf=x.2.1) (inb x.2.2.2.1 x.1.length) then if(A1<|(rd (dfl .mark) x.1 x.2.2.2.1).mf=x.2.1)&&(A1<|(rd (dfl .mark) x.1 x.2.2.2.1).mn=x.2.2.1) then I (.inr<|.inl x.2.2.2) else I (.inl (x.1,x.2.1,x.2.2.1,(w64<|x.2.2.2.1+1),())) else A0 else A0 else I (.inr<|.inr ())
def uo:=AW iN
def z7:Loop:=⟨[(0,.sl .mark),(1,.int .i64),(2,.int .i64),(7,.int .i64)],[],0,[(6,.int .i64)],uo⟩
def air:LF Tryz.f209 [] [1,0,1,0,0] z7:=sq (v:= .nil) aBu (b:=iN) kN
def LD(x:List Mark×Int×Int×A2):Option ((Int×A2)×A2):=(AP (uo (x.1,x.2.1,x.2.2.1,0,())) (λa=>I (a,())) λa=>I (((-1),()),()))
def XK:Ent:=(209,A0,⟨[.fz .mark,.int .i64,.int .i64],[.int .i64],LD⟩)
def fD:SQ Tryz.prog XK:=sk (v:=t1<|.two (t1<|.one<|.loop z7) .nil) (fn:=Tryz.f209) aBu<|kC air kN
def aoL:Cx:=cX [HK,Il,aBD,aBE,aDS,XK] [] [(109,120)]
def jq:OKC Tryz.prog aoL AI:=okc mixed<|gC Hk<|gC JF<|gC adR<|gC adS<|gC aff<|gC fD<|AL
def iT(x:Y3×Int×A2):Rnd (Y3×Int×A2) (Bool×A2) (A2):=if A1 (x.2.1<(x.1.2.2.2.2.2.1.length:Int)) then if inb x.2.1 x.1.2.2.2.2.2.1.length then let oo:=(rd (dfl .note) x.1.2.2.2.2.2.1 x.2.1).fr;let a:=(rd (dfl .note) x.1.2.2.2.2.2.1 x.2.1).nu;let alG:=(rd (dfl .note) x.1.2.2.2.2.2.1 x.2.1).to;let b:=(rd (dfl .note) x.1.2.2.2.2.2.1 x.2.1).un;let azv:=(rd (dfl .note) x.1.2.2.2.2.2.1 x.2.1).tx;(if !decide (alG=x.1.1) then I (.inr<|.inl (A3,())) else if A1 (oo=x.1.1) then if A1 (x.1.2.2.1<=a) then I (.inr<|.inl (A3,())) else if A1 (x.1.2.1<b) then(LD (x.1.2.2.2.2.1,oo,a,())).bind λae=>if A1 (ae.1.1<0) then I (.inr<|.inl (A3,())) else I (.inl (x.1,(w64<|x.2.1+1),())) else I (.inl (x.1,(w64<|x.2.1+1),())) else if A1 (x.1.2.1<b) then(LD (x.1.2.2.2.2.1,oo,a,())).bind λamW=>if A1 (amW.1.1<0) then I (.inr<|.inl (A3,())) else I (.inl (x.1,(w64<|x.2.1+1),())) else I (.inl (x.1,(w64<|x.2.1+1),()))) else A0 else I (.inr<|.inr ())
def vK:=AW iT
def aAh:Loop:=⟨[(1,Z7),(7,.int .i64)],[],4,[(2,.bool)],vK⟩
def anB:LF Tryz.f162 [] [1,1,1,1,0,1,0,0] aAh:=sq (v:= .nil) jq (b:=iT) kN
def iU(x:Y3×Int×A2):Rnd (Y3×Int×A2) (Bool×A2) (Y3×A2):=if A1 (x.2.1<(x.1.2.2.2.2.1.length:Int)) then if inb x.2.1 x.1.2.2.2.2.1.length then let a:=(rd (dfl .mark) x.1.2.2.2.2.1 x.2.1).mf;let b:=(rd (dfl .mark) x.1.2.2.2.2.1 x.2.1).mn;let c:=(rd (dfl .mark) x.1.2.2.2.2.1 x.2.1).mu;if(A1<|c<=x.1.2.1)||((A1<|a=x.1.1)&&(A1<|x.1.2.2.1<=b)) then I (.inr<|.inl (A3,())) else I (.inl (x.1,(w64<|x.2.1+1),())) else A0 else I (.inr<|.inr (x.1,()))
def vL:=AW iU
def aAi:Loop:=⟨[(1,Z7),(5,.int .i64)],[(1,Z7)],2,[(2,.bool)],vL⟩
def amz:LF Tryz.f162 [] [1,1,1,0,1,0,0] aAi:=sq (v:= .nil) jq (b:=iU) kN
def iV(x:Y3×Int×A2):Rnd (Y3×Int×A2) (Bool×A2) (Y3×A2):=if A1 (x.2.1<(x.1.2.2.2.1.length:Int)) then if inb x.2.1 x.1.2.2.2.1.length then let a:=(rd (dfl .note) x.1.2.2.2.1 x.2.1).fr;let b:=(rd (dfl .note) x.1.2.2.2.1 x.2.1).nu;let d:=(rd (dfl .note) x.1.2.2.2.1 x.2.1).to;let c:=(rd (dfl .note) x.1.2.2.2.1 x.2.1).un;let e:=(rd (dfl .note) x.1.2.2.2.1 x.2.1).tx;if A1 (c<=x.1.2.1) then I (.inr<|.inl (A3,())) else(jY ((a,b,d,c,e,()),x.1.1,())).bind λf=>if !f.1.1 then I (.inr<|.inl (A3,())) else if A1 (a=x.1.1) then if A1 (x.1.2.2.1<=b) then I (.inr<|.inl (A3,())) else(LD (x.1.2.2.2.2.1,a,b,())).bind λg=>if A1 (0<=g.1.1) then I (.inr<|.inl (A3,())) else I (.inl (x.1,(w64<|x.2.1+1),())) else(LD (x.1.2.2.2.2.1,a,b,())).bind λh=>if A1 (0<=h.1.1) then I (.inr<|.inl (A3,())) else I (.inl (x.1,(w64<|x.2.1+1),())) else A0 else I (.inr<|.inr (x.1,()))
def vM:=AW iV
def aAj:Loop:=⟨[(1,Z7),(3,.int .i64)],[(1,Z7)],0,[(2,.bool)],vM⟩
def ang:LF Tryz.f162 [] [1,1,0,1,0,0] aAj:=sq (v:= .nil) jq (b:=iV) kN
def Qd(x:Y3×A2):Option ((Bool×A2)×A2):=(Fq (x.1.1,())).bind λc=>if !c.1.1 then I ((A3,()),()) else(DL (x.1.2.1,0,999,())).bind λd=>if !d.1.1 then I ((A3,()),()) else(DL (x.1.2.2.1,1,100,())).bind λe=>if !e.1.1 then I ((A3,()),()) else(X2 (x.1.2.2.2.1,6,())).bind λf=>if !f.1.1 then I ((A3,()),()) else(iM (x.1.2.2.2.2.1,())).bind λg=>if !g.1.1 then I ((A3,()),()) else(X2 (x.1.2.2.2.2.2.1,6,())).bind λh=>if !h.1.1 then I ((A3,()),()) else(AP (vM (x.1,0,())) (λa=>I (a,())) λa=>(AP (vL (a.1,0,())) (λb=>I (b,())) λb=>(AP (vK (b.1,0,())) (λaEf=>I (aEf,())) λaEf=>I ((U,()),()))))
def lc:Ent:=(162,A0,⟨[Z8],[.bool],Qd⟩)
def yP:SQ Tryz.prog lc:=sk (v:=t1<|t1<|.two (t1<|.one<|.loop aAj)<|.two (t1<|.one<|.loop aAi)<|.two (t1<|.one<|.loop aAh) .nil) (fn:=Tryz.f162) jq<|kC ang<|kC amz<|kC anB kN
def ajS:Cx:=cX [] [] [(22,28)]
def aBv:OKC Tryz.prog ajS AI:=okc mixed<|AL
def iO(x:List A6×Int×Int×Int×A2):Rnd (List A6×Int×Int×Int×A2) (Int×A2) (A2):=if A1 (x.2.2.2.1<(x.1.length:Int)) then if inb x.2.2.2.1 x.1.length then if Ah (A1<|(rd (dfl .note) x.1 x.2.2.2.1).fr=x.2.1) (inb x.2.2.2.1 x.1.length) then if(A1<|(rd (dfl .note) x.1 x.2.2.2.1).fr=x.2.1)&&(A1<|(rd (dfl .note) x.1 x.2.2.2.1).nu=x.2.2.1) then I (.inr<|.inl x.2.2.2) else I (.inl (x.1,x.2.1,x.2.2.1,(w64<|x.2.2.2.1+1),())) else A0 else A0 else I (.inr<|.inr ())
def uq:=AW iO
def z8:Loop:=⟨[(0,.sl .note),(1,.int .i64),(2,.int .i64),(7,.int .i64)],[],0,[(6,.int .i64)],uq⟩
def ais:LF Tryz.f175 [] [1,0,1,0,0] z8:=sq (v:= .nil) aBv (b:=iO) kN
def GO(x:List A6×Int×Int×A2):Option ((Int×A2)×A2):=(AP (uq (x.1,x.2.1,x.2.2.1,0,())) (λa=>I (a,())) λa=>I (((-1),()),()))
def NJ:Ent:=(175,A0,⟨[.fz .note,.int .i64,.int .i64],[.int .i64],GO⟩)
def OR:SQ Tryz.prog NJ:=sk (v:=t1<|.two (t1<|.one<|.loop z8) .nil) (fn:=Tryz.f175) aBv<|kC ais kN
def anZ:Cx:=cX [] [] []
def aCz:OKC Tryz.prog anZ AI:=okc mixed<|AL
def iY(x:A4×Int×A2):Rnd (A4×Int×A2) (A4×A4×A2) (A4×A2):=if A1 (x.2.1<(x.1.size:Int)) then if inb x.2.1 x.1.size then if A1 ((bt x.1 x.2.1)=32) then if A1 (0<=x.2.1)&&A1 (x.2.1<=(x.1.size:Int)) then if A1 (0<=(w64<|x.2.1+1))&&A1 ((w64<|x.2.1+1)<=(x.1.size:Int)) then let a:=(x.1.extract (0)<|AR x.2.1);let b:=(x.1.extract (AR<|w64<|x.2.1+1)<|x.1.size);I (.inr<|.inl (a,b,())) else A0 else A0 else I (.inl (x.1,(w64<|x.2.1+1),())) else A0 else I (.inr<|.inr (x.1,()))
def uz:=AW iY
def aAu:Loop:=⟨[(0,.str),(4,.int .i64)],[(0,.str)],0,[(2,.str),(3,.str)],uz⟩
def an2:LF Tryz.f210 [] [1,0,1,0,0] aAu:=sq (v:= .nil) aCz (b:=iY) kN
def Oa(x:A4×A2):Option ((A4×A4×A2)×A2):=(AP (uz (x.1,0,())) (λa=>I (a,())) λa=>I ((a.1,noB,()),()))
def lB:Ent:=(210,A0,⟨[.str],[.str,.str],Oa⟩)
def yc:SQ Tryz.prog lB:=sk (v:=t1<|.two (t1<|.one<|.loop aAu) .nil) (fn:=Tryz.f210) aCz<|kC an2 kN
def ajO:Cx:=cX [] [] []
def kt:OKC Tryz.prog ajO AI:=okc mixed<|AL
def iK(x:Int×Y3×Y3×List A6×List Mark×Int×A2):Rnd (Int×Y3×Y3×List A6×List Mark×Int×A2) (A2) (Int×Y3×Y3×List A6×List Mark×A2):=if A1 (x.2.2.2.2.2.1<(x.2.1.2.2.2.2.1.length:Int)) then if inb x.2.2.2.2.2.1 x.2.1.2.2.2.2.1.length then if A1 (x.1<(rd (dfl .mark) x.2.1.2.2.2.2.1 x.2.2.2.2.2.1).mu) then if inb x.2.2.2.2.2.1 x.2.1.2.2.2.2.1.length then if Af (x.2.2.2.2.1.length+([(rd (dfl .mark) x.2.1.2.2.2.2.1 x.2.2.2.2.2.1)]:List Mark).length) then let a:=(w64<|x.2.2.2.2.2.1+1);I (.inl (x.1,x.2.1,x.2.2.1,x.2.2.2.1,(x.2.2.2.2.1++([(rd (dfl .mark) x.2.1.2.2.2.2.1 x.2.2.2.2.2.1)]:List Mark)),a,())) else A0 else A0 else let b:=(w64<|x.2.2.2.2.2.1+1);I (.inl (x.1,x.2.1,x.2.2.1,x.2.2.2.1,x.2.2.2.2.1,b,())) else A0 else I (.inr<|.inr (x.1,x.2.1,x.2.2.1,x.2.2.2.1,x.2.2.2.2.1,()))
def uk:=AW iK
def yz:Loop:=⟨[(1,.int .i64),(2,Z7),(4,Z9),(5,.row 36 .note),(7,.row 61 .mark),(8,.int .i64)],[(1,.int .i64),(2,Z7),(4,Z9),(5,.row 36 .note),(7,.row 61 .mark)],2,[],uk⟩
def aj8:LF Tryz.f211 [] [1,1,1,1,0,1,0,0] yz:=sq (v:= .nil) kt (b:=iK) kN
def iL(x:Int×Y3×Y3×List A6×Int×A2):Rnd (Int×Y3×Y3×List A6×Int×A2) (A2) (Int×Y3×Y3×List A6×A2):=if A1 (x.2.2.2.2.1<(x.2.1.2.2.2.1.length:Int)) then if inb x.2.2.2.2.1 x.2.1.2.2.2.1.length then if A1 (x.1<(rd (dfl .note) x.2.1.2.2.2.1 x.2.2.2.2.1).un) then if inb x.2.2.2.2.1 x.2.1.2.2.2.1.length then if Af (x.2.2.2.1.length+([(rd (dfl .note) x.2.1.2.2.2.1 x.2.2.2.2.1)]:List A6).length) then I (.inl (x.1,x.2.1,x.2.2.1,(x.2.2.2.1++([(rd (dfl .note) x.2.1.2.2.2.1 x.2.2.2.2.1)]:List A6)),(w64<|x.2.2.2.2.1+1),())) else A0 else A0 else I (.inl (x.1,x.2.1,x.2.2.1,x.2.2.2.1,(w64<|x.2.2.2.2.1+1),())) else A0 else I (.inr<|.inr (x.1,x.2.1,x.2.2.1,x.2.2.2.1,()))
def um:=AW iL
def z6:Loop:=⟨[(1,.int .i64),(2,Z7),(4,Z9),(5,.row 36 .note),(6,.int .i64)],[(1,.int .i64),(2,Z7),(4,Z9),(5,.row 36 .note)],0,[],um⟩
def aiq:LF Tryz.f211 [] [1,1,0,1,0,0] z6:=sq (v:= .nil) kt (b:=iL) kN
def ic(x:Y3×Int×A2):Option ((Y3×A2)×A2):=(AP (um (x.2.1,x.1,(0,0,0,([]:List A6),([]:List Mark),([]:List A6),()),([]:List A6),0,())) (λ_=>A0) λb=>(AP (uk (b.1,b.2.1,b.2.2.1,b.2.2.2.1,([]:List Mark),0,())) (λ_=>A0) λa=>I (((a.2.1.1,a.1,a.2.1.2.2.1,a.2.2.2.1,a.2.2.2.2.1,a.2.1.2.2.2.2.2),()),())))
def aCJ:Ent:=(211,A0,⟨[Z8,.int .i64],[Z8],ic⟩)
def aek:SQ Tryz.prog aCJ:=sk (v:=t1<|t1<|.two (t1<|.one<|.loop z6)<|t1<|.two (t1<|.one<|.loop yz) .nil) (fn:=Tryz.f211) kt<|kC aiq<|kC aj8 kN
def ah1:Cx:=cX [Xh,Oh] [] []
def ai9:OKC Tryz.prog ah1 AI:=okc mixed<|gC fJ<|gC QN<|AL
def NA(x:Y4×A2):Option ((A4×A2)×A2):=(Od x).bind λe=>if !e.1.1 then I ((noB,()),()) else(Dc (x.1.1,())).bind λa=>if A1 (a.1.1.size+(B [32]).size<=4611686018427387904) then(Dc (x.1.2.1,())).bind λb=>if A1 ((a.1.1++(B [32])).size+b.1.1.size<=4611686018427387904) then if A1 (((a.1.1++(B [32]))++b.1.1).size+(B [32]).size<=4611686018427387904) then(Dc (x.1.2.2.1,())).bind λc=>if A1 ((((a.1.1++(B [32]))++b.1.1)++(B [32])).size+c.1.1.size<=4611686018427387904) then if A1 (((((a.1.1++(B [32]))++b.1.1)++(B [32]))++c.1.1).size+(B [32]).size<=4611686018427387904) then(Dc (x.1.2.2.2.1,())).bind λd=>if A1 ((((((a.1.1++(B [32]))++b.1.1)++(B [32]))++c.1.1)++(B [32])).size+d.1.1.size<=4611686018427387904) then if A1 (((((((a.1.1++(B [32]))++b.1.1)++(B [32]))++c.1.1)++(B [32]))++d.1.1).size+(B [32]).size<=4611686018427387904) then if A1 ((((((((a.1.1++(B [32]))++b.1.1)++(B [32]))++c.1.1)++(B [32]))++d.1.1)++(B [32])).size+x.1.2.2.2.2.1.size<=4611686018427387904) then let f:=((((((((a.1.1++(B [32]))++b.1.1)++(B [32]))++c.1.1)++(B [32]))++d.1.1)++(B [32]))++x.1.2.2.2.2.1);I ((f,()),()) else A0 else A0 else A0 else A0 else A0 else A0 else A0 else A0
def Wh:Ent:=(170,A0,⟨[Z6],[.str],NA⟩)
def dZ:SQ Tryz.prog Wh:=sk (v:= .nil) (fn:=Tryz.f170) ai9 kN
def ana:Cx:=cX [YM,lB] [] []
def aD0:OKC Tryz.prog ana AI:=okc mixed<|gC vg<|gC yc<|AL
def iZ(x:A4×Int×List Int×Int×A2):Rnd (A4×Int×List Int×Int×A2) (A2) (A4×List Int×A2):=if A1 (x.2.2.2.1<x.2.1) then(Oa (x.1,())).bind λa=>(Qh (a.1.1,())).bind λb=>if Af (x.2.2.1.length+([b.1.1]:List Int).length) then I (.inl (a.1.2.1,x.2.1,(x.2.2.1++([b.1.1]:List Int)),(w64<|x.2.2.2.1+1),())) else A0 else I (.inr<|.inr (x.1,x.2.2.1,()))
def vO:=AW iZ
def aAv:Loop:=⟨[(0,.str),(1,.int .i64),(6,.row 3 .int),(7,.int .i64)],[(0,.str),(6,.row 3 .int)],0,[],vO⟩
def an3:LF Tryz.f215 [] [1,1,0,1,0,0] aAv:=sq (v:= .nil) aD0 (b:=iZ) kN
def Qb(x:A4×Int×A2):Option ((List Int×A4×A2)×A2):=(AP (vO (x.1,x.2.1,([]:List Int),0,())) (λ_=>A0) λa=>I ((a.2.1,a.1,()),()))
def lC:Ent:=(215,A0,⟨[.str,.int .i64],[.row 3 .int,.str],Qb⟩)
def yF:SQ Tryz.prog lC:=sk (v:=t1<|t1<|.two (t1<|.one<|.loop aAv) .nil) (fn:=Tryz.f215) aD0<|kC an3 kN
def aiQ:Cx:=cX [Wh,lC] [] [(29,32)]
def ake:OKC Tryz.prog aiQ AI:=okc mixed<|gC dZ<|gC yF<|AL
def T3(x:A4×A2):Option ((Y4×Bool×A2)×A2):=(Qb (x.1,4,())).bind λa=>if inb 0 a.1.1.length then if inb 1 a.1.1.length then if inb 2 a.1.1.length then if inb 3 a.1.1.length then if Ah (!(A1<|x.1=noB)) ((NA (((rd (dfl .int) a.1.1 0),(rd (dfl .int) a.1.1 1),(rd (dfl .int) a.1.1 2),(rd (dfl .int) a.1.1 3),a.1.2),())).isSome) then if(A1<|x.1=noB)||(!decide (((NA (((rd (dfl .int) a.1.1 0),(rd (dfl .int) a.1.1 1),(rd (dfl .int) a.1.1 2),(rd (dfl .int) a.1.1 3),a.1.2),())).getD ((noB,()),())).1.1=x.1)) then I (((0,0,0,0,noB,()),A3,()),()) else I ((((rd (dfl .int) a.1.1 0),(rd (dfl .int) a.1.1 1),(rd (dfl .int) a.1.1 2),(rd (dfl .int) a.1.1 3),a.1.2),U,()),()) else A0 else A0 else A0 else A0 else A0
def aBH:Ent:=(212,A0,⟨[.str],[Z6,.bool],T3⟩)
def ae2:SQ Tryz.prog aBH:=sk (v:= .nil) (fn:=Tryz.f212) ake kN
def afP:Cx:=cX [XL] [] [(18,32)]
def yp:OKC Tryz.prog afP AI:=okc mixed<|gC fE<|AL
def fB(x:List A6×Y4×List A6×Bool×Int×A2):Rnd (List A6×Y4×List A6×Bool×Int×A2) (A2) (Y4×List A6×Bool×A2):=if A1 (x.2.2.2.2.1<(x.1.length:Int)) then(BW (X:=List A6×Y4×List A6×Bool×Int×A2) (λa=>if inb a.2.2.2.2.1 a.1.length then if Af (a.2.2.1.length+([(rd (dfl .note) a.1 a.2.2.2.2.1)]:List A6).length) then I (.inl (a.1,a.2.1,(a.2.2.1++([(rd (dfl .note) a.1 a.2.2.2.2.1)]:List A6)),a.2.2.2.1,(w64<|a.2.2.2.2.1+1),())) else A0 else A0)<|(if Ah (!x.2.2.2.1) (inb x.2.2.2.2.1 x.1.length) then if Ah (!x.2.2.2.1) (inb x.2.2.2.2.1 x.1.length) then if Ah (!x.2.2.2.1) ((NE (x.2.1.1,x.2.1.2.1,(rd (dfl .note) x.1 x.2.2.2.2.1).fr,(rd (dfl .note) x.1 x.2.2.2.2.1).nu,())).isSome) then if(!x.2.2.2.1)&&(((NE (x.2.1.1,x.2.1.2.1,(rd (dfl .note) x.1 x.2.2.2.2.1).fr,(rd (dfl .note) x.1 x.2.2.2.2.1).nu,())).getD ((A3,()),())).1.1) then if Af (x.2.2.1.length+([(A6.mk x.2.1.1 x.2.1.2.1 x.2.1.2.2.1 x.2.1.2.2.2.1 x.2.1.2.2.2.2.1)]:List A6).length) then I (.inr (x.1,x.2.1,(x.2.2.1++([(A6.mk x.2.1.1 x.2.1.2.1 x.2.1.2.2.1 x.2.1.2.2.2.1 x.2.1.2.2.2.2.1)]:List A6)),U,x.2.2.2.2)) else A0 else I (.inr x) else A0 else A0 else A0)) else I (.inr<|.inr (x.2.1,x.2.2.1,x.2.2.2.1,()))
def tH:=AW fB
def wi:Loop:=⟨[(0,.sl .note),(3,Z5),(5,.row 36 .note),(6,.bool),(7,.int .i64)],[(3,Z5),(5,.row 36 .note),(6,.bool)],0,[],tH⟩
def aec:LF Tryz.f214 [] [1,1,1,0,1,0,0] wi:=sq (v:=t1<|.two (.one<|.join [(0,.sl .note),(3,Z5),(5,.row 36 .note),(6,.bool),(7,.int .i64)] .nil .nil) .nil) yp (b:=fB) kN
def QE(x:List A6×Y4×A2):Option ((List A6×A2)×A2):=(AP (tH (x.1,x.2.1,([]:List A6),A3,0,())) (λ_=>A0) λa=>(if !a.2.2.1 then if Af (a.2.1.length+([(A6.mk a.1.1 a.1.2.1 a.1.2.2.1 a.1.2.2.2.1 a.1.2.2.2.2.1)]:List A6).length) then I (((a.2.1++([(A6.mk a.1.1 a.1.2.1 a.1.2.2.1 a.1.2.2.2.1 a.1.2.2.2.2.1)]:List A6)),()),()) else A0 else I ((a.2.1,()),())))
def vq:Ent:=(214,A0,⟨[.fz .note,Z6],[.row 36 .note],QE⟩)
def abq:SQ Tryz.prog vq:=sk (v:=t1<|t1<|t1<|.two (t1<|.one<|.loop wi) .nil) (fn:=Tryz.f214) yp<|kC aec kN
def afQ:Cx:=cX [XL] [] [(18,32)]
def yq:OKC Tryz.prog afQ AI:=okc mixed<|gC fE<|AL
def fC(x:List Mark×Y5×List Mark×Bool×Int×A2):Rnd (List Mark×Y5×List Mark×Bool×Int×A2) (A2) (Y5×List Mark×Bool×A2):=if A1 (x.2.2.2.2.1<(x.1.length:Int)) then(BW (X:=List Mark×Y5×List Mark×Bool×Int×A2) (λa=>if inb a.2.2.2.2.1 a.1.length then if Af (a.2.2.1.length+([(rd (dfl .mark) a.1 a.2.2.2.2.1)]:List Mark).length) then I (.inl (a.1,a.2.1,(a.2.2.1++([(rd (dfl .mark) a.1 a.2.2.2.2.1)]:List Mark)),a.2.2.2.1,(w64<|a.2.2.2.2.1+1),())) else A0 else A0)<|(if Ah (!x.2.2.2.1) (inb x.2.2.2.2.1 x.1.length) then if Ah (!x.2.2.2.1) (inb x.2.2.2.2.1 x.1.length) then if Ah (!x.2.2.2.1) ((NE (x.2.1.1,x.2.1.2.1,(rd (dfl .mark) x.1 x.2.2.2.2.1).mf,(rd (dfl .mark) x.1 x.2.2.2.2.1).mn,())).isSome) then if(!x.2.2.2.1)&&(((NE (x.2.1.1,x.2.1.2.1,(rd (dfl .mark) x.1 x.2.2.2.2.1).mf,(rd (dfl .mark) x.1 x.2.2.2.2.1).mn,())).getD ((A3,()),())).1.1) then if Af (x.2.2.1.length+([(Mark.mk x.2.1.1 x.2.1.2.1 x.2.1.2.2.1)]:List Mark).length) then I (.inr (x.1,x.2.1,(x.2.2.1++([(Mark.mk x.2.1.1 x.2.1.2.1 x.2.1.2.2.1)]:List Mark)),U,x.2.2.2.2)) else A0 else I (.inr x) else A0 else A0 else A0)) else I (.inr<|.inr (x.2.1,x.2.2.1,x.2.2.2.1,()))
def tJ:=AW fC
def wj:Loop:=⟨[(0,.sl .mark),(3,Z10),(5,.row 61 .mark),(6,.bool),(7,.int .i64)],[(3,Z10),(5,.row 61 .mark),(6,.bool)],0,[],tJ⟩
def aed:LF Tryz.f218 [] [1,1,1,0,1,0,0] wj:=sq (v:=t1<|.two (.one<|.join [(0,.sl .mark),(3,Z10),(5,.row 61 .mark),(6,.bool),(7,.int .i64)] .nil .nil) .nil) yq (b:=fC) kN
def Se(x:List Mark×Y5×A2):Option ((List Mark×A2)×A2):=(AP (tJ (x.1,x.2.1,([]:List Mark),A3,0,())) (λ_=>A0) λa=>(if !a.2.2.1 then if Af (a.2.1.length+([(Mark.mk a.1.1 a.1.2.1 a.1.2.2.1)]:List Mark).length) then I (((a.2.1++([(Mark.mk a.1.1 a.1.2.1 a.1.2.2.1)]:List Mark)),()),()) else A0 else I ((a.2.1,()),())))
def fW:Ent:=(218,A0,⟨[.fz .mark,Z11],[.row 61 .mark],Se⟩)
def tI:SQ Tryz.prog fW:=sk (v:=t1<|t1<|t1<|.two (t1<|.one<|.loop wj) .nil) (fn:=Tryz.f218) yq<|kC aed kN
def ahV:Cx:=cX [Xh,NJ,XK] [] [(35,42)]
def aka:OKC Tryz.prog ahV AI:=okc mixed<|gC fJ<|gC OR<|gC fD<|AL
def iP(x:Y3×Y4×A2):Option ((Bool×A2)×A2):=(Od x.2).bind λb=>if b.1.1 then if A1 (x.1.2.1<x.2.1.2.2.2.1) then(GO (x.1.2.2.2.1,x.2.1.1,x.2.1.2.1,())).bind λc=>if A1 (c.1.1<0) then(LD (x.1.2.2.2.2.1,x.2.1.1,x.2.1.2.1,())).bind λa=>if Ah (A1<|a.1.1<0) ((GO (x.1.2.2.2.2.2.1,x.2.1.1,x.2.1.2.1,())).isSome) then let d:=((A1<|a.1.1<0)&&(A1<|((GO (x.1.2.2.2.2.2.1,x.2.1.1,x.2.1.2.1,())).getD ((0,()),())).1.1<0));I ((d,()),()) else A0 else if Ah A3 ((GO (x.1.2.2.2.2.2.1,x.2.1.1,x.2.1.2.1,())).isSome) then I ((A3,()),()) else A0 else if Ah A3 ((GO (x.1.2.2.2.2.2.1,x.2.1.1,x.2.1.2.1,())).isSome) then I ((A3,()),()) else A0 else if Ah A3 ((GO (x.1.2.2.2.2.2.1,x.2.1.1,x.2.1.2.1,())).isSome) then I ((A3,()),()) else A0
def aBF:Ent:=(247,A0,⟨[Z8,Z6],[.bool],iP⟩)
def adT:SQ Tryz.prog aBF:=sk (v:= .nil) (fn:=Tryz.f247) aka kN
def ajP:Cx:=cX [vq,fW,aBF] [] []
def aoA:OKC Tryz.prog ajP AI:=okc mixed<|gC abq<|gC tI<|gC adT<|AL
def XO(x:Y3×Y4×A2):Option ((Y3×Bool×A2)×A2):=(iP x).bind λc=>if !c.1.1 then I ((x.1,A3,()),()) else if !decide (x.2.1.2.2.1=x.1.1) then(QE (x.1.2.2.2.1,x.2)).bind λa=>let d:=(A1<|(w64<|(a.1.1.length:Int)+(x.1.2.2.2.2.1.length:Int))<=12);I (((x.1.1,x.1.2.1,x.1.2.2.1,a.1.1,x.1.2.2.2.2),d,()),()) else(QE (x.1.2.2.2.2.2.1,x.2)).bind λe=>(Se (x.1.2.2.2.2.1,(x.2.1.1,x.2.1.2.1,x.2.1.2.2.2.1,()),())).bind λb=>let f:=(A1<|(w64<|(x.1.2.2.2.1.length:Int)+(b.1.1.length:Int))<=12);I (((x.1.1,x.1.2.1,x.1.2.2.1,x.1.2.2.2.1,b.1.1,e.1),f,()),())
def aCK:Ent:=(213,A0,⟨[Z8,Z6],[Z8,.bool],XO⟩)
def ael:SQ Tryz.prog aCK:=sk (v:= .nil) (fn:=Tryz.f213) aoA kN
def anQ:Cx:=cX [NJ,fW] [] []
def apa:OKC Tryz.prog anQ AI:=okc mixed<|gC OR<|gC tI<|AL
def jZ(x:Y3×Int×Int×A2):Option ((Y3×Bool×A2)×A2):=(GO (x.1.2.2.2.1,x.2)).bind λa=>if A1 (a.1.1<0) then I ((x.1,A3,()),()) else if inb a.1.1 x.1.2.2.2.1.length then let d:=(rd (dfl .note) x.1.2.2.2.1 a.1.1).fr;let e:=(rd (dfl .note) x.1.2.2.2.1 a.1.1).nu;let f:=(rd (dfl .note) x.1.2.2.2.1 a.1.1).to;let b:=(rd (dfl .note) x.1.2.2.2.1 a.1.1).un;let g:=(rd (dfl .note) x.1.2.2.2.1 a.1.1).tx;if A1 (0<=a.1.1)&&A1 (a.1.1<=(x.1.2.2.2.1.length:Int)) then if Af (([]:List A6).length+(BS (AR a.1.1) x.1.2.2.2.1).length) then if A1 (0<=(w64<|a.1.1+1))&&A1 ((w64<|a.1.1+1)<=(x.1.2.2.2.1.length:Int)) then if Af ((([]:List A6)++(BS (AR a.1.1) x.1.2.2.2.1)).length+(Bv (AR<|w64<|a.1.1+1) x.1.2.2.2.1).length) then(Se (x.1.2.2.2.2.1,(x.2.1,x.2.2.1,b,()),())).bind λc=>I (((x.1.1,x.1.2.1,x.1.2.2.1,((([]:List A6)++(BS (AR a.1.1) x.1.2.2.2.1))++(Bv (AR<|w64<|a.1.1+1) x.1.2.2.2.1)),c.1.1,x.1.2.2.2.2.2),U,()),()) else A0 else A0 else A0 else A0 else A0
def aCj:Ent:=(216,A0,⟨[Z8,.int .i64,.int .i64],[Z8,.bool],jZ⟩)
def afh:SQ Tryz.prog aCj:=sk (v:= .nil) (fn:=Tryz.f216) apa kN
def anR:Cx:=cX [NJ] [] []
def apb:OKC Tryz.prog anR AI:=okc mixed<|gC OR<|AL
def ja(x:Y3×Int×Int×A2):Option ((Y3×Bool×A2)×A2):=(GO (x.1.2.2.2.2.2.1,x.2)).bind λa=>if A1 (a.1.1<0) then I ((x.1,A3,()),()) else if A1 (0<=a.1.1)&&A1 (a.1.1<=(x.1.2.2.2.2.2.1.length:Int)) then if Af (([]:List A6).length+(BS (AR a.1.1) x.1.2.2.2.2.2.1).length) then if A1 (0<=(w64<|a.1.1+1))&&A1 ((w64<|a.1.1+1)<=(x.1.2.2.2.2.2.1.length:Int)) then if Af ((([]:List A6)++(BS (AR a.1.1) x.1.2.2.2.2.2.1)).length+(Bv (AR<|w64<|a.1.1+1) x.1.2.2.2.2.2.1).length) then I (((x.1.1,x.1.2.1,x.1.2.2.1,x.1.2.2.2.1,x.1.2.2.2.2.1,((([]:List A6)++(BS (AR a.1.1) x.1.2.2.2.2.2.1))++(Bv (AR<|w64<|a.1.1+1) x.1.2.2.2.2.2.1)),()),U,()),()) else A0 else A0 else A0 else A0
def aCk:Ent:=(217,A0,⟨[Z8,.int .i64,.int .i64],[Z8,.bool],ja⟩)
def afi:SQ Tryz.prog aCk:=sk (v:= .nil) (fn:=Tryz.f217) apb kN
def anP:Cx:=cX [YM,Oh,NJ,XK,lB,aCJ,aBH,aCK,vq,lC,aCj,aCk,fW] [] [(81,85),(157,174),(192,201),(228,237)]
def aqH:OKC Tryz.prog anP AI:=okc mixed<|gC vg<|gC QN<|gC OR<|gC fD<|gC yc<|gC aek<|gC ae2<|gC ael<|gC abq<|gC yF<|gC afh<|gC afi<|gC tI<|AL
def XT(x:Y3×A4×A2):Option ((Y3×Bool×A2)×A2):=(Oa x.2).bind λc=>let l:=(A1<|c.1.1=(B [116,105,109,101]));(if l then(Qh c.1.2).bind λi=>if A1 (i.1.1<=x.1.2.1) then I ((x.1,A3,()),()) else(ic (x.1,i.1)).bind λm=>I ((m.1.1,U,()),()) else let n:=(A1<|c.1.1=(B [111,119,110]));(if n then(T3 c.1.2).bind λg=>if !g.1.2.1 then I ((x.1,A3,()),()) else if !decide (g.1.1.1=x.1.1) then I ((x.1,A3,()),()) else if !decide (g.1.1.2.1=x.1.2.2.1) then I ((x.1,A3,()),()) else(XO ((x.1.1,x.1.2.1,(w64<|x.1.2.2.1+1),x.1.2.2.2),g.1.1,())).bind λo=>I (o.1,()) else let p:=(A1<|c.1.1=(B [116,97,107,101]));(if p then(T3 c.1.2).bind λh=>if(!h.1.2.1)||(A1<|h.1.1.1=x.1.1) then I ((x.1,A3,()),()) else(XO (x.1,h.1.1,())).bind λq=>I (q.1,()) else let r:=(A1<|c.1.1=(B [110,101,120,116]));(if r then(Qh c.1.2).bind λj=>if A1 (j.1.1<=x.1.2.2.1) then I ((x.1,A3,()),()) else I (((x.1.1,x.1.2.1,j.1.1,x.1.2.2.2),U,()),()) else(BW (X:=Y3×Y3×A4×A4×Bool×A2) (λb=>if b.2.2.2.2.1 then(T3 (b.2.2.2.1,())).bind λd=>if !d.1.2.1 then I ((b.1,A3,()),()) else(GO (b.1.2.2.2.1,d.1.1.1,d.1.1.2.1,())).bind λs=>if A1 (0<=s.1.1) then I ((b.1,A3,()),()) else(GO (b.1.2.2.2.2.2.1,d.1.1.1,d.1.1.2.1,())).bind λt=>if A1 (0<=t.1.1) then I ((b.1,A3,()),()) else if A1 (b.2.2.1=(B [104,101,108,100])) then(QE (b.1.2.2.2.1,d.1.1,())).bind λu=>I (((b.1.1,b.1.2.1,b.1.2.2.1,u.1.1,b.1.2.2.2.2),U,()),()) else(QE (b.1.2.2.2.2.2.1,d.1.1,())).bind λv=>I (((b.1.1,b.1.2.1,b.1.2.2.1,b.1.2.2.2.1,b.1.2.2.2.2.1,v.1),U,()),()) else(Qb (b.2.2.2.1,3,())).bind λa=>if Ah (!(!decide (a.1.2.1=noB))) (inb 0 a.1.1.length) then if Ah (!(!decide (a.1.2.1=noB))) ((Dc ((rd (dfl .int) a.1.1 0),())).isSome) then if Ah (!(!decide (a.1.2.1=noB))) (A1<|(((Dc ((rd (dfl .int) a.1.1 0),())).getD ((noB,()),())).1.1).size+(B [32]).size<=4611686018427387904) then if Ah (!(!decide (a.1.2.1=noB))) (inb 1 a.1.1.length) then if Ah (!(!decide (a.1.2.1=noB))) ((Dc ((rd (dfl .int) a.1.1 1),())).isSome) then if Ah (!(!decide (a.1.2.1=noB))) (A1<|((((Dc ((rd (dfl .int) a.1.1 0),())).getD ((noB,()),())).1.1)++(B [32])).size+(((Dc ((rd (dfl .int) a.1.1 1),())).getD ((noB,()),())).1.1).size<=4611686018427387904) then if Ah (!(!decide (a.1.2.1=noB))) (A1<|(((((Dc ((rd (dfl .int) a.1.1 0),())).getD ((noB,()),())).1.1)++(B [32]))++(((Dc ((rd (dfl .int) a.1.1 1),())).getD ((noB,()),())).1.1)).size+(B [32]).size<=4611686018427387904) then if Ah (!(!decide (a.1.2.1=noB))) (inb 2 a.1.1.length) then if Ah (!(!decide (a.1.2.1=noB))) ((Dc ((rd (dfl .int) a.1.1 2),())).isSome) then if Ah (!(!decide (a.1.2.1=noB))) (A1<|((((((Dc ((rd (dfl .int) a.1.1 0),())).getD ((noB,()),())).1.1)++(B [32]))++(((Dc ((rd (dfl .int) a.1.1 1),())).getD ((noB,()),())).1.1))++(B [32])).size+(((Dc ((rd (dfl .int) a.1.1 2),())).getD ((noB,()),())).1.1).size<=4611686018427387904) then if(!decide (a.1.2.1=noB))||(!decide (b.2.2.2.1=(((((((Dc ((rd (dfl .int) a.1.1 0),())).getD ((noB,()),())).1.1)++(B [32]))++(((Dc ((rd (dfl .int) a.1.1 1),())).getD ((noB,()),())).1.1))++(B [32]))++(((Dc ((rd (dfl .int) a.1.1 2),())).getD ((noB,()),())).1.1)))) then I ((b.1,A3,()),()) else let w:=(A1<|b.2.2.1=(B [108,101,116]));(if w then if inb 0 a.1.1.length then if inb 1 a.1.1.length then(GO (b.1.2.2.2.1,(rd (dfl .int) a.1.1 0),(rd (dfl .int) a.1.1 1),())).bind λe=>if Ah (!(A1<|e.1.1<0)) (inb e.1.1 b.1.2.2.2.1.length) then if Ah (!(A1<|e.1.1<0)) (inb 2 a.1.1.length) then if(A1<|e.1.1<0)||(!decide ((rd (dfl .note) b.1.2.2.2.1 e.1.1).un=(rd (dfl .int) a.1.1 2))) then I ((b.1,A3,()),()) else if inb 0 a.1.1.length then if inb 1 a.1.1.length then(jZ (b.1,(rd (dfl .int) a.1.1 0),(rd (dfl .int) a.1.1 1),())).bind λy=>I (y.1,()) else A0 else A0 else A0 else A0 else A0 else A0 else let z:=(A1<|b.2.2.1=(B [101,97,116]));(if z then if inb 0 a.1.1.length then if inb 1 a.1.1.length then(GO (b.1.2.2.2.2.2.1,(rd (dfl .int) a.1.1 0),(rd (dfl .int) a.1.1 1),())).bind λf=>if Ah (!(A1<|f.1.1<0)) (inb f.1.1 b.1.2.2.2.2.2.1.length) then if Ah (!(A1<|f.1.1<0)) (inb 2 a.1.1.length) then if(A1<|f.1.1<0)||(!decide ((rd (dfl .note) b.1.2.2.2.2.2.1 f.1.1).un=(rd (dfl .int) a.1.1 2))) then I ((b.1,A3,()),()) else if inb 0 a.1.1.length then if inb 1 a.1.1.length then(ja (b.1,(rd (dfl .int) a.1.1 0),(rd (dfl .int) a.1.1 1),())).bind λA=>I (A.1,()) else A0 else A0 else A0 else A0 else A0 else A0 else let C:=(A1<|b.2.2.1=(B [109,97,114,107]));(if C then if inb 0 a.1.1.length then if inb 1 a.1.1.length then(LD (b.1.2.2.2.2.1,(rd (dfl .int) a.1.1 0),(rd (dfl .int) a.1.1 1),())).bind λD=>if A1 (0<=D.1.1) then I ((b.1,A3,()),()) else if inb 0 a.1.1.length then if inb 1 a.1.1.length then if inb 2 a.1.1.length then(Se (b.1.2.2.2.2.1,((rd (dfl .int) a.1.1 0),(rd (dfl .int) a.1.1 1),(rd (dfl .int) a.1.1 2),()),())).bind λE=>I (((b.1.1,b.1.2.1,b.1.2.2.1,b.1.2.2.2.1,E.1.1,b.1.2.2.2.2.2),U,()),()) else A0 else A0 else A0 else A0 else A0 else I ((b.1,A3,()),())))) else A0 else A0 else A0 else A0 else A0 else A0 else A0 else A0 else A0 else A0) (let k:=(A1<|c.1.1=(B [104,101,108,100]));(if k then I (.inr (x.1,(0,0,0,([]:List A6),([]:List Mark),([]:List A6),()),c.1.1,c.1.2.1,k,())) else let F:=(A1<|c.1.1=(B [105,110,98,111,120]));I (.inr (x.1,(0,0,0,([]:List A6),([]:List Mark),([]:List A6),()),c.1.1,c.1.2.1,F,())))))))))
def aCi:Ent:=(163,A0,⟨[Z8,.str],[Z8,.bool],XT⟩)
def afg:SQ Tryz.prog aCi:=sk (v:=t1<|t1<|.two (t1<|.one<|t1<|t1<|t1<|t1<|t1<|t1<|t1<|t1<|.join [(2,Z7),(4,Z9),(6,.str),(7,.str),(105,.bool)] .nil .nil) .nil) (fn:=Tryz.f163) aqH kN
def ajT:Cx:=cX [] [] []
def aoC:OKC Tryz.prog ajT AI:=okc mixed<|AL
def TD(x:Y3×A2):Option ((Y3×A2)×A2):=if Af (([]:List A6).length+x.1.2.2.2.1.length) then if Af (([]:List Mark).length+x.1.2.2.2.2.1.length) then if Af (([]:List A6).length+x.1.2.2.2.2.2.1.length) then I (((x.1.1,x.1.2.1,x.1.2.2.1,(([]:List A6)++x.1.2.2.2.1),(([]:List Mark)++x.1.2.2.2.2.1),(([]:List A6)++x.1.2.2.2.2.2.1),()),()),()) else A0 else A0 else A0
def aCL:Ent:=(164,A0,⟨[Z8],[Z4],TD⟩)
def aem:SQ Tryz.prog aCL:=sk (v:= .nil) (fn:=Tryz.f164) aoC kN
def aoN:Cx:=cX [lc,aCi,aCL] [] [(22,24)]
def apd:OKC Tryz.prog aoN AI:=okc mixed<|gC yP<|gC afg<|gC aem<|AL
def TF(x:Y3×A4×A2):Option ((Y3×Bool×A2)×A2):=(Qd (x.1,())).bind λb=>if !b.1.1 then I (((0,0,0,([]:List A6),([]:List Mark),([]:List A6),()),A3,()),()) else(TD (x.1,())).bind λc=>(XT (c.1.1,x.2)).bind λa=>if Ah (!(!a.1.2.1)) ((Qd (a.1.1,())).isSome) then if(!a.1.2.1)||(!(((Qd (a.1.1,())).getD ((A3,()),())).1.1)) then(TD (x.1,())).bind λd=>I ((d.1.1,A3,()),()) else(TD (a.1.1,())).bind λe=>I ((e.1.1,U,()),()) else A0
def lh:Ent:=(125,A0,⟨[Z8,.str],[Z4,.bool],TF⟩)
def yR:SQ Tryz.prog lh:=sk (v:= .nil) (fn:=Tryz.f125) apd kN
def aoM:Cx:=cX [Il,zt,lh] [] []
def aD5:OKC Tryz.prog aoM AI:=okc mixed<|gC JF<|gC acm<|gC yR<|AL
def XQ(x:List A4×Y3×Y3×Int×A2):Rnd (List A4×Y3×Y3×Int×A2) (Y3×Bool×A2) (Y3×Y3×A2):=if A1 (x.2.2.2.1<(x.1.length:Int)) then if inb x.2.2.2.1 x.1.length then(TF (x.2.2.1,(rd (dfl .str) x.1 x.2.2.2.1),())).bind λa=>if !a.1.2.1 then I (.inr<|.inl ((0,0,0,([]:List A6),([]:List Mark),([]:List A6),()),A3,())) else I (.inl (x.1,x.2.1,a.1.1,(w64<|x.2.2.2.1+1),())) else A0 else I (.inr<|.inr (x.2.1,x.2.2.1,()))
def vN:=AW XQ
def aAk:Loop:=⟨[(1,.sl .str),(4,Z9),(6,Z9),(7,.int .i64)],[(4,Z9),(6,Z9)],0,[(4,Z9),(5,.bool)],vN⟩
def anh:LF Tryz.f88 [] [1,1,1,0,1,0,0] aAk:=sq (v:= .nil) aD5 (b:=XQ) kN
def TE(x:Int×List A4×A2):Option ((Y3×Bool×A2)×A2):=(gR (x.1,())).bind λb=>(Fq (x.1,())).bind λc=>if !c.1.1 then I ((b.1.1,A3,()),()) else(AP (vN (x.2.1,(0,0,0,([]:List A6),([]:List Mark),([]:List A6),()),b.1.1,0,())) (λa=>I (a,())) λa=>I ((a.2.1,U,()),()))
def ld:Ent:=(88,A0,⟨[.int .i64,.fz .str],[Z4,.bool],TE⟩)
def yQ:SQ Tryz.prog ld:=sk (v:=t1<|t1<|t1<|.two (t1<|.one<|.loop aAk) .nil) (fn:=Tryz.f88) aD5<|kC anh kN
def anL:Cx:=cX [Wg,ld] [] []
def aqE:OKC Tryz.prog anL AI:=okc mixed<|gC dW<|gC yQ<|AL
def GQ(x:Y1×A2):Option ((Y3×Bool×A2)×A2):=(Lz (x.1.2.2.1,())).bind λa=>(TE (x.1.1,a.1.1,())).bind λb=>I (b.1,())
def JI:Ent:=(46,A0,⟨[Z12],[Z4,.bool],GQ⟩)
def Jy:SQ Tryz.prog JI:=sk (v:= .nil) (fn:=Tryz.f46) aqE kN
def ak6:Cx:=cX [] [] []
def ao7:OKC Tryz.prog ak6 AI:=okc mixed<|AL
def iS(x:Int×Int×A2):Option ((Int×A2)×A2):=if A1 (x.1<x.2.1) then I ((x.1,()),()) else I (x.2,())
def kY:Ent:=(133,A0,⟨[.int .i64,.int .i64],[.int .i64],iS⟩)
def xH:SQ Tryz.prog kY:=sk (v:= .nil) (fn:=Tryz.f133) ao7 kN
def aiR:Cx:=cX [Il] [] []
def akf:OKC Tryz.prog aiR AI:=okc mixed<|gC JF<|AL
def T4(x:Int×Int×A2):Option ((Int×A2)×A2):=(BW (X:=Int×Int×Bool×A2) (λa=>if a.2.2.1 then I (((-1),()),()) else if A1 (a.1<a.2.1) then I (((w64<|a.1+1),()),()) else I (((w64<|a.1 - 1),()),()))<|(Fq (x.1,())).bind λb=>if !b.1.1 then I (.inr (x.1,x.2.1,U,())) else(Fq x.2).bind λc=>if !c.1.1 then I (.inr (x.1,x.2.1,U,())) else I (.inr (x.1,x.2.1,(A1<|x.1=x.2.1),())))
def jt:Ent:=(89,A0,⟨[.int .i64,.int .i64],[.int .i64],T4⟩)
def ww:SQ Tryz.prog jt:=sk (v:=t1<|.two (.one<|.join [(0,.int .i64),(1,.int .i64),(5,.bool)] .nil .nil) .nil) (fn:=Tryz.f89) akf kN
def aja:Cx:=cX [HK,Il,jt] [] [(65,67),(88,91)]
def aoF:OKC Tryz.prog aja AI:=okc mixed<|gC Hk<|gC JF<|gC ww<|AL
def XR(x:Y6×A2):Option ((Bool×A2)×A2):=(DL (x.1.1,1,3,())).bind λa=>if !a.1.1 then I ((A3,()),()) else(Fq (x.1.2.1,())).bind λb=>if !b.1.1 then I ((A3,()),()) else(Fq (x.1.2.2.1,())).bind λc=>if !c.1.1 then I ((A3,()),()) else(Fq (x.1.2.2.2.1,())).bind λd=>if !d.1.1 then I ((A3,()),()) else(Fq (x.1.2.2.2.2.2.1,())).bind λe=>if !e.1.1 then I ((A3,()),()) else(DL (x.1.2.2.2.2.1,1,99,())).bind λf=>if !f.1.1 then I ((A3,()),()) else(DL (x.1.2.2.2.2.2.2.1,1,999,())).bind λg=>if !g.1.1 then I ((A3,()),()) else if !decide (x.1.1=1) then(T4 (x.1.2.2.1,x.1.2.2.2.2.2.1,())).bind λh=>if A1 (h.1.1=x.1.2.1) then if A1 (x.1.2.2.2.2.2.2.2.1=0) then let i:=((A1<|x.1.2.2.2.2.2.2.2.2.1=0)&&(A1<|x.1.2.2.2.2.2.2.2.2.2.1=noB));I ((i,()),()) else I ((A3,()),()) else I ((A3,()),()) else(T4 (x.1.2.1,x.1.2.2.2.2.2.1,())).bind λj=>if A1 (j.1.1=x.1.2.2.1) then(DL (x.1.2.2.2.2.2.2.2.1,1,24,())).bind λk=>if k.1.1 then(DL (x.1.2.2.2.2.2.2.2.2.1,0,999,())).bind λl=>let m:=(l.1.1&&(A1<|(x.1.2.2.2.2.2.2.2.2.2.1.size:Int)=4));I ((m,()),()) else I ((A3,()),()) else I ((A3,()),())
def kb:Ent:=(173,A0,⟨[Z13],[.bool],XR⟩)
def xE:SQ Tryz.prog kb:=sk (v:= .nil) (fn:=Tryz.f173) aoF kN
def anN:Cx:=cX [] [] []
def aqF:OKC Tryz.prog anN AI:=okc mixed<|AL
def Oc(x:List Int×Int×A2):Option ((List Int×A2)×A2):=if Af (x.1.length+([(w8<|w64<|B5 x.2.1 256),(w8<|BO x.2.1 256)]:List Int).length) then I (((x.1++([(w8<|w64<|B5 x.2.1 256),(w8<|BO x.2.1 256)]:List Int)),()),()) else A0
def aDR:Ent:=(220,A0,⟨[.row 5 .u8,.int .i64],[.row 5 .u8],Oc⟩)
def afe:SQ Tryz.prog aDR:=sk (v:= .nil) (fn:=Tryz.f220) aqF kN
def aiU:Cx:=cX [] [] []
def aBS:OKC Tryz.prog aiU AI:=okc mixed<|AL
def gV(x:List Int×Int×Int×A2):Rnd (List Int×Int×Int×A2) (A2) (Int×A2):=if A1 (x.2.2.1<(x.1.length:Int)) then if inb x.2.2.1 x.1.length then let a:=(BO (w64<|x.2.1+(w64<|(w64<|(BO x.2.2.1 1000)+1) * (w64<|rd (dfl .u8) x.1 x.2.2.1))) 65521);I (.inl (x.1,a,(w64<|x.2.2.1+1),())) else A0 else I (.inr<|.inr (x.2.1,()))
def dt:=AW gV
def yS:Loop:=⟨[(0,.sl .u8),(3,.int .i64),(4,.int .i64)],[(3,.int .i64)],0,[],dt⟩
def ahy:LF Tryz.f221 [] [1,1,0,1,0,0] yS:=sq (v:= .nil) aBS (b:=gV) kN
def T5(x:List Int×A2):Option ((Int×A2)×A2):=(AP (dt (x.1,0,0,())) (λ_=>A0) λa=>I (a,()))
def aBI:Ent:=(221,A0,⟨[.fz .u8],[.int .i64],T5⟩)
def ae3:SQ Tryz.prog aBI:=sk (v:=t1<|t1<|.two (t1<|.one<|.loop yS) .nil) (fn:=Tryz.f221) aBS<|kC ahy kN
def agZ:Cx:=cX [kb,aDR,aBI] [] []
def aiE:OKC Tryz.prog agZ AI:=okc mixed<|gC xE<|gC afe<|gC ae3<|AL
def QO(x:Y6×A2):Option ((List Int×A2)×A2):=(XR x).bind λc=>if !c.1.1 then I ((([]:List Int),()),()) else if Af (([]:List Int).length+([(w8 x.1.1),(w8 x.1.2.1),(w8 x.1.2.2.1),(w8 x.1.2.2.2.1),(w8 x.1.2.2.2.2.1),(w8 x.1.2.2.2.2.2.1)]:List Int).length) then(Oc ((([]:List Int)++([(w8 x.1.1),(w8 x.1.2.1),(w8 x.1.2.2.1),(w8 x.1.2.2.2.1),(w8 x.1.2.2.2.2.1),(w8 x.1.2.2.2.2.2.1)]:List Int)),x.1.2.2.2.2.2.2.1,())).bind λa=>if A1 (x.1.1=1) then if Af (a.1.1.length+([(w8 x.1.2.2.2.2.2.2.2.1)]:List Int).length) then(Oc ((a.1.1++([(w8 x.1.2.2.2.2.2.2.2.1)]:List Int)),x.1.2.2.2.2.2.2.2.2.1,())).bind λb=>if Af x.1.2.2.2.2.2.2.2.2.2.1.size then if Af (b.1.1.length+(BF x.1.2.2.2.2.2.2.2.2.2.1).length) then(T5 ((b.1.1++(BF x.1.2.2.2.2.2.2.2.2.2.1)),())).bind λd=>(Oc ((b.1.1++(BF x.1.2.2.2.2.2.2.2.2.2.1)),d.1)).bind λe=>I (e.1,()) else A0 else A0 else A0 else(T5 a.1).bind λf=>(Oc (a.1.1,f.1)).bind λg=>I (g.1,()) else A0
def wD:Ent:=(172,A0,⟨[Z13],[.row 5 .u8],QO⟩)
def ac2:SQ Tryz.prog wD:=sk (v:= .nil) (fn:=Tryz.f172) aiE kN
def ads:Cx:=cX [wD] [] [(9,11)]
def af6:OKC Tryz.prog ads AI:=okc mixed<|gC ac2<|AL
def eO(x:List Int×A2):Option ((Y6×Bool×A2)×A2):=if(!decide ((x.1.length:Int)=10))&&(!decide ((x.1.length:Int)=17)) then I (((0,0,0,0,0,0,0,0,0,noB,()),A3,()),()) else if inb 0 x.1.length then if inb 1 x.1.length then if inb 2 x.1.length then if inb 3 x.1.length then if inb 4 x.1.length then if inb 5 x.1.length then if inb 6 x.1.length then if inb 7 x.1.length then let b:=(w64<|rd (dfl .u8) x.1 0);let c:=(w64<|rd (dfl .u8) x.1 1);let d:=(w64<|rd (dfl .u8) x.1 2);let e:=(w64<|rd (dfl .u8) x.1 3);let f:=(w64<|rd (dfl .u8) x.1 4);let g:=(w64<|rd (dfl .u8) x.1 5);let h:=(w64<|(w64<|(w64<|rd (dfl .u8) x.1 6) * 256)+(w64<|rd (dfl .u8) x.1 7));(BW (X:=List Int×Y6×Y6×A2) (λa=>(QO a.2.2).bind λi=>if !decide ((BK i.1.1)=(BK a.1)) then I (((0,0,0,0,0,0,0,0,0,noB,()),A3,()),()) else I ((a.2.2.1,U,()),()))<|(if A1 (10<(x.1.length:Int)) then if inb 8 x.1.length then let j:=(w64<|rd (dfl .u8) x.1 8);(if inb 9 x.1.length then if inb 10 x.1.length then let k:=(w64<|(w64<|(w64<|rd (dfl .u8) x.1 9) * 256)+(w64<|rd (dfl .u8) x.1 10));(if(A1 (0<=15)&&A1 (15<=(x.1.length:Int)))&&(A1 (0<=11)&&A1 (11<=15)) then let l:=(BK<|Bv (AR 11)<|BS (AR 15) x.1);I (.inr (x.1,(0,0,0,0,0,0,0,0,0,noB,()),(b,c,d,e,f,g,h,j,k,l,()),())) else A0) else A0 else A0) else A0 else I (.inr (x.1,(0,0,0,0,0,0,0,0,0,noB,()),(b,c,d,e,f,g,h,0,0,noB,()),())))) else A0 else A0 else A0 else A0 else A0 else A0 else A0 else A0
def vI:Ent:=(134,A0,⟨[.fz .u8],[Z13,.bool],eO⟩)
def abj:SQ Tryz.prog vI:=sk (v:=t1<|t1<|t1<|.join [(0,.sl .u8),(2,Z14),(4,Z14)] .nil .nil) (fn:=Tryz.f134) af6 kN
def ajU:Cx:=cX [HK,Wg] [] [(12,18),(41,44)]
def aoD:OKC Tryz.prog ajU AI:=okc mixed<|gC Hk<|gC dW<|AL
def OV(x:Y7×A2):Option ((Bool×A2)×A2):=if Ah (!(A1<|2400<(x.1.1.size:Int))) ((DL (x.1.2.1,0,(x.1.1.size:Int),())).isSome) then if(A1<|2400<(x.1.1.size:Int))||(!(((DL (x.1.2.1,0,(x.1.1.size:Int),())).getD ((A3,()),())).1.1)) then I ((A3,()),()) else(Lz (x.1.1,())).bind λa=>if A1 (0<=x.1.2.1)&&A1 (x.1.2.1<=(x.1.1.size:Int)) then(Lz ((x.1.1.extract (0)<|AR x.1.2.1),())).bind λb=>let c:=((A1<|a.1.2.1=(x.1.1.size:Int))&&(A1<|b.1.2.1=x.1.2.1));I ((c,()),()) else A0 else A0
def T8:Ent:=(98,A0,⟨[Z15],[.bool],OV⟩)
def W0:SQ Tryz.prog T8:=sk (v:= .nil) (fn:=Tryz.f98) aoD kN
def ahm:Cx:=cX [] [] []
def akV:OKC Tryz.prog ahm AI:=okc mixed<|AL
def M6(x:Int×A2):Option ((Int×A2)×A2):=let a:=(w64<|B5 (w64<|(w64<|x.1+4) - 1) 4);I ((a,()),())
def Ww:Ent:=(130,A0,⟨[.int .i64],[.int .i64],M6⟩)
def dk:SQ Tryz.prog Ww:=sk (v:= .nil) (fn:=Tryz.f130) akV kN
def aqx:Cx:=cX [HK] [] [(8,9)]
def arL:OKC Tryz.prog aqx AI:=okc mixed<|gC Hk<|AL
def NK(x:Int×Int×A2):Option ((Bool×A2)×A2):=(DL (x.1,1,6,())).bind λa=>if Ah a.1.1 ((DL (x.2.1,0,999,())).isSome) then let b:=(a.1.1&&(((DL (x.2.1,0,999,())).getD ((A3,()),())).1.1));I ((b,()),()) else A0
def Te:Ent:=(171,A0,⟨[.int .i64,.int .i64],[.bool],NK⟩)
def iJ:SQ Tryz.prog Te:=sk (v:= .nil) (fn:=Tryz.f171) arL kN
def ajK:Cx:=cX [Te] [] [(10,13)]
def ao8:OKC Tryz.prog ajK AI:=okc mixed<|gC iJ<|AL
def TB(x:Int×Y8×A2):Option ((Bool×A2)×A2):=(NK (x.1,x.2.1.1,())).bind λa=>let b:=(a.1.1&&(A1<|(x.2.1.2.1.size:Int)=4));I ((b,()),())
def kZ:Ent:=(131,A0,⟨[.int .i64,Z16],[.bool],TB⟩)
def xI:SQ Tryz.prog kZ:=sk (v:= .nil) (fn:=Tryz.f131) ao8 kN
def agv:Cx:=cX [HK,Il,Ww,kZ] [] []
def wG:OKC Tryz.prog agv AI:=okc mixed<|gC Hk<|gC JF<|gC dk<|gC xI<|AL
def fb(x:Y9×Int×Int×A2):Rnd (Y9×Int×Int×A2) (Bool×A2) (Y9×Int×A2):=if A1 (x.2.2.1<x.2.1) then if inb x.2.2.1 x.1.2.2.2.2.2.1.length then if inb x.2.1 x.1.2.2.2.2.2.1.length then if A1 ((rd (dfl .mixed) x.1.2.2.2.2.2.1 x.2.2.1).nu=(rd (dfl .mixed) x.1.2.2.2.2.2.1 x.2.1).nu) then I (.inr<|.inl (A3,())) else I (.inl (x.1,x.2.1,(w64<|x.2.2.1+1),())) else A0 else A0 else I (.inr<|.inr (x.1,x.2.1,()))
def tu:=AW fb
def xJ:Loop:=⟨[(1,Z17),(3,.int .i64),(4,.int .i64)],[(1,Z17),(3,.int .i64)],2,[(2,.bool)],tu⟩
def agE:LF Tryz.f99 [] [1,1,0,1,0,0,1,0,0,1,1,0,0] xJ:=sq (v:= .nil) wG (b:=fb) kN
def fc(x:Y9×Int×A2):Rnd (Y9×Int×A2) (Bool×A2) (A2):=if A1 (x.2.1<(x.1.2.2.2.2.2.1.length:Int)) then(M6 (x.1.2.2.2.2.1,())).bind λb=>if inb x.2.1 x.1.2.2.2.2.2.1.length then(TB (b.1.1,((rd (dfl .mixed) x.1.2.2.2.2.2.1 x.2.1).nu,(rd (dfl .mixed) x.1.2.2.2.2.2.1 x.2.1).da,()),())).bind λc=>if !c.1.1 then I (.inr<|.inl (A3,())) else(AP (tu (x.1,x.2.1,0,())) (λa=>I<|.inr<|.inl a) λa=>I<|.inl (a.1,(w64<|a.2.1+1),())) else A0 else I (.inr<|.inr ())
def tv:=AW fc
def xK:Loop:=⟨[(1,Z17),(3,.int .i64)],[],0,[(2,.bool)],tv⟩
def agJ:LF Tryz.f99 [] [1,1,0,1,0,0] xK:=sq (v:=t1<|.two (.one<|t1<|t1<|.one<|.loop xJ) .nil) wG (b:=fc)<|kC agE kN
def gI(x:Y9×A2):Option ((Bool×A2)×A2):=(Fq (x.1.1,())).bind λb=>if !b.1.1 then I ((A3,()),()) else(Fq (x.1.2.2.1,())).bind λc=>if !c.1.1 then I ((A3,()),()) else(DL (x.1.2.1,1,99,())).bind λd=>if !d.1.1 then I ((A3,()),()) else(DL (x.1.2.2.2.1,1,999,())).bind λe=>if !e.1.1 then I ((A3,()),()) else(DL (x.1.2.2.2.2.1,1,24,())).bind λf=>if !f.1.1 then I ((A3,()),()) else if A1 (14<(x.1.2.2.2.2.2.1.length:Int)) then I ((A3,()),()) else(AP (tv (x.1,0,())) (λa=>I (a,())) λa=>I ((U,()),()))
def zo:Ent:=(99,A0,⟨[Z18],[.bool],gI⟩)
def ad1:SQ Tryz.prog zo:=sk (v:=t1<|t1<|.two (t1<|.one<|.loop xK) .nil) (fn:=Tryz.f99) wG<|kC agJ kN
def aiS:Cx:=cX [JI,Il,Wg,ld,T8,zo] [] [(64,65),(100,112)]
def jz:OKC Tryz.prog aiS AI:=okc mixed<|gC Jy<|gC JF<|gC dW<|gC yQ<|gC W0<|gC ad1<|AL
def gP(x:Y1×Int×Int×A2):Rnd (Y1×Int×Int×A2) (Bool×A2) (Y1×Int×A2):=if A1 (x.2.2.1<x.2.1) then if inb x.2.2.1 x.1.2.2.2.2.1.length then if inb x.2.1 x.1.2.2.2.2.1.length then if Ah (A1<|(rd (dfl .half) x.1.2.2.2.2.1 x.2.2.1).fr=(rd (dfl .half) x.1.2.2.2.2.1 x.2.1).fr) (inb x.2.2.1 x.1.2.2.2.2.1.length) then if Ah (A1<|(rd (dfl .half) x.1.2.2.2.2.1 x.2.2.1).fr=(rd (dfl .half) x.1.2.2.2.2.1 x.2.1).fr) (inb x.2.1 x.1.2.2.2.2.1.length) then if(A1<|(rd (dfl .half) x.1.2.2.2.2.1 x.2.2.1).fr=(rd (dfl .half) x.1.2.2.2.2.1 x.2.1).fr)&&(A1<|(rd (dfl .half) x.1.2.2.2.2.1 x.2.2.1).nu=(rd (dfl .half) x.1.2.2.2.2.1 x.2.1).nu) then I (.inr<|.inl (A3,())) else I (.inl (x.1,x.2.1,(w64<|x.2.2.1+1),())) else A0 else A0 else A0 else A0 else I (.inr<|.inr (x.1,x.2.1,()))
def uH:=AW gP
def yK:Loop:=⟨[(1,Z19),(9,.int .i64),(10,.int .i64)],[(1,Z19),(9,.int .i64)],2,[(2,.bool)],uH⟩
def ahq:LF Tryz.f57 [] [1,1,1,1,1,1,0,1,0,0,1,0,0,1,1,0,0] yK:=sq (v:= .nil) jz (b:=gP) kN
def gQ(x:Y1×Int×A2):Rnd (Y1×Int×A2) (Bool×A2) (A2):=if A1 (x.2.1<(x.1.2.2.2.2.1.length:Int)) then if inb x.2.1 x.1.2.2.2.2.1.length then(gI (((rd (dfl .half) x.1.2.2.2.2.1 x.2.1).fr,(rd (dfl .half) x.1.2.2.2.2.1 x.2.1).nu,(rd (dfl .half) x.1.2.2.2.2.1 x.2.1).to,(rd (dfl .half) x.1.2.2.2.2.1 x.2.1).un,(rd (dfl .half) x.1.2.2.2.2.1 x.2.1).sz,(rd (dfl .half) x.1.2.2.2.2.1 x.2.1).got,()),())).bind λb=>if !b.1.1 then I (.inr<|.inl (A3,())) else(AP (uH (x.1,x.2.1,0,())) (λa=>I<|.inr<|.inl a) λa=>I<|.inl (a.1,(w64<|a.2.1+1),())) else A0 else I (.inr<|.inr ())
def dm:=AW gQ
def yL:Loop:=⟨[(1,Z19),(9,.int .i64)],[],0,[(2,.bool)],dm⟩
def ahw:LF Tryz.f57 [] [1,1,1,1,1,1,0,1,0,0] yL:=sq (v:=t1<|.two (.one<|t1<|t1<|.one<|.loop yK) .nil) jz (b:=gQ)<|kC ahq kN
def JJ(x:Y1×A2):Option ((Bool×A2)×A2):=(BW (X:=Y1×A2) (λa=>if A1 (0<=a.1.2.2.2.1)&&A1 (a.1.2.2.2.1<=(a.1.2.2.1.size:Int)) then(Lz ((a.1.2.2.1.extract (0)<|AR a.1.2.2.2.1),())).bind λc=>(TE (a.1.1,c.1.1,())).bind λd=>(GQ a).bind λe=>if(!e.1.2.1)||(!d.1.2.1) then I ((A3,()),()) else(AP (dm (a.1,0,())) (λb=>I (b,())) λb=>I ((U,()),())) else A0)<|(Fq (x.1.1,())).bind λf=>if !f.1.1 then I (.inl ((A3,()),())) else(OV ((x.1.2.2.1,x.1.2.2.2.1,()),())).bind λg=>if !g.1.1 then I (.inl ((A3,()),())) else if A1 (3<(x.1.2.2.2.2.1.length:Int)) then I (.inl ((A3,()),())) else if !x.1.2.1 then if A1 (0<(x.1.2.2.2.2.1.length:Int)) then I (.inl ((A3,()),())) else I (.inr x) else I (.inr x))
def LA:Ent:=(57,A0,⟨[Z12],[.bool],JJ⟩)
def M4:SQ Tryz.prog LA:=sk (v:=t1<|.join [(1,Z19)] .nil<|t1<|t1<|t1<|t1<|.two (t1<|.one<|.loop yL) .nil) (fn:=Tryz.f57) jz<|kC ahw kN
def ajN:Cx:=cX [] [] []
def aBt:OKC Tryz.prog ajN AI:=okc mixed<|AL
def iH(x:Y1×Y1×List AJ×Int×A2):Rnd (Y1×Y1×List AJ×Int×A2) (A2) (Y1×Y1×List AJ×A2):=if A1 (x.2.2.2.1<(x.1.2.2.2.2.1.length:Int)) then if inb x.2.2.2.1 x.1.2.2.2.2.1.length then let b:=(rd (dfl .half) x.1.2.2.2.2.1 x.2.2.2.1).fr;let c:=(rd (dfl .half) x.1.2.2.2.2.1 x.2.2.2.1).nu;let d:=(rd (dfl .half) x.1.2.2.2.2.1 x.2.2.2.1).to;let e:=(rd (dfl .half) x.1.2.2.2.2.1 x.2.2.2.1).un;let f:=(rd (dfl .half) x.1.2.2.2.2.1 x.2.2.2.1).sz;let a:=(rd (dfl .half) x.1.2.2.2.2.1 x.2.2.2.1).got;if Af (([]:List AX).length+a.length) then if Af (x.2.2.1.length+([(AJ.mk b c d e f<|([]:List AX)++a)]:List AJ).length) then I (.inl (x.1,x.2.1,(x.2.2.1++([(AJ.mk b c d e f<|([]:List AX)++a)]:List AJ)),(w64<|x.2.2.2.1+1),())) else A0 else A0 else A0 else I (.inr<|.inr (x.1,x.2.1,x.2.2.1,()))
def uj:=AW iH
def yy:Loop:=⟨[(1,Z19),(2,Z20),(3,.row 107 .half),(4,.int .i64)],[(1,Z19),(2,Z20),(3,.row 107 .half)],0,[],uj⟩
def aip:LF Tryz.f94 [] [1,1,0,1,0,0] yy:=sq (v:= .nil) aBt (b:=iH) kN
def HI(x:Y1×A2):Option ((Y1×A2)×A2):=(AP (uj (x.1,(0,A3,noB,0,([]:List AJ),()),([]:List AJ),0,())) (λ_=>A0) λa=>I (((a.1.1,a.1.2.1,a.1.2.2.1,a.1.2.2.2.1,a.2.2),()),()))
def NI:Ent:=(94,A0,⟨[Z12],[Z1],HI⟩)
def OQ:SQ Tryz.prog NI:=sk (v:=t1<|t1<|.two (t1<|.one<|.loop yy) .nil) (fn:=Tryz.f94) aBt<|kC aip kN
def ahQ:Cx:=cX [Oh] [] []
def akX:OKC Tryz.prog ahQ AI:=okc mixed<|gC QN<|AL
def X0(x:Int×Int×Int×A2):Option ((A4×A2)×A2):=(Dc (x.1,())).bind λa=>if A1 (a.1.1.size+(B [32]).size<=4611686018427387904) then(Dc (x.2.1,())).bind λb=>if A1 ((a.1.1++(B [32])).size+b.1.1.size<=4611686018427387904) then if A1 (((a.1.1++(B [32]))++b.1.1).size+(B [32]).size<=4611686018427387904) then(Dc x.2.2).bind λc=>if A1 ((((a.1.1++(B [32]))++b.1.1)++(B [32])).size+c.1.1.size<=4611686018427387904) then let d:=((((a.1.1++(B [32]))++b.1.1)++(B [32]))++c.1.1);I ((d,()),()) else A0 else A0 else A0 else A0
def kM:Ent:=(169,A0,⟨[.int .i64,.int .i64,.int .i64],[.str],X0⟩)
def wh:SQ Tryz.prog kM:=sk (v:= .nil) (fn:=Tryz.f169) akX kN
def afR:Cx:=cX [T8] [] []
def agX:OKC Tryz.prog afR AI:=okc mixed<|gC W0<|AL
def QF(x:Y7×A2):Option ((Y7×A2)×A2):=(OV x).bind λa=>if !a.1.1 then I (((noB,0,()),()),()) else I (((x.1.1,(x.1.1.size:Int),()),()),())
def fX:Ent:=(166,A0,⟨[Z15],[Z15],QF⟩)
def tL:SQ Tryz.prog fX:=sk (v:= .nil) (fn:=Tryz.f166) agX kN
def anS:Cx:=cX [Oh] [] []
def apc:OKC Tryz.prog anS AI:=okc mixed<|gC QN<|AL
def Qc(x:A4×A2):Option ((A4×A2)×A2):=(Dc ((x.1.size:Int),())).bind λa=>if A1 (a.1.1.size+(B [58]).size<=4611686018427387904) then if A1 ((a.1.1++(B [58])).size+x.1.size<=4611686018427387904) then if A1 (((a.1.1++(B [58]))++x.1).size+(B [59]).size<=4611686018427387904) then let b:=(((a.1.1++(B [58]))++x.1)++(B [59]));I ((b,()),()) else A0 else A0 else A0
def lD:Ent:=(127,A0,⟨[.str],[.str],Qc⟩)
def yI:SQ Tryz.prog lD:=sk (v:= .nil) (fn:=Tryz.f127) apc kN
def ahW:Cx:=cX [HK] [] []
def akb:OKC Tryz.prog ahW AI:=okc mixed<|gC Hk<|AL
def ga(x:A4×A2):Option ((Bool×A2)×A2):=(DL ((x.1.size:Int),1,60,())).bind λa=>I (a.1,())
def kO:Ent:=(219,A0,⟨[.str],[.bool],ga⟩)
def wm:SQ Tryz.prog kO:=sk (v:= .nil) (fn:=Tryz.f219) akb kN
def ahX:Cx:=cX [T8,lD,kO] [] [(14,21)]
def akc:OKC Tryz.prog ahX AI:=okc mixed<|gC W0<|gC yI<|gC wm<|AL
def Sy(x:Y7×A4×A2):Option ((Y7×Bool×A2)×A2):=(OV (x.1,())).bind λc=>if !c.1.1 then I (((noB,0,()),A3,()),()) else(ga x.2).bind λa=>if Ah (!(!a.1.1)) ((Qc x.2).isSome) then if(!a.1.1)||(A1<|2400<(w64<|(x.1.1.size:Int)+((((Qc x.2).getD ((noB,()),())).1.1).size:Int))) then I ((x.1,A3,()),()) else(Qc x.2).bind λb=>if A1 (x.1.1.size+b.1.1.size<=4611686018427387904) then I ((((x.1.1++b.1.1),x.1.2),U,()),()) else A0 else A0
def aBG:Ent:=(165,A0,⟨[Z15,.str],[Z15,.bool],Sy⟩)
def adU:SQ Tryz.prog aBG:=sk (v:= .nil) (fn:=Tryz.f165) akc kN
def agy:Cx:=cX [T8,lD,kO] [] []
def zY:OKC Tryz.prog agy AI:=okc mixed<|gC W0<|gC yI<|gC wm<|AL
def Sg(x:List A4×Y7×Y7×A4×Int×A2):Rnd (List A4×Y7×Y7×A4×Int×A2) (Y7×Bool×A2) (Y7×Y7×A4×A2):=if A1 (x.2.2.2.2.1<(x.1.length:Int)) then if inb x.2.2.2.2.1 x.1.length then(ga ((rd (dfl .str) x.1 x.2.2.2.2.1),())).bind λb=>if !b.1.1 then I (.inr<|.inl (x.2.1,A3,())) else if inb x.2.2.2.2.1 x.1.length then(Qc ((rd (dfl .str) x.1 x.2.2.2.2.1),())).bind λa=>if A1 (x.2.2.2.1.size+a.1.1.size<=4611686018427387904) then I (.inl (x.1,x.2.1,x.2.2.1,(x.2.2.2.1++a.1.1),(w64<|x.2.2.2.2.1+1),())) else A0 else A0 else A0 else I (.inr<|.inr (x.2.1,x.2.2.1,x.2.2.2.1,()))
def dX:=AW Sg
def xN:Loop:=⟨[(1,.sl .str),(2,Z21),(4,Z21),(6,.str),(7,.int .i64)],[(2,Z21),(4,Z21),(6,.str)],0,[(4,Z21),(5,.bool)],dX⟩
def agL:LF Tryz.f180 [] [1,1,1,0,1,0,0] xN:=sq (v:= .nil) zY (b:=Sg) kN
def Sm(x:Y7×List A4×A2):Option ((Y7×Bool×A2)×A2):=(OV (x.1,())).bind λb=>if !b.1.1 then I (((noB,0,()),A3,()),()) else(AP (dX (x.2.1,x.1,(noB,0,()),noB,0,())) (λa=>I (a,())) λa=>(if A1 (2400<(a.2.2.1.size:Int)) then I ((a.1,A3,()),()) else I (((a.2.2.1,(a.2.2.1.size:Int),()),U,()),())))
def wU:Ent:=(180,A0,⟨[Z15,.fz .str],[Z15,.bool],Sm⟩)
def acK:SQ Tryz.prog wU:=sk (v:=t1<|t1<|t1<|.two (t1<|.one<|.loop xN) .nil) (fn:=Tryz.f180) zY<|kC agL kN
def aiT:Cx:=cX [lc,Oh,Wh] [] []
def iC:OKC Tryz.prog aiT AI:=okc mixed<|gC yP<|gC QN<|gC dZ<|AL
def gS(x:Y3×List A4×Int×A2):Rnd (Y3×List A4×Int×A2) (A2) (List A4×A2):=if A1 (x.2.2.1<(x.1.2.2.2.2.2.1.length:Int)) then if inb x.2.2.1 x.1.2.2.2.2.2.1.length then(NA (((rd (dfl .note) x.1.2.2.2.2.2.1 x.2.2.1).fr,(rd (dfl .note) x.1.2.2.2.2.2.1 x.2.2.1).nu,(rd (dfl .note) x.1.2.2.2.2.2.1 x.2.2.1).to,(rd (dfl .note) x.1.2.2.2.2.2.1 x.2.2.1).un,(rd (dfl .note) x.1.2.2.2.2.2.1 x.2.2.1).tx,()),())).bind λa=>if A1 ((B [105,110,98,111,120,32]).size+a.1.1.size<=4611686018427387904) then if Af (x.2.1.length+([((B [105,110,98,111,120,32])++a.1.1)]:List A4).length) then I (.inl (x.1,(x.2.1++([((B [105,110,98,111,120,32])++a.1.1)]:List A4)),(w64<|x.2.2.1+1),())) else A0 else A0 else A0 else I (.inr<|.inr (x.2.1,()))
def dp:=AW gS
def yM:Loop:=⟨[(1,Z7),(3,.row 9 .str),(7,.int .i64)],[(3,.row 9 .str)],4,[],dp⟩
def aho:LF Tryz.f181 [] [1,1,1,1,1,1,1,0,1,0,0] yM:=sq (v:= .nil) iC (b:=gS) kN
def gT(x:Y3×List A4×Int×A2):Rnd (Y3×List A4×Int×A2) (A2) (Y3×List A4×A2):=if A1 (x.2.2.1<(x.1.2.2.2.1.length:Int)) then if inb x.2.2.1 x.1.2.2.2.1.length then(NA (((rd (dfl .note) x.1.2.2.2.1 x.2.2.1).fr,(rd (dfl .note) x.1.2.2.2.1 x.2.2.1).nu,(rd (dfl .note) x.1.2.2.2.1 x.2.2.1).to,(rd (dfl .note) x.1.2.2.2.1 x.2.2.1).un,(rd (dfl .note) x.1.2.2.2.1 x.2.2.1).tx,()),())).bind λa=>if A1 ((B [104,101,108,100,32]).size+a.1.1.size<=4611686018427387904) then if Af (x.2.1.length+([((B [104,101,108,100,32])++a.1.1)]:List A4).length) then I (.inl (x.1,(x.2.1++([((B [104,101,108,100,32])++a.1.1)]:List A4)),(w64<|x.2.2.1+1),())) else A0 else A0 else A0 else I (.inr<|.inr (x.1,x.2.1,()))
def dq:=AW gT
def yN:Loop:=⟨[(1,Z7),(3,.row 9 .str),(6,.int .i64)],[(1,Z7),(3,.row 9 .str)],2,[],dq⟩
def ahr:LF Tryz.f181 [] [1,1,1,1,1,1,0,1,0,0] yN:=sq (v:= .nil) iC (b:=gT) kN
def gU(x:Y3×List A4×Int×A2):Rnd (Y3×List A4×Int×A2) (A2) (Y3×List A4×A2):=if A1 (x.2.2.1<(x.1.2.2.2.2.1.length:Int)) then if inb x.2.2.1 x.1.2.2.2.2.1.length then let d:=(rd (dfl .mark) x.1.2.2.2.2.1 x.2.2.1).mf;let e:=(rd (dfl .mark) x.1.2.2.2.2.1 x.2.2.1).mn;let f:=(rd (dfl .mark) x.1.2.2.2.2.1 x.2.2.1).mu;(Dc (d,())).bind λa=>if A1 ((B [109,97,114,107,32]).size+a.1.1.size<=4611686018427387904) then if A1 (((B [109,97,114,107,32])++a.1.1).size+(B [32]).size<=4611686018427387904) then(Dc (e,())).bind λb=>if A1 ((((B [109,97,114,107,32])++a.1.1)++(B [32])).size+b.1.1.size<=4611686018427387904) then if A1 (((((B [109,97,114,107,32])++a.1.1)++(B [32]))++b.1.1).size+(B [32]).size<=4611686018427387904) then(Dc (f,())).bind λc=>if A1 ((((((B [109,97,114,107,32])++a.1.1)++(B [32]))++b.1.1)++(B [32])).size+c.1.1.size<=4611686018427387904) then if Af (x.2.1.length+([((((((B [109,97,114,107,32])++a.1.1)++(B [32]))++b.1.1)++(B [32]))++c.1.1)]:List A4).length) then I (.inl (x.1,(x.2.1++([((((((B [109,97,114,107,32])++a.1.1)++(B [32]))++b.1.1)++(B [32]))++c.1.1)]:List A4)),(w64<|x.2.2.1+1),())) else A0 else A0 else A0 else A0 else A0 else A0 else A0 else I (.inr<|.inr (x.1,x.2.1,()))
def dr:=AW gU
def yO:Loop:=⟨[(1,Z7),(3,.row 9 .str),(4,.int .i64)],[(1,Z7),(3,.row 9 .str)],0,[],dr⟩
def ahx:LF Tryz.f181 [] [1,1,1,1,1,0,1,0,0] yO:=sq (v:= .nil) iC (b:=gU) kN
def X4(x:Y3×A2):Option ((List A4×A2)×A2):=(Qd x).bind λg=>if !g.1.1 then I ((([]:List A4),()),()) else(BW (X:=Y3×List A4×A2) (λa=>(BW (X:=Y3×List A4×A2) (λd=>(AP (dr (d.1,d.2.1,0,())) (λ_=>A0) λe=>(AP (dq (e.1,e.2.1,0,())) (λ_=>A0) λf=>(AP (dp (f.1,f.2.1,0,())) (λ_=>A0) λh=>I (h,())))))<|(if A1 (1<a.1.2.2.1) then(Dc (a.1.2.2.1,())).bind λb=>if A1 ((B [110,101,120,116,32]).size+b.1.1.size<=4611686018427387904) then if Af (a.2.1.length+([((B [110,101,120,116,32])++b.1.1)]:List A4).length) then I (.inr (a.1,(a.2.1++([((B [110,101,120,116,32])++b.1.1)]:List A4)),())) else A0 else A0 else I (.inr a))))<|(if A1 (0<x.1.2.1) then(Dc (x.1.2.1,())).bind λc=>if A1 ((B [116,105,109,101,32]).size+c.1.1.size<=4611686018427387904) then if Af (([]:List A4).length+([((B [116,105,109,101,32])++c.1.1)]:List A4).length) then I (.inr (x.1,(([]:List A4)++([((B [116,105,109,101,32])++c.1.1)]:List A4)),())) else A0 else A0 else I (.inr (x.1,([]:List A4),()))))
def ju:Ent:=(181,A0,⟨[Z8],[.row 9 .str],X4⟩)
def wx:SQ Tryz.prog ju:=sk (v:=t1<|t1<|t1<|.join [(1,Z7),(3,.row 9 .str)] .nil<|.join [(1,Z7),(3,.row 9 .str)] .nil<|.two (t1<|.one<|.loop yO)<|.two (t1<|.one<|.loop yN)<|.two (t1<|.one<|.loop yM) .nil) (fn:=Tryz.f181) iC<|kC ahx<|kC ahr<|kC aho kN
def ahP:Cx:=cX [JI,lh,aBG,fX,wU,ju] [] []
def akW:OKC Tryz.prog ahP AI:=okc mixed<|gC Jy<|gC yR<|gC adU<|gC tL<|gC acK<|gC wx<|AL
def L9(x:Y1×A4×Bool×A2):Option ((Y1×Bool×A2)×A2):=(GQ (x.1,())).bind λb=>(TF (b.1.1,x.2.1,())).bind λe=>if !e.1.2.1 then I ((x.1,A3,()),()) else(Sy ((x.1.2.2.1,x.1.2.2.2.1,()),x.2.1,())).bind λc=>(BW (X:=Bool×Y1×Y1×Y7×Bool×A2) (λa=>if !a.2.2.2.2.1 then I ((a.2.1,A3,()),()) else if a.1 then(QF (a.2.2.2.1,())).bind λd=>I (((a.2.1.1,a.2.1.2.1,d.1.1.1,d.1.1.2.1,a.2.1.2.2.2.2),U,()),()) else I (((a.2.1.1,a.2.1.2.1,a.2.2.2.1.1,a.2.2.2.1.2.1,a.2.1.2.2.2.2),U,()),()))<|(if !c.1.2.1 then(X4 (b.1.1,())).bind λf=>(Sm ((x.1.2.2.1,x.1.2.2.2.1,()),f.1)).bind λg=>(Sy (g.1.1,x.2.1,())).bind λh=>I (.inr (x.2.2.1,x.1,(0,A3,noB,0,([]:List AJ),()),h.1)) else I (.inr (x.2.2.1,x.1,(0,A3,noB,0,([]:List AJ),()),c.1))))
def Sw:Ent:=(176,A0,⟨[Z12,.str,.bool],[Z12,.bool],L9⟩)
def Vp:SQ Tryz.prog Sw:=sk (v:=t1<|t1<|t1<|t1<|t1<|.join [(2,.bool),(3,Z19),(6,Z20),(12,Z21),(13,.bool)] .nil .nil) (fn:=Tryz.f176) akW kN
def agw:Cx:=cX [] [] []
def aik:OKC Tryz.prog agw AI:=okc mixed<|AL
def gJ(x:Int×Y6×A2):Option ((Y6×A2)×A2):=I (((x.1,x.2.1.2.2.1,x.2.1.2.1,x.2.1.2.2.2.1,x.2.1.2.2.2.2.1,x.2.1.2.2.2.2.2.1,x.2.1.2.2.2.2.2.2.1,0,0,noB,()),()),())
def zp:Ent:=(222,A0,⟨[.int .i64,Z13],[Z13],gJ⟩)
def ad2:SQ Tryz.prog zp:=sk (v:= .nil) (fn:=Tryz.f222) aik kN
def ajM:Cx:=cX [] [] []
def ao9:OKC Tryz.prog ajM AI:=okc mixed<|AL
def QW(x:List AJ×Int×A2):Option ((List AJ×A2)×A2):=if A1 (0<=x.2.1)&&A1 (x.2.1<=(x.1.length:Int)) then if Af (([]:List AJ).length+(BS (AR x.2.1) x.1).length) then if A1 (0<=(w64<|x.2.1+1))&&A1 ((w64<|x.2.1+1)<=(x.1.length:Int)) then if Af ((([]:List AJ)++(BS (AR x.2.1) x.1)).length+(Bv (AR<|w64<|x.2.1+1) x.1).length) then I ((((([]:List AJ)++(BS (AR x.2.1) x.1))++(Bv (AR<|w64<|x.2.1+1) x.1)),()),()) else A0 else A0 else A0 else A0
def ka:Ent:=(225,A0,⟨[.fz .half,.int .i64],[.row 107 .half],QW⟩)
def xL:SQ Tryz.prog ka:=sk (v:= .nil) (fn:=Tryz.f225) ao9 kN
def ajL:Cx:=cX [] [] [(22,28)]
def aBs:OKC Tryz.prog ajL AI:=okc mixed<|AL
def iG(x:List AJ×Int×Int×Int×A2):Rnd (List AJ×Int×Int×Int×A2) (Int×A2) (A2):=if A1 (x.2.2.2.1<(x.1.length:Int)) then if inb x.2.2.2.1 x.1.length then if Ah (A1<|(rd (dfl .half) x.1 x.2.2.2.1).fr=x.2.1) (inb x.2.2.2.1 x.1.length) then if(A1<|(rd (dfl .half) x.1 x.2.2.2.1).fr=x.2.1)&&(A1<|(rd (dfl .half) x.1 x.2.2.2.1).nu=x.2.2.1) then I (.inr<|.inl x.2.2.2) else I (.inl (x.1,x.2.1,x.2.2.1,(w64<|x.2.2.2.1+1),())) else A0 else A0 else I (.inr<|.inr ())
def uS:=AW iG
def yx:Loop:=⟨[(0,.sl .half),(1,.int .i64),(2,.int .i64),(7,.int .i64)],[],0,[(6,.int .i64)],uS⟩
def aio:LF Tryz.f248 [] [1,0,1,0,0] yx:=sq (v:= .nil) aBs (b:=iG) kN
def ia(x:List AJ×Int×Int×A2):Option ((Int×A2)×A2):=(AP (uS (x.1,x.2.1,x.2.2.1,0,())) (λa=>I (a,())) λa=>I (((-1),()),()))
def aCI:Ent:=(248,A0,⟨[.fz .half,.int .i64,.int .i64],[.int .i64],ia⟩)
def aej:SQ Tryz.prog aCI:=sk (v:=t1<|.two (t1<|.one<|.loop yx) .nil) (fn:=Tryz.f248) aBs<|kC aio kN
def anM:Cx:=cX [ka,aCI] [] []
def aD2:OKC Tryz.prog anM AI:=okc mixed<|gC xL<|gC aej<|AL
def ib(x:Y1×Y6×Y1×Int×Y9×List AX×Int×A2):Rnd (Y1×Y6×Y1×Int×Y9×List AX×Int×A2) (A2) (Y1×Y6×Y1×Int×Y9×List AX×A2):=if A1 (x.2.2.2.2.2.2.1<(x.2.2.2.2.1.2.2.2.2.2.1.length:Int)) then if inb x.2.2.2.2.2.2.1 x.2.2.2.2.1.2.2.2.2.2.1.length then if !decide ((rd (dfl .mixed) x.2.2.2.2.1.2.2.2.2.2.1 x.2.2.2.2.2.2.1).nu=x.2.1.2.2.2.2.2.2.2.2.1) then if inb x.2.2.2.2.2.2.1 x.2.2.2.2.1.2.2.2.2.2.1.length then if Af (x.2.2.2.2.2.1.length+([(rd (dfl .mixed) x.2.2.2.2.1.2.2.2.2.2.1 x.2.2.2.2.2.2.1)]:List AX).length) then let a:=(w64<|x.2.2.2.2.2.2.1+1);I (.inl (x.1,x.2.1,x.2.2.1,x.2.2.2.1,x.2.2.2.2.1,(x.2.2.2.2.2.1++([(rd (dfl .mixed) x.2.2.2.2.1.2.2.2.2.2.1 x.2.2.2.2.2.2.1)]:List AX)),a,())) else A0 else A0 else let b:=(w64<|x.2.2.2.2.2.2.1+1);I (.inl (x.1,x.2.1,x.2.2.1,x.2.2.2.1,x.2.2.2.2.1,x.2.2.2.2.2.1,b,())) else A0 else I (.inr<|.inr (x.1,x.2.1,x.2.2.1,x.2.2.2.1,x.2.2.2.2.1,x.2.2.2.2.2.1,()))
def fe:=AW ib
def aAY:Loop:=⟨[(2,Z20),(3,Z14),(4,Z20),(6,.int .i64),(7,Z17),(8,.row 142 .mixed),(9,.int .i64)],[(2,Z20),(3,Z14),(4,Z20),(6,.int .i64),(7,Z17),(8,.row 142 .mixed)],0,[],fe⟩
def an5:LF Tryz.f223 [] [1,1,1,1,1,1,0,1,0,0] aAY:=sq (v:= .nil) aD2 (b:=ib) kN
def jX(x:Y1×Y6×A2):Option ((Y1×Int×A2)×A2):=(ia (x.1.2.2.2.2.1,x.2.1.2.2.2.1,x.2.1.2.2.2.2.1,())).bind λe=>(BW (X:=Y1×Y6×Y1×Int×A2) (λa=>if inb a.2.2.2.1 a.1.2.2.2.2.1.length then let i:=(rd (dfl .half) a.1.2.2.2.2.1 a.2.2.2.1).fr;let j:=(rd (dfl .half) a.1.2.2.2.2.1 a.2.2.2.1).nu;let f:=(rd (dfl .half) a.1.2.2.2.2.1 a.2.2.2.1).to;let g:=(rd (dfl .half) a.1.2.2.2.2.1 a.2.2.2.1).un;let h:=(rd (dfl .half) a.1.2.2.2.2.1 a.2.2.2.1).sz;let k:=(rd (dfl .half) a.1.2.2.2.2.1 a.2.2.2.1).got;if !decide (f=a.2.1.2.2.2.2.2.1) then I ((a.1,(-1),()),()) else if !decide (g=a.2.1.2.2.2.2.2.2.1) then I ((a.1,(-1),()),()) else if !decide (h=a.2.1.2.2.2.2.2.2.2.1) then I ((a.1,(-1),()),()) else(AP (fe (a.1,a.2.1,a.2.2.1,a.2.2.2.1,(i,j,f,g,h,k,()),([]:List AX),0,())) (λ_=>A0) λd=>(BW (X:=Y1×Y6×Y1×Int×Y9×List AX×A2) (λc=>if Af (c.2.2.2.2.2.1.length+([(AX.mk c.2.1.2.2.2.2.2.2.2.2.1 c.2.1.2.2.2.2.2.2.2.2.2.1)]:List AX).length) then if inb c.2.2.2.1 c.1.2.2.2.2.1.length then I (((c.1.1,c.1.2.1,c.1.2.2.1,c.1.2.2.2.1,(Bw c.1.2.2.2.2.1 (AR c.2.2.2.1)<|AJ.mk c.2.2.2.2.1.1 c.2.2.2.2.1.2.1 c.2.2.2.2.1.2.2.1 c.2.2.2.2.1.2.2.2.1 c.2.2.2.2.1.2.2.2.2.1<|c.2.2.2.2.2.1++([(AX.mk c.2.1.2.2.2.2.2.2.2.2.1 c.2.1.2.2.2.2.2.2.2.2.2.1)]:List AX)),()),c.2.2.2.1,()),()) else A0 else A0)<|(if A1 (14<=(d.2.2.2.2.2.1.length:Int)) then if A1 (0<=1)&&A1 (1<=(d.2.2.2.2.2.1.length:Int)) then if Af (([]:List AX).length+(Bv (AR 1) d.2.2.2.2.2.1).length) then I (.inr (d.1,d.2.1,d.2.2.1,d.2.2.2.1,d.2.2.2.2.1,(([]:List AX)++(Bv (AR 1) d.2.2.2.2.2.1)),())) else A0 else A0 else I (.inr d)))) else A0)<|(if A1 (e.1.1<0) then(BW (X:=Y1×Y6×Y1×A2) (λb=>if Af (b.1.2.2.2.2.1.length+([(AJ.mk b.2.1.2.2.2.1 b.2.1.2.2.2.2.1 b.2.1.2.2.2.2.2.1 b.2.1.2.2.2.2.2.2.1 b.2.1.2.2.2.2.2.2.2.1 ([]:List AX))]:List AJ).length) then let l:=(w64<|((b.1.2.2.2.2.1++([(AJ.mk b.2.1.2.2.2.1 b.2.1.2.2.2.2.1 b.2.1.2.2.2.2.2.1 b.2.1.2.2.2.2.2.2.1 b.2.1.2.2.2.2.2.2.2.1 ([]:List AX))]:List AJ)).length:Int) - 1);I (.inr ((b.1.1,b.1.2.1,b.1.2.2.1,b.1.2.2.2.1,(b.1.2.2.2.2.1++([(AJ.mk b.2.1.2.2.2.1 b.2.1.2.2.2.2.1 b.2.1.2.2.2.2.2.1 b.2.1.2.2.2.2.2.2.1 b.2.1.2.2.2.2.2.2.2.1 ([]:List AX))]:List AJ)),()),b.2.1,b.2.2.1,l,())) else A0)<|(if A1 (3<=(x.1.2.2.2.2.1.length:Int)) then(QW (x.1.2.2.2.2.1,0,())).bind λm=>I (.inr ((x.1.1,x.1.2.1,x.1.2.2.1,x.1.2.2.2.1,m.1),x.2.1,(0,A3,noB,0,([]:List AJ),()),())) else I (.inr (x.1,x.2.1,(0,A3,noB,0,([]:List AJ),()),())))) else I (.inr (x.1,x.2.1,(0,A3,noB,0,([]:List AJ),()),e.1))))
def aDQ:Ent:=(223,A0,⟨[Z1,Z13],[Z1,.int .i64],jX⟩)
def afd:SQ Tryz.prog aDQ:=sk (v:=t1<|t1<|.join [(2,Z20),(3,Z14),(4,Z20),(6,.int .i64)] (t1<|.two (.join [(2,Z20),(3,Z14),(4,Z20)] .nil .nil) .nil)<|t1<|t1<|t1<|.two (t1<|.one<|.loop aAY)<|.join [(2,Z20),(3,Z14),(4,Z20),(6,.int .i64),(7,Z17),(8,.row 142 .mixed)] .nil .nil) (fn:=Tryz.f223) aD2<|kC an5 kN
def ahY:Cx:=cX [HK] [] []
def akd:OKC Tryz.prog ahY AI:=okc mixed<|gC Hk<|AL
def QR(x:Int×A2):Option ((Int×A2)×A2):=(DL (x.1,0,65535,())).bind λa=>if !a.1.1 then I ((0,()),()) else let b:=(BO (w64<|(w64<|x.1 * 25173)+13849) 65536);I ((b,()),())
def js:Ent:=(250,A0,⟨[.int .i64],[.int .i64],QR⟩)
def wv:SQ Tryz.prog js:=sk (v:= .nil) (fn:=Tryz.f250) akd kN
def ahS:Cx:=cX [] [] []
def akZ:OKC Tryz.prog ahS AI:=okc mixed<|AL
def iI(x:Int×Int×A2):Option ((Int×A2)×A2):=if A1 (x.2.1=1) then if !decide (x.1=0) then let a:=(w64<|(w64<|B5 60 x.1)+10);I ((a,()),()) else A0 else if !decide ((w64<|x.2.1 * (w64<|x.2.1 - 1))=0) then let b:=(w64<|B5 60<|w64<|x.2.1 * (w64<|x.2.1 - 1));I ((b,()),()) else A0
def aBC:Ent:=(261,A0,⟨[.int .i64,.int .i64],[.int .i64],iI⟩)
def adQ:SQ Tryz.prog aBC:=sk (v:= .nil) (fn:=Tryz.f261) akZ kN
def ah2:Cx:=cX [Te,js,aBC] [] []
def wH:OKC Tryz.prog ah2 AI:=okc mixed<|gC iJ<|gC wv<|gC adQ<|AL
def WA(x:Int×Int×Int×A2):Rnd (Int×Int×Int×A2) (Int×A2) (Int×A2):=if A1 (x.2.2.1<x.1) then(iI (x.1,x.2.2)).bind λa=>if A1 ((w64<|x.2.1 - a.1.1)<0) then I (.inr<|.inl x.2.2) else I (.inl (x.1,(w64<|x.2.1 - a.1.1),(w64<|x.2.2.1+1),())) else I (.inr<|.inr (x.1,()))
def db:=AW WA
def xP:Loop:=⟨[(0,.int .i64),(7,.int .i64),(8,.int .i64)],[(0,.int .i64)],2,[(4,.int .i64)],db⟩
def agF:LF Tryz.f251 [] [1,1,1,1,1,1,0,1,0,0] xP:=sq (v:= .nil) wH (b:=WA) kN
def yJ(x:Int×Int×Int×Int×A2):Rnd (Int×Int×Int×Int×A2) (A2) (Int×Int×Int×A2):=if A1 (x.2.2.2.1<=x.1) then(iI (x.1,x.2.2.2)).bind λa=>I (.inl (x.1,x.2.1,(w64<|x.2.2.1+a.1.1),(w64<|x.2.2.2.1+1),())) else I (.inr<|.inr (x.1,x.2.1,x.2.2.1,()))
def dd:=AW yJ
def xQ:Loop:=⟨[(0,.int .i64),(1,.int .i64),(5,.int .i64),(6,.int .i64)],[(0,.int .i64),(1,.int .i64),(5,.int .i64)],0,[],dd⟩
def agN:LF Tryz.f251 [] [1,1,1,1,0,1,0,0] xQ:=sq (v:= .nil) wH (b:=yJ) kN
def gO(x:Int×Int×A2):Option ((Int×A2)×A2):=(NK x).bind λc=>if !c.1.1 then I ((0,()),()) else if A1 (x.2.1<x.1) then I ((1,()),()) else(AP (dd (x.1,x.2.1,0,1,())) (λ_=>A0) (λa=>(QR ((w64<|(w64<|a.2.1 * 31)+a.1),())).bind λd=>(QR d.1).bind λe=>if !decide (a.2.2.1=0) then let f:=(BO (w64<|B5 e.1.1 16) a.2.2.1);(AP (db (a.1,f,1,())) (λb=>I (b,())) λb=>I (b,())) else A0))
def zr:Ent:=(251,A0,⟨[.int .i64,.int .i64],[.int .i64],gO⟩)
def ack:SQ Tryz.prog zr:=sk (v:=t1<|t1<|t1<|t1<|.two (t1<|.one<|.loop xQ)<|t1<|.two (t1<|.one<|.loop xP) .nil) (fn:=Tryz.f251) wH<|kC agN<|kC agF kN
def apy:Cx:=cX [Te,js,zr] [] []
def YO:OKC Tryz.prog apy AI:=okc mixed<|gC iJ<|gC wv<|gC ack<|AL
def XV(x:Int×List Int×List Bool×Int×Int×Int×A2):Rnd (Int×List Int×List Bool×Int×Int×Int×A2) (A2) (Int×List Int×List Bool×Int×Int×Int×A2):=if inb x.2.2.2.2.2.1 x.2.2.1.length then if rd (dfl .bool) x.2.2.1 x.2.2.2.2.2.1 then if !decide (x.1=0) then let a:=(BO (w64<|x.2.2.2.2.2.1+1) x.1);I (.inl (x.1,x.2.1,x.2.2.1,x.2.2.2.1,x.2.2.2.2.1,a,())) else A0 else I (.inr<|.inr x) else A0
def gN:=AW XV
def aAx:Loop:=⟨[(0,.int .i64),(5,.row 3 .int),(6,.row 4 .bool),(7,.int .i64),(8,.int .i64),(9,.int .i64)],[(0,.int .i64),(5,.row 3 .int),(6,.row 4 .bool),(7,.int .i64),(8,.int .i64),(9,.int .i64)],2,[],gN⟩
def ap1:LF Tryz.f227 [] [1,1,1,1,1,1,0,1,0,0,1,0,0,1,1,0,0,0] aAx:=sq (v:= .nil) YO (b:=XV) kN
def jc(x:Int×List Int×List Bool×Int×A2):Rnd (Int×List Int×List Bool×Int×A2) (A2) (List Int×A2):=if A1 (x.2.2.2.1<x.1) then if inb x.2.2.2.1 x.2.2.1.length then if rd (dfl .bool) x.2.2.1 x.2.2.2.1 then if Af (x.2.1.length+([x.2.2.2.1]:List Int).length) then I (.inl (x.1,(x.2.1++([x.2.2.2.1]:List Int)),x.2.2.1,(w64<|x.2.2.2.1+1),())) else A0 else I (.inl (x.1,x.2.1,x.2.2.1,(w64<|x.2.2.2.1+1),())) else A0 else I (.inr<|.inr (x.2.1,()))
def wL:=AW jc
def aAw:Loop:=⟨[(0,.int .i64),(5,.row 3 .int),(6,.row 4 .bool),(10,.int .i64)],[(5,.row 3 .int)],4,[],wL⟩
def aoy:LF Tryz.f227 [] [1,1,1,1,1,1,1,0,1,0,0] aAw:=sq (v:= .nil) YO (b:=jc) kN
def lH(x:Int×List Int×List Bool×Int×Int×A2):Rnd (Int×List Int×List Bool×Int×Int×A2) (A2) (Int×List Int×List Bool×A2):=if A1 (0<x.2.2.2.2.1) then(QR (x.2.2.2.1,())).bind λb=>if !decide (x.1=0) then let c:=(BO (w64<|B5 b.1.1 16) x.1);(AP (gN (x.1,x.2.1,x.2.2.1,b.1.1,x.2.2.2.2.1,c,())) (λ_=>I<|.inr<|.inl ()) λa=>(if inb a.2.2.2.2.2.1 a.2.2.1.length then let d:=(w64<|a.2.2.2.2.1 - 1);I (.inl (a.1,a.2.1,(Bw a.2.2.1 (AR a.2.2.2.2.2.1) U),a.2.2.2.1,d,())) else A0)) else A0 else I (.inr<|.inr (x.1,x.2.1,x.2.2.1,()))
def wM:=AW lH
def aAy:Loop:=⟨[(0,.int .i64),(5,.row 3 .int),(6,.row 4 .bool),(7,.int .i64),(8,.int .i64)],[(0,.int .i64),(5,.row 3 .int),(6,.row 4 .bool)],0,[],wM⟩
def ap6:LF Tryz.f227 [] [1,1,1,1,1,1,0,1,0,0] aAy:=sq (v:=t1<|.two (.one<|t1<|t1<|.two (.one<|.loop aAx) .nil) .nil) YO (b:=lH)<|kC ap1 kN
def Xn(x:Int×Int×A2):Option ((List Int×A2)×A2):=(NK x).bind λb=>if !b.1.1 then I ((([]:List Int),()),()) else if A1 (x.2.1<x.1) then if Af (([]:List Int).length+([x.2.1]:List Int).length) then I (((([]:List Int)++([x.2.1]:List Int)),()),()) else A0 else if A1 (0<=x.1)&&A1 (x.1<=4294967296) then(QR ((w64<|(w64<|x.2.1 * 7)+1),())).bind λc=>(gO x).bind λd=>(AP (wM (x.1,([]:List Int),(BV (AR x.1)<|dfl .bool),c.1.1,d.1)) (λ_=>A0) λa=>(AP (wL (a.1,a.2.1,a.2.2.1,0,())) (λ_=>A0) λe=>I (e,()))) else A0
def mN:Ent:=(227,A0,⟨[.int .i64,.int .i64],[.row 3 .int],Xn⟩)
def zL:SQ Tryz.prog mN:=sk (v:=t1<|t1<|t1<|t1<|t1<|t1<|.two (t1<|.one<|.loop aAy)<|.two (t1<|.one<|.loop aAw) .nil) (fn:=Tryz.f227) YO<|kC ap6<|kC aoy kN
def apx:Cx:=cX [] [] []
def aDi:OKC Tryz.prog apx AI:=okc mixed<|AL
def aCW(x:A4×A4×List Int×Int×A2):Rnd (A4×A4×List Int×Int×A2) (A2) (List Int×A2):=if A1 (x.2.2.2.1<4) then if inb x.2.2.2.1 x.1.size then if inb x.2.2.2.1 x.2.1.size then if Af (x.2.2.1.length+([(E4 .u8 (bt x.1 x.2.2.2.1)<|bt x.2.1 x.2.2.2.1)]:List Int).length) then I (.inl (x.1,x.2.1,(x.2.2.1++([(E4 .u8 (bt x.1 x.2.2.2.1)<|bt x.2.1 x.2.2.2.1)]:List Int)),(w64<|x.2.2.2.1+1),())) else A0 else A0 else A0 else I (.inr<|.inr (x.2.2.1,()))
def wK:=AW aCW
def aB4:Loop:=⟨[(0,.str),(1,.str),(5,.row 5 .u8),(6,.int .i64)],[(5,.row 5 .u8)],0,[],wK⟩
def ap5:LF Tryz.f229 [] [1,1,0,1,0,0] aB4:=sq (v:= .nil) aDi (b:=aCW) kN
def Xm(x:A4×A4×A2):Option ((A4×A2)×A2):=(AP (wK (x.1,x.2.1,([]:List Int),0,())) (λ_=>A0) λa=>I (((BK a.1),()),()))
def mM:Ent:=(229,A0,⟨[.str,.str],[.str],Xm⟩)
def zU:SQ Tryz.prog mM:=sk (v:=t1<|t1<|.two (t1<|.one<|.loop aB4) .nil) (fn:=Tryz.f229) aDi<|kC ap5 kN
def ane:Cx:=cX [mN,mM] [] []
def aD1:OKC Tryz.prog ane AI:=okc mixed<|gC zL<|gC zU<|AL
def XN(x:List A4×List Int×A4×List Int×Int×A2):Rnd (List A4×List Int×A4×List Int×Int×A2) (A2) (List Int×A4×A2):=if A1 (x.2.2.2.2.1<(x.2.2.2.1.length:Int)) then if inb x.2.2.2.2.1 x.2.2.2.1.length then if inb (rd (dfl .int) x.2.2.2.1 x.2.2.2.2.1) x.1.length then if A1 ((rd (dfl .str) x.1<|rd (dfl .int) x.2.2.2.1 x.2.2.2.2.1)=noB) then if inb x.2.2.2.2.1 x.2.2.2.1.length then if Af (x.2.1.length+([(rd (dfl .int) x.2.2.2.1 x.2.2.2.2.1)]:List Int).length) then I (.inl (x.1,(x.2.1++([(rd (dfl .int) x.2.2.2.1 x.2.2.2.2.1)]:List Int)),x.2.2.1,x.2.2.2.1,(w64<|x.2.2.2.2.1+1),())) else A0 else A0 else if inb x.2.2.2.2.1 x.2.2.2.1.length then if inb (rd (dfl .int) x.2.2.2.1 x.2.2.2.2.1) x.1.length then(Xm (x.2.2.1,(rd (dfl .str) x.1<|rd (dfl .int) x.2.2.2.1 x.2.2.2.2.1),())).bind λa=>I (.inl (x.1,x.2.1,a.1.1,x.2.2.2.1,(w64<|x.2.2.2.2.1+1),())) else A0 else A0 else A0 else A0 else I (.inr<|.inr (x.2.1,x.2.2.1,()))
def fa:=AW XN
def aAX:Loop:=⟨[(2,.sl .str),(8,.row 3 .int),(9,.str),(10,.row 3 .int),(11,.int .i64)],[(8,.row 3 .int),(9,.str)],0,[],fa⟩
def an4:LF Tryz.f260 [] [1,1,1,1,0,1,0,0] aAX:=sq (v:= .nil) aD1 (b:=XN) kN
def jW(x:Int×Y8×List A4×A2):Option ((List Int×A4×A2)×A2):=(Xn (x.1,x.2.1.1,())).bind λa=>(AP (fa (x.2.2.1,([]:List Int),x.2.1.2.1,a.1.1,0,())) (λ_=>A0) λb=>I (b,()))
def aDP:Ent:=(260,A0,⟨[.int .i64,Z16,.fz .str],[.row 3 .int,.str],jW⟩)
def afc:SQ Tryz.prog aDP:=sk (v:=t1<|t1<|t1<|t1<|.two (t1<|.one<|.loop aAX) .nil) (fn:=Tryz.f260) aD1<|kC an4 kN
def ajY:Cx:=cX [HK,kZ,aDP] [] []
def kv:OKC Tryz.prog ajY AI:=okc mixed<|gC Hk<|gC xI<|gC afc<|AL
def QS(x:Int×List AX×List A4×Bool×Int×A2):Rnd (Int×List AX×List A4×Bool×Int×A2) (A2) (Int×List AX×List A4×Bool×A2):=if A1 (x.2.2.2.2.1<(x.2.1.length:Int)) then if inb x.2.2.2.2.1 x.2.1.length then(TB (x.1,((rd (dfl .mixed) x.2.1 x.2.2.2.2.1).nu,(rd (dfl .mixed) x.2.1 x.2.2.2.2.1).da,()),())).bind λb=>if !b.1.1 then I (.inl (x.1,x.2.1,x.2.2.1,x.2.2.2.1,(w64<|x.2.2.2.2.1+1),())) else if inb x.2.2.2.2.1 x.2.1.length then(jW (x.1,((rd (dfl .mixed) x.2.1 x.2.2.2.2.1).nu,(rd (dfl .mixed) x.2.1 x.2.2.2.2.1).da,()),x.2.2.1,())).bind λa=>if A1 ((a.1.1.length:Int)=1) then if inb 0 a.1.1.length then if inb (rd (dfl .int) a.1.1 0) x.2.2.1.length then I (.inl (x.1,x.2.1,(Bw x.2.2.1 (AR<|rd (dfl .int) a.1.1 0) a.1.2.1),U,(w64<|x.2.2.2.2.1+1),())) else A0 else A0 else I (.inl (x.1,x.2.1,x.2.2.1,x.2.2.2.1,(w64<|x.2.2.2.2.1+1),())) else A0 else A0 else I (.inr<|.inr (x.1,x.2.1,x.2.2.1,x.2.2.2.1,()))
def W2:=AW QS
def zI:Loop:=⟨[(0,.int .i64),(1,.sl .mixed),(5,.row 9 .str),(6,.bool),(7,.int .i64)],[(0,.int .i64),(1,.sl .mixed),(5,.row 9 .str),(6,.bool)],2,[],W2⟩
def ajB:LF Tryz.f249 [] [1,1,1,1,0,0,0,1,0,1,1,0,0] zI:=sq (v:= .nil) kv (b:=QS) kN
def kE(x:Int×List AX×List A4×Bool×A2):Rnd (Int×List AX×List A4×Bool×A2) (A2) (List A4×A2):=if x.2.2.2.1 then(AP (W2 (x.1,x.2.1,x.2.2.1,A3,0,())) (λ_=>I<|.inr<|.inl ()) λa=>I<|.inl a) else I (.inr<|.inr (x.2.2.1,()))
def uy:=AW kE
def zJ:Loop:=⟨[(0,.int .i64),(1,.sl .mixed),(5,.row 9 .str),(6,.bool)],[(5,.row 9 .str)],0,[],uy⟩
def aji:LF Tryz.f249 [] [1,1,1,1,0,0,0] zJ:=sq (v:=t1<|.one<|t1<|t1<|.one<|.loop zI) kv (b:=kE)<|kC ajB kN
def ij(x:Int×List AX×A2):Option ((List A4×A2)×A2):=(DL (x.1,1,6,())).bind λa=>if !a.1.1 then I ((([]:List A4),()),()) else if A1 (0<=x.1)&&A1 (x.1<=4294967296) then(AP (uy (x.1,x.2.1,(BV (AR x.1)<|dfl .str),U,())) (λ_=>A0) λb=>I (b,())) else A0
def aCP:Ent:=(249,A0,⟨[.int .i64,.fz .mixed],[.row 9 .str],ij⟩)
def aeq:SQ Tryz.prog aCP:=sk (v:=t1<|t1<|t1<|t1<|.two (.one<|.loop zJ) .nil) (fn:=Tryz.f249) kv<|kC aji kN
def ajX:Cx:=cX [HK,Ww,aCP] [] []
def ku:OKC Tryz.prog ajX AI:=okc mixed<|gC Hk<|gC dk<|gC aeq<|AL
def gj(x:Int×A4×Int×A2):Rnd (Int×A4×Int×A2) (A4×Bool×A2) (Int×A4×A2):=if A1 (x.2.2.1<(x.2.1.size:Int)) then if inb x.2.2.1 x.2.1.size then if !decide ((bt x.2.1 x.2.2.1)=0) then I (.inr<|.inl (noB,A3,())) else I (.inl (x.1,x.2.1,(w64<|x.2.2.1+1),())) else A0 else I (.inr<|.inr (x.1,x.2.1,()))
def ux:=AW gj
def zG:Loop:=⟨[(0,.int .i64),(7,.str),(9,.int .i64)],[(0,.int .i64),(7,.str)],2,[(4,.str),(5,.bool)],ux⟩
def ajA:LF Tryz.f224 [] [1,1,1,1,1,0,1,0,0] zG:=sq (v:= .nil) ku (b:=gj) kN
def X3(x:Int×List A4×A4×Int×A2):Rnd (Int×List A4×A4×Int×A2) (A4×Bool×A2) (Int×A4×A2):=if A1 (x.2.2.2.1<(x.2.1.length:Int)) then if inb x.2.2.2.1 x.2.1.length then if A1 ((rd (dfl .str) x.2.1 x.2.2.2.1)=noB) then I (.inr<|.inl (noB,A3,())) else if inb x.2.2.2.1 x.2.1.length then if A1 (x.2.2.1.size+(rd (dfl .str) x.2.1 x.2.2.2.1).size<=4611686018427387904) then let a:=(x.2.2.1++(rd (dfl .str) x.2.1 x.2.2.2.1));I (.inl (x.1,x.2.1,a,(w64<|x.2.2.2.1+1),())) else A0 else A0 else A0 else I (.inr<|.inr (x.1,x.2.2.1,()))
def eK:=AW X3
def zH:Loop:=⟨[(0,.int .i64),(6,.row 9 .str),(7,.str),(8,.int .i64)],[(0,.int .i64),(7,.str)],0,[(4,.str),(5,.bool)],eK⟩
def aiu:LF Tryz.f224 [] [1,1,1,1,0,1,0,0] zH:=sq (v:= .nil) ku (b:=X3) kN
def ig(x:Int×List AX×A2):Option ((A4×Bool×A2)×A2):=(DL (x.1,1,24,())).bind λc=>if !c.1.1 then I ((noB,A3,()),()) else(M6 (x.1,())).bind λd=>(ij (d.1.1,x.2)).bind λe=>(AP (eK (x.1,e.1.1,noB,0,())) (λb=>I (b,())) λb=>(AP (ux (b.1,b.2.1,b.1,())) (λa=>I (a,())) λa=>(if A1 (0<=a.1)&&A1 (a.1<=(a.2.1.size:Int)) then let f:=(a.2.1.extract (0)<|AR a.1);I ((f,U,()),()) else A0)))
def aCO:Ent:=(224,A0,⟨[.int .i64,.fz .mixed],[.str,.bool],ig⟩)
def aep:SQ Tryz.prog aCO:=sk (v:=t1<|t1<|t1<|t1<|.two (t1<|.one<|.loop zH)<|.two (t1<|.one<|.loop zG) .nil) (fn:=Tryz.f224) ku<|kC aiu<|kC ajA kN
def ahR:Cx:=cX [JI,Ww,fX,Wh,Te,NJ,Sw,XK,zp,aDQ,aCO,ka] [] [(39,46),(62,68)]
def akY:OKC Tryz.prog ahR AI:=okc mixed<|gC Jy<|gC dk<|gC tL<|gC dZ<|gC iJ<|gC OR<|gC Vp<|gC fD<|gC ad2<|gC afd<|gC aep<|gC xL<|AL
def X1(x:Y1×Y6×A2):Option ((Y1×List Frame×A2)×A2):=(GQ (x.1,())).bind λe=>if A1 (x.2.1.2.2.2.2.2.2.1<=e.1.1.2.1) then(gJ (3,x.2)).bind λb=>I ((x.1,([(Frame.mk b.1.1.1 b.1.1.2.1 b.1.1.2.2.1 b.1.1.2.2.2.1 b.1.1.2.2.2.2.1 b.1.1.2.2.2.2.2.1 b.1.1.2.2.2.2.2.2.1 b.1.1.2.2.2.2.2.2.2.1 b.1.1.2.2.2.2.2.2.2.2.1 b.1.1.2.2.2.2.2.2.2.2.2.1)]:List Frame),()),()) else(GO (e.1.1.2.2.2.1,x.2.1.2.2.2.1,x.2.1.2.2.2.2.1,())).bind λh=>if Ah (!(A1<|0<=h.1.1)) ((LD (e.1.1.2.2.2.2.1,x.2.1.2.2.2.1,x.2.1.2.2.2.2.1,())).isSome) then if(A1<|0<=h.1.1)||(A1<|0<=((LD (e.1.1.2.2.2.2.1,x.2.1.2.2.2.1,x.2.1.2.2.2.2.1,())).getD ((0,()),())).1.1) then(QF ((x.1.2.2.1,x.1.2.2.2.1,()),())).bind λi=>(gJ (2,x.2)).bind λc=>I (((x.1.1,x.1.2.1,i.1.1.1,i.1.1.2.1,x.1.2.2.2.2),([(Frame.mk c.1.1.1 c.1.1.2.1 c.1.1.2.2.1 c.1.1.2.2.2.1 c.1.1.2.2.2.2.1 c.1.1.2.2.2.2.2.1 c.1.1.2.2.2.2.2.2.1 c.1.1.2.2.2.2.2.2.2.1 c.1.1.2.2.2.2.2.2.2.2.1 c.1.1.2.2.2.2.2.2.2.2.2.1)]:List Frame),()),()) else if Ah (!(A1<|x.2.1.2.2.2.1=x.1.1)) ((M6 (x.2.1.2.2.2.2.2.2.2.1,())).isSome) then if Ah (!(A1<|x.2.1.2.2.2.1=x.1.1)) ((NK (((M6 (x.2.1.2.2.2.2.2.2.2.1,())).getD ((0,()),())).1.1,x.2.1.2.2.2.2.2.2.2.2.1,())).isSome) then if(A1<|x.2.1.2.2.2.1=x.1.1)||(!(((NK (((M6 (x.2.1.2.2.2.2.2.2.2.1,())).getD ((0,()),())).1.1,x.2.1.2.2.2.2.2.2.2.2.1,())).getD ((A3,()),())).1.1)) then I ((x.1,([]:List Frame),()),()) else(jX x).bind λa=>if A1 (a.1.2.1<0) then I ((a.1.1,([]:List Frame),()),()) else if inb a.1.2.1 a.1.1.2.2.2.2.1.length then(ig (x.2.1.2.2.2.2.2.2.2.1,(rd (dfl .half) a.1.1.2.2.2.2.1 a.1.2.1).got,())).bind λj=>if !j.1.2.1 then I ((a.1.1,([]:List Frame),()),()) else(QW (a.1.1.2.2.2.2.1,a.1.2)).bind λk=>(NA ((x.2.1.2.2.2.1,x.2.1.2.2.2.2.1,x.2.1.2.2.2.2.2.1,x.2.1.2.2.2.2.2.2.1,j.1.1,()),())).bind λf=>if A1 (f.1.1=noB) then I (((a.1.1.1,a.1.1.2.1,a.1.1.2.2.1,a.1.1.2.2.2.1,k.1),([]:List Frame),()),()) else if A1 ((B [116,97,107,101,32]).size+f.1.1.size<=4611686018427387904) then(L9 ((a.1.1.1,a.1.1.2.1,a.1.1.2.2.1,a.1.1.2.2.2.1,k.1),((B [116,97,107,101,32])++f.1.1),U,())).bind λg=>if !g.1.2.1 then I ((g.1.1,([]:List Frame),()),()) else(gJ (2,x.2)).bind λd=>I ((g.1.1,([(Frame.mk d.1.1.1 d.1.1.2.1 d.1.1.2.2.1 d.1.1.2.2.2.1 d.1.1.2.2.2.2.1 d.1.1.2.2.2.2.2.1 d.1.1.2.2.2.2.2.2.1 d.1.1.2.2.2.2.2.2.2.1 d.1.1.2.2.2.2.2.2.2.2.1 d.1.1.2.2.2.2.2.2.2.2.2.1)]:List Frame),()),()) else A0 else A0 else A0 else A0 else A0
def aBB:Ent:=(174,A0,⟨[Z1,Z13],[Z12,.fz .frame],X1⟩)
def adP:SQ Tryz.prog aBB:=sk (v:= .nil) (fn:=Tryz.f174) akY kN
def afW:Cx:=cX [JI,LA,NI,kM,kb,aBB,NJ,Sw] [] []
def ahG:OKC Tryz.prog afW AI:=okc mixed<|gC Jy<|gC M4<|gC OQ<|gC wh<|gC xE<|gC adP<|gC OR<|gC Vp<|AL
def WE(x:Y1×Y6×A2):Option ((Y1×List Frame×A2)×A2):=(JJ (x.1,())).bind λf=>if !f.1.1 then I (((0,A3,noB,0,([]:List AJ),()),([]:List Frame),()),()) else(HI (x.1,())).bind λa=>if !x.1.2.1 then I ((a.1.1,([]:List Frame),()),()) else(XR x.2).bind λg=>if !g.1.1 then I ((a.1.1,([]:List Frame),()),()) else if !decide (x.2.1.2.2.1=x.1.1) then I ((a.1.1,([]:List Frame),()),()) else if A1 (x.2.1.1=1) then(X1 (a.1.1,x.2)).bind λd=>(HI (d.1.1,())).bind λh=>I ((h.1.1,d.1.2),()) else(GQ (x.1,())).bind λb=>(GO (b.1.1.2.2.2.1,x.2.1.2.2.2.1,x.2.1.2.2.2.2.1,())).bind λc=>if !decide (x.2.1.1=2) then I ((a.1.1,([]:List Frame),()),()) else if A1 (c.1.1<0) then I ((a.1.1,([]:List Frame),()),()) else if inb c.1.1 b.1.1.2.2.2.1.length then if !decide ((rd (dfl .note) b.1.1.2.2.2.1 c.1.1).un=x.2.1.2.2.2.2.2.2.1) then I ((a.1.1,([]:List Frame),()),()) else if inb c.1.1 b.1.1.2.2.2.1.length then if !decide ((rd (dfl .note) b.1.1.2.2.2.1 c.1.1).to=x.2.1.2.2.2.2.2.1) then I ((a.1.1,([]:List Frame),()),()) else(X0 (x.2.1.2.2.2.1,x.2.1.2.2.2.2.1,x.2.1.2.2.2.2.2.2.1,())).bind λe=>if A1 ((B [108,101,116,32]).size+e.1.1.size<=4611686018427387904) then(L9 (a.1.1,((B [108,101,116,32])++e.1.1),A3,())).bind λi=>I ((i.1.1,([]:List Frame),()),()) else A0 else A0 else A0
def wA:Ent:=(135,A0,⟨[Z12,Z13],[Z12,.fz .frame],WE⟩)
def abw:SQ Tryz.prog wA:=sk (v:= .nil) (fn:=Tryz.f135) ahG kN
def ak5:Cx:=cX [wD] [] [(11,13)]
def aC9:OKC Tryz.prog ak5 AI:=okc mixed<|gC ac2<|AL
def Wy(x:List AO×List Frame×Int×A2):Rnd (List AO×List Frame×Int×A2) (A2) (List AO×A2):=if(A1<|x.2.2.1<(x.2.1.length:Int))&&(A1<|(x.1.length:Int)<30) then if inb x.2.2.1 x.2.1.length then if inb x.2.2.1 x.2.1.length then if inb x.2.2.1 x.2.1.length then(QO (((rd (dfl .frame) x.2.1 x.2.2.1).ki,(rd (dfl .frame) x.2.1 x.2.2.1).src,(rd (dfl .frame) x.2.1 x.2.2.1).dst,(rd (dfl .frame) x.2.1 x.2.2.1).fr,(rd (dfl .frame) x.2.1 x.2.2.1).nu,(rd (dfl .frame) x.2.1 x.2.2.1).to,(rd (dfl .frame) x.2.1 x.2.2.1).un,(rd (dfl .frame) x.2.1 x.2.2.1).sz,(rd (dfl .frame) x.2.1 x.2.2.1).mix,(rd (dfl .frame) x.2.1 x.2.2.1).da,()),())).bind λa=>if Af (x.1.length+([(AO.mk ((rd (dfl .frame) x.2.1 x.2.2.1).src) ((rd (dfl .frame) x.2.1 x.2.2.1).dst) (BK a.1.1) A3)]:List AO).length) then I (.inl ((x.1++([(AO.mk ((rd (dfl .frame) x.2.1 x.2.2.1).src) ((rd (dfl .frame) x.2.1 x.2.2.1).dst) (BK a.1.1) A3)]:List AO)),x.2.1,(w64<|x.2.2.1+1),())) else A0 else A0 else A0 else A0 else I (.inr<|.inr (x.1,()))
def uR:=AW Wy
def zQ:Loop:=⟨[(0,.row 59 .Ak),(1,.sl .frame),(5,.int .i64)],[(0,.row 59 .Ak)],0,[],uR⟩
def aim:LF Tryz.f136 [] [1,0,1,0,0] zQ:=sq (v:= .nil) aC9 (b:=Wy) kN
def TA(x:List AO×List Frame×A2):Option ((List AO×A2)×A2):=(AP (uR (x.1,x.2.1,0,())) (λ_=>A0) λa=>I (a,()))
def kX:Ent:=(136,A0,⟨[.row 59 .Ak,.fz .frame],[.row 59 .Ak],TA⟩)
def xG:SQ Tryz.prog kX:=sk (v:=t1<|.two (t1<|.one<|.loop zQ) .nil) (fn:=Tryz.f136) aC9<|kC aim kN
def ah3:Cx:=cX [JI,LA,NI,Wh,Sw] [] [(37,38)]
def aiA:OKC Tryz.prog ah3 AI:=okc mixed<|gC Jy<|gC M4<|gC OQ<|gC dZ<|gC Vp<|AL
def Wn(x:Y1×Int×Int×A4×A2):Option ((Y1×Int×A2)×A2):=(JJ (x.1,())).bind λd=>if !d.1.1 then I (((0,A3,noB,0,([]:List AJ),()),0,()),()) else(GQ (x.1,())).bind λb=>(NA ((x.1.1,b.1.1.2.2.1,x.2),())).bind λa=>if(!x.1.2.1)||(A1<|a.1.1=noB) then(HI (x.1,())).bind λe=>I ((e.1.1,0,()),()) else(HI (x.1,())).bind λf=>if A1 ((B [111,119,110,32]).size+a.1.1.size<=4611686018427387904) then(L9 (f.1.1,((B [111,119,110,32])++a.1.1),U,())).bind λc=>if !c.1.2.1 then(HI (x.1,())).bind λg=>I ((g.1.1,0,()),()) else I ((c.1.1,b.1.1.2.2.1,()),()) else A0
def wV:Ent:=(177,A0,⟨[Z12,.int .i64,.int .i64,.str],[Z12,.int .i64],Wn⟩)
def acL:SQ Tryz.prog wV:=sk (v:= .nil) (fn:=Tryz.f177) aiA kN
def afT:Cx:=cX [JI,LA,NI,Oh,Sw] [] [(19,21)]
def ahD:OKC Tryz.prog afT AI:=okc mixed<|gC Jy<|gC M4<|gC OQ<|gC QN<|gC Vp<|AL
def WB(x:Y1×A2):Option ((Y1×Bool×A2)×A2):=(JJ x).bind λc=>if !c.1.1 then I (((0,A3,noB,0,([]:List AJ),()),A3,()),()) else(GQ x).bind λa=>if(!x.1.2.1)||(A1<|999<=a.1.1.2.1) then(HI x).bind λd=>I ((d.1.1,A3,()),()) else(HI x).bind λe=>(Dc ((w64<|a.1.1.2.1+1),())).bind λb=>if A1 ((B [116,105,109,101,32]).size+b.1.1.size<=4611686018427387904) then(L9 (e.1.1,((B [116,105,109,101,32])++b.1.1),U,())).bind λf=>I (f.1,()) else A0
def vt:Ent:=(138,A0,⟨[Z12],[Z12,.bool],WB⟩)
def abt:SQ Tryz.prog vt:=sk (v:= .nil) (fn:=Tryz.f138) ahD kN
def aoK:Cx:=cX [Ww] [] [(12,14)]
def lv:OKC Tryz.prog aoK AI:=okc mixed<|gC dk<|AL
def im(x:A4×List A4×Int×List Int×Int×A2):Rnd (A4×List A4×Int×List Int×Int×A2) (A2) (A4×List A4×Int×List Int×A2):=if A1 (x.2.2.2.2.1<(w64<|(w64<|x.2.2.1+1) * 4)) then if A1 (x.2.2.2.2.1<(x.1.size:Int)) then if inb x.2.2.2.2.1 x.1.size then if Af (x.2.2.2.1.length+([(bt x.1 x.2.2.2.2.1)]:List Int).length) then I (.inl (x.1,x.2.1,x.2.2.1,(x.2.2.2.1++([(bt x.1 x.2.2.2.2.1)]:List Int)),(w64<|x.2.2.2.2.1+1),())) else A0 else A0 else if Af (x.2.2.2.1.length+([0]:List Int).length) then I (.inl (x.1,x.2.1,x.2.2.1,(x.2.2.2.1++([0]:List Int)),(w64<|x.2.2.2.2.1+1),())) else A0 else I (.inr<|.inr (x.1,x.2.1,x.2.2.1,x.2.2.2.1,()))
def vT:=AW im
def aAe:Loop:=⟨[(0,.str),(3,.row 9 .str),(4,.int .i64),(5,.row 5 .u8),(6,.int .i64)],[(0,.str),(3,.row 9 .str),(4,.int .i64),(5,.row 5 .u8)],2,[],vT⟩
def amy:LF Tryz.f226 [] [1,1,1,0,1,0,0,1,0,0,1,0,1,0,0] aAe:=sq (v:= .nil) lv (b:=im) kN
def iq(x:A4×List A4×Int×A2):Rnd (A4×List A4×Int×A2) (A2) (List A4×A2):=(M6 ((x.1.size:Int),())).bind λb=>if A1 (x.2.2.1<b.1.1) then(AP (vT (x.1,x.2.1,x.2.2.1,([]:List Int),(w64<|x.2.2.1 * 4),())) (λ_=>I<|.inr<|.inl ()) λa=>(if Af (a.2.1.length+([(BK a.2.2.2.1)]:List A4).length) then I (.inl (a.1,(a.2.1++([(BK a.2.2.2.1)]:List A4)),(w64<|a.2.2.1+1),())) else A0)) else I (.inr<|.inr (x.2.1,()))
def vU:=AW iq
def aAf:Loop:=⟨[(0,.str),(3,.row 9 .str),(4,.int .i64)],[(3,.row 9 .str)],0,[],vU⟩
def anf:LF Tryz.f226 [] [1,1,1,0,1,0,0] aAf:=sq (v:=t1<|.two (.one<|t1<|.two (t1<|.one<|.loop aAe) .nil) .nil) lv (b:=iq)<|kC amy kN
def jd(x:A4×A2):Option ((List A4×A2)×A2):=if(A1<|(x.1.size:Int)<1)||(A1<|24<(x.1.size:Int)) then I ((([]:List A4),()),()) else(AP (vU (x.1,([]:List A4),0,())) (λ_=>A0) λa=>I (a,()))
def aCm:Ent:=(226,A0,⟨[.str],[.row 9 .str],jd⟩)
def afl:SQ Tryz.prog aCm:=sk (v:=t1<|t1<|t1<|.two (t1<|.one<|.loop aAf) .nil) (fn:=Tryz.f226) lv<|kC anf kN
def anb:Cx:=cX [] [] []
def aqD:OKC Tryz.prog anb AI:=okc mixed<|AL
def lE(x:A2):Option ((A4×A2)×A2):=if A1 (0<=4)&&A1 (4<=4294967296) then let a:=(BK<|BV (AR 4)<|dfl .u8);I ((a,()),()) else A0
def aDO:Ent:=(228,A0,⟨[],[.str],lE⟩)
def afb:SQ Tryz.prog aDO:=sk (v:= .nil) (fn:=Tryz.f228) aqD kN
def ajZ:Cx:=cX [aCm,mN,aDO,mM] [] [(19,21)]
def aBw:OKC Tryz.prog ajZ AI:=okc mixed<|gC afl<|gC zL<|gC afb<|gC zU<|AL
def gk(x:List A4×List Int×A4×Int×A2):Rnd (List A4×List Int×A4×Int×A2) (A2) (A4×A2):=if A1 (x.2.2.2.1<(x.2.1.length:Int)) then if inb x.2.2.2.1 x.2.1.length then if inb (rd (dfl .int) x.2.1 x.2.2.2.1) x.1.length then(Xm (x.2.2.1,(rd (dfl .str) x.1<|rd (dfl .int) x.2.1 x.2.2.2.1),())).bind λa=>I (.inl (x.1,x.2.1,a.1.1,(w64<|x.2.2.2.1+1),())) else A0 else A0 else I (.inr<|.inr (x.2.2.1,()))
def eL:=AW gk
def zM:Loop:=⟨[(5,.row 9 .str),(6,.row 3 .int),(7,.str),(8,.int .i64)],[(7,.str)],0,[],eL⟩
def ajj:LF Tryz.f178 [] [1,1,1,1,1,0,1,0,0] zM:=sq (v:= .nil) aBw (b:=gk) kN
def ik(x:A4×Int×A2):Option ((A4×A2)×A2):=(jd (x.1,())).bind λa=>(Xn ((a.1.1.length:Int),x.2)).bind λb=>if(A1<|(a.1.1.length:Int)=0)||(A1<|(b.1.1.length:Int)=0) then I ((noB,()),()) else(lE ()).bind λc=>(AP (eL (a.1.1,b.1.1,c.1.1,0,())) (λ_=>A0) λd=>I (d,()))
def aCQ:Ent:=(178,A0,⟨[.str,.int .i64],[.str],ik⟩)
def aer:SQ Tryz.prog aCQ:=sk (v:=t1<|t1<|t1<|t1<|t1<|.two (t1<|.one<|.loop zM) .nil) (fn:=Tryz.f178) aBw<|kC ajj kN
def ah4:Cx:=cX [JI,HK,LA,jt,NJ,aCQ] [] [(18,20),(36,38)]
def aiB:OKC Tryz.prog ah4 AI:=okc mixed<|gC Jy<|gC Hk<|gC M4<|gC ww<|gC OR<|gC aer<|AL
def Wo(x:Y1×Int×Int×Int×A2):Option ((Y6×Bool×A2)×A2):=(JJ (x.1,())).bind λe=>if(!e.1.1)||(!x.1.2.1) then I (((0,0,0,0,0,0,0,0,0,noB,()),A3,()),()) else(GQ (x.1,())).bind λb=>(GO (b.1.1.2.2.2.1,x.2.1,x.2.2.1,())).bind λa=>if Ah (!(A1<|a.1.1<0)) ((DL (x.2.2.2.1,0,999,())).isSome) then if(A1<|a.1.1<0)||(!(((DL (x.2.2.2.1,0,999,())).getD ((A3,()),())).1.1)) then I (((0,0,0,0,0,0,0,0,0,noB,()),A3,()),()) else if inb a.1.1 b.1.1.2.2.2.1.length then let f:=(rd (dfl .note) b.1.1.2.2.2.1 a.1.1).fr;let g:=(rd (dfl .note) b.1.1.2.2.2.1 a.1.1).nu;let c:=(rd (dfl .note) b.1.1.2.2.2.1 a.1.1).to;let h:=(rd (dfl .note) b.1.1.2.2.2.1 a.1.1).un;let d:=(rd (dfl .note) b.1.1.2.2.2.1 a.1.1).tx;(T4 (x.1.1,c,())).bind λi=>(ik (d,x.2.2.2)).bind λj=>I (((1,x.1.1,i.1.1,f,g,c,h,(d.size:Int),x.2.2.2.1,j.1),U,()),()) else A0 else A0
def wW:Ent:=(139,A0,⟨[Z12,.int .i64,.int .i64,.int .i64],[Z13,.bool],Wo⟩)
def acM:SQ Tryz.prog wW:=sk (v:= .nil) (fn:=Tryz.f139) aiB kN
def agz:Cx:=cX [Wg,T8] [] []
def ai8:OKC Tryz.prog agz AI:=okc mixed<|gC dW<|gC W0<|AL
def gM(x:Y7×Int×A2):Option ((Y7×A2)×A2):=(OV (x.1,())).bind λd=>if !d.1.1 then I (((noB,0,()),()),()) else(BW (X:=Int×Y7×Y7×Int×A2) (λb=>(BW (X:=Y7×Y7×Int×A2) (λa=>if A1 (0<=a.2.2.1)&&A1 (a.2.2.1<=(a.1.1.size:Int)) then(Lz ((a.1.1.extract (0)<|AR a.2.2.1),())).bind λc=>if A1 (0<=c.1.2.1)&&A1 (c.1.2.1<=(a.1.1.size:Int)) then let e:=(a.1.1.extract (0)<|AR c.1.2.1);I (((e,c.1.2),()),()) else A0 else A0)<|(if A1 (0<b.1) then let f:=(w64<|b.2.2.2.1+b.1);I (.inr (b.2.1,b.2.2.1,f,())) else I (.inr b.2))))<|(if A1 ((w64<|(x.1.1.size:Int) - x.1.2.1)<x.2.1) then let g:=(w64<|(x.1.1.size:Int) - x.1.2.1);I (.inr (g,x.1,(noB,0,()),x.1.2)) else I (.inr (x.2.1,x.1,(noB,0,()),x.1.2))))
def zq:Ent:=(179,A0,⟨[Z15,.int .i64],[Z15],gM⟩)
def acj:SQ Tryz.prog zq:=sk (v:=t1<|t1<|t1<|.join [(1,.int .i64),(2,Z21),(4,Z21),(5,.int .i64)] .nil<|.join [(2,Z21),(4,Z21),(5,.int .i64)] .nil .nil) (fn:=Tryz.f179) ai8 kN
def afX:Cx:=cX [LA,zq] [] []
def ahH:OKC Tryz.prog afX AI:=okc mixed<|gC M4<|gC acj<|AL
def WH(x:Y1×Int×A2):Option ((Y1×A2)×A2):=(JJ (x.1,())).bind λb=>if !b.1.1 then I (((0,A3,noB,0,([]:List AJ),()),()),()) else(gM ((x.1.2.2.1,x.1.2.2.2.1,()),x.2)).bind λa=>I (((x.1.1,A3,a.1.1.1,a.1.1.2.1,([]:List AJ),()),()),())
def wB:Ent:=(140,A0,⟨[Z12,.int .i64],[Z1],WH⟩)
def aby:SQ Tryz.prog wB:=sk (v:= .nil) (fn:=Tryz.f140) ahH kN
def afU:Cx:=cX [LA,NI] [] []
def ahE:OKC Tryz.prog afU AI:=okc mixed<|gC M4<|gC OQ<|AL
def WC(x:Y1×A2):Option ((Y1×A2)×A2):=(JJ x).bind λa=>if !a.1.1 then I (((0,A3,noB,0,([]:List AJ),()),()),()) else if x.1.2.1 then(HI x).bind λb=>I (b.1,()) else I (((x.1.1,U,x.1.2.2.1,x.1.2.2.2.1,([]:List AJ),()),()),())
def vu:Ent:=(141,A0,⟨[Z12],[Z1],WC⟩)
def abu:SQ Tryz.prog vu:=sk (v:= .nil) (fn:=Tryz.f141) ahE kN
def ah5:Cx:=cX [JI,LA,NI,kM,NJ,Sw] [] [(33,34)]
def aiC:OKC Tryz.prog ah5 AI:=okc mixed<|gC Jy<|gC M4<|gC OQ<|gC wh<|gC OR<|gC Vp<|AL
def Wp(x:Y1×Int×Int×A2):Option ((Y1×Y4×Bool×A2)×A2):=(JJ (x.1,())).bind λe=>if !e.1.1 then I (((0,A3,noB,0,([]:List AJ),()),(0,0,0,0,noB,()),A3,()),()) else(GQ (x.1,())).bind λa=>(GO (a.1.1.2.2.2.2.2.1,x.2)).bind λb=>if(!x.1.2.1)||(A1<|b.1.1<0) then(HI (x.1,())).bind λf=>I ((f.1.1,(0,0,0,0,noB,()),A3,()),()) else(HI (x.1,())).bind λg=>if inb b.1.1 a.1.1.2.2.2.2.2.1.length then(X0 (x.2.1,x.2.2.1,(rd (dfl .note) a.1.1.2.2.2.2.2.1 b.1.1).un,())).bind λc=>if A1 ((B [101,97,116,32]).size+c.1.1.size<=4611686018427387904) then(L9 (g.1.1,((B [101,97,116,32])++c.1.1),U,())).bind λd=>if !d.1.2.1 then(HI (x.1,())).bind λh=>I ((h.1.1,(0,0,0,0,noB,()),A3,()),()) else if inb b.1.1 a.1.1.2.2.2.2.2.1.length then let i:=(rd (dfl .note) a.1.1.2.2.2.2.2.1 b.1.1).fr;let j:=(rd (dfl .note) a.1.1.2.2.2.2.2.1 b.1.1).nu;let k:=(rd (dfl .note) a.1.1.2.2.2.2.2.1 b.1.1).to;let l:=(rd (dfl .note) a.1.1.2.2.2.2.2.1 b.1.1).un;let m:=(rd (dfl .note) a.1.1.2.2.2.2.2.1 b.1.1).tx;I ((d.1.1,(i,j,k,l,m,()),U,()),()) else A0 else A0 else A0
def wC:Ent:=(142,A0,⟨[Z12,.int .i64,.int .i64],[Z12,Z6,.bool],Wp⟩)
def acN:SQ Tryz.prog wC:=sk (v:= .nil) (fn:=Tryz.f142) aiC kN
def afV:Cx:=cX [JI,LA,NI,wU,ju] [] [(32,33)]
def ahF:OKC Tryz.prog afV AI:=okc mixed<|gC Jy<|gC M4<|gC OQ<|gC acK<|gC wx<|AL
def WD(x:Y1×A2):Option ((Y1×Bool×A2)×A2):=(JJ x).bind λc=>if !c.1.1 then I (((0,A3,noB,0,([]:List AJ),()),A3,()),()) else(HI x).bind λa=>(GQ x).bind λd=>(X4 (d.1.1,())).bind λe=>(Sm ((x.1.2.2.1,x.1.2.2.2.1,()),e.1)).bind λb=>if(!x.1.2.1)||(!b.1.2.1) then I ((a.1.1,A3,()),()) else I (((a.1.1.1,a.1.1.2.1,b.1.1.1,b.1.1.2.1,a.1.1.2.2.2.2),U,()),())
def vz:Ent:=(143,A0,⟨[Z12],[Z12,.bool],WD⟩)
def abv:SQ Tryz.prog vz:=sk (v:= .nil) (fn:=Tryz.f143) ahF kN
def adq:Cx:=cX [LA,NI,fX] [] [(15,22)]
def af5:OKC Tryz.prog adq AI:=okc mixed<|gC M4<|gC OQ<|gC tL<|AL
def W4(x:Y1×A2):Option ((Y1×Bool×A2)×A2):=(JJ x).bind λc=>if !c.1.1 then I (((0,A3,noB,0,([]:List AJ),()),A3,()),()) else(HI x).bind λa=>if(!x.1.2.1)||(A1<|x.1.2.2.2.1=(x.1.2.2.1.size:Int)) then I ((a.1.1,A3,()),()) else(QF ((x.1.2.2.1,x.1.2.2.2.1,()),())).bind λb=>I (((a.1.1.1,a.1.1.2.1,b.1.1.1,b.1.1.2.1,a.1.1.2.2.2.2),U,()),())
def vH:Ent:=(144,A0,⟨[Z12],[Z12,.bool],W4⟩)
def abi:SQ Tryz.prog vH:=sk (v:= .nil) (fn:=Tryz.f144) af5 kN
def aCy:Cx:=cX [HK,Il,kY,vI,wA,kX,vt,wW,wB,vu,wC,vz,vH,wV] [] []
def aql:OKC Tryz.prog aCy (O0 aCy 2):=abP 2 mixed<|gC Hk<|gC JF<|gC xH<|gC abj<|gC abw<|gC xG<|gC abt<|gC acM<|gC aby<|gC abu<|gC acN<|gC abv<|gC abi<|gC acL<|AL
abbrev ZE:Type:=Int×Int×Int×Int×Int×Int×Int×Int×Int×A4×A2
def SO{Ω:Type}(a:List AA)(c:List AO)(e:ZE)(p:AO)(K:List AA->List AO->Option Ω):Option Ω:=
 if(A1<|e.1=5) then
 K a c
 else
 if Af p.data.size then
 (eO ((BF p.data),())).bind λr=>
 if(!r.1.2.1) then
 K a c
 else
 if(!decide (r.1.1.2.1=p.src)) then
 K a c
 else
 if(!decide (r.1.1.2.2.1=p.dst)) then
 K a c
 else
 if inb p.dst a.length then
 (WE (((rd (dfl .AN) a p.dst).id,(rd (dfl .AN) a p.dst).up,(rd (dfl .AN) a p.dst).log,(rd (dfl .AN) a p.dst).fo,(rd (dfl .AN) a p.dst).AM,()),r.1.1,())).bind λq=>
 if inb p.dst a.length then
 (TA (c,q.1.2)).bind λs=>
 K (Bw a (AR p.dst)<|AA.mk q.1.1.1 q.1.1.2.1 q.1.1.2.2.1 q.1.1.2.2.2.1 q.1.1.2.2.2.2.1) s.1.1
 else A0
 else A0
 else A0
def dA{Ω:Type}(a:List AA)(c:List AO)(e:ZE)(p:AO)(K:List AA->List AO->Option Ω):Option Ω:=
 if(A1 (0<=e.2.2.2.2.1)&&A1 (e.2.2.2.2.1<=(c.length:Int))) then
 if Af (([]:List AO).length+(BS (AR e.2.2.2.2.1) c).length) then
 if(A1 (0<=(w64<|e.2.2.2.2.1+1))&&A1 ((w64<|e.2.2.2.2.1+1)<=(c.length:Int))) then
 if Af ((([]:List AO)++(BS (AR e.2.2.2.2.1) c)).length+(Bv (AR<|w64<|e.2.2.2.2.1+1) c).length) then
 SO a ((([]:List AO)++(BS (AR e.2.2.2.2.1) c))++(Bv (AR<|w64<|e.2.2.2.2.1+1) c)) e p K
 else A0
 else A0
 else A0
 else A0
def cy{Ω:Type}(a:List AA)(c:List AO)(e:ZE)(p:AO)(K:List AA->List AO->Option Ω):Option Ω:=
 if(A1<|e.1=5) then
 dA a c e p K
 else
 if(A1<|e.2.2.2.2.2.2.1=0) then
 dA a c e p K
 else
 SO a c e p K
def SP{Ω:Type}(a:List AA)(b:List Bool)(c:List AO)(e:ZE)(K:List AA->List AO->Option Ω)(F:Option Ω):Option Ω:=
 (DL (e.2.2.2.2.1,0,(w64<|(c.length:Int) - 1),())).bind λr=>
 if(!r.1.1) then
 F
 else
 if inb e.2.2.2.2.1 c.length then
 if(A1<|e.1=6) then
 if(rd (dfl .Ak) c e.2.2.2.2.1).sp then
 F
 else
 (DL (e.2.2.2.2.2.1,0,(w64<|((rd (dfl .Ak) c e.2.2.2.2.1).data.size:Int) - 1),())).bind λr=>
 if(!r.1.1) then
 F
 else
 (DL (e.2.2.2.2.2.2.1,1,255,())).bind λr=>
 if(!r.1.1) then
 F
 else
 if Af (rd (dfl .Ak) c e.2.2.2.2.1).data.size then
 if inb e.2.2.2.2.2.1 ((BF (rd (dfl .Ak) c e.2.2.2.2.1).data).length) then
 if inb e.2.2.2.2.2.1 ((BF (rd (dfl .Ak) c e.2.2.2.2.1).data).length) then
 if inb e.2.2.2.2.1 c.length then
 if inb e.2.2.2.2.1 ((Bw c (AR e.2.2.2.2.1)<|AO.mk ((rd (dfl .Ak) c e.2.2.2.2.1).src) ((rd (dfl .Ak) c e.2.2.2.2.1).dst) (BK<|Bw (BF (rd (dfl .Ak) c e.2.2.2.2.1).data) (AR e.2.2.2.2.2.1)<|E4 .u8 (rd (dfl .u8) (BF (rd (dfl .Ak) c e.2.2.2.2.1).data) e.2.2.2.2.2.1)<|w8 e.2.2.2.2.2.2.1)<|(rd (dfl .Ak) c e.2.2.2.2.1).sp).length) then
 K a (Bw (Bw c (AR e.2.2.2.2.1)<|AO.mk ((rd (dfl .Ak) c e.2.2.2.2.1).src) ((rd (dfl .Ak) c e.2.2.2.2.1).dst) (BK<|Bw (BF (rd (dfl .Ak) c e.2.2.2.2.1).data) (AR e.2.2.2.2.2.1)<|E4 .u8 (rd (dfl .u8) (BF (rd (dfl .Ak) c e.2.2.2.2.1).data) e.2.2.2.2.2.1)<|w8 e.2.2.2.2.2.2.1)<|(rd (dfl .Ak) c e.2.2.2.2.1).sp) (AR e.2.2.2.2.1)<|AO.mk ((rd (dfl .Ak) (Bw c (AR e.2.2.2.2.1)<|AO.mk ((rd (dfl .Ak) c e.2.2.2.2.1).src) ((rd (dfl .Ak) c e.2.2.2.2.1).dst) (BK<|Bw (BF (rd (dfl .Ak) c e.2.2.2.2.1).data) (AR e.2.2.2.2.2.1)<|E4 .u8 (rd (dfl .u8) (BF (rd (dfl .Ak) c e.2.2.2.2.1).data) e.2.2.2.2.2.1)<|w8 e.2.2.2.2.2.2.1)<|(rd (dfl .Ak) c e.2.2.2.2.1).sp) e.2.2.2.2.1).src) ((rd (dfl .Ak) (Bw c (AR e.2.2.2.2.1)<|AO.mk ((rd (dfl .Ak) c e.2.2.2.2.1).src) ((rd (dfl .Ak) c e.2.2.2.2.1).dst) (BK<|Bw (BF (rd (dfl .Ak) c e.2.2.2.2.1).data) (AR e.2.2.2.2.2.1)<|E4 .u8 (rd (dfl .u8) (BF (rd (dfl .Ak) c e.2.2.2.2.1).data) e.2.2.2.2.2.1)<|w8 e.2.2.2.2.2.2.1)<|(rd (dfl .Ak) c e.2.2.2.2.1).sp) e.2.2.2.2.1).dst) ((rd (dfl .Ak) (Bw c (AR e.2.2.2.2.1)<|AO.mk ((rd (dfl .Ak) c e.2.2.2.2.1).src) ((rd (dfl .Ak) c e.2.2.2.2.1).dst) (BK<|Bw (BF (rd (dfl .Ak) c e.2.2.2.2.1).data) (AR e.2.2.2.2.2.1)<|E4 .u8 (rd (dfl .u8) (BF (rd (dfl .Ak) c e.2.2.2.2.1).data) e.2.2.2.2.2.1)<|w8 e.2.2.2.2.2.2.1)<|(rd (dfl .Ak) c e.2.2.2.2.1).sp) e.2.2.2.2.1).data) U)
 else A0
 else A0
 else A0
 else A0
 else A0
 else
 if(A1<|e.1=4) then
 (iS ((rd (dfl .Ak) c e.2.2.2.2.1).src,(rd (dfl .Ak) c e.2.2.2.2.1).dst,())).bind λr=>
 if inb r.1.1 b.length then
 if(!(rd (dfl .bool) b r.1.1)) then
 F
 else
 cy a c e (rd (dfl .Ak) c e.2.2.2.2.1) K
 else A0
 else
 cy a c e (rd (dfl .Ak) c e.2.2.2.2.1) K
 else A0
def VX{Ω:Type}(b:List Bool)(e:ZE)(K:List Bool->Option Ω)(F:Option Ω):Option Ω:=
 (DL (e.2.1,0,(w64<|(b.length:Int) - 1),())).bind λr=>
 if(!r.1.1) then
 F
 else
 if inb e.2.1 b.length then
 if(A1<|(rd (dfl .bool) b e.2.1)=(A1<|e.1=9)) then
 F
 else
 if inb e.2.1 b.length then
 K (Bw b (AR e.2.1)<|A1<|e.1=9)
 else A0
 else A0
def rr{Ω:Type}(a:List AA)(c:List AO)(d g:List A6)(e:ZE)(K:List AA->List A6->List A6->Option Ω)(F:Option Ω)(Kv:List AA->Bool->Option Ω)(Km:List AO->Bool->Option Ω)(Kz:Bool->Option Ω):Option Ω:=
 (Fq (e.2.1,())).bind λr=>
 if(!r.1.1) then
 F
 else
 if inb e.2.1 a.length then
 if(A1<|e.1=1) then
 if(A1<|6<=(d.length:Int)) then
 F
 else
 if inb e.2.1 a.length then
 (Wn (((rd (dfl .AN) a e.2.1).id,(rd (dfl .AN) a e.2.1).up,(rd (dfl .AN) a e.2.1).log,(rd (dfl .AN) a e.2.1).fo,(rd (dfl .AN) a e.2.1).AM,()),e.2.2.2.2.2.2.2)).bind λr=>
 if(A1<|r.1.2.1=0) then
 F
 else
 if inb e.2.1 a.length then
 if Af (d.length+([(A6.mk e.2.1 r.1.2.1 e.2.2.2.2.2.2.2.1 e.2.2.2.2.2.2.2.2.1 e.2.2.2.2.2.2.2.2.2.1)]:List A6).length) then
 K (Bw a (AR e.2.1)<|AA.mk r.1.1.1 r.1.1.2.1 r.1.1.2.2.1 r.1.1.2.2.2.1 r.1.1.2.2.2.2.1) (d++([(A6.mk e.2.1 r.1.2.1 e.2.2.2.2.2.2.2.1 e.2.2.2.2.2.2.2.2.1 e.2.2.2.2.2.2.2.2.2.1)]:List A6)) g
 else A0
 else A0
 else A0
 else
 if(A1<|e.1=2) then
 (WB (((rd (dfl .AN) a e.2.1).id,(rd (dfl .AN) a e.2.1).up,(rd (dfl .AN) a e.2.1).log,(rd (dfl .AN) a e.2.1).fo,(rd (dfl .AN) a e.2.1).AM,()),())).bind λr=>
 if inb e.2.1 a.length then
 Kv (Bw a (AR e.2.1)<|AA.mk r.1.1.1 r.1.1.2.1 r.1.1.2.2.1 r.1.1.2.2.2.1 r.1.1.2.2.2.2.1) r.1.2.1
 else A0
 else
 if(A1<|e.1=3) then
 (Wo (((rd (dfl .AN) a e.2.1).id,(rd (dfl .AN) a e.2.1).up,(rd (dfl .AN) a e.2.1).log,(rd (dfl .AN) a e.2.1).fo,(rd (dfl .AN) a e.2.1).AM,()),e.2.2.1,e.2.2.2.1,e.2.2.2.2.2.1,())).bind λr=>
 if r.1.2.1 then
 (TA (c,([(Frame.mk r.1.1.1 r.1.1.2.1 r.1.1.2.2.1 r.1.1.2.2.2.1 r.1.1.2.2.2.2.1 r.1.1.2.2.2.2.2.1 r.1.1.2.2.2.2.2.2.1 r.1.1.2.2.2.2.2.2.2.1 r.1.1.2.2.2.2.2.2.2.2.1 r.1.1.2.2.2.2.2.2.2.2.2.1)]:List Frame),())).bind λs=>
 Km s.1.1 r.1.2.1
 else
 Kz r.1.2.1
 else
 if(A1<|e.1=7) then
 (WH (((rd (dfl .AN) a e.2.1).id,(rd (dfl .AN) a e.2.1).up,(rd (dfl .AN) a e.2.1).log,(rd (dfl .AN) a e.2.1).fo,(rd (dfl .AN) a e.2.1).AM,()),e.2.2.2.2.2.2.1,())).bind λr=>
 if inb e.2.1 a.length then
 Kv (Bw a (AR e.2.1)<|AA.mk r.1.1.1 r.1.1.2.1 r.1.1.2.2.1 r.1.1.2.2.2.1 r.1.1.2.2.2.2.1) (rd (dfl .AN) a e.2.1).up
 else A0
 else
 if(A1<|e.1=8) then
 (WC (((rd (dfl .AN) a e.2.1).id,(rd (dfl .AN) a e.2.1).up,(rd (dfl .AN) a e.2.1).log,(rd (dfl .AN) a e.2.1).fo,(rd (dfl .AN) a e.2.1).AM,()),())).bind λr=>
 if inb e.2.1 a.length then
 Kv (Bw a (AR e.2.1)<|AA.mk r.1.1.1 r.1.1.2.1 r.1.1.2.2.1 r.1.1.2.2.2.1 r.1.1.2.2.2.2.1) (!(rd (dfl .AN) a e.2.1).up)
 else A0
 else
 if(A1<|e.1=11) then
 (Wp (((rd (dfl .AN) a e.2.1).id,(rd (dfl .AN) a e.2.1).up,(rd (dfl .AN) a e.2.1).log,(rd (dfl .AN) a e.2.1).fo,(rd (dfl .AN) a e.2.1).AM,()),e.2.2.1,e.2.2.2.1,())).bind λr=>
 if r.1.2.2.1 then
 if(A1<|(g.length:Int)<6) then
 if inb e.2.1 a.length then
 if Af (g.length+([(A6.mk r.1.2.1.1 r.1.2.1.2.1 r.1.2.1.2.2.1 r.1.2.1.2.2.2.1 r.1.2.1.2.2.2.2.1)]:List A6).length) then
 K (Bw a (AR e.2.1)<|AA.mk r.1.1.1 r.1.1.2.1 r.1.1.2.2.1 r.1.1.2.2.2.1 r.1.1.2.2.2.2.1) d (g++([(A6.mk r.1.2.1.1 r.1.2.1.2.1 r.1.2.1.2.2.1 r.1.2.1.2.2.2.1 r.1.2.1.2.2.2.2.1)]:List A6))
 else A0
 else A0
 else
 F
 else
 F
 else
 if(A1<|e.1=12) then
 (WD (((rd (dfl .AN) a e.2.1).id,(rd (dfl .AN) a e.2.1).up,(rd (dfl .AN) a e.2.1).log,(rd (dfl .AN) a e.2.1).fo,(rd (dfl .AN) a e.2.1).AM,()),())).bind λr=>
 if inb e.2.1 a.length then
 Kv (Bw a (AR e.2.1)<|AA.mk r.1.1.1 r.1.1.2.1 r.1.1.2.2.1 r.1.1.2.2.2.1 r.1.1.2.2.2.2.1) r.1.2.1
 else A0
 else
 if(A1<|e.1=13) then
 (W4 (((rd (dfl .AN) a e.2.1).id,(rd (dfl .AN) a e.2.1).up,(rd (dfl .AN) a e.2.1).log,(rd (dfl .AN) a e.2.1).fo,(rd (dfl .AN) a e.2.1).AM,()),())).bind λr=>
 if inb e.2.1 a.length then
 Kv (Bw a (AR e.2.1)<|AA.mk r.1.1.1 r.1.1.2.1 r.1.1.2.2.1 r.1.1.2.2.2.1 r.1.1.2.2.2.2.1) r.1.2.1
 else A0
 else
 F
 else A0
def doK{Ω:Type}(a:List AA)(b:List Bool)(c:List AO)(d g:List A6)(e:ZE)(K:List AA->List Bool->List AO->List A6->List A6->Option Ω)(F:Option Ω)(Kv:List AA->Bool->Option Ω)(Km:List AO->Bool->Option Ω)(Kz:Bool->Option Ω):Option Ω:=
 if(A1<|e.1=4) then
 SP a b c e (λx y=>K x b y d g) F
 else
 if(A1<|e.1=5) then
 SP a b c e (λx y=>K x b y d g) F
 else
 if(A1<|e.1=6) then
 SP a b c e (λx y=>K x b y d g) F
 else
 if(A1<|e.1=9) then
 VX b e (λy=>K a y c d g) F
 else
 if(A1<|e.1=10) then
 VX b e (λy=>K a y c d g) F
 else
 rr a c d g e (λx y z=>K x b c y z) F Kv Km Kz
def Xk(x:Y2×Y6×A2):Option ((Y2×Bool×A2)×A2):=(doK x.1.2.1 x.1.2.2.1 x.1.2.2.2.1 x.1.2.2.2.2.1 x.1.2.2.2.2.2.1 x.2.1 (λk l r s g=>I ((((w64<|x.1.1+1),k,l,r,s,g,()),U,()),())) (I ((((w64<|x.1.1+1),x.1.2),A3,()),())) (λk b=>I ((((w64<|x.1.1+1),k,x.1.2.2.1,x.1.2.2.2.1,x.1.2.2.2.2.1,x.1.2.2.2.2.2.1,()),b,()),())) (λr b=>I ((((w64<|x.1.1+1),x.1.2.1,x.1.2.2.1,r,x.1.2.2.2.2.1,x.1.2.2.2.2.2.1,()),b,()),())) λb=>I ((((w64<|x.1.1+1),x.1.2.1,x.1.2.2.1,x.1.2.2.2.1,x.1.2.2.2.2.1,x.1.2.2.2.2.2.1,()),b,()),()))
def aDk:Ent:=(65,A0,⟨[Z3,Z13],[Z3,.bool],Xk⟩)
def ah6:SQ Tryz.prog aDk:=sk (v:= .nil) (fn:=Tryz.f65) aql kN
def Sd:Cx:=cX [HK,Il,kY,vI,wA,kX,vt,wW,wB,vu,wC,vz,vH,wV] [] []
def aii:OKC Tryz.prog Sd (O0 Sd 3):=abP 3 mixed<|gC Hk<|gC JF<|gC xH<|gC abj<|gC abw<|gC xG<|gC abt<|gC acM<|gC aby<|gC abu<|gC acN<|gC abv<|gC abi<|gC acL<|AL
def G6(x:Y10×Y6×A2):Option ((Bool×A2)×(Y10×A2)):=(doK x.1.2.2.1 x.1.2.2.2.1 x.1.2.2.2.2.1 x.1.2.2.2.2.2.1 x.1.2.2.2.2.2.2.1 x.2.1 (λk l r s g=>if Af (x.1.2.2.2.2.2.2.2.1.length+([(Event.mk x.2.1.1 x.2.1.2.1 x.2.1.2.2.1 x.2.1.2.2.2.1 x.2.1.2.2.2.2.1 x.2.1.2.2.2.2.2.1 x.2.1.2.2.2.2.2.2.1 x.2.1.2.2.2.2.2.2.2.1 x.2.1.2.2.2.2.2.2.2.2.1 x.2.1.2.2.2.2.2.2.2.2.2.1)]:List Event).length) then I ((U,()),((x.1.1,(w64<|x.1.2.1+1),k,l,r,s,g,(x.1.2.2.2.2.2.2.2.1++([(Event.mk x.2.1.1 x.2.1.2.1 x.2.1.2.2.1 x.2.1.2.2.2.1 x.2.1.2.2.2.2.1 x.2.1.2.2.2.2.2.1 x.2.1.2.2.2.2.2.2.1 x.2.1.2.2.2.2.2.2.2.1 x.2.1.2.2.2.2.2.2.2.2.1 x.2.1.2.2.2.2.2.2.2.2.2.1)]:List Event)),()),())) else A0) (I ((A3,()),(x.1,()))) (λk b=>if b then if Af (x.1.2.2.2.2.2.2.2.1.length+([(Event.mk x.2.1.1 x.2.1.2.1 x.2.1.2.2.1 x.2.1.2.2.2.1 x.2.1.2.2.2.2.1 x.2.1.2.2.2.2.2.1 x.2.1.2.2.2.2.2.2.1 x.2.1.2.2.2.2.2.2.2.1 x.2.1.2.2.2.2.2.2.2.2.1 x.2.1.2.2.2.2.2.2.2.2.2.1)]:List Event).length) then I ((b,()),((x.1.1,(w64<|x.1.2.1+1),k,x.1.2.2.2.1,x.1.2.2.2.2.1,x.1.2.2.2.2.2.1,x.1.2.2.2.2.2.2.1,(x.1.2.2.2.2.2.2.2.1++([(Event.mk x.2.1.1 x.2.1.2.1 x.2.1.2.2.1 x.2.1.2.2.2.1 x.2.1.2.2.2.2.1 x.2.1.2.2.2.2.2.1 x.2.1.2.2.2.2.2.2.1 x.2.1.2.2.2.2.2.2.2.1 x.2.1.2.2.2.2.2.2.2.2.1 x.2.1.2.2.2.2.2.2.2.2.2.1)]:List Event)),()),())) else A0 else I ((b,()),((x.1.1,x.1.2.1,k,x.1.2.2.2),()))) (λr b=>if b then if Af (x.1.2.2.2.2.2.2.2.1.length+([(Event.mk x.2.1.1 x.2.1.2.1 x.2.1.2.2.1 x.2.1.2.2.2.1 x.2.1.2.2.2.2.1 x.2.1.2.2.2.2.2.1 x.2.1.2.2.2.2.2.2.1 x.2.1.2.2.2.2.2.2.2.1 x.2.1.2.2.2.2.2.2.2.2.1 x.2.1.2.2.2.2.2.2.2.2.2.1)]:List Event).length) then I ((b,()),((x.1.1,(w64<|x.1.2.1+1),x.1.2.2.1,x.1.2.2.2.1,r,x.1.2.2.2.2.2.1,x.1.2.2.2.2.2.2.1,(x.1.2.2.2.2.2.2.2.1++([(Event.mk x.2.1.1 x.2.1.2.1 x.2.1.2.2.1 x.2.1.2.2.2.1 x.2.1.2.2.2.2.1 x.2.1.2.2.2.2.2.1 x.2.1.2.2.2.2.2.2.1 x.2.1.2.2.2.2.2.2.2.1 x.2.1.2.2.2.2.2.2.2.2.1 x.2.1.2.2.2.2.2.2.2.2.2.1)]:List Event)),()),())) else A0 else A0) λb=>if b then if Af (x.1.2.2.2.2.2.2.2.1.length+([(Event.mk x.2.1.1 x.2.1.2.1 x.2.1.2.2.1 x.2.1.2.2.2.1 x.2.1.2.2.2.2.1 x.2.1.2.2.2.2.2.1 x.2.1.2.2.2.2.2.2.1 x.2.1.2.2.2.2.2.2.2.1 x.2.1.2.2.2.2.2.2.2.2.1 x.2.1.2.2.2.2.2.2.2.2.2.1)]:List Event).length) then I ((b,()),((x.1.1,(w64<|x.1.2.1+1),x.1.2.2.1,x.1.2.2.2.1,x.1.2.2.2.2.1,x.1.2.2.2.2.2.1,x.1.2.2.2.2.2.2.1,(x.1.2.2.2.2.2.2.2.1++([(Event.mk x.2.1.1 x.2.1.2.1 x.2.1.2.2.1 x.2.1.2.2.2.1 x.2.1.2.2.2.2.1 x.2.1.2.2.2.2.2.1 x.2.1.2.2.2.2.2.2.1 x.2.1.2.2.2.2.2.2.2.1 x.2.1.2.2.2.2.2.2.2.2.1 x.2.1.2.2.2.2.2.2.2.2.2.1)]:List Event)),()),())) else A0 else I ((b,()),(x.1,())))
def M1:Ent:=(85,A0,⟨[Z22,Z13],[.bool],G6⟩)
end Go.VS
end
