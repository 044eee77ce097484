/- Part 14. -/
import Derived.Shelf.Utf8.RuneCount
import Derived.Shelf.Strconv.Itoa0
import Derived.Shelf.Strconv.Itoa1
import Derived.Shelf.LaysM
import Derived.Shelf.Strconv.Itoa2
import Derived.Shelf.Strconv.Itoa3
import Derived.Shelf.Strings.Search1
import Derived.Shelf.Strings.Search2
import Derived.Shelf.Strings.Search3
import Derived.Shelf.Strings.Cut
import Derived.Shelf.Strings.Count
import Derived.Shelf.Strings.Shaped
import Derived.Shelf.Strings.Split
import Derived.Shelf.Strings.SplitShaped
import Derived.Shelf.Unicode.Decode
import Derived.Shelf.Strings.RuneCount
import Derived.Shelf.Strings.Explode
import Derived.Shelf.Unicode.DecodeSlow
import Derived.Shelf.Unicode.DecodeAny
import Derived.Test.YtadnafhbeojhoaaGreatDoorProg
import Derived.Test.YtadnafhbeojhoaaGreatDoorQAM
open Bool renaming false->A3,true->A1
open Decidable renaming decide->A0
open Go.Lib renaming TabIs->M0,cellsOf->ae,countB->Mv,cut->FV,itoa->BB,pow10Tab->O3,splitB->J9
open Go.Shelf renaming Ren->W2
open Go.Value renaming string->Zv
open Int renaming tdiv->B0,tmod->BC,toNat->AM
open List renaming drop->Bs,replicate->BW,set->Bq,take->BU
open Option renaming none->U,some->I
set_option linter.all false
noncomputable section
namespace Go.Proofs
open Go.Shelf
def Tryz.aq6:W2:=⟨fun|171=>150|243=>181|246=>216|283=>235|284=>236|285=>237|286=>238|129=>244|317=>243|318=>245|319=>246|320=>247|337=>255|338=>256|n=>n,fun|3=>3|9=>9|2=>2|4=>4|171=>221|0=>0|53=>222|37=>22|5=>5|173=>225|212=>230|51=>231|20=>20|213=>232|46=>233|232=>241|233=>242|n=>n,fun|17=>0|18=>2|19=>3|n=>n⟩
def Tryz.auX:Go.Proofs.LaysM.n171 Tryz.prog Tryz.aq6:={
 mixed:=by kernel_rfl
 f129:=Tryz.func244.trans (congrArg I<|by kernel_rfl)
 f171:=Tryz.func150.trans (congrArg I<|by kernel_rfl)
 f243:=Tryz.func181.trans (congrArg I<|by kernel_rfl)
 f246:=Tryz.func216.trans (congrArg I<|by kernel_rfl)
 f283:=Tryz.func235.trans (congrArg I<|by kernel_rfl)
 f284:=Tryz.func236.trans (congrArg I<|by kernel_rfl)
 f285:=Tryz.func237.trans (congrArg I<|by kernel_rfl)
 f286:=Tryz.func238.trans (congrArg I<|by kernel_rfl)
 f317:=Tryz.func243.trans (congrArg I<|by kernel_rfl)
 f318:=Tryz.func245.trans (congrArg I<|by kernel_rfl)
 f319:=Tryz.func246.trans (congrArg I<|by kernel_rfl)
 f320:=Tryz.func247.trans (congrArg I<|by kernel_rfl)
 f337:=Tryz.func255.trans (congrArg I<|by kernel_rfl)
 f338:=Tryz.func256.trans (congrArg I<|by kernel_rfl)
 t0:=Tryz.underlying0
 a0:=Tryz.isAgg0
 z0:=Tryz.sizeOf0
 v0:=Tryz.zeroValue0
 t2:=Tryz.underlying2
 a2:=Tryz.isAgg2
 z2:=Tryz.sizeOf2
 v2:=Tryz.zeroValue2
 t3:=Tryz.underlying3
 a3:=Tryz.isAgg3
 z3:=Tryz.sizeOf3
 v3:=Tryz.zeroValue3
 t4:=Tryz.underlying4
 a4:=Tryz.isAgg4
 z4:=Tryz.sizeOf4
 v4:=Tryz.zeroValue4
 t5:=Tryz.underlying5
 a5:=Tryz.isAgg5
 z5:=Tryz.sizeOf5
 v5:=Tryz.zeroValue5
 t9:=Tryz.underlying9
 a9:=Tryz.isAgg9
 z9:=Tryz.sizeOf9
 v9:=Tryz.zeroValue9
 t20:=Tryz.underlying20
 a20:=Tryz.isAgg20
 z20:=Tryz.sizeOf20
 v20:=Tryz.zeroValue20
 t37:=Tryz.underlying22
 a37:=Tryz.isAgg22
 z37:=Tryz.sizeOf22
 v37:=Tryz.zeroValue22
 t46:=Tryz.underlying233
 a46:=Tryz.isAgg233
 z46:=Tryz.sizeOf233
 v46:=Tryz.zeroValue233
 t51:=Tryz.underlying231
 a51:=Tryz.isAgg231
 z51:=Tryz.sizeOf231
 v51:=Tryz.zeroValue231
 t53:=Tryz.underlying222
 a53:=Tryz.isAgg222
 z53:=Tryz.sizeOf222
 v53:=Tryz.zeroValue222
 t171:=Tryz.underlying221
 a171:=Tryz.isAgg221
 z171:=Tryz.sizeOf221
 v171:=Tryz.zeroValue221
 t173:=Tryz.underlying225
 a173:=Tryz.isAgg225
 z173:=Tryz.sizeOf225
 v173:=Tryz.zeroValue225
 t212:=Tryz.underlying230
 a212:=Tryz.isAgg230
 z212:=Tryz.sizeOf230
 v212:=Tryz.zeroValue230
 t213:=Tryz.underlying232
 a213:=Tryz.isAgg232
 z213:=Tryz.sizeOf232
 t232:=Tryz.underlying241
 a232:=Tryz.isAgg241
 z232:=Tryz.sizeOf241
 v232:=Tryz.zeroValue241
 t233:=Tryz.underlying242
 a233:=Tryz.isAgg242
 z233:=Tryz.sizeOf242
 v233:=Tryz.zeroValue242
 g17:=by kernel_rfl
 g18:=by kernel_rfl
 g19:=by kernel_rfl
 i0:=by kernel_rfl
 i2:=by kernel_rfl
 i3:=by kernel_rfl
 i4:=by kernel_rfl
 i5:=by kernel_rfl
 i9:=by kernel_rfl
 i20:=by kernel_rfl
 i37:=by kernel_rfl
 i46:=by kernel_rfl
 i51:=by kernel_rfl
 i53:=by kernel_rfl
 i171:=by kernel_rfl
 i173:=by kernel_rfl
 i212:=by kernel_rfl
 i232:=by kernel_rfl
 i233:=by kernel_rfl
 m17:=by kernel_rfl
 m18:=by kernel_rfl
 m19:=by kernel_rfl }
def Tryz.aqK:W2:=⟨fun|145=>191|220=>223|219=>239|217=>248|225=>249|224=>250|267=>251|266=>257|314=>258|n=>n,fun|9=>9|4=>4|59=>188|3=>3|5=>5|46=>233|146=>239|51=>231|n=>n,fun|1=>1|n=>n⟩
def Tryz.ak0:Go.Proofs.Lays.n145 Tryz.prog Tryz.aqK:={
 mixed:=by kernel_rfl
 f145:=Tryz.func191.trans (congrArg I<|by kernel_rfl)
 f217:=Tryz.func248.trans (congrArg I<|by kernel_rfl)
 f219:=Tryz.func239.trans (congrArg I<|by kernel_rfl)
 f220:=Tryz.func223.trans (congrArg I<|by kernel_rfl)
 f224:=Tryz.func250.trans (congrArg I<|by kernel_rfl)
 f225:=Tryz.func249.trans (congrArg I<|by kernel_rfl)
 f266:=Tryz.func257.trans (congrArg I<|by kernel_rfl)
 f267:=Tryz.func251.trans (congrArg I<|by kernel_rfl)
 f314:=Tryz.func258.trans (congrArg I<|by kernel_rfl)
 t3:=Tryz.underlying3
 a3:=Tryz.isAgg3
 z3:=Tryz.sizeOf3
 v3:=Tryz.zeroValue3
 t4:=Tryz.underlying4
 a4:=Tryz.isAgg4
 z4:=Tryz.sizeOf4
 v4:=Tryz.zeroValue4
 t5:=Tryz.underlying5
 a5:=Tryz.isAgg5
 z5:=Tryz.sizeOf5
 v5:=Tryz.zeroValue5
 t9:=Tryz.underlying9
 a9:=Tryz.isAgg9
 z9:=Tryz.sizeOf9
 v9:=Tryz.zeroValue9
 t46:=Tryz.underlying233
 a46:=Tryz.isAgg233
 z46:=Tryz.sizeOf233
 v46:=Tryz.zeroValue233
 t51:=Tryz.underlying231
 a51:=Tryz.isAgg231
 z51:=Tryz.sizeOf231
 v51:=Tryz.zeroValue231
 t59:=Tryz.underlying188
 a59:=Tryz.isAgg188
 z59:=Tryz.sizeOf188
 v59:=Tryz.zeroValue188
 t146:=Tryz.underlying239
 a146:=Tryz.isAgg239
 z146:=Tryz.sizeOf239
 v146:=Tryz.zeroValue239
 g1:=by kernel_rfl }
def Tryz.ahP:W2:=⟨fun|145=>191|220=>223|219=>239|217=>248|225=>249|224=>250|267=>251|266=>257|314=>258|n=>n,fun|9=>9|4=>4|59=>188|3=>3|5=>5|46=>233|146=>239|51=>231|n=>n,fun|1=>1|n=>n⟩
def Tryz.q6:Go.Proofs.LaysM.n145 Tryz.prog Tryz.ahP:={
 mixed:=by kernel_rfl
 f145:=Tryz.func191.trans (congrArg I<|by kernel_rfl)
 f217:=Tryz.func248.trans (congrArg I<|by kernel_rfl)
 f219:=Tryz.func239.trans (congrArg I<|by kernel_rfl)
 f220:=Tryz.func223.trans (congrArg I<|by kernel_rfl)
 f224:=Tryz.func250.trans (congrArg I<|by kernel_rfl)
 f225:=Tryz.func249.trans (congrArg I<|by kernel_rfl)
 f266:=Tryz.func257.trans (congrArg I<|by kernel_rfl)
 f267:=Tryz.func251.trans (congrArg I<|by kernel_rfl)
 f314:=Tryz.func258.trans (congrArg I<|by kernel_rfl)
 t3:=Tryz.underlying3
 a3:=Tryz.isAgg3
 z3:=Tryz.sizeOf3
 v3:=Tryz.zeroValue3
 t4:=Tryz.underlying4
 a4:=Tryz.isAgg4
 z4:=Tryz.sizeOf4
 v4:=Tryz.zeroValue4
 t5:=Tryz.underlying5
 a5:=Tryz.isAgg5
 z5:=Tryz.sizeOf5
 v5:=Tryz.zeroValue5
 t9:=Tryz.underlying9
 a9:=Tryz.isAgg9
 z9:=Tryz.sizeOf9
 v9:=Tryz.zeroValue9
 t46:=Tryz.underlying233
 a46:=Tryz.isAgg233
 z46:=Tryz.sizeOf233
 v46:=Tryz.zeroValue233
 t51:=Tryz.underlying231
 a51:=Tryz.isAgg231
 z51:=Tryz.sizeOf231
 v51:=Tryz.zeroValue231
 t59:=Tryz.underlying188
 a59:=Tryz.isAgg188
 z59:=Tryz.sizeOf188
 v59:=Tryz.zeroValue188
 t146:=Tryz.underlying239
 a146:=Tryz.isAgg239
 z146:=Tryz.sizeOf239
 v146:=Tryz.zeroValue239
 g1:=by kernel_rfl
 i3:=by kernel_rfl
 i4:=by kernel_rfl
 i5:=by kernel_rfl
 i9:=by kernel_rfl
 i46:=by kernel_rfl
 i51:=by kernel_rfl
 i59:=by kernel_rfl
 i146:=by kernel_rfl
 m1:=by kernel_rfl
 s1_3:=λw h=>Go.Proofs.cell_of_shapedOpen_int (zero:= #[.int .i64 0]) (t:=3) h (of_decide_eq_true<|by kernel_rfl) (by kernel_rfl) rfl (by kernel_rfl) (by kernel_rfl) Tryz.underlying3 }
def Tryz.aiM:W2:=⟨fun|146=>196|221=>228|268=>240|138=>241|143=>242|195=>252|197=>253|218=>254|219=>239|260=>259|217=>248|225=>249|224=>250|267=>251|266=>257|314=>258|n=>n,fun|9=>9|31=>109|3=>3|4=>4|0=>0|105=>236|21=>21|5=>5|46=>233|119=>243|139=>246|138=>245|146=>239|51=>231|n=>n,fun|1=>1|3=>4|4=>5|n=>n⟩
def Tryz.avf:Go.Proofs.Lays.n146 Tryz.prog Tryz.aiM:={
 mixed:=by kernel_rfl
 f138:=Tryz.func241.trans (congrArg I<|by kernel_rfl)
 f143:=Tryz.func242.trans (congrArg I<|by kernel_rfl)
 f146:=Tryz.func196.trans (congrArg I<|by kernel_rfl)
 f195:=Tryz.func252.trans (congrArg I<|by kernel_rfl)
 f197:=Tryz.func253.trans (congrArg I<|by kernel_rfl)
 f217:=Tryz.func248.trans (congrArg I<|by kernel_rfl)
 f218:=Tryz.func254.trans (congrArg I<|by kernel_rfl)
 f219:=Tryz.func239.trans (congrArg I<|by kernel_rfl)
 f221:=Tryz.func228.trans (congrArg I<|by kernel_rfl)
 f224:=Tryz.func250.trans (congrArg I<|by kernel_rfl)
 f225:=Tryz.func249.trans (congrArg I<|by kernel_rfl)
 f260:=Tryz.func259.trans (congrArg I<|by kernel_rfl)
 f266:=Tryz.func257.trans (congrArg I<|by kernel_rfl)
 f267:=Tryz.func251.trans (congrArg I<|by kernel_rfl)
 f268:=Tryz.func240.trans (congrArg I<|by kernel_rfl)
 f314:=Tryz.func258.trans (congrArg I<|by kernel_rfl)
 t0:=Tryz.underlying0
 a0:=Tryz.isAgg0
 z0:=Tryz.sizeOf0
 v0:=Tryz.zeroValue0
 t3:=Tryz.underlying3
 a3:=Tryz.isAgg3
 z3:=Tryz.sizeOf3
 v3:=Tryz.zeroValue3
 t4:=Tryz.underlying4
 a4:=Tryz.isAgg4
 z4:=Tryz.sizeOf4
 v4:=Tryz.zeroValue4
 t5:=Tryz.underlying5
 a5:=Tryz.isAgg5
 z5:=Tryz.sizeOf5
 v5:=Tryz.zeroValue5
 t9:=Tryz.underlying9
 a9:=Tryz.isAgg9
 z9:=Tryz.sizeOf9
 v9:=Tryz.zeroValue9
 t21:=Tryz.underlying21
 a21:=Tryz.isAgg21
 z21:=Tryz.sizeOf21
 v21:=Tryz.zeroValue21
 t31:=Tryz.underlying109
 a31:=Tryz.isAgg109
 z31:=Tryz.sizeOf109
 v31:=Tryz.zeroValue109
 t46:=Tryz.underlying233
 a46:=Tryz.isAgg233
 z46:=Tryz.sizeOf233
 v46:=Tryz.zeroValue233
 t51:=Tryz.underlying231
 a51:=Tryz.isAgg231
 z51:=Tryz.sizeOf231
 v51:=Tryz.zeroValue231
 t105:=Tryz.underlying236
 a105:=Tryz.isAgg236
 z105:=Tryz.sizeOf236
 v105:=Tryz.zeroValue236
 t119:=Tryz.underlying243
 a119:=Tryz.isAgg243
 z119:=Tryz.sizeOf243
 t138:=Tryz.underlying245
 a138:=Tryz.isAgg245
 z138:=Tryz.sizeOf245
 v138:=Tryz.zeroValue245
 t139:=Tryz.underlying246
 a139:=Tryz.isAgg246
 z139:=Tryz.sizeOf246
 v139:=Tryz.zeroValue246
 t146:=Tryz.underlying239
 a146:=Tryz.isAgg239
 z146:=Tryz.sizeOf239
 v146:=Tryz.zeroValue239
 g1:=by kernel_rfl
 g3:=by kernel_rfl
 g4:=by kernel_rfl }
def Tryz.asy:W2:=⟨fun|147=>225|221=>228|268=>240|138=>241|143=>242|195=>252|197=>253|218=>254|219=>239|260=>259|217=>248|225=>249|224=>250|267=>251|266=>257|314=>258|n=>n,fun|9=>9|3=>3|31=>109|4=>4|0=>0|105=>236|21=>21|5=>5|46=>233|119=>243|139=>246|138=>245|146=>239|51=>231|n=>n,fun|1=>1|3=>4|4=>5|n=>n⟩
def Tryz.asa:Go.Proofs.Lays.n147 Tryz.prog Tryz.asy:={
 mixed:=by kernel_rfl
 f138:=Tryz.func241.trans (congrArg I<|by kernel_rfl)
 f143:=Tryz.func242.trans (congrArg I<|by kernel_rfl)
 f147:=Tryz.func225.trans (congrArg I<|by kernel_rfl)
 f195:=Tryz.func252.trans (congrArg I<|by kernel_rfl)
 f197:=Tryz.func253.trans (congrArg I<|by kernel_rfl)
 f217:=Tryz.func248.trans (congrArg I<|by kernel_rfl)
 f218:=Tryz.func254.trans (congrArg I<|by kernel_rfl)
 f219:=Tryz.func239.trans (congrArg I<|by kernel_rfl)
 f221:=Tryz.func228.trans (congrArg I<|by kernel_rfl)
 f224:=Tryz.func250.trans (congrArg I<|by kernel_rfl)
 f225:=Tryz.func249.trans (congrArg I<|by kernel_rfl)
 f260:=Tryz.func259.trans (congrArg I<|by kernel_rfl)
 f266:=Tryz.func257.trans (congrArg I<|by kernel_rfl)
 f267:=Tryz.func251.trans (congrArg I<|by kernel_rfl)
 f268:=Tryz.func240.trans (congrArg I<|by kernel_rfl)
 f314:=Tryz.func258.trans (congrArg I<|by kernel_rfl)
 t0:=Tryz.underlying0
 a0:=Tryz.isAgg0
 z0:=Tryz.sizeOf0
 v0:=Tryz.zeroValue0
 t3:=Tryz.underlying3
 a3:=Tryz.isAgg3
 z3:=Tryz.sizeOf3
 v3:=Tryz.zeroValue3
 t4:=Tryz.underlying4
 a4:=Tryz.isAgg4
 z4:=Tryz.sizeOf4
 v4:=Tryz.zeroValue4
 t5:=Tryz.underlying5
 a5:=Tryz.isAgg5
 z5:=Tryz.sizeOf5
 v5:=Tryz.zeroValue5
 t9:=Tryz.underlying9
 a9:=Tryz.isAgg9
 z9:=Tryz.sizeOf9
 v9:=Tryz.zeroValue9
 t21:=Tryz.underlying21
 a21:=Tryz.isAgg21
 z21:=Tryz.sizeOf21
 v21:=Tryz.zeroValue21
 t31:=Tryz.underlying109
 a31:=Tryz.isAgg109
 z31:=Tryz.sizeOf109
 v31:=Tryz.zeroValue109
 t46:=Tryz.underlying233
 a46:=Tryz.isAgg233
 z46:=Tryz.sizeOf233
 v46:=Tryz.zeroValue233
 t51:=Tryz.underlying231
 a51:=Tryz.isAgg231
 z51:=Tryz.sizeOf231
 v51:=Tryz.zeroValue231
 t105:=Tryz.underlying236
 a105:=Tryz.isAgg236
 z105:=Tryz.sizeOf236
 v105:=Tryz.zeroValue236
 t119:=Tryz.underlying243
 a119:=Tryz.isAgg243
 z119:=Tryz.sizeOf243
 t138:=Tryz.underlying245
 a138:=Tryz.isAgg245
 z138:=Tryz.sizeOf245
 v138:=Tryz.zeroValue245
 t139:=Tryz.underlying246
 a139:=Tryz.isAgg246
 z139:=Tryz.sizeOf246
 v139:=Tryz.zeroValue246
 t146:=Tryz.underlying239
 a146:=Tryz.isAgg239
 z146:=Tryz.sizeOf239
 v146:=Tryz.zeroValue239
 g1:=by kernel_rfl
 g3:=by kernel_rfl
 g4:=by kernel_rfl }
open Go.RowKit Go.Sort Go.Lib in
theorem Tryz.strconv_Itoa (n:Int) (h0: -9223372036854775808<=n) (h1:n<=9223372036854775807) (w:World) (ft:M0 Tryz.prog w "internal/strconv.uint64pow10" .u64 O3):
  Calls Tryz.prog 150 #[.int .i64 n] w λe w'=>e= .returned (.string ⟨(BB n).toArray⟩)/\ ∃k os,w'=grow (w.drewN k) os:=Any.strconv_Itoa Tryz.auX n h0 h1 w ft
open Go.RowKit Go.Lib in
theorem Tryz.strings_Cut (s sep:ByteArray) (m:Int) (w:World) (hs:s.size<4294967281) (hm:w.cell? ⟨1,0,U⟩=I (.int .i64 m)):
  Calls Tryz.prog 191 #[.string s,.string sep] w λe w'=>e= .returned (.tuple #[.string ⟨(FV s.data.toList sep.data.toList).1.toArray⟩,.string ⟨(FV s.data.toList sep.data.toList).2.1.toArray⟩,.bool (FV s.data.toList sep.data.toList).2.2])/\ ∃n,w'=w.drewN n:=Any.strings_Cut Tryz.ak0 s sep m w hs hm
open Go.RowKit Go.Lib in
theorem Tryz.strings_Split (s sep:ByteArray) (m:Int) (w:World) (hs:s.size<4294967281) (hm:w.cell? ⟨1,0,U⟩=I (.int .i64 m)) (h1:1<=sep.size):
  Calls Tryz.prog 196 #[.string s,.string sep] w λe w'=>
   e= .returned (.slice (I ⟨w.heap.size,0,U⟩) (Mv s sep+1)<|Mv s sep+1)/\w'=w.alloc (.cells ((J9 sep 0 (Mv s sep) s).map Zv).toArray 9):=Any.strings_Split Tryz.avf (by kernel_rfl) s sep m w hs hm h1
open Go.RowKit Go.Lib in
theorem Tryz.strings_SplitN (s sep:ByteArray) (n:Nat) (m:Int) (w:World) (hs:s.size<4294967281) (hm:w.cell? ⟨1,0,U⟩=I (.int .i64 m)) (h1:1<=sep.size) (hn:1<=n) (wA:n<=9223372036854775807):
  Calls Tryz.prog 225 #[.string s,.string sep,.int .i64 n] w λe w'=>
   e= .returned (.slice (I ⟨w.heap.size,0,U⟩) (J9 sep 0 (min n (s.size+1) - 1) s).length<|min n<|s.size+1)/\w'=w.alloc (.cells (ae (J9 sep 0 (min n (s.size+1) - 1) s)<|min n<|s.size+1) 9):=Any.strings_SplitN Tryz.asa (by kernel_rfl) s sep n m w hs hm h1 hn wA
end Go.Proofs
namespace Go.VS
open Go Go.Proofs
set_option linter.unusedVariables false
set_option maxRecDepth 100000
abbrev t1(v:Adv):Adv:= .two .nil v
def sk{P:Program}{C:Cx}{inl:(Ω:Type)->Inl Ω}{f:Nat}{d:Option Nat}{fn:Func}{m:Da}{v:Adv}{ls:List (Code×Loop)}(hC:OKC P C inl)(hl:LpK P fn.ntmps (Dz 0 m.ps) ls)
  (hf:fnB P f fn m=(I fn,A3,A1,A1):=by kernel_rfl)(hb:fn.body=I (LD fn):=by kernel_rfl)(h:Fg (LD fn) v=ls:=by kernel_rfl)(hg:∀x,cN C inl fn v m x=m.g x:=by intro _;kernel_rfl):SQ P (f,d,m):=
 so hC hf hb h hl hg
def sq{P:Program}{C:Cx}{inl:(Ω:Type)->Inl Ω}(hC:OKC P C inl){n:Nat}{pins:List Nat}{body:Code}{v:Adv}{l:Loop}{b:Lv l.sch->Option (Lv l.sch ⊕ (Lv l.Jr ⊕ Lv l.Jp))}{ls:List (Code×Loop)}
  (hl:LpK P n pins ls)(hb:∀x,evL C inl n pins body v l x=b x:=by intro _;kernel_rfl)(hr:l.run=AW b:=by rfl)(h:Fg body v=ls:=by kernel_rfl):LpK P n pins [(body,l)]:=lk hC hb hr h hl
def kd:TypeId->Option K
 | 2=>I .int
 | 3=>I .int
 | 4=>I .bool
 | 5=>I .u8
 | 9=>I .str
 | 10=>I .str
 | 11=>I .str
 | 30=>I .GI
 | 39=>I .keep
 | 45=>I .AN
 | 49=>I .frame
 | 53=>I .Ai
 | 55=>I .note
 | 57=>I .mark
 | 106=>I .half
 | 123=>I .mixed
 | _=>U
abbrev Y0:Type:=List Int×Int×A2
abbrev Z0:Sh:= .box 88 [.fz .u8,.int .i64]
abbrev Y1:Type:=Int×Bool×A4×Int×List AH×A2
abbrev Z1:Sh:= .agg [.int .i64,.bool,.str,.int .i64,.row 106 .half]
abbrev Y2:Type:=Int×List AA×List Bool×List AT×List A7×List A7×A2
abbrev Z2:Sh:= .box 28 [.int .i64,.row 45 .AN,.row 4 .bool,.row 53 .Ai,.row 55 .note,.row 55 .note]
abbrev Z3:Sh:= .agg [.int .i64,.row 45 .AN,.row 4 .bool,.row 53 .Ai,.row 55 .note,.row 55 .note]
abbrev Y3:Type:=Int×Int×Int×Int×Int×Int×Int×Int×Int×A4×A2
abbrev Z4:Sh:= .agg [.int .i64,.int .i64,.int .i64,.int .i64,.int .i64,.int .i64,.int .i64,.int .i64,.int .i64,.str]
abbrev Z5:Sh:= .box 49 [.int .i64,.int .i64,.int .i64,.int .i64,.int .i64,.int .i64,.int .i64,.int .i64,.int .i64,.str]
abbrev Y4:Type:=Int×Int×Int×List A7×List Mark×List A7×A2
abbrev Z6:Sh:= .agg [.int .i64,.int .i64,.int .i64,.row 55 .note,.row 57 .mark,.row 55 .note]
abbrev Y5:Type:=Int×Int×Int×Int×A4×A2
abbrev Z7:Sh:= .box 55 [.int .i64,.int .i64,.int .i64,.int .i64,.str]
abbrev Z8:Sh:= .agg [.int .i64,.int .i64,.int .i64,.int .i64,.str]
abbrev Z9:Sh:= .box 39 [.int .i64,.int .i64,.int .i64,.sl .note,.sl .mark,.sl .note]
abbrev Z10:Sh:= .agg [.int .i64,.int .i64,.int .i64,.fz .note,.fz .mark,.fz .note]
abbrev Z11:Sh:= .box 39 [.int .i64,.int .i64,.int .i64,.row 55 .note,.row 57 .mark,.row 55 .note]
abbrev Y6:Type:=Int×Int×Int×A2
abbrev Z12:Sh:= .box 57 [.int .i64,.int .i64,.int .i64]
abbrev Z13:Sh:= .agg [.int .i64,.int .i64,.int .i64]
abbrev Z14:Sh:= .agg [.int .i64,.bool,.str,.int .i64,.fz .half]
abbrev Y7:Type:=A4×Int×A2
abbrev Z15:Sh:= .agg [.str,.int .i64]
abbrev Y8:Type:=Int×A4×A2
abbrev Z16:Sh:= .agg [.int .i64,.str]
abbrev Y9:Type:=Int×Int×Int×Int×Int×List AQ×A2
abbrev Z17:Sh:= .box 106 [.int .i64,.int .i64,.int .i64,.int .i64,.int .i64,.sl .mixed]
abbrev Z18:Sh:= .agg [.int .i64,.int .i64,.int .i64,.int .i64,.int .i64,.fz .mixed]
abbrev Z19:Sh:= .box 45 [.int .i64,.bool,.str,.int .i64,.sl .half]
abbrev Z20:Sh:= .box 45 [.int .i64,.bool,.str,.int .i64,.row 106 .half]
abbrev Z21:Sh:= .box 42 [.str,.int .i64]
abbrev Y10:Type:=Y0×Int×List AA×List Bool×List AT×List A7×List A7×List Event×A2
abbrev Z22:Sh:= .box 69 [Z0,.int .i64,.row 45 .AN,.row 4 .bool,.row 53 .Ai,.row 55 .note,.row 55 .note,.row 30 .GI]
abbrev Z23:Sh:= .box 88 [.sl .u8,.int .i64]
abbrev Z24:Sh:= .box 69 [Z23,.int .i64,.row 45 .AN,.row 4 .bool,.row 53 .Ai,.row 55 .note,.row 55 .note,.row 30 .GI]
abbrev Z25:Sh:= .box 69 [Z23,.int .i64,.sl .AN,.sl .bool,.sl .Ai,.sl .note,.sl .note,.sl .GI]
abbrev Z26:Sh:= .box 69 [Z0,.int .i64,.fz .AN,.fz .bool,.fz .Ai,.fz .note,.fz .note,.fz .GI]
abbrev Z27:Sh:= .box 30 [.int .i64,.int .i64,.int .i64,.int .i64,.int .i64,.int .i64,.int .i64,.int .i64,.int .i64,.str]
abbrev Y11:Type:=A2×Int×List AA×List Bool×List AT×List A7×List A7×List Event×A2
abbrev Z28:Sh:= .box 69 [.same 0,.int .i64,.row 45 .AN,.row 4 .bool,.row 53 .Ai,.row 55 .note,.row 55 .note,.row 30 .GI]
abbrev Z29:Sh:= .box 28 [.int .i64,.sl .AN,.sl .bool,.sl .Ai,.sl .note,.sl .note]
abbrev Z30:Sh:= .agg [.int .i64,.fz .AN,.fz .bool,.fz .Ai,.fz .note,.fz .note]
abbrev Z31:Sh:= .box 69 [.same 4,.int .i64,.fz .AN,.fz .bool,.fz .Ai,.fz .note,.fz .note,.row 30 .GI]
abbrev Z32:Sh:= .box 28 [.int .i64,.fz .AN,.fz .bool,.fz .Ai,.fz .note,.fz .note]
abbrev Z33:Sh:= .box 69 [.same 4,.int .i64,.row 45 .AN,.row 4 .bool,.row 53 .Ai,.row 55 .note,.row 55 .note,.row 30 .GI]
abbrev Z34:Sh:= .box 39 [.int .i64,.int .i64,.int .i64,.row 55 .note,.row 57 .mark,.sl .note]
abbrev Z35:Sh:= .box 123 [.int .i64,.str]
abbrev Y12:Type:=Int×Int×A4×Bool×A2
abbrev Z36:Sh:= .box 53 [.int .i64,.int .i64,.str,.bool]
abbrev Z37:Sh:= .box 45 [.int .i64,.bool,.str,.int .i64,.fz .half]
abbrev Rnd(a b c:Type):=Option<|a ⊕ (b ⊕ c)
noncomputable abbrev cX(l:List Ent)(cz sp:List (Nat×Nat)):Cx:=⟨Tryz.prog,kd,gam l,inR cz,inR sp⟩
abbrev LF(fn:Func)(pins path:List Nat)(l:Loop):=LpK Tryz.prog fn.ntmps pins [(OP path<|LD fn,l)]
def mixed:Tryz.prog.follows .mixedOrders=A1:=by kernel_rfl
def J2:(Int×A2)->Option ((A4×A2)×(A2)):=Tk
def S9:Ent:=(150,U,⟨[.int .i64],[.str],J2⟩)
def Tr:SQ Tryz.prog S9:=⟨awu (NZ Tryz.func150 (by kernel_rfl) (by kernel_rfl:Tryz.f150.body=I (LD Tryz.f150))) (by kernel_rfl) Tryz.strconv_Itoa,by kernel_rfl⟩
def Uk:(A4×A4×A2)->Option ((A4×A4×Bool×A2)×(A2)):=OQ
def tP:Ent:=(191,U,⟨[.str,.str],[.str,.str,.bool],Uk⟩)
def aoT:SQ Tryz.prog tP:=⟨ax0 (gm:=1) (NZ Tryz.func191 (by kernel_rfl) (by kernel_rfl:Tryz.f191.body=I (LD Tryz.f191))) (BT<|by kernel_rfl) (λw h=>Tryz.q6.s1_3 w h) Tryz.strings_Cut,by kernel_rfl⟩
def Zz:(A4×A4×A2)->Option ((List A4×A2)×(A2)):=V2
def aCa:Ent:=(196,U,⟨[.str,.str],[.row 9 .str],Zz⟩)
def aiB:SQ Tryz.prog aCa:=⟨arW (gm:=1) (NZ Tryz.func196 (by kernel_rfl) (by kernel_rfl:Tryz.f196.body=I (LD Tryz.f196))) (BT<|by kernel_rfl) (λw h=>Tryz.q6.s1_3 w h) Tryz.strings_Split,by kernel_rfl⟩
def iS:(A4×A4×Int×A2)->Option ((List A4×A2)×(A2)):=Vf
def acZ:Ent:=(225,U,⟨[.str,.str,.int .i64],[.row 9 .str],iS⟩)
def alv:SQ Tryz.prog acZ:=⟨ajv (gm:=1) (NZ Tryz.func225 (by kernel_rfl) (by kernel_rfl:Tryz.f225.body=I (LD Tryz.f225))) (BT<|by kernel_rfl) (λw h=>Tryz.q6.s1_3 w h) Tryz.strings_SplitN,by kernel_rfl⟩
def aqY:Cx:=cX [] [] []
def anL:OKC Tryz.prog aqY AF:=okc mixed<|AL
def Za(x:List Int×A2):Option ((Y0×A2)×A2):=if A0 (2000<(x.1.length:Int)) then if A0 (0<=2000)&&A0 (2000<=(x.1.length:Int)) then let a:=(BU (AM 2000) x.1);I (((a,0,()),()),()) else U else I (((x.1,0,()),()),())
def yo:Ent:=(16,U,⟨[.fz .u8],[Z0],Za⟩)
def avI:SQ Tryz.prog yo:=sk (v:= .nil) (fn:=Tryz.f16) anL kN
def axD:Cx:=cX [] [] [(18,23)]
def amJ:OKC Tryz.prog axD AF:=okc mixed<|AL
def At(x:Y0×Int×A2):Option ((Int×A2)×(Y0×A2)):=if(A0<|x.2.1<1)||(A0<|(x.1.1.length:Int)=0) then I ((0,()),((x.1.1,(w64<|x.1.2.1+1),()),())) else let a:=(w64<|(w64<|x.1.2.1+1) - 1);(if A0 (a<(x.1.1.length:Int)) then if inb a x.1.1.length then if !decide (x.2.1=0) then let c:=(BC (w64<|rd (dfl .u8) x.1.1 a) x.2.1);I ((c,()),((x.1.1,(w64<|x.1.2.1+1),()),())) else U else U else if !decide ((x.1.1.length:Int)=0) then if inb (BC a (x.1.1.length:Int)) x.1.1.length then if !decide ((x.1.1.length:Int)=0) then if inb (BC (w64<|(w64<|a * 7)+3) (x.1.1.length:Int)) x.1.1.length then if !decide ((x.1.1.length:Int)=0) then let b:=(w64<|(w64<|(w64<|(w64<|(w64<|rd (dfl .u8) x.1.1<|BC a (x.1.1.length:Int)) * 131)+(w64<|(w64<|rd (dfl .u8) x.1.1<|BC (w64<|(w64<|a * 7)+3) (x.1.1.length:Int)) * 1117))+(w64<|a * 29))+(w64<|(w64<|B0 a (x.1.1.length:Int)) * 53));let d:=(Dm .i64 b<|w64<|B0 b 64);(if !decide (x.2.1=0) then I (((BC d x.2.1),()),((x.1.1,(w64<|x.1.2.1+1),()),())) else U) else U else U else U else U else U)
def GH:Ent:=(18,U,⟨[Z0,.int .i64],[.int .i64],At⟩)
def Gp:SQ Tryz.prog GH:=sk (v:= .nil) (fn:=Tryz.f18) amJ kN
def aoK:Cx:=cX [] [] [(11,13)]
def avK:OKC Tryz.prog aoK AF:=okc mixed<|AL
def DK(x:Int×Int×Int×A2):Option ((Bool×A2)×A2):=let a:=((A0<|x.2.1<=x.1)&&(A0<|x.1<=x.2.2.1));I ((a,()),())
def H6:Ent:=(48,U,⟨[.int .i64,.int .i64,.int .i64],[.bool],DK⟩)
def HI:SQ Tryz.prog H6:=sk (v:= .nil) (fn:=Tryz.f48) avK kN
def ajX:Cx:=cX [H6] [] []
def azY:OKC Tryz.prog ajX AF:=okc mixed<|gC HI<|AL
def FN(x:Int×A2):Option ((Bool×A2)×A2):=(DK (x.1,0,3,())).bind λa=>I (a.1,())
def IX:Ent:=(50,U,⟨[.int .i64],[.bool],FN⟩)
def Ij:SQ Tryz.prog IX:=sk (v:= .nil) (fn:=Tryz.f50) azY kN
def ayj:Cx:=cX [IX] [] []
def aw6:OKC Tryz.prog ayj AF:=okc mixed<|gC Ij<|AL
def Te(x:Int×A2):Option ((Y1×A2)×A2):=(FN x).bind λa=>if !a.1.1 then I (((0,A3,noB,0,([]:List AH),()),()),()) else I (((x.1,A1,noB,0,([]:List AH),()),()),())
def y0:Ent:=(75,U,⟨[.int .i64],[Z1],Te⟩)
def aj5:SQ Tryz.prog y0:=sk (v:= .nil) (fn:=Tryz.f75) aw6 kN
def arJ:Cx:=cX [y0] [] []
def oQ:OKC Tryz.prog arJ AF:=okc mixed<|gC aj5<|AL
def Tj(x:Y2×Y2×Int×A2):Rnd (Y2×Y2×Int×A2) (A2) (Y2×Y2×A2):=if A0 ((w64<|x.2.2.1+1)<4) then if Ac (x.2.1.2.2.1.length+([A1]:List Bool).length) then I (.inl (x.1,(x.2.1.1,x.2.1.2.1,(x.2.1.2.2.1++([A1]:List Bool)),x.2.1.2.2.2),(w64<|x.2.2.1+1),())) else U else I (.inr<|.inr (x.1,x.2.1,()))
def lv:=AW Tj
def uR:Loop:=⟨[(0,Z2),(1,Z2),(3,.int .i64)],[(0,Z2),(1,Z2)],2,[],lv⟩
def aeV:LF Tryz.f41 [] [1,1,1,0,1,0,0] uR:=sq (v:= .nil) oQ (b:=Tj) kN
def Wz(x:Y2×Y2×Int×A2):Rnd (Y2×Y2×Int×A2) (A2) (Y2×Y2×A2):=if A0 (x.2.2.1<4) then(Te x.2.2).bind λa=>if Ac (x.2.1.2.1.length+([(AA.mk a.1.1.1 a.1.1.2.1 a.1.1.2.2.1 a.1.1.2.2.2.1 a.1.1.2.2.2.2.1)]:List AA).length) then I (.inl (x.1,(x.2.1.1,(x.2.1.2.1++([(AA.mk a.1.1.1 a.1.1.2.1 a.1.1.2.2.1 a.1.1.2.2.2.1 a.1.1.2.2.2.2.1)]:List AA)),x.2.1.2.2),(w64<|x.2.2.1+1),())) else U else I (.inr<|.inr (x.1,x.2.1,()))
def nc:=AW Wz
def aEU:Loop:=⟨[(0,Z2),(1,Z2),(2,.int .i64)],[(0,Z2),(1,Z2)],0,[],nc⟩
def auZ:LF Tryz.f41 [] [1,1,0,1,0,0] aEU:=sq (v:= .nil) oQ (b:=Wz) kN
def eh(x:A2):Option ((Y2×A2)×A2):=(AO (nc ((0,([]:List AA),([]:List Bool),([]:List AT),([]:List A7),([]:List A7),()),(0,([]:List AA),([]:List Bool),([]:List AT),([]:List A7),([]:List A7),()),0,())) (λ_=>U) λa=>(AO (lv (a.1,a.2.1,0,())) (λ_=>U) λb=>I (b.2,())))
def acr:Ent:=(41,U,⟨[],[Z3],eh⟩)
def aiK:SQ Tryz.prog acr:=sk (v:=t1<|t1<|.two (t1<|.one<|.loop aEU)<|.two (t1<|.one<|.loop uR) .nil) (fn:=Tryz.f41) oQ<|kC auZ<|kC aeV kN
def ahr:Cx:=cX [] [] []
def amD:OKC Tryz.prog ahr AF:=okc mixed<|AL
def cE(x:Int×Int×A2):Option ((Int×A2)×A2):=if A0 (x.1<x.2.1) then I ((x.1,()),()) else I (x.2,())
def l6:Ent:=(88,U,⟨[.int .i64,.int .i64],[.int .i64],cE⟩)
def tc:SQ Tryz.prog l6:=sk (v:= .nil) (fn:=Tryz.f88) amD kN
def aiz:Cx:=cX [IX] [] []
def anu:OKC Tryz.prog aiz AF:=okc mixed<|gC Ij<|AL
def L3(x:Int×Int×A2):Option ((Int×A2)×A2):=(BF (X:=Int×Int×Bool×A2) (λa=>if a.2.2.1 then I (((-1),()),()) else if A0 (a.1<a.2.1) then I (((w64<|a.1+1),()),()) else I (((w64<|a.1 - 1),()),()))<|(FN (x.1,())).bind λb=>if !b.1.1 then I (.inr (x.1,x.2.1,A1,())) else(FN x.2).bind λc=>if !c.1.1 then I (.inr (x.1,x.2.1,A1,())) else I (.inr (x.1,x.2.1,(A0<|x.1=x.2.1),())))
def Wb:Ent:=(71,U,⟨[.int .i64,.int .i64],[.int .i64],L3⟩)
def lu:SQ Tryz.prog Wb:=sk (v:=t1<|.two (.one<|.join [(0,.int .i64),(1,.int .i64),(5,.bool)] .nil .nil) .nil) (fn:=Tryz.f71) anu kN
def adY:Cx:=cX [H6,IX,Wb] [] [(65,67),(88,91)]
def aiu:OKC Tryz.prog adY AF:=okc mixed<|gC HI<|gC Ij<|gC lu<|AL
def T8(x:Y3×A2):Option ((Bool×A2)×A2):=(DK (x.1.1,1,3,())).bind λa=>if !a.1.1 then I ((A3,()),()) else(FN (x.1.2.1,())).bind λb=>if !b.1.1 then I ((A3,()),()) else(FN (x.1.2.2.1,())).bind λc=>if !c.1.1 then I ((A3,()),()) else(FN (x.1.2.2.2.1,())).bind λd=>if !d.1.1 then I ((A3,()),()) else(FN (x.1.2.2.2.2.2.1,())).bind λe=>if !e.1.1 then I ((A3,()),()) else(DK (x.1.2.2.2.2.1,1,99,())).bind λf=>if !f.1.1 then I ((A3,()),()) else(DK (x.1.2.2.2.2.2.2.1,1,999,())).bind λg=>if !g.1.1 then I ((A3,()),()) else if !decide (x.1.1=1) then(L3 (x.1.2.2.1,x.1.2.2.2.2.2.1,())).bind λh=>if A0 (h.1.1=x.1.2.1) then if A0 (x.1.2.2.2.2.2.2.2.1=0) then let i:=((A0<|x.1.2.2.2.2.2.2.2.2.1=0)&&(A0<|x.1.2.2.2.2.2.2.2.2.2.1=noB));I ((i,()),()) else I ((A3,()),()) else I ((A3,()),()) else(L3 (x.1.2.1,x.1.2.2.2.2.2.1,())).bind λj=>if A0 (j.1.1=x.1.2.2.1) then(DK (x.1.2.2.2.2.2.2.2.1,1,24,())).bind λk=>if k.1.1 then(DK (x.1.2.2.2.2.2.2.2.2.1,0,999,())).bind λl=>let m:=(l.1.1&&(A0<|(x.1.2.2.2.2.2.2.2.2.2.1.size:Int)=4));I ((m,()),()) else I ((A3,()),()) else I ((A3,()),())
def l9:Ent:=(134,U,⟨[Z4],[.bool],T8⟩)
def vW:SQ Tryz.prog l9:=sk (v:= .nil) (fn:=Tryz.f134) aiu kN
def al3:Cx:=cX [] [] []
def adg:OKC Tryz.prog al3 AF:=okc mixed<|AL
def Nr(x:List Int×Int×A2):Option ((List Int×A2)×A2):=if Ac (x.1.length+([(w8<|w64<|B0 x.2.1 256),(w8<|BC x.2.1 256)]:List Int).length) then I (((x.1++([(w8<|w64<|B0 x.2.1 256),(w8<|BC x.2.1 256)]:List Int)),()),()) else U
def aE6:Ent:=(165,U,⟨[.row 5 .u8,.int .i64],[.row 5 .u8],Nr⟩)
def au1:SQ Tryz.prog aE6:=sk (v:= .nil) (fn:=Tryz.f165) adg kN
def akW:Cx:=cX [] [] []
def zZ:OKC Tryz.prog akW AF:=okc mixed<|AL
def eX(x:List Int×Int×Int×A2):Rnd (List Int×Int×Int×A2) (A2) (Int×A2):=if A0 (x.2.2.1<(x.1.length:Int)) then if inb x.2.2.1 x.1.length then let a:=(BC (w64<|x.2.1+(w64<|(w64<|(BC x.2.2.1 1000)+1) * (w64<|rd (dfl .u8) x.1 x.2.2.1))) 65521);I (.inl (x.1,a,(w64<|x.2.2.1+1),())) else U else I (.inr<|.inr (x.2.1,()))
def Xo:=AW eX
def aFm:Loop:=⟨[(0,.sl .u8),(3,.int .i64),(4,.int .i64)],[(3,.int .i64)],0,[],Xo⟩
def aow:LF Tryz.f166 [] [1,1,0,1,0,0] aFm:=sq (v:= .nil) zZ (b:=eX) kN
def Rc(x:List Int×A2):Option ((Int×A2)×A2):=(AO (Xo (x.1,0,0,())) (λ_=>U) λa=>I (a,()))
def ad9:Ent:=(166,U,⟨[.fz .u8],[.int .i64],Rc⟩)
def adu:SQ Tryz.prog ad9:=sk (v:=t1<|t1<|.two (t1<|.one<|.loop aFm) .nil) (fn:=Tryz.f166) zZ<|kC aow kN
def ag0:Cx:=cX [l9,aE6,ad9] [] []
def amX:OKC Tryz.prog ag0 AF:=okc mixed<|gC vW<|gC au1<|gC adu<|AL
def PO(x:Y3×A2):Option ((List Int×A2)×A2):=(T8 x).bind λc=>if !c.1.1 then I ((([]:List Int),()),()) else if Ac (([]:List Int).length+([(w8 x.1.1),(w8 x.1.2.1),(w8 x.1.2.2.1),(w8 x.1.2.2.2.1),(w8 x.1.2.2.2.2.1),(w8 x.1.2.2.2.2.2.1)]:List Int).length) then(Nr ((([]:List Int)++([(w8 x.1.1),(w8 x.1.2.1),(w8 x.1.2.2.1),(w8 x.1.2.2.2.1),(w8 x.1.2.2.2.2.1),(w8 x.1.2.2.2.2.2.1)]:List Int)),x.1.2.2.2.2.2.2.1,())).bind λa=>if A0 (x.1.1=1) then if Ac (a.1.1.length+([(w8 x.1.2.2.2.2.2.2.2.1)]:List Int).length) then(Nr ((a.1.1++([(w8 x.1.2.2.2.2.2.2.2.1)]:List Int)),x.1.2.2.2.2.2.2.2.2.1,())).bind λb=>if Ac x.1.2.2.2.2.2.2.2.2.2.1.size then if Ac (b.1.1.length+(BA x.1.2.2.2.2.2.2.2.2.2.1).length) then(Rc ((b.1.1++(BA x.1.2.2.2.2.2.2.2.2.2.1)),())).bind λd=>(Nr ((b.1.1++(BA x.1.2.2.2.2.2.2.2.2.2.1)),d.1)).bind λe=>I (e.1,()) else U else U else U else(Rc a.1).bind λf=>(Nr (a.1.1,f.1)).bind λg=>I (g.1,()) else U
def ig:Ent:=(133,U,⟨[Z4],[.row 5 .u8],PO⟩)
def ye:SQ Tryz.prog ig:=sk (v:= .nil) (fn:=Tryz.f133) amX kN
def auH:Cx:=cX [ig] [] [(9,11)]
def ayT:OKC Tryz.prog auH AF:=okc mixed<|gC ye<|AL
def Xv(x:List Int×A2):Option ((Y3×Bool×A2)×A2):=if(!decide ((x.1.length:Int)=10))&&(!decide ((x.1.length:Int)=17)) then I (((0,0,0,0,0,0,0,0,0,noB,()),A3,()),()) else if inb 0 x.1.length then if inb 1 x.1.length then if inb 2 x.1.length then if inb 3 x.1.length then if inb 4 x.1.length then if inb 5 x.1.length then if inb 6 x.1.length then if inb 7 x.1.length then let b:=(w64<|rd (dfl .u8) x.1 0);let c:=(w64<|rd (dfl .u8) x.1 1);let d:=(w64<|rd (dfl .u8) x.1 2);let e:=(w64<|rd (dfl .u8) x.1 3);let f:=(w64<|rd (dfl .u8) x.1 4);let g:=(w64<|rd (dfl .u8) x.1 5);let h:=(w64<|(w64<|(w64<|rd (dfl .u8) x.1 6) * 256)+(w64<|rd (dfl .u8) x.1 7));(BF (X:=List Int×Y3×Y3×A2) (λa=>(PO a.2.2).bind λi=>if !decide ((BH i.1.1)=(BH a.1)) then I (((0,0,0,0,0,0,0,0,0,noB,()),A3,()),()) else I ((a.2.2.1,A1,()),()))<|(if A0 (10<(x.1.length:Int)) then if inb 8 x.1.length then let j:=(w64<|rd (dfl .u8) x.1 8);(if inb 9 x.1.length then if inb 10 x.1.length then let k:=(w64<|(w64<|(w64<|rd (dfl .u8) x.1 9) * 256)+(w64<|rd (dfl .u8) x.1 10));(if(A0 (0<=15)&&A0 (15<=(x.1.length:Int)))&&(A0 (0<=11)&&A0 (11<=15)) then let l:=(BH<|Bs (AM 11)<|BU (AM 15) x.1);I (.inr (x.1,(0,0,0,0,0,0,0,0,0,noB,()),(b,c,d,e,f,g,h,j,k,l,()),())) else U) else U else U) else U else I (.inr (x.1,(0,0,0,0,0,0,0,0,0,noB,()),(b,c,d,e,f,g,h,0,0,noB,()),())))) else U else U else U else U else U else U else U else U
def jQ:Ent:=(89,U,⟨[.fz .u8],[Z4,.bool],Xv⟩)
def aCX:SQ Tryz.prog jQ:=sk (v:=t1<|t1<|t1<|.join [(0,.sl .u8),(2,Z5),(4,Z5)] .nil .nil) (fn:=Tryz.f89) ayT kN
def Ga(xD:(Int×A2)->Option ((A4×A2)×(A2)))(x:Int×A2):Option ((A4×A2)×A2):=
 if A0 (x.1<(-9223372036854775807)) then
 let v2:=(B [45,57,50,50,51,51,55,50,48,51,54,56,53,52,55,55,53,56,48,56])
 I ((v2,()),())
 else
 if A0 (x.1<0) then
 (xD ((w64<|0 - x.1),())).bind λr4=>
 if A0 ((B [45]).size+r4.1.1.size<=4611686018427387904) then
 I ((((B [45])++r4.1.1),()),())
 else U
 else
 if A0 (x.1<10) then
 let v6:=(BH ([(w8<|w64<|48+x.1)]:List Int))
 I ((v6,()),())
 else
 (xD ((w64<|B0 x.1 10),())).bind λr7=>
 if A0 (r7.1.1.size+(BH ([(w8<|w64<|48+(BC x.1 10))]:List Int)).size<=4611686018427387904) then
 let v8:=(r7.1.1++(BH ([(w8<|w64<|48+(BC x.1 10))]:List Int)))
 I ((v8,()),())
 else U
def DO:=O9 Ga
def anA(g:(Int×A2)->Option ((A4×A2)×(A2))):Cx:=cX [(128,U,⟨[.int .i64],[.str],g⟩)] [] []
def aje(g:(Int×A2)->Option ((A4×A2)×(A2)))(h:SQ Tryz.prog (128,U,⟨[.int .i64],[.str],g⟩)):OKC Tryz.prog (anA g) AF:=okc mixed<|gC h<|AL
def MM:Ent:=(128,U,⟨[.int .i64],[.str],DO⟩)
def Ms:SQ Tryz.prog MM:=soR (NZ (by kernel_rfl:Tryz.prog.funcs[128]? =I Tryz.f128) (by kernel_rfl) (by kernel_rfl:Tryz.f128.body=I (LD Tryz.f128))) (λ_=>by kernel_rfl) λg h=>so (v:= .nil) (fn:=Tryz.f128) (aje g h) (by kernel_rfl) (by kernel_rfl) (by kernel_rfl) kN λ_=>by kernel_rfl
def awA:Cx:=cX [MM] [] [(9,11),(24,27)]
def aE2:OKC Tryz.prog awA AF:=okc mixed<|gC Ms<|AL
def cR(x:A4×Int×Int×A2):Rnd (A4×Int×Int×A2) (Int×A2) (A4×Int×A2):=if A0 (x.2.2.1<(x.1.size:Int)) then if inb x.2.2.1 x.1.size then if Ad (!(A0<|(bt x.1 x.2.2.1)<48)) (inb x.2.2.1 x.1.size) then if(A0<|(bt x.1 x.2.2.1)<48)||(A0<|57<(bt x.1 x.2.2.1)) then I (.inr<|.inl ((-1),())) else if inb x.2.2.1 x.1.size then let a:=(w64<|(w64<|x.2.1 * 10)+(w64<|w8<|(bt x.1 x.2.2.1) - 48));I (.inl (x.1,a,(w64<|x.2.2.1+1),())) else U else U else U else I (.inr<|.inr (x.1,x.2.1,()))
def pS:=AW cR
def acV:Loop:=⟨[(0,.str),(3,.int .i64),(4,.int .i64)],[(0,.str),(3,.int .i64)],0,[(2,.int .i64)],pS⟩
def aiL:LF Tryz.f159 [] [1,1,1,0,1,0,0] acV:=sq (v:= .nil) aE2 (b:=cR) kN
def PQ(x:A4×A2):Option ((Int×A2)×A2):=if(A0<|(x.1.size:Int)<1)||(A0<|4<(x.1.size:Int)) then I (((-1),()),()) else(AO (pS (x.1,0,0,())) (λa=>I (a,())) λa=>(DO a.2).bind λb=>if !decide (b.1.1=a.1) then I (((-1),()),()) else I (a.2,()))
def XC:Ent:=(159,U,⟨[.str],[.int .i64],PQ⟩)
def ka:SQ Tryz.prog XC:=sk (v:=t1<|t1<|t1<|.two (t1<|.one<|.loop acV) .nil) (fn:=Tryz.f159) aE2<|kC aiL kN
def ax4:Cx:=cX [XC] [] [(11,12)]
def ta:OKC Tryz.prog ax4 AF:=okc mixed<|gC ka<|AL
def NK(x:A4×Int×A2):Rnd (A4×Int×A2) (A4×Int×A2) (A2):=if(A0<|x.2.1<(x.1.size:Int))&&(A0<|x.2.1<3) then if inb x.2.1 x.1.size then if !decide ((bt x.1 x.2.1)=58) then I (.inl (x.1,(w64<|x.2.1+1),())) else if A0 (0<=x.2.1)&&A0 (x.2.1<=(x.1.size:Int)) then(PQ ((x.1.extract (0)<|AM x.2.1),())).bind λa=>if A0 (a.1.1<1) then I (.inr<|.inl (noB,0,())) else if A0 (60<a.1.1) then I (.inr<|.inl (noB,0,())) else if A0 ((x.1.size:Int)<(w64<|(w64<|x.2.1+2)+a.1.1)) then I (.inr<|.inl (noB,0,())) else if inb (w64<|(w64<|x.2.1+1)+a.1.1) x.1.size then if !decide ((bt x.1<|w64<|(w64<|x.2.1+1)+a.1.1)=59) then I (.inr<|.inl (noB,0,())) else if(A0 (0<=(w64<|(w64<|x.2.1+1)+a.1.1))&&A0 ((w64<|(w64<|x.2.1+1)+a.1.1)<=(x.1.size:Int)))&&(A0 (0<=(w64<|x.2.1+1))&&A0 ((w64<|x.2.1+1)<=(w64<|(w64<|x.2.1+1)+a.1.1))) then let b:=(x.1.extract (AM<|w64<|x.2.1+1)<|AM<|w64<|(w64<|x.2.1+1)+a.1.1);let c:=(w64<|(w64<|x.2.1+2)+a.1.1);I (.inr<|.inl (b,c,())) else U else U else U else U else I (.inr<|.inr ())
def l5:=AW NK
def uj:Loop:=⟨[(0,.str),(4,.int .i64)],[],0,[(2,.str),(3,.int .i64)],l5⟩
def azN:LF Tryz.f122 [] [1,0,1,0,0] uj:=sq (v:= .nil) ta (b:=NK) kN
def Wn(x:A4×A2):Option ((A4×Int×A2)×A2):=(AO (l5 (x.1,0,())) (λa=>I (a,())) λa=>I ((noB,0,()),()))
def aDS:Ent:=(122,U,⟨[.str],[.str,.int .i64],Wn⟩)
def aqM:SQ Tryz.prog aDS:=sk (v:=t1<|.two (t1<|.one<|.loop uj) .nil) (fn:=Tryz.f122) ta<|kC azN kN
def axO:Cx:=cX [aDS] [] []
def aDc:OKC Tryz.prog axO AF:=okc mixed<|gC aqM<|AL
def Ri(x:A4×List A4×Int×A2):Rnd (A4×List A4×Int×A2) (List A4×Int×A2) (List A4×Int×A2):=if A0 (x.2.2.1<(x.1.size:Int)) then if A0 (0<=x.2.2.1)&&A0 (x.2.2.1<=(x.1.size:Int)) then(Wn ((x.1.extract (AM x.2.2.1)<|x.1.size),())).bind λa=>if A0 (a.1.2.1=0) then I (.inr<|.inl x.2) else if Ac (x.2.1.length+([a.1.1]:List A4).length) then let b:=(w64<|x.2.2.1+a.1.2.1);I (.inl (x.1,(x.2.1++([a.1.1]:List A4)),b,())) else U else U else I (.inr<|.inr x.2)
def rR:=AW Ri
def aAa:Loop:=⟨[(0,.str),(4,.row 9 .str),(5,.int .i64)],[(4,.row 9 .str),(5,.int .i64)],0,[(2,.row 9 .str),(3,.int .i64)],rR⟩
def aey:LF Tryz.f80 [] [1,1,1,0,0,0] aAa:=sq (v:= .nil) aDc (b:=Ri) kN
def Jz(x:A4×A2):Option ((List A4×Int×A2)×A2):=(AO (rR (x.1,([]:List A4),0,())) (λa=>I (a,())) λa=>I (a,()))
def QI:Ent:=(80,U,⟨[.str],[.row 9 .str,.int .i64],Jz⟩)
def VI:SQ Tryz.prog QI:=sk (v:=t1<|t1<|t1<|.two (.one<|.loop aAa) .nil) (fn:=Tryz.f80) aDc<|kC aey kN
def atu:Cx:=cX [IX] [] []
def axm:OKC Tryz.prog atu AF:=okc mixed<|gC Ij<|AL
def aK(x:Int×A2):Option ((Y4×A2)×A2):=(FN x).bind λa=>if !a.1.1 then I (((0,0,0,([]:List A7),([]:List Mark),([]:List A7),()),()),()) else I (((x.1,0,1,([]:List A7),([]:List Mark),([]:List A7),()),()),())
def zA:Ent:=(123,U,⟨[.int .i64],[Z6],aK⟩)
def al2:SQ Tryz.prog zA:=sk (v:= .nil) (fn:=Tryz.f123) axm kN
def arp:Cx:=cX [] [] [(22,28)]
def aCt:OKC Tryz.prog arp AF:=okc mixed<|AL
def cf(x:List Mark×Int×Int×Int×A2):Rnd (List Mark×Int×Int×Int×A2) (Int×A2) (A2):=if A0 (x.2.2.2.1<(x.1.length:Int)) then if inb x.2.2.2.1 x.1.length then if Ad (A0<|(rd (dfl .mark) x.1 x.2.2.2.1).mf=x.2.1) (inb x.2.2.2.1 x.1.length) then if(A0<|(rd (dfl .mark) x.1 x.2.2.2.1).mf=x.2.1)&&(A0<|(rd (dfl .mark) x.1 x.2.2.2.1).mn=x.2.2.1) then I (.inr<|.inl x.2.2.2) else I (.inl (x.1,x.2.1,x.2.2.1,(w64<|x.2.2.2.1+1),())) else U else U else I (.inr<|.inr ())
def iO:=AW cf
def aAv:Loop:=⟨[(0,.sl .mark),(1,.int .i64),(2,.int .i64),(7,.int .i64)],[],0,[(6,.int .i64)],iO⟩
def akC:LF Tryz.f168 [] [1,0,1,0,0] aAv:=sq (v:= .nil) aCt (b:=cf) kN
def KT(x:List Mark×Int×Int×A2):Option ((Int×A2)×A2):=(AO (iO (x.1,x.2.1,x.2.2.1,0,())) (λa=>I (a,())) λa=>I (((-1),()),()))
def UF:Ent:=(168,U,⟨[.fz .mark,.int .i64,.int .i64],[.int .i64],KT⟩)
def fM:SQ Tryz.prog UF:=sk (v:=t1<|.two (t1<|.one<|.loop aAv) .nil) (fn:=Tryz.f168) aCt<|kC akC kN
def azX:Cx:=cX [H6,IX] [] [(51,55)]
def aB0:OKC Tryz.prog azX AF:=okc mixed<|gC HI<|gC Ij<|AL
def ff(x:Y5×Int×A2):Rnd (Y5×Int×A2) (Bool×A2) (A2):=if A0 (x.2.1<(x.1.2.2.2.2.1.size:Int)) then if inb x.2.1 x.1.2.2.2.2.1.size then if Ad (!(A0<|(bt x.1.2.2.2.2.1 x.2.1)<32)) (inb x.2.1 x.1.2.2.2.2.1.size) then if(A0<|(bt x.1.2.2.2.2.1 x.2.1)<32)||(A0<|126<(bt x.1.2.2.2.2.1 x.2.1)) then I (.inr<|.inl (A3,())) else I (.inl (x.1,(w64<|x.2.1+1),())) else U else U else I (.inr<|.inr ())
def rS:=AW ff
def aDZ:Loop:=⟨[(1,Z7),(3,.int .i64)],[],0,[(2,.bool)],rS⟩
def afc:LF Tryz.f51 [] [1,1,0,1,0,0] aDZ:=sq (v:= .nil) aB0 (b:=ff) kN
def N0(x:Y5×A2):Option ((Bool×A2)×A2):=(FN (x.1.1,())).bind λb=>if !b.1.1 then I ((A3,()),()) else(FN (x.1.2.2.1,())).bind λc=>if !c.1.1 then I ((A3,()),()) else(DK (x.1.2.1,1,99,())).bind λd=>if !d.1.1 then I ((A3,()),()) else(DK (x.1.2.2.2.1,1,999,())).bind λe=>if !e.1.1 then I ((A3,()),()) else if A0 ((x.1.2.2.2.2.1.size:Int)<1) then I ((A3,()),()) else if A0 (24<(x.1.2.2.2.2.1.size:Int)) then I ((A3,()),()) else(AO (rS (x.1,0,())) (λa=>I (a,())) λa=>I ((A1,()),()))
def Ue:Ent:=(51,U,⟨[Z8],[.bool],N0⟩)
def dS:SQ Tryz.prog Ue:=sk (v:=t1<|t1<|.two (t1<|.one<|.loop aDZ) .nil) (fn:=Tryz.f51) aB0<|kC afc kN
def ake:Cx:=cX [] [] [(13,20)]
def aqm:OKC Tryz.prog ake AF:=okc mixed<|AL
def MT(x:Int×Int×Int×Int×A2):Option ((Bool×A2)×A2):=let a:=((A0<|x.1<x.2.2.1)||((A0<|x.1=x.2.2.1)&&(A0<|x.2.1<x.2.2.2.1)));I ((a,()),())
def Tg:Ent:=(231,U,⟨[.int .i64,.int .i64,.int .i64,.int .i64],[.bool],MT⟩)
def bu:SQ Tryz.prog Tg:=sk (v:= .nil) (fn:=Tryz.f231) aqm kN
def adl:Cx:=cX [Ue,Tg] [] [(23,50)]
def ui:OKC Tryz.prog adl AF:=okc mixed<|gC dS<|gC bu<|AL
def ZG(x:List A7×Int×A2):Rnd (List A7×Int×A2) (Bool×A2) (A2):=if A0 (x.2.1<(x.1.length:Int)) then if inb x.2.1 x.1.length then(N0 (((rd (dfl .note) x.1 x.2.1).fr,(rd (dfl .note) x.1 x.2.1).nu,(rd (dfl .note) x.1 x.2.1).to,(rd (dfl .note) x.1 x.2.1).un,(rd (dfl .note) x.1 x.2.1).tx,()),())).bind λa=>if Ad ((!(!a.1.1))&&(A0<|0<x.2.1)) (inb (w64<|x.2.1 - 1) x.1.length) then if Ad ((!(!a.1.1))&&(A0<|0<x.2.1)) (inb (w64<|x.2.1 - 1) x.1.length) then if Ad ((!(!a.1.1))&&(A0<|0<x.2.1)) (inb x.2.1 x.1.length) then if Ad ((!(!a.1.1))&&(A0<|0<x.2.1)) (inb x.2.1 x.1.length) then if Ad ((!(!a.1.1))&&(A0<|0<x.2.1)) ((MT ((rd (dfl .note) x.1<|w64<|x.2.1 - 1).fr,(rd (dfl .note) x.1<|w64<|x.2.1 - 1).nu,(rd (dfl .note) x.1 x.2.1).fr,(rd (dfl .note) x.1 x.2.1).nu,())).isSome) then if(!a.1.1)||((A0<|0<x.2.1)&&(!(((MT ((rd (dfl .note) x.1<|w64<|x.2.1 - 1).fr,(rd (dfl .note) x.1<|w64<|x.2.1 - 1).nu,(rd (dfl .note) x.1 x.2.1).fr,(rd (dfl .note) x.1 x.2.1).nu,())).getD ((A3,()),())).1.1))) then I (.inr<|.inl (A3,())) else I (.inl (x.1,(w64<|x.2.1+1),())) else U else U else U else U else U else U else I (.inr<|.inr ())
def gM:=AW ZG
def xh:Loop:=⟨[(0,.sl .note),(5,.int .i64)],[],0,[(4,.bool)],gM⟩
def atM:LF Tryz.f199 [] [1,1,0,1,0,0] xh:=sq (v:= .nil) ui (b:=ZG) kN
def WB(x:List A7×Int×A2):Option ((Bool×A2)×A2):=if A0 (x.2.1<(x.1.length:Int)) then I ((A3,()),()) else(AO (gM (x.1,0,())) (λa=>I (a,())) λa=>I ((A1,()),()))
def aD9:Ent:=(199,U,⟨[.fz .note,.int .i64],[.bool],WB⟩)
def azR:SQ Tryz.prog aD9:=sk (v:=t1<|t1<|.two (t1<|.one<|.loop xh) .nil) (fn:=Tryz.f199) ui<|kC atM kN
def avH:Cx:=cX [H6,IX,Tg] [] []
def aDg:OKC Tryz.prog avH AF:=okc mixed<|gC HI<|gC Ij<|gC bu<|AL
def du(x:List Mark×Int×A2):Rnd (List Mark×Int×A2) (Bool×A2) (A2):=if A0 (x.2.1<(x.1.length:Int)) then if inb x.2.1 x.1.length then let a:=(rd (dfl .mark) x.1 x.2.1).mf;let b:=(rd (dfl .mark) x.1 x.2.1).mn;let c:=(rd (dfl .mark) x.1 x.2.1).mu;(FN (a,())).bind λd=>if !d.1.1 then I (.inr<|.inl (A3,())) else(DK (b,1,99,())).bind λe=>if !e.1.1 then I (.inr<|.inl (A3,())) else(DK (c,1,999,())).bind λf=>if !f.1.1 then I (.inr<|.inl (A3,())) else if A0 (0<x.2.1) then if inb (w64<|x.2.1 - 1) x.1.length then if inb (w64<|x.2.1 - 1) x.1.length then(MT ((rd (dfl .mark) x.1<|w64<|x.2.1 - 1).mf,(rd (dfl .mark) x.1<|w64<|x.2.1 - 1).mn,a,b,())).bind λg=>if !g.1.1 then I (.inr<|.inl (A3,())) else I (.inl (x.1,(w64<|x.2.1+1),())) else U else U else I (.inl (x.1,(w64<|x.2.1+1),())) else U else I (.inr<|.inr ())
def nK:=AW du
def yY:Loop:=⟨[(0,.sl .mark),(3,.int .i64)],[],0,[(2,.bool)],nK⟩
def alP:LF Tryz.f200 [] [1,1,0,1,0,0] yY:=sq (v:= .nil) aDg (b:=du) kN
def cF(x:List Mark×A2):Option ((Bool×A2)×A2):=if A0 (12<(x.1.length:Int)) then I ((A3,()),()) else(AO (nK (x.1,0,())) (λa=>I (a,())) λa=>I ((A1,()),()))
def ux:Ent:=(200,U,⟨[.fz .mark],[.bool],cF⟩)
def azP:SQ Tryz.prog ux:=sk (v:=t1<|t1<|.two (t1<|.one<|.loop yY) .nil) (fn:=Tryz.f200) aDg<|kC alP kN
def ahf:Cx:=cX [] [] [(16,25)]
def aya:OKC Tryz.prog ahf AF:=okc mixed<|AL
def XT(x:Y5×Int×A2):Option ((Bool×A2)×A2):=if A0 (x.1.1<=x.2.1) then let a:=((A0<|x.2.1<x.1.2.2.1)||((A0<|x.1.2.2.1<x.2.1)&&(A0<|x.2.1<=x.1.1)));I ((a,()),()) else let b:=((A0<|x.1.2.2.1<x.2.1)&&(A0<|x.2.1<=x.1.1));I ((b,()),())
def vB:Ent:=(201,U,⟨[Z8,.int .i64],[.bool],XT⟩)
def axX:SQ Tryz.prog vB:=sk (v:= .nil) (fn:=Tryz.f201) aya kN
def ard:Cx:=cX [H6,IX,UF,aD9,ux,vB] [] [(109,120)]
def XE:OKC Tryz.prog ard AF:=okc mixed<|gC HI<|gC Ij<|gC fM<|gC azR<|gC azP<|gC axX<|AL
def dU(x:Y4×Int×A2):Rnd (Y4×Int×A2) (Bool×A2) (A2):=if A0 (x.2.1<(x.1.2.2.2.2.2.1.length:Int)) then if inb x.2.1 x.1.2.2.2.2.2.1.length then let jJ:=(rd (dfl .note) x.1.2.2.2.2.2.1 x.2.1).fr;let a:=(rd (dfl .note) x.1.2.2.2.2.2.1 x.2.1).nu;let azk:=(rd (dfl .note) x.1.2.2.2.2.2.1 x.2.1).to;let b:=(rd (dfl .note) x.1.2.2.2.2.2.1 x.2.1).un;let azx:=(rd (dfl .note) x.1.2.2.2.2.2.1 x.2.1).tx;(if !decide (azk=x.1.1) then I (.inr<|.inl (A3,())) else if A0 (jJ=x.1.1) then if A0 (x.1.2.2.1<=a) then I (.inr<|.inl (A3,())) else if A0 (x.1.2.1<b) then(KT (x.1.2.2.2.2.1,jJ,a,())).bind λans=>if A0 (ans.1.1<0) then I (.inr<|.inl (A3,())) else I (.inl (x.1,(w64<|x.2.1+1),())) else I (.inl (x.1,(w64<|x.2.1+1),())) else if A0 (x.1.2.1<b) then(KT (x.1.2.2.2.2.1,jJ,a,())).bind λaeU=>if A0 (aeU.1.1<0) then I (.inr<|.inl (A3,())) else I (.inl (x.1,(w64<|x.2.1+1),())) else I (.inl (x.1,(w64<|x.2.1+1),()))) else U else I (.inr<|.inr ())
def gP:=AW dU
def aEN:Loop:=⟨[(1,Z9),(7,.int .i64)],[],4,[(2,.bool)],gP⟩
def akS:LF Tryz.f160 [] [1,1,1,1,0,1,0,0] aEN:=sq (v:= .nil) XE (b:=dU) kN
def fj(x:Y4×Int×A2):Rnd (Y4×Int×A2) (Bool×A2) (Y4×A2):=if A0 (x.2.1<(x.1.2.2.2.2.1.length:Int)) then if inb x.2.1 x.1.2.2.2.2.1.length then let a:=(rd (dfl .mark) x.1.2.2.2.2.1 x.2.1).mf;let b:=(rd (dfl .mark) x.1.2.2.2.2.1 x.2.1).mn;let c:=(rd (dfl .mark) x.1.2.2.2.2.1 x.2.1).mu;if(A0<|c<=x.1.2.1)||((A0<|a=x.1.1)&&(A0<|x.1.2.2.1<=b)) then I (.inr<|.inl (A3,())) else I (.inl (x.1,(w64<|x.2.1+1),())) else U else I (.inr<|.inr (x.1,()))
def sY:=AW fj
def ub:Loop:=⟨[(1,Z9),(5,.int .i64)],[(1,Z9)],2,[(2,.bool)],sY⟩
def amP:LF Tryz.f160 [] [1,1,1,0,1,0,0] ub:=sq (v:= .nil) XE (b:=fj) kN
def fP(x:Y4×Int×A2):Rnd (Y4×Int×A2) (Bool×A2) (Y4×A2):=if A0 (x.2.1<(x.1.2.2.2.1.length:Int)) then if inb x.2.1 x.1.2.2.2.1.length then let a:=(rd (dfl .note) x.1.2.2.2.1 x.2.1).fr;let b:=(rd (dfl .note) x.1.2.2.2.1 x.2.1).nu;let d:=(rd (dfl .note) x.1.2.2.2.1 x.2.1).to;let c:=(rd (dfl .note) x.1.2.2.2.1 x.2.1).un;let e:=(rd (dfl .note) x.1.2.2.2.1 x.2.1).tx;if A0 (c<=x.1.2.1) then I (.inr<|.inl (A3,())) else(XT ((a,b,d,c,e,()),x.1.1,())).bind λf=>if !f.1.1 then I (.inr<|.inl (A3,())) else if A0 (a=x.1.1) then if A0 (x.1.2.2.1<=b) then I (.inr<|.inl (A3,())) else(KT (x.1.2.2.2.2.1,a,b,())).bind λg=>if A0 (0<=g.1.1) then I (.inr<|.inl (A3,())) else I (.inl (x.1,(w64<|x.2.1+1),())) else(KT (x.1.2.2.2.2.1,a,b,())).bind λh=>if A0 (0<=h.1.1) then I (.inr<|.inl (A3,())) else I (.inl (x.1,(w64<|x.2.1+1),())) else U else I (.inr<|.inr (x.1,()))
def ke:=AW fP
def abP:Loop:=⟨[(1,Z9),(3,.int .i64)],[(1,Z9)],0,[(2,.bool)],ke⟩
def aoo:LF Tryz.f160 [] [1,1,0,1,0,0] abP:=sq (v:= .nil) XE (b:=fP) kN
def OM(x:Y4×A2):Option ((Bool×A2)×A2):=(FN (x.1.1,())).bind λc=>if !c.1.1 then I ((A3,()),()) else(DK (x.1.2.1,0,999,())).bind λd=>if !d.1.1 then I ((A3,()),()) else(DK (x.1.2.2.1,1,100,())).bind λe=>if !e.1.1 then I ((A3,()),()) else(WB (x.1.2.2.2.1,6,())).bind λf=>if !f.1.1 then I ((A3,()),()) else(cF (x.1.2.2.2.2.1,())).bind λg=>if !g.1.1 then I ((A3,()),()) else(WB (x.1.2.2.2.2.2.1,6,())).bind λh=>if !h.1.1 then I ((A3,()),()) else(AO (ke (x.1,0,())) (λa=>I (a,())) λa=>(AO (sY (a.1,0,())) (λb=>I (b,())) λb=>(AO (gP (b.1,0,())) (λadQ=>I (adQ,())) λadQ=>I ((A1,()),()))))
def q9:Ent:=(160,U,⟨[Z10],[.bool],OM⟩)
def aB9:SQ Tryz.prog q9:=sk (v:=t1<|t1<|.two (t1<|.one<|.loop abP)<|.two (t1<|.one<|.loop ub)<|.two (t1<|.one<|.loop aEN) .nil) (fn:=Tryz.f160) XE<|kC aoo<|kC amP<|kC akS kN
def ado:Cx:=cX [] [] [(22,28)]
def aBw:OKC Tryz.prog ado AF:=okc mixed<|AL
def bH(x:List A7×Int×Int×Int×A2):Rnd (List A7×Int×Int×Int×A2) (Int×A2) (A2):=if A0 (x.2.2.2.1<(x.1.length:Int)) then if inb x.2.2.2.1 x.1.length then if Ad (A0<|(rd (dfl .note) x.1 x.2.2.2.1).fr=x.2.1) (inb x.2.2.2.1 x.1.length) then if(A0<|(rd (dfl .note) x.1 x.2.2.2.1).fr=x.2.1)&&(A0<|(rd (dfl .note) x.1 x.2.2.2.1).nu=x.2.2.1) then I (.inr<|.inl x.2.2.2) else I (.inl (x.1,x.2.1,x.2.2.1,(w64<|x.2.2.2.1+1),())) else U else U else I (.inr<|.inr ())
def gj:=AW bH
def uk:Loop:=⟨[(0,.sl .note),(1,.int .i64),(2,.int .i64),(7,.int .i64)],[],0,[(6,.int .i64)],gj⟩
def apG:LF Tryz.f69 [] [1,0,1,0,0] uk:=sq (v:= .nil) aBw (b:=bH) kN
def FB(x:List A7×Int×Int×A2):Option ((Int×A2)×A2):=(AO (gj (x.1,x.2.1,x.2.2.1,0,())) (λa=>I (a,())) λa=>I (((-1),()),()))
def KC:Ent:=(69,U,⟨[.fz .note,.int .i64,.int .i64],[.int .i64],FB⟩)
def Ku:SQ Tryz.prog KC:=sk (v:=t1<|.two (t1<|.one<|.loop uk) .nil) (fn:=Tryz.f69) aBw<|kC apG kN
def ayg:Cx:=cX [] [] []
def aDE:OKC Tryz.prog ayg AF:=okc mixed<|AL
def cm(x:A4×Int×A2):Rnd (A4×Int×A2) (A4×A4×A2) (A4×A2):=if A0 (x.2.1<(x.1.size:Int)) then if inb x.2.1 x.1.size then if A0 ((bt x.1 x.2.1)=32) then if A0 (0<=x.2.1)&&A0 (x.2.1<=(x.1.size:Int)) then if A0 (0<=(w64<|x.2.1+1))&&A0 ((w64<|x.2.1+1)<=(x.1.size:Int)) then let a:=(x.1.extract (0)<|AM x.2.1);let b:=(x.1.extract (AM<|w64<|x.2.1+1)<|x.1.size);I (.inr<|.inl (a,b,())) else U else U else I (.inl (x.1,(w64<|x.2.1+1),())) else U else I (.inr<|.inr (x.1,()))
def mR:=AW cm
def aAj:Loop:=⟨[(0,.str),(4,.int .i64)],[(0,.str)],0,[(2,.str),(3,.str)],mR⟩
def afe:LF Tryz.f202 [] [1,0,1,0,0] aAj:=sq (v:= .nil) aDE (b:=cm) kN
def NM(x:A4×A2):Option ((A4×A4×A2)×A2):=(AO (mR (x.1,0,())) (λa=>I (a,())) λa=>I ((a.1,noB,()),()))
def rv:Ent:=(202,U,⟨[.str],[.str,.str],NM⟩)
def vw:SQ Tryz.prog rv:=sk (v:=t1<|.two (t1<|.one<|.loop aAj) .nil) (fn:=Tryz.f202) aDE<|kC afe kN
def agY:Cx:=cX [] [] []
def mI:OKC Tryz.prog agY AF:=okc mixed<|AL
def Xn(x:Int×Y4×Y4×List A7×List Mark×Int×A2):Rnd (Int×Y4×Y4×List A7×List Mark×Int×A2) (A2) (Int×Y4×Y4×List A7×List Mark×A2):=if A0 (x.2.2.2.2.2.1<(x.2.1.2.2.2.2.1.length:Int)) then if inb x.2.2.2.2.2.1 x.2.1.2.2.2.2.1.length then if A0 (x.1<(rd (dfl .mark) x.2.1.2.2.2.2.1 x.2.2.2.2.2.1).mu) then if inb x.2.2.2.2.2.1 x.2.1.2.2.2.2.1.length then if Ac (x.2.2.2.2.1.length+([(rd (dfl .mark) x.2.1.2.2.2.2.1 x.2.2.2.2.2.1)]:List Mark).length) then let a:=(w64<|x.2.2.2.2.2.1+1);I (.inl (x.1,x.2.1,x.2.2.1,x.2.2.2.1,(x.2.2.2.2.1++([(rd (dfl .mark) x.2.1.2.2.2.2.1 x.2.2.2.2.2.1)]:List Mark)),a,())) else U else U else let b:=(w64<|x.2.2.2.2.2.1+1);I (.inl (x.1,x.2.1,x.2.2.1,x.2.2.2.1,x.2.2.2.2.1,b,())) else U else I (.inr<|.inr (x.1,x.2.1,x.2.2.1,x.2.2.2.1,x.2.2.2.2.1,()))
def oP:=AW Xn
def aba:Loop:=⟨[(1,.int .i64),(2,Z9),(4,Z11),(5,.row 55 .note),(7,.row 57 .mark),(8,.int .i64)],[(1,.int .i64),(2,Z9),(4,Z11),(5,.row 55 .note),(7,.row 57 .mark)],2,[],oP⟩
def alM:LF Tryz.f203 [] [1,1,1,1,0,1,0,0] aba:=sq (v:= .nil) mI (b:=Xn) kN
def ZB(x:Int×Y4×Y4×List A7×Int×A2):Rnd (Int×Y4×Y4×List A7×Int×A2) (A2) (Int×Y4×Y4×List A7×A2):=if A0 (x.2.2.2.2.1<(x.2.1.2.2.2.1.length:Int)) then if inb x.2.2.2.2.1 x.2.1.2.2.2.1.length then if A0 (x.1<(rd (dfl .note) x.2.1.2.2.2.1 x.2.2.2.2.1).un) then if inb x.2.2.2.2.1 x.2.1.2.2.2.1.length then if Ac (x.2.2.2.1.length+([(rd (dfl .note) x.2.1.2.2.2.1 x.2.2.2.2.1)]:List A7).length) then I (.inl (x.1,x.2.1,x.2.2.1,(x.2.2.2.1++([(rd (dfl .note) x.2.1.2.2.2.1 x.2.2.2.2.1)]:List A7)),(w64<|x.2.2.2.2.1+1),())) else U else U else I (.inl (x.1,x.2.1,x.2.2.1,x.2.2.2.1,(w64<|x.2.2.2.2.1+1),())) else U else I (.inr<|.inr (x.1,x.2.1,x.2.2.1,x.2.2.2.1,()))
def nV:=AW ZB
def x8:Loop:=⟨[(1,.int .i64),(2,Z9),(4,Z11),(5,.row 55 .note),(6,.int .i64)],[(1,.int .i64),(2,Z9),(4,Z11),(5,.row 55 .note)],0,[],nV⟩
def af1:LF Tryz.f203 [] [1,1,0,1,0,0] x8:=sq (v:= .nil) mI (b:=ZB) kN
def dI(x:Y4×Int×A2):Option ((Y4×A2)×A2):=(AO (nV (x.2.1,x.1,(0,0,0,([]:List A7),([]:List Mark),([]:List A7),()),([]:List A7),0,())) (λ_=>U) λb=>(AO (oP (b.1,b.2.1,b.2.2.1,b.2.2.2.1,([]:List Mark),0,())) (λ_=>U) λa=>I (((a.2.1.1,a.1,a.2.1.2.2.1,a.2.2.2.1,a.2.2.2.2.1,a.2.1.2.2.2.2.2),()),())))
def z8:Ent:=(203,U,⟨[Z10,.int .i64],[Z10],dI⟩)
def alR:SQ Tryz.prog z8:=sk (v:=t1<|t1<|.two (t1<|.one<|.loop x8)<|t1<|.two (t1<|.one<|.loop aba) .nil) (fn:=Tryz.f203) mI<|kC af1<|kC alM kN
def aeW:Cx:=cX [Ue,MM] [] []
def azZ:OKC Tryz.prog aeW AF:=okc mixed<|gC dS<|gC Ms<|AL
def KZ(x:Y5×A2):Option ((A4×A2)×A2):=(N0 x).bind λe=>if !e.1.1 then I ((noB,()),()) else(DO (x.1.1,())).bind λa=>if A0 (a.1.1.size+(B [32]).size<=4611686018427387904) then(DO (x.1.2.1,())).bind λb=>if A0 ((a.1.1++(B [32])).size+b.1.1.size<=4611686018427387904) then if A0 (((a.1.1++(B [32]))++b.1.1).size+(B [32]).size<=4611686018427387904) then(DO (x.1.2.2.1,())).bind λc=>if A0 ((((a.1.1++(B [32]))++b.1.1)++(B [32])).size+c.1.1.size<=4611686018427387904) then if A0 (((((a.1.1++(B [32]))++b.1.1)++(B [32]))++c.1.1).size+(B [32]).size<=4611686018427387904) then(DO (x.1.2.2.2.1,())).bind λd=>if A0 ((((((a.1.1++(B [32]))++b.1.1)++(B [32]))++c.1.1)++(B [32])).size+d.1.1.size<=4611686018427387904) then if A0 (((((((a.1.1++(B [32]))++b.1.1)++(B [32]))++c.1.1)++(B [32]))++d.1.1).size+(B [32]).size<=4611686018427387904) then if A0 ((((((((a.1.1++(B [32]))++b.1.1)++(B [32]))++c.1.1)++(B [32]))++d.1.1)++(B [32])).size+x.1.2.2.2.2.1.size<=4611686018427387904) then let f:=((((((((a.1.1++(B [32]))++b.1.1)++(B [32]))++c.1.1)++(B [32]))++d.1.1)++(B [32]))++x.1.2.2.2.2.1);I ((f,()),()) else U else U else U else U else U else U else U else U
def Py:Ent:=(130,U,⟨[Z8],[.str],KZ⟩)
def Sw:SQ Tryz.prog Py:=sk (v:= .nil) (fn:=Tryz.f130) azZ kN
def akf:Cx:=cX [XC,rv] [] []
def zD:OKC Tryz.prog akf AF:=okc mixed<|gC ka<|gC vw<|AL
def Xk(x:A4×Int×List Int×Int×A2):Rnd (A4×Int×List Int×Int×A2) (A2) (A4×List Int×A2):=if A0 (x.2.2.2.1<x.2.1) then(NM (x.1,())).bind λa=>(PQ (a.1.1,())).bind λb=>if Ac (x.2.2.1.length+([b.1.1]:List Int).length) then I (.inl (a.1.2.1,x.2.1,(x.2.2.1++([b.1.1]:List Int)),(w64<|x.2.2.2.1+1),())) else U else I (.inr<|.inr (x.1,x.2.2.1,()))
def gb:=AW Xk
def aA6:Loop:=⟨[(0,.str),(1,.int .i64),(6,.row 3 .int),(7,.int .i64)],[(0,.str),(6,.row 3 .int)],0,[],gb⟩
def asn:LF Tryz.f207 [] [1,1,0,1,0,0] aA6:=sq (v:= .nil) zD (b:=Xk) kN
def PL(x:A4×Int×A2):Option ((List Int×A4×A2)×A2):=(AO (gb (x.1,x.2.1,([]:List Int),0,())) (λ_=>U) λa=>I ((a.2.1,a.1,()),()))
def nr:Ent:=(207,U,⟨[.str,.int .i64],[.row 3 .int,.str],PL⟩)
def aB3:SQ Tryz.prog nr:=sk (v:=t1<|t1<|.two (t1<|.one<|.loop aA6) .nil) (fn:=Tryz.f207) zD<|kC asn kN
def asE:Cx:=cX [Py,nr] [] [(29,32)]
def an0:OKC Tryz.prog asE AF:=okc mixed<|gC Sw<|gC aB3<|AL
def Rg(x:A4×A2):Option ((Y5×Bool×A2)×A2):=(PL (x.1,4,())).bind λa=>if inb 0 a.1.1.length then if inb 1 a.1.1.length then if inb 2 a.1.1.length then if inb 3 a.1.1.length then if Ad (!(A0<|x.1=noB)) ((KZ (((rd (dfl .int) a.1.1 0),(rd (dfl .int) a.1.1 1),(rd (dfl .int) a.1.1 2),(rd (dfl .int) a.1.1 3),a.1.2),())).isSome) then if(A0<|x.1=noB)||(!decide (((KZ (((rd (dfl .int) a.1.1 0),(rd (dfl .int) a.1.1 1),(rd (dfl .int) a.1.1 2),(rd (dfl .int) a.1.1 3),a.1.2),())).getD ((noB,()),())).1.1=x.1)) then I (((0,0,0,0,noB,()),A3,()),()) else I ((((rd (dfl .int) a.1.1 0),(rd (dfl .int) a.1.1 1),(rd (dfl .int) a.1.1 2),(rd (dfl .int) a.1.1 3),a.1.2),A1,()),()) else U else U else U else U else U
def ab9:Ent:=(204,U,⟨[.str],[Z8,.bool],Rg⟩)
def agD:SQ Tryz.prog ab9:=sk (v:= .nil) (fn:=Tryz.f204) an0 kN
def aws:Cx:=cX [Tg] [] [(18,32)]
def aaB:OKC Tryz.prog aws AF:=okc mixed<|gC bu<|AL
def dx(x:List A7×Y5×List A7×Bool×Int×A2):Rnd (List A7×Y5×List A7×Bool×Int×A2) (A2) (Y5×List A7×Bool×A2):=if A0 (x.2.2.2.2.1<(x.1.length:Int)) then(BF (X:=List A7×Y5×List A7×Bool×Int×A2) (λa=>if inb a.2.2.2.2.1 a.1.length then if Ac (a.2.2.1.length+([(rd (dfl .note) a.1 a.2.2.2.2.1)]:List A7).length) then I (.inl (a.1,a.2.1,(a.2.2.1++([(rd (dfl .note) a.1 a.2.2.2.2.1)]:List A7)),a.2.2.2.1,(w64<|a.2.2.2.2.1+1),())) else U else U)<|(if Ad (!x.2.2.2.1) (inb x.2.2.2.2.1 x.1.length) then if Ad (!x.2.2.2.1) (inb x.2.2.2.2.1 x.1.length) then if Ad (!x.2.2.2.1) ((MT (x.2.1.1,x.2.1.2.1,(rd (dfl .note) x.1 x.2.2.2.2.1).fr,(rd (dfl .note) x.1 x.2.2.2.2.1).nu,())).isSome) then if(!x.2.2.2.1)&&(((MT (x.2.1.1,x.2.1.2.1,(rd (dfl .note) x.1 x.2.2.2.2.1).fr,(rd (dfl .note) x.1 x.2.2.2.2.1).nu,())).getD ((A3,()),())).1.1) then if Ac (x.2.2.1.length+([(A7.mk x.2.1.1 x.2.1.2.1 x.2.1.2.2.1 x.2.1.2.2.2.1 x.2.1.2.2.2.2.1)]:List A7).length) then I (.inr (x.1,x.2.1,(x.2.2.1++([(A7.mk x.2.1.1 x.2.1.2.1 x.2.1.2.2.1 x.2.1.2.2.2.1 x.2.1.2.2.2.2.1)]:List A7)),A1,x.2.2.2.2)) else U else I (.inr x) else U else U else U)) else I (.inr<|.inr (x.2.1,x.2.2.1,x.2.2.2.1,()))
def kO:=AW dx
def aAZ:Loop:=⟨[(0,.sl .note),(3,Z7),(5,.row 55 .note),(6,.bool),(7,.int .i64)],[(3,Z7),(5,.row 55 .note),(6,.bool)],0,[],kO⟩
def axc:LF Tryz.f206 [] [1,1,1,0,1,0,0] aAZ:=sq (v:=t1<|.two (.one<|.join [(0,.sl .note),(3,Z7),(5,.row 55 .note),(6,.bool),(7,.int .i64)] .nil .nil) .nil) aaB (b:=dx) kN
def On(x:List A7×Y5×A2):Option ((List A7×A2)×A2):=(AO (kO (x.1,x.2.1,([]:List A7),A3,0,())) (λ_=>U) λa=>(if !a.2.2.1 then if Ac (a.2.1.length+([(A7.mk a.1.1 a.1.2.1 a.1.2.2.1 a.1.2.2.2.1 a.1.2.2.2.2.1)]:List A7).length) then I (((a.2.1++([(A7.mk a.1.1 a.1.2.1 a.1.2.2.1 a.1.2.2.2.1 a.1.2.2.2.2.1)]:List A7)),()),()) else U else I ((a.2.1,()),())))
def qN:Ent:=(206,U,⟨[.fz .note,Z8],[.row 55 .note],On⟩)
def wh:SQ Tryz.prog qN:=sk (v:=t1<|t1<|t1<|.two (t1<|.one<|.loop aAZ) .nil) (fn:=Tryz.f206) aaB<|kC axc kN
def aoM:Cx:=cX [Tg] [] [(18,32)]
def vS:OKC Tryz.prog aoM AF:=okc mixed<|gC bu<|AL
def cM(x:List Mark×Y6×List Mark×Bool×Int×A2):Rnd (List Mark×Y6×List Mark×Bool×Int×A2) (A2) (Y6×List Mark×Bool×A2):=if A0 (x.2.2.2.2.1<(x.1.length:Int)) then(BF (X:=List Mark×Y6×List Mark×Bool×Int×A2) (λa=>if inb a.2.2.2.2.1 a.1.length then if Ac (a.2.2.1.length+([(rd (dfl .mark) a.1 a.2.2.2.2.1)]:List Mark).length) then I (.inl (a.1,a.2.1,(a.2.2.1++([(rd (dfl .mark) a.1 a.2.2.2.2.1)]:List Mark)),a.2.2.2.1,(w64<|a.2.2.2.2.1+1),())) else U else U)<|(if Ad (!x.2.2.2.1) (inb x.2.2.2.2.1 x.1.length) then if Ad (!x.2.2.2.1) (inb x.2.2.2.2.1 x.1.length) then if Ad (!x.2.2.2.1) ((MT (x.2.1.1,x.2.1.2.1,(rd (dfl .mark) x.1 x.2.2.2.2.1).mf,(rd (dfl .mark) x.1 x.2.2.2.2.1).mn,())).isSome) then if(!x.2.2.2.1)&&(((MT (x.2.1.1,x.2.1.2.1,(rd (dfl .mark) x.1 x.2.2.2.2.1).mf,(rd (dfl .mark) x.1 x.2.2.2.2.1).mn,())).getD ((A3,()),())).1.1) then if Ac (x.2.2.1.length+([(Mark.mk x.2.1.1 x.2.1.2.1 x.2.1.2.2.1)]:List Mark).length) then I (.inr (x.1,x.2.1,(x.2.2.1++([(Mark.mk x.2.1.1 x.2.1.2.1 x.2.1.2.2.1)]:List Mark)),A1,x.2.2.2.2)) else U else I (.inr x) else U else U else U)) else I (.inr<|.inr (x.2.1,x.2.2.1,x.2.2.2.1,()))
def ko:=AW cM
def vP:Loop:=⟨[(0,.sl .mark),(3,Z12),(5,.row 57 .mark),(6,.bool),(7,.int .i64)],[(3,Z12),(5,.row 57 .mark),(6,.bool)],0,[],ko⟩
def apQ:LF Tryz.f210 [] [1,1,1,0,1,0,0] vP:=sq (v:=t1<|.two (.one<|.join [(0,.sl .mark),(3,Z12),(5,.row 57 .mark),(6,.bool),(7,.int .i64)] .nil .nil) .nil) vS (b:=cM) kN
def Q7(x:List Mark×Y6×A2):Option ((List Mark×A2)×A2):=(AO (ko (x.1,x.2.1,([]:List Mark),A3,0,())) (λ_=>U) λa=>(if !a.2.2.1 then if Ac (a.2.1.length+([(Mark.mk a.1.1 a.1.2.1 a.1.2.2.1)]:List Mark).length) then I (((a.2.1++([(Mark.mk a.1.1 a.1.2.1 a.1.2.2.1)]:List Mark)),()),()) else U else I ((a.2.1,()),())))
def fe:Ent:=(210,U,⟨[.fz .mark,Z13],[.row 57 .mark],Q7⟩)
def lr:SQ Tryz.prog fe:=sk (v:=t1<|t1<|t1<|.two (t1<|.one<|.loop vP) .nil) (fn:=Tryz.f210) vS<|kC apQ kN
def arH:Cx:=cX [Ue,KC,UF] [] [(35,42)]
def ak1:OKC Tryz.prog arH AF:=okc mixed<|gC dS<|gC Ku<|gC fM<|AL
def cQ(x:Y4×Y5×A2):Option ((Bool×A2)×A2):=(N0 x.2).bind λb=>if b.1.1 then if A0 (x.1.2.1<x.2.1.2.2.2.1) then(FB (x.1.2.2.2.1,x.2.1.1,x.2.1.2.1,())).bind λc=>if A0 (c.1.1<0) then(KT (x.1.2.2.2.2.1,x.2.1.1,x.2.1.2.1,())).bind λa=>if Ad (A0<|a.1.1<0) ((FB (x.1.2.2.2.2.2.1,x.2.1.1,x.2.1.2.1,())).isSome) then let d:=((A0<|a.1.1<0)&&(A0<|((FB (x.1.2.2.2.2.2.1,x.2.1.1,x.2.1.2.1,())).getD ((0,()),())).1.1<0));I ((d,()),()) else U else if Ad A3 ((FB (x.1.2.2.2.2.2.1,x.2.1.1,x.2.1.2.1,())).isSome) then I ((A3,()),()) else U else if Ad A3 ((FB (x.1.2.2.2.2.2.1,x.2.1.1,x.2.1.2.1,())).isSome) then I ((A3,()),()) else U else if Ad A3 ((FB (x.1.2.2.2.2.2.1,x.2.1.1,x.2.1.2.1,())).isSome) then I ((A3,()),()) else U
def ad5:Ent:=(232,U,⟨[Z10,Z8],[.bool],cQ⟩)
def ana:SQ Tryz.prog ad5:=sk (v:= .nil) (fn:=Tryz.f232) ak1 kN
def akv:Cx:=cX [qN,fe,ad5] [] []
def ate:OKC Tryz.prog akv AF:=okc mixed<|gC wh<|gC lr<|gC ana<|AL
def Tw(x:Y4×Y5×A2):Option ((Y4×Bool×A2)×A2):=(cQ x).bind λc=>if !c.1.1 then I ((x.1,A3,()),()) else if !decide (x.2.1.2.2.1=x.1.1) then(On (x.1.2.2.2.1,x.2)).bind λa=>let d:=(A0<|(w64<|(a.1.1.length:Int)+(x.1.2.2.2.2.1.length:Int))<=12);I (((x.1.1,x.1.2.1,x.1.2.2.1,a.1.1,x.1.2.2.2.2),d,()),()) else(On (x.1.2.2.2.2.2.1,x.2)).bind λe=>(Q7 (x.1.2.2.2.2.1,(x.2.1.1,x.2.1.2.1,x.2.1.2.2.2.1,()),())).bind λb=>let f:=(A0<|(w64<|(x.1.2.2.2.1.length:Int)+(b.1.1.length:Int))<=12);I (((x.1.1,x.1.2.1,x.1.2.2.1,x.1.2.2.2.1,b.1.1,e.1),f,()),())
def aBd:Ent:=(205,U,⟨[Z10,Z8],[Z10,.bool],Tw⟩)
def akM:SQ Tryz.prog aBd:=sk (v:= .nil) (fn:=Tryz.f205) ate kN
def agw:Cx:=cX [KC,fe] [] []
def akI:OKC Tryz.prog agw AF:=okc mixed<|gC Ku<|gC lr<|AL
def fD(x:Y4×Int×Int×A2):Option ((Y4×Bool×A2)×A2):=(FB (x.1.2.2.2.1,x.2)).bind λa=>if A0 (a.1.1<0) then I ((x.1,A3,()),()) else if inb a.1.1 x.1.2.2.2.1.length then let d:=(rd (dfl .note) x.1.2.2.2.1 a.1.1).fr;let e:=(rd (dfl .note) x.1.2.2.2.1 a.1.1).nu;let f:=(rd (dfl .note) x.1.2.2.2.1 a.1.1).to;let b:=(rd (dfl .note) x.1.2.2.2.1 a.1.1).un;let g:=(rd (dfl .note) x.1.2.2.2.1 a.1.1).tx;if A0 (0<=a.1.1)&&A0 (a.1.1<=(x.1.2.2.2.1.length:Int)) then if Ac (([]:List A7).length+(BU (AM a.1.1) x.1.2.2.2.1).length) then if A0 (0<=(w64<|a.1.1+1))&&A0 ((w64<|a.1.1+1)<=(x.1.2.2.2.1.length:Int)) then if Ac ((([]:List A7)++(BU (AM a.1.1) x.1.2.2.2.1)).length+(Bs (AM<|w64<|a.1.1+1) x.1.2.2.2.1).length) then(Q7 (x.1.2.2.2.2.1,(x.2.1,x.2.2.1,b,()),())).bind λc=>I (((x.1.1,x.1.2.1,x.1.2.2.1,((([]:List A7)++(BU (AM a.1.1) x.1.2.2.2.1))++(Bs (AM<|w64<|a.1.1+1) x.1.2.2.2.1)),c.1.1,x.1.2.2.2.2.2),A1,()),()) else U else U else U else U else U
def abe:Ent:=(208,U,⟨[Z10,.int .i64,.int .i64],[Z10,.bool],fD⟩)
def avt:SQ Tryz.prog abe:=sk (v:= .nil) (fn:=Tryz.f208) akI kN
def awF:Cx:=cX [KC] [] []
def azf:OKC Tryz.prog awF AF:=okc mixed<|gC Ku<|AL
def cc(x:Y4×Int×Int×A2):Option ((Y4×Bool×A2)×A2):=(FB (x.1.2.2.2.2.2.1,x.2)).bind λa=>if A0 (a.1.1<0) then I ((x.1,A3,()),()) else if A0 (0<=a.1.1)&&A0 (a.1.1<=(x.1.2.2.2.2.2.1.length:Int)) then if Ac (([]:List A7).length+(BU (AM a.1.1) x.1.2.2.2.2.2.1).length) then if A0 (0<=(w64<|a.1.1+1))&&A0 ((w64<|a.1.1+1)<=(x.1.2.2.2.2.2.1.length:Int)) then if Ac ((([]:List A7)++(BU (AM a.1.1) x.1.2.2.2.2.2.1)).length+(Bs (AM<|w64<|a.1.1+1) x.1.2.2.2.2.2.1).length) then I (((x.1.1,x.1.2.1,x.1.2.2.1,x.1.2.2.2.1,x.1.2.2.2.2.1,((([]:List A7)++(BU (AM a.1.1) x.1.2.2.2.2.2.1))++(Bs (AM<|w64<|a.1.1+1) x.1.2.2.2.2.2.1)),()),A1,()),()) else U else U else U else U
def aDL:Ent:=(209,U,⟨[Z10,.int .i64,.int .i64],[Z10,.bool],cc⟩)
def aoS:SQ Tryz.prog aDL:=sk (v:= .nil) (fn:=Tryz.f209) azf kN
def aqI:Cx:=cX [KC,MM,XC,UF,rv,z8,ab9,aBd,qN,nr,abe,aDL,fe] [] [(81,85),(157,174),(192,201),(228,237)]
def akX:OKC Tryz.prog aqI AF:=okc mixed<|gC Ku<|gC Ms<|gC ka<|gC fM<|gC vw<|gC alR<|gC agD<|gC akM<|gC wh<|gC aB3<|gC avt<|gC aoS<|gC lr<|AL
def Vy(x:Y4×A4×A2):Option ((Y4×Bool×A2)×A2):=(NM x.2).bind λc=>let l:=(A0<|c.1.1=(B [116,105,109,101]));(if l then(PQ c.1.2).bind λi=>if A0 (i.1.1<=x.1.2.1) then I ((x.1,A3,()),()) else(dI (x.1,i.1)).bind λm=>I ((m.1.1,A1,()),()) else let n:=(A0<|c.1.1=(B [111,119,110]));(if n then(Rg c.1.2).bind λg=>if !g.1.2.1 then I ((x.1,A3,()),()) else if !decide (g.1.1.1=x.1.1) then I ((x.1,A3,()),()) else if !decide (g.1.1.2.1=x.1.2.2.1) then I ((x.1,A3,()),()) else(Tw ((x.1.1,x.1.2.1,(w64<|x.1.2.2.1+1),x.1.2.2.2),g.1.1,())).bind λo=>I (o.1,()) else let p:=(A0<|c.1.1=(B [116,97,107,101]));(if p then(Rg c.1.2).bind λh=>if(!h.1.2.1)||(A0<|h.1.1.1=x.1.1) then I ((x.1,A3,()),()) else(Tw (x.1,h.1.1,())).bind λq=>I (q.1,()) else let r:=(A0<|c.1.1=(B [110,101,120,116]));(if r then(PQ c.1.2).bind λj=>if A0 (j.1.1<=x.1.2.2.1) then I ((x.1,A3,()),()) else I (((x.1.1,x.1.2.1,j.1.1,x.1.2.2.2),A1,()),()) else(BF (X:=Y4×Y4×A4×A4×Bool×A2) (λb=>if b.2.2.2.2.1 then(Rg (b.2.2.2.1,())).bind λd=>if !d.1.2.1 then I ((b.1,A3,()),()) else(FB (b.1.2.2.2.1,d.1.1.1,d.1.1.2.1,())).bind λs=>if A0 (0<=s.1.1) then I ((b.1,A3,()),()) else(FB (b.1.2.2.2.2.2.1,d.1.1.1,d.1.1.2.1,())).bind λt=>if A0 (0<=t.1.1) then I ((b.1,A3,()),()) else if A0 (b.2.2.1=(B [104,101,108,100])) then(On (b.1.2.2.2.1,d.1.1,())).bind λu=>I (((b.1.1,b.1.2.1,b.1.2.2.1,u.1.1,b.1.2.2.2.2),A1,()),()) else(On (b.1.2.2.2.2.2.1,d.1.1,())).bind λv=>I (((b.1.1,b.1.2.1,b.1.2.2.1,b.1.2.2.2.1,b.1.2.2.2.2.1,v.1),A1,()),()) else(PL (b.2.2.2.1,3,())).bind λa=>if Ad (!(!decide (a.1.2.1=noB))) (inb 0 a.1.1.length) then if Ad (!(!decide (a.1.2.1=noB))) ((DO ((rd (dfl .int) a.1.1 0),())).isSome) then if Ad (!(!decide (a.1.2.1=noB))) (A0<|(((DO ((rd (dfl .int) a.1.1 0),())).getD ((noB,()),())).1.1).size+(B [32]).size<=4611686018427387904) then if Ad (!(!decide (a.1.2.1=noB))) (inb 1 a.1.1.length) then if Ad (!(!decide (a.1.2.1=noB))) ((DO ((rd (dfl .int) a.1.1 1),())).isSome) then if Ad (!(!decide (a.1.2.1=noB))) (A0<|((((DO ((rd (dfl .int) a.1.1 0),())).getD ((noB,()),())).1.1)++(B [32])).size+(((DO ((rd (dfl .int) a.1.1 1),())).getD ((noB,()),())).1.1).size<=4611686018427387904) then if Ad (!(!decide (a.1.2.1=noB))) (A0<|(((((DO ((rd (dfl .int) a.1.1 0),())).getD ((noB,()),())).1.1)++(B [32]))++(((DO ((rd (dfl .int) a.1.1 1),())).getD ((noB,()),())).1.1)).size+(B [32]).size<=4611686018427387904) then if Ad (!(!decide (a.1.2.1=noB))) (inb 2 a.1.1.length) then if Ad (!(!decide (a.1.2.1=noB))) ((DO ((rd (dfl .int) a.1.1 2),())).isSome) then if Ad (!(!decide (a.1.2.1=noB))) (A0<|((((((DO ((rd (dfl .int) a.1.1 0),())).getD ((noB,()),())).1.1)++(B [32]))++(((DO ((rd (dfl .int) a.1.1 1),())).getD ((noB,()),())).1.1))++(B [32])).size+(((DO ((rd (dfl .int) a.1.1 2),())).getD ((noB,()),())).1.1).size<=4611686018427387904) then if(!decide (a.1.2.1=noB))||(!decide (b.2.2.2.1=(((((((DO ((rd (dfl .int) a.1.1 0),())).getD ((noB,()),())).1.1)++(B [32]))++(((DO ((rd (dfl .int) a.1.1 1),())).getD ((noB,()),())).1.1))++(B [32]))++(((DO ((rd (dfl .int) a.1.1 2),())).getD ((noB,()),())).1.1)))) then I ((b.1,A3,()),()) else let w:=(A0<|b.2.2.1=(B [108,101,116]));(if w then if inb 0 a.1.1.length then if inb 1 a.1.1.length then(FB (b.1.2.2.2.1,(rd (dfl .int) a.1.1 0),(rd (dfl .int) a.1.1 1),())).bind λe=>if Ad (!(A0<|e.1.1<0)) (inb e.1.1 b.1.2.2.2.1.length) then if Ad (!(A0<|e.1.1<0)) (inb 2 a.1.1.length) then if(A0<|e.1.1<0)||(!decide ((rd (dfl .note) b.1.2.2.2.1 e.1.1).un=(rd (dfl .int) a.1.1 2))) then I ((b.1,A3,()),()) else if inb 0 a.1.1.length then if inb 1 a.1.1.length then(fD (b.1,(rd (dfl .int) a.1.1 0),(rd (dfl .int) a.1.1 1),())).bind λy=>I (y.1,()) else U else U else U else U else U else U else let z:=(A0<|b.2.2.1=(B [101,97,116]));(if z then if inb 0 a.1.1.length then if inb 1 a.1.1.length then(FB (b.1.2.2.2.2.2.1,(rd (dfl .int) a.1.1 0),(rd (dfl .int) a.1.1 1),())).bind λf=>if Ad (!(A0<|f.1.1<0)) (inb f.1.1 b.1.2.2.2.2.2.1.length) then if Ad (!(A0<|f.1.1<0)) (inb 2 a.1.1.length) then if(A0<|f.1.1<0)||(!decide ((rd (dfl .note) b.1.2.2.2.2.2.1 f.1.1).un=(rd (dfl .int) a.1.1 2))) then I ((b.1,A3,()),()) else if inb 0 a.1.1.length then if inb 1 a.1.1.length then(cc (b.1,(rd (dfl .int) a.1.1 0),(rd (dfl .int) a.1.1 1),())).bind λA=>I (A.1,()) else U else U else U else U else U else U else let C:=(A0<|b.2.2.1=(B [109,97,114,107]));(if C then if inb 0 a.1.1.length then if inb 1 a.1.1.length then(KT (b.1.2.2.2.2.1,(rd (dfl .int) a.1.1 0),(rd (dfl .int) a.1.1 1),())).bind λD=>if A0 (0<=D.1.1) then I ((b.1,A3,()),()) else if inb 0 a.1.1.length then if inb 1 a.1.1.length then if inb 2 a.1.1.length then(Q7 (b.1.2.2.2.2.1,((rd (dfl .int) a.1.1 0),(rd (dfl .int) a.1.1 1),(rd (dfl .int) a.1.1 2),()),())).bind λE=>I (((b.1.1,b.1.2.1,b.1.2.2.1,b.1.2.2.2.1,E.1.1,b.1.2.2.2.2.2),A1,()),()) else U else U else U else U else U else I ((b.1,A3,()),())))) else U else U else U else U else U else U else U else U else U else U) (let k:=(A0<|c.1.1=(B [104,101,108,100]));(if k then I (.inr (x.1,(0,0,0,([]:List A7),([]:List Mark),([]:List A7),()),c.1.1,c.1.2.1,k,())) else let F:=(A0<|c.1.1=(B [105,110,98,111,120]));I (.inr (x.1,(0,0,0,([]:List A7),([]:List Mark),([]:List A7),()),c.1.1,c.1.2.1,F,())))))))))
def abQ:Ent:=(161,U,⟨[Z10,.str],[Z10,.bool],Vy⟩)
def atV:SQ Tryz.prog abQ:=sk (v:=t1<|t1<|.two (t1<|.one<|t1<|t1<|t1<|t1<|t1<|t1<|t1<|t1<|.join [(2,Z9),(4,Z11),(6,.str),(7,.str),(105,.bool)] .nil .nil) .nil) (fn:=Tryz.f161) akX kN
def alI:Cx:=cX [] [] []
def azC:OKC Tryz.prog alI AF:=okc mixed<|AL
def QO(x:Y4×A2):Option ((Y4×A2)×A2):=if Ac (([]:List A7).length+x.1.2.2.2.1.length) then if Ac (([]:List Mark).length+x.1.2.2.2.2.1.length) then if Ac (([]:List A7).length+x.1.2.2.2.2.2.1.length) then I (((x.1.1,x.1.2.1,x.1.2.2.1,(([]:List A7)++x.1.2.2.2.1),(([]:List Mark)++x.1.2.2.2.2.1),(([]:List A7)++x.1.2.2.2.2.2.1),()),()),()) else U else U else U
def aBo:Ent:=(162,U,⟨[Z10],[Z6],QO⟩)
def asx:SQ Tryz.prog aBo:=sk (v:= .nil) (fn:=Tryz.f162) azC kN
def avb:Cx:=cX [q9,abQ,aBo] [] [(22,24)]
def anO:OKC Tryz.prog avb AF:=okc mixed<|gC aB9<|gC atV<|gC asx<|AL
def RB(x:Y4×A4×A2):Option ((Y4×Bool×A2)×A2):=(OM (x.1,())).bind λb=>if !b.1.1 then I (((0,0,0,([]:List A7),([]:List Mark),([]:List A7),()),A3,()),()) else(QO (x.1,())).bind λc=>(Vy (c.1.1,x.2)).bind λa=>if Ad (!(!a.1.2.1)) ((OM (a.1.1,())).isSome) then if(!a.1.2.1)||(!(((OM (a.1.1,())).getD ((A3,()),())).1.1)) then(QO (x.1,())).bind λd=>I ((d.1.1,A3,()),()) else(QO (a.1.1,())).bind λe=>I ((e.1.1,A1,()),()) else U
def jm:Ent:=(124,U,⟨[Z10,.str],[Z6,.bool],RB⟩)
def adG:SQ Tryz.prog jm:=sk (v:= .nil) (fn:=Tryz.f124) anO kN
def azm:Cx:=cX [IX,zA,jm] [] []
def tD:OKC Tryz.prog azm AF:=okc mixed<|gC Ij<|gC al2<|gC adG<|AL
def Vv(x:List A4×Y4×Y4×Int×A2):Rnd (List A4×Y4×Y4×Int×A2) (Y4×Bool×A2) (Y4×Y4×A2):=if A0 (x.2.2.2.1<(x.1.length:Int)) then if inb x.2.2.2.1 x.1.length then(RB (x.2.2.1,(rd (dfl .str) x.1 x.2.2.2.1),())).bind λa=>if !a.1.2.1 then I (.inr<|.inl ((0,0,0,([]:List A7),([]:List Mark),([]:List A7),()),A3,())) else I (.inl (x.1,x.2.1,a.1.1,(w64<|x.2.2.2.1+1),())) else U else I (.inr<|.inr (x.2.1,x.2.2.1,()))
def nh:=AW Vv
def aDX:Loop:=⟨[(1,.sl .str),(4,Z11),(6,Z11),(7,.int .i64)],[(4,Z11),(6,Z11)],0,[(4,Z11),(5,.bool)],nh⟩
def akw:LF Tryz.f81 [] [1,1,1,0,1,0,0] aDX:=sq (v:= .nil) tD (b:=Vv) kN
def Om(x:Int×List A4×A2):Option ((Y4×Bool×A2)×A2):=(aK (x.1,())).bind λb=>(FN (x.1,())).bind λc=>if !c.1.1 then I ((b.1.1,A3,()),()) else(AO (nh (x.2.1,(0,0,0,([]:List A7),([]:List Mark),([]:List A7),()),b.1.1,0,())) (λa=>I (a,())) λa=>I ((a.2.1,A1,()),()))
def Xg:Ent:=(81,U,⟨[.int .i64,.fz .str],[Z6,.bool],Om⟩)
def pz:SQ Tryz.prog Xg:=sk (v:=t1<|t1<|t1<|.two (t1<|.one<|.loop aDX) .nil) (fn:=Tryz.f81) tD<|kC akw kN
def agG:Cx:=cX [QI,Xg] [] []
def at3:OKC Tryz.prog agG AF:=okc mixed<|gC VI<|gC pz<|AL
def Ey(x:Y1×A2):Option ((Y4×Bool×A2)×A2):=(Jz (x.1.2.2.1,())).bind λa=>(Om (x.1.1,a.1.1,())).bind λb=>I (b.1,())
def Gb:Ent:=(44,U,⟨[Z14],[Z6,.bool],Ey⟩)
def H7:SQ Tryz.prog Gb:=sk (v:= .nil) (fn:=Tryz.f44) at3 kN
def avn:Cx:=cX [H6,QI] [] [(12,18),(41,44)]
def asB:OKC Tryz.prog avn AF:=okc mixed<|gC HI<|gC VI<|AL
def N2(x:Y7×A2):Option ((Bool×A2)×A2):=if Ad (!(A0<|2400<(x.1.1.size:Int))) ((DK (x.1.2.1,0,(x.1.1.size:Int),())).isSome) then if(A0<|2400<(x.1.1.size:Int))||(!(((DK (x.1.2.1,0,(x.1.1.size:Int),())).getD ((A3,()),())).1.1)) then I ((A3,()),()) else(Jz (x.1.1,())).bind λa=>if A0 (0<=x.1.2.1)&&A0 (x.1.2.1<=(x.1.1.size:Int)) then(Jz ((x.1.1.extract (0)<|AM x.1.2.1),())).bind λb=>let c:=((A0<|a.1.2.1=(x.1.1.size:Int))&&(A0<|b.1.2.1=x.1.2.1));I ((c,()),()) else U else U
def Qi:Ent:=(86,U,⟨[Z15],[.bool],N2⟩)
def T5:SQ Tryz.prog Qi:=sk (v:= .nil) (fn:=Tryz.f86) asB kN
def ajm:Cx:=cX [H6] [] [(8,9)]
def av6:OKC Tryz.prog ajm AF:=okc mixed<|gC HI<|AL
def Mg(x:Int×Int×A2):Option ((Bool×A2)×A2):=(DK (x.1,1,6,())).bind λa=>if Ad a.1.1 ((DK (x.2.1,0,999,())).isSome) then let b:=(a.1.1&&(((DK (x.2.1,0,999,())).getD ((A3,()),())).1.1));I ((b,()),()) else U
def Ty:Ent:=(164,U,⟨[.int .i64,.int .i64],[.bool],Mg⟩)
def XS:SQ Tryz.prog Ty:=sk (v:= .nil) (fn:=Tryz.f164) av6 kN
def afR:Cx:=cX [Ty] [] [(10,13)]
def aji:OKC Tryz.prog afR AF:=okc mixed<|gC XS<|AL
def Q4(x:Int×Y8×A2):Option ((Bool×A2)×A2):=(Mg (x.1,x.2.1.1,())).bind λa=>let b:=(a.1.1&&(A0<|(x.2.1.2.1.size:Int)=4));I ((b,()),())
def s6:Ent:=(131,U,⟨[.int .i64,Z16],[.bool],Q4⟩)
def aEo:SQ Tryz.prog s6:=sk (v:= .nil) (fn:=Tryz.f131) aji kN
def au9:Cx:=cX [] [] []
def alZ:OKC Tryz.prog au9 AF:=okc mixed<|AL
def LW(x:Int×A2):Option ((Int×A2)×A2):=let a:=(w64<|B0 (w64<|(w64<|x.1+4) - 1) 4);I ((a,()),())
def VX:Ent:=(132,U,⟨[.int .i64],[.int .i64],LW⟩)
def YV:SQ Tryz.prog VX:=sk (v:= .nil) (fn:=Tryz.f132) alZ kN
def akQ:Cx:=cX [H6,IX,s6,VX] [] []
def gK:OKC Tryz.prog akQ AF:=okc mixed<|gC HI<|gC Ij<|gC aEo<|gC YV<|AL
def ZC(x:Y9×Int×Int×A2):Rnd (Y9×Int×Int×A2) (Bool×A2) (Y9×Int×A2):=if A0 (x.2.2.1<x.2.1) then if inb x.2.2.1 x.1.2.2.2.2.2.1.length then if inb x.2.1 x.1.2.2.2.2.2.1.length then if A0 ((rd (dfl .mixed) x.1.2.2.2.2.2.1 x.2.2.1).nu=(rd (dfl .mixed) x.1.2.2.2.2.2.1 x.2.1).nu) then I (.inr<|.inl (A3,())) else I (.inl (x.1,x.2.1,(w64<|x.2.2.1+1),())) else U else U else I (.inr<|.inr (x.1,x.2.1,()))
def nF:=AW ZC
def vX:Loop:=⟨[(1,Z17),(3,.int .i64),(4,.int .i64)],[(1,Z17),(3,.int .i64)],2,[(2,.bool)],nF⟩
def anB:LF Tryz.f87 [] [1,1,0,1,0,0,1,0,0,1,1,0,0] vX:=sq (v:= .nil) gK (b:=ZC) kN
def fL(x:Y9×Int×A2):Rnd (Y9×Int×A2) (Bool×A2) (A2):=if A0 (x.2.1<(x.1.2.2.2.2.2.1.length:Int)) then(LW (x.1.2.2.2.2.1,())).bind λb=>if inb x.2.1 x.1.2.2.2.2.2.1.length then(Q4 (b.1.1,((rd (dfl .mixed) x.1.2.2.2.2.2.1 x.2.1).nu,(rd (dfl .mixed) x.1.2.2.2.2.2.1 x.2.1).da,()),())).bind λc=>if !c.1.1 then I (.inr<|.inl (A3,())) else(AO (nF (x.1,x.2.1,0,())) (λa=>I<|.inr<|.inl a) λa=>I<|.inl (a.1,(w64<|a.2.1+1),())) else U else I (.inr<|.inr ())
def mK:=AW fL
def aa6:Loop:=⟨[(1,Z17),(3,.int .i64)],[],0,[(2,.bool)],mK⟩
def aff:LF Tryz.f87 [] [1,1,0,1,0,0] aa6:=sq (v:=t1<|.two (.one<|t1<|t1<|.one<|.loop vX) .nil) gK (b:=fL)<|kC anB kN
def Zf(x:Y9×A2):Option ((Bool×A2)×A2):=(FN (x.1.1,())).bind λb=>if !b.1.1 then I ((A3,()),()) else(FN (x.1.2.2.1,())).bind λc=>if !c.1.1 then I ((A3,()),()) else(DK (x.1.2.1,1,99,())).bind λd=>if !d.1.1 then I ((A3,()),()) else(DK (x.1.2.2.2.1,1,999,())).bind λe=>if !e.1.1 then I ((A3,()),()) else(DK (x.1.2.2.2.2.1,1,24,())).bind λf=>if !f.1.1 then I ((A3,()),()) else if A0 (14<(x.1.2.2.2.2.2.1.length:Int)) then I ((A3,()),()) else(AO (mK (x.1,0,())) (λa=>I (a,())) λa=>I ((A1,()),()))
def aCD:Ent:=(87,U,⟨[Z18],[.bool],Zf⟩)
def ads:SQ Tryz.prog aCD:=sk (v:=t1<|t1<|.two (t1<|.one<|.loop aa6) .nil) (fn:=Tryz.f87) gK<|kC aff kN
def aqG:Cx:=cX [Gb,IX,QI,Xg,Qi,aCD] [] [(64,65),(100,112)]
def nt:OKC Tryz.prog aqG AF:=okc mixed<|gC H7<|gC Ij<|gC VI<|gC pz<|gC T5<|gC ads<|AL
def XJ(x:Y1×Int×Int×A2):Rnd (Y1×Int×Int×A2) (Bool×A2) (Y1×Int×A2):=if A0 (x.2.2.1<x.2.1) then if inb x.2.2.1 x.1.2.2.2.2.1.length then if inb x.2.1 x.1.2.2.2.2.1.length then if Ad (A0<|(rd (dfl .half) x.1.2.2.2.2.1 x.2.2.1).fr=(rd (dfl .half) x.1.2.2.2.2.1 x.2.1).fr) (inb x.2.2.1 x.1.2.2.2.2.1.length) then if Ad (A0<|(rd (dfl .half) x.1.2.2.2.2.1 x.2.2.1).fr=(rd (dfl .half) x.1.2.2.2.2.1 x.2.1).fr) (inb x.2.1 x.1.2.2.2.2.1.length) then if(A0<|(rd (dfl .half) x.1.2.2.2.2.1 x.2.2.1).fr=(rd (dfl .half) x.1.2.2.2.2.1 x.2.1).fr)&&(A0<|(rd (dfl .half) x.1.2.2.2.2.1 x.2.2.1).nu=(rd (dfl .half) x.1.2.2.2.2.1 x.2.1).nu) then I (.inr<|.inl (A3,())) else I (.inl (x.1,x.2.1,(w64<|x.2.2.1+1),())) else U else U else U else U else I (.inr<|.inr (x.1,x.2.1,()))
def jg:=AW XJ
def aBh:Loop:=⟨[(1,Z19),(9,.int .i64),(10,.int .i64)],[(1,Z19),(9,.int .i64)],2,[(2,.bool)],jg⟩
def aqR:LF Tryz.f49 [] [1,1,1,1,1,1,0,1,0,0,1,0,0,1,1,0,0] aBh:=sq (v:= .nil) nt (b:=XJ) kN
def WW(x:Y1×Int×A2):Rnd (Y1×Int×A2) (Bool×A2) (A2):=if A0 (x.2.1<(x.1.2.2.2.2.1.length:Int)) then if inb x.2.1 x.1.2.2.2.2.1.length then(Zf (((rd (dfl .half) x.1.2.2.2.2.1 x.2.1).fr,(rd (dfl .half) x.1.2.2.2.2.1 x.2.1).nu,(rd (dfl .half) x.1.2.2.2.2.1 x.2.1).to,(rd (dfl .half) x.1.2.2.2.2.1 x.2.1).un,(rd (dfl .half) x.1.2.2.2.2.1 x.2.1).sz,(rd (dfl .half) x.1.2.2.2.2.1 x.2.1).got,()),())).bind λb=>if !b.1.1 then I (.inr<|.inl (A3,())) else(AO (jg (x.1,x.2.1,0,())) (λa=>I<|.inr<|.inl a) λa=>I<|.inl (a.1,(w64<|a.2.1+1),())) else U else I (.inr<|.inr ())
def XD:=AW WW
def aae:Loop:=⟨[(1,Z19),(9,.int .i64)],[],0,[(2,.bool)],XD⟩
def awt:LF Tryz.f49 [] [1,1,1,1,1,1,0,1,0,0] aae:=sq (v:=t1<|.two (.one<|t1<|t1<|.one<|.loop aBh) .nil) nt (b:=WW)<|kC aqR kN
def Ip(x:Y1×A2):Option ((Bool×A2)×A2):=(BF (X:=Y1×A2) (λa=>if A0 (0<=a.1.2.2.2.1)&&A0 (a.1.2.2.2.1<=(a.1.2.2.1.size:Int)) then(Jz ((a.1.2.2.1.extract (0)<|AM a.1.2.2.2.1),())).bind λc=>(Om (a.1.1,c.1.1,())).bind λd=>(Ey a).bind λe=>if(!e.1.2.1)||(!d.1.2.1) then I ((A3,()),()) else(AO (XD (a.1,0,())) (λb=>I (b,())) λb=>I ((A1,()),())) else U)<|(FN (x.1.1,())).bind λf=>if !f.1.1 then I (.inl ((A3,()),())) else(N2 ((x.1.2.2.1,x.1.2.2.2.1,()),())).bind λg=>if !g.1.1 then I (.inl ((A3,()),())) else if A0 (3<(x.1.2.2.2.2.1.length:Int)) then I (.inl ((A3,()),())) else if !x.1.2.1 then if A0 (0<(x.1.2.2.2.2.1.length:Int)) then I (.inl ((A3,()),())) else I (.inr x) else I (.inr x))
def Jw:Ent:=(49,U,⟨[Z14],[.bool],Ip⟩)
def LB:SQ Tryz.prog Jw:=sk (v:=t1<|.join [(1,Z19)] .nil<|t1<|t1<|t1<|t1<|.two (t1<|.one<|.loop aae) .nil) (fn:=Tryz.f49) nt<|kC awt kN
def anf:Cx:=cX [] [] []
def uM:OKC Tryz.prog anf AF:=okc mixed<|AL
def XN(x:Y1×Y1×List AH×Int×A2):Rnd (Y1×Y1×List AH×Int×A2) (A2) (Y1×Y1×List AH×A2):=if A0 (x.2.2.2.1<(x.1.2.2.2.2.1.length:Int)) then if inb x.2.2.2.1 x.1.2.2.2.2.1.length then let b:=(rd (dfl .half) x.1.2.2.2.2.1 x.2.2.2.1).fr;let c:=(rd (dfl .half) x.1.2.2.2.2.1 x.2.2.2.1).nu;let d:=(rd (dfl .half) x.1.2.2.2.2.1 x.2.2.2.1).to;let e:=(rd (dfl .half) x.1.2.2.2.2.1 x.2.2.2.1).un;let f:=(rd (dfl .half) x.1.2.2.2.2.1 x.2.2.2.1).sz;let a:=(rd (dfl .half) x.1.2.2.2.2.1 x.2.2.2.1).got;if Ac (([]:List AQ).length+a.length) then if Ac (x.2.2.1.length+([(AH.mk b c d e f<|([]:List AQ)++a)]:List AH).length) then I (.inl (x.1,x.2.1,(x.2.2.1++([(AH.mk b c d e f<|([]:List AQ)++a)]:List AH)),(w64<|x.2.2.2.1+1),())) else U else U else U else I (.inr<|.inr (x.1,x.2.1,x.2.2.1,()))
def qA:=AW XN
def xN:Loop:=⟨[(1,Z19),(2,Z20),(3,.row 106 .half),(4,.int .i64)],[(1,Z19),(2,Z20),(3,.row 106 .half)],0,[],qA⟩
def aoV:LF Tryz.f52 [] [1,1,0,1,0,0] xN:=sq (v:= .nil) uM (b:=XN) kN
def G7(x:Y1×A2):Option ((Y1×A2)×A2):=(AO (qA (x.1,(0,A3,noB,0,([]:List AH),()),([]:List AH),0,())) (λ_=>U) λa=>I (((a.1.1,a.1.2.1,a.1.2.2.1,a.1.2.2.2.1,a.2.2),()),()))
def La:Ent:=(52,U,⟨[Z14],[Z1],G7⟩)
def MK:SQ Tryz.prog La:=sk (v:=t1<|t1<|.two (t1<|.one<|.loop xN) .nil) (fn:=Tryz.f52) uM<|kC aoV kN
def amO:Cx:=cX [MM] [] []
def arl:OKC Tryz.prog amO AF:=okc mixed<|gC Ms<|AL
def Nv(x:Int×Int×Int×A2):Option ((A4×A2)×A2):=(DO (x.1,())).bind λa=>if A0 (a.1.1.size+(B [32]).size<=4611686018427387904) then(DO (x.2.1,())).bind λb=>if A0 ((a.1.1++(B [32])).size+b.1.1.size<=4611686018427387904) then if A0 (((a.1.1++(B [32]))++b.1.1).size+(B [32]).size<=4611686018427387904) then(DO x.2.2).bind λc=>if A0 ((((a.1.1++(B [32]))++b.1.1)++(B [32])).size+c.1.1.size<=4611686018427387904) then let d:=((((a.1.1++(B [32]))++b.1.1)++(B [32]))++c.1.1);I ((d,()),()) else U else U else U else U
def bq:Ent:=(129,U,⟨[.int .i64,.int .i64,.int .i64],[.str],Nv⟩)
def nG:SQ Tryz.prog bq:=sk (v:= .nil) (fn:=Tryz.f129) arl kN
def awO:Cx:=cX [Qi] [] []
def ap2:OKC Tryz.prog awO AF:=okc mixed<|gC T5<|AL
def Nn(x:Y7×A2):Option ((Y7×A2)×A2):=(N2 x).bind λa=>if !a.1.1 then I (((noB,0,()),()),()) else I (((x.1.1,(x.1.1.size:Int),()),()),())
def Sn:Ent:=(126,U,⟨[Z15],[Z15],Nn⟩)
def aW:SQ Tryz.prog Sn:=sk (v:= .nil) (fn:=Tryz.f126) ap2 kN
def ark:Cx:=cX [MM] [] []
def adv:OKC Tryz.prog ark AF:=okc mixed<|gC Ms<|AL
def K8(x:A4×A2):Option ((A4×A2)×A2):=(DO ((x.1.size:Int),())).bind λa=>if A0 (a.1.1.size+(B [58]).size<=4611686018427387904) then if A0 ((a.1.1++(B [58])).size+x.1.size<=4611686018427387904) then if A0 (((a.1.1++(B [58]))++x.1).size+(B [59]).size<=4611686018427387904) then let b:=(((a.1.1++(B [58]))++x.1)++(B [59]));I ((b,()),()) else U else U else U
def Vw:Ent:=(83,U,⟨[.str],[.str],K8⟩)
def Zk:SQ Tryz.prog Vw:=sk (v:= .nil) (fn:=Tryz.f83) adv kN
def awx:Cx:=cX [H6] [] []
def amk:OKC Tryz.prog awx AF:=okc mixed<|gC HI<|AL
def cO(x:A4×A2):Option ((Bool×A2)×A2):=(DK ((x.1.size:Int),1,60,())).bind λa=>I (a.1,())
def s7:Ent:=(163,U,⟨[.str],[.bool],cO⟩)
def aDB:SQ Tryz.prog s7:=sk (v:= .nil) (fn:=Tryz.f163) amk kN
def agF:Cx:=cX [Vw,Qi,s7] [] [(14,21)]
def an5:OKC Tryz.prog agF AF:=okc mixed<|gC Zk<|gC T5<|gC aDB<|AL
def Nz(x:Y7×A4×A2):Option ((Y7×Bool×A2)×A2):=(N2 (x.1,())).bind λc=>if !c.1.1 then I (((noB,0,()),A3,()),()) else(cO x.2).bind λa=>if Ad (!(!a.1.1)) ((K8 x.2).isSome) then if(!a.1.1)||(A0<|2400<(w64<|(x.1.1.size:Int)+((((K8 x.2).getD ((noB,()),())).1.1).size:Int))) then I ((x.1,A3,()),()) else(K8 x.2).bind λb=>if A0 (x.1.1.size+b.1.1.size<=4611686018427387904) then I ((((x.1.1++b.1.1),x.1.2),A1,()),()) else U else U
def kD:Ent:=(125,U,⟨[Z15,.str],[Z15,.bool],Nz⟩)
def abv:SQ Tryz.prog kD:=sk (v:= .nil) (fn:=Tryz.f125) an5 kN
def aqt:Cx:=cX [Vw,Qi,s7] [] []
def aCu:OKC Tryz.prog aqt AF:=okc mixed<|gC Zk<|gC T5<|gC aDB<|AL
def QE(x:List A4×Y7×Y7×A4×Int×A2):Rnd (List A4×Y7×Y7×A4×Int×A2) (Y7×Bool×A2) (Y7×Y7×A4×A2):=if A0 (x.2.2.2.2.1<(x.1.length:Int)) then if inb x.2.2.2.2.1 x.1.length then(cO ((rd (dfl .str) x.1 x.2.2.2.2.1),())).bind λb=>if !b.1.1 then I (.inr<|.inl (x.2.1,A3,())) else if inb x.2.2.2.2.1 x.1.length then(K8 ((rd (dfl .str) x.1 x.2.2.2.2.1),())).bind λa=>if A0 (x.2.2.2.1.size+a.1.1.size<=4611686018427387904) then I (.inl (x.1,x.2.1,x.2.2.1,(x.2.2.2.1++a.1.1),(w64<|x.2.2.2.2.1+1),())) else U else U else U else I (.inr<|.inr (x.2.1,x.2.2.1,x.2.2.2.1,()))
def ZH:=AW QE
def aDo:Loop:=⟨[(1,.sl .str),(2,Z21),(4,Z21),(6,.str),(7,.int .i64)],[(2,Z21),(4,Z21),(6,.str)],0,[(4,Z21),(5,.bool)],ZH⟩
def ae6:LF Tryz.f140 [] [1,1,1,0,1,0,0] aDo:=sq (v:= .nil) aCu (b:=QE) kN
def QQ(x:Y7×List A4×A2):Option ((Y7×Bool×A2)×A2):=(N2 (x.1,())).bind λb=>if !b.1.1 then I (((noB,0,()),A3,()),()) else(AO (ZH (x.2.1,x.1,(noB,0,()),noB,0,())) (λa=>I (a,())) λa=>(if A0 (2400<(a.2.2.1.size:Int)) then I ((a.1,A3,()),()) else I (((a.2.2.1,(a.2.2.1.size:Int),()),A1,()),())))
def mv:Ent:=(140,U,⟨[Z15,.fz .str],[Z15,.bool],QQ⟩)
def tQ:SQ Tryz.prog mv:=sk (v:=t1<|t1<|t1<|.two (t1<|.one<|.loop aDo) .nil) (fn:=Tryz.f140) aCu<|kC ae6 kN
def asc:Cx:=cX [MM,Py,q9] [] []
def XO:OKC Tryz.prog asc AF:=okc mixed<|gC Ms<|gC Sw<|gC aB9<|AL
def ZT(x:Y4×List A4×Int×A2):Rnd (Y4×List A4×Int×A2) (A2) (List A4×A2):=if A0 (x.2.2.1<(x.1.2.2.2.2.2.1.length:Int)) then if inb x.2.2.1 x.1.2.2.2.2.2.1.length then(KZ (((rd (dfl .note) x.1.2.2.2.2.2.1 x.2.2.1).fr,(rd (dfl .note) x.1.2.2.2.2.2.1 x.2.2.1).nu,(rd (dfl .note) x.1.2.2.2.2.2.1 x.2.2.1).to,(rd (dfl .note) x.1.2.2.2.2.2.1 x.2.2.1).un,(rd (dfl .note) x.1.2.2.2.2.2.1 x.2.2.1).tx,()),())).bind λa=>if A0 ((B [105,110,98,111,120,32]).size+a.1.1.size<=4611686018427387904) then if Ac (x.2.1.length+([((B [105,110,98,111,120,32])++a.1.1)]:List A4).length) then I (.inl (x.1,(x.2.1++([((B [105,110,98,111,120,32])++a.1.1)]:List A4)),(w64<|x.2.2.1+1),())) else U else U else U else I (.inr<|.inr (x.2.1,()))
def c8:=AW ZT
def wW:Loop:=⟨[(1,Z9),(3,.row 9 .str),(7,.int .i64)],[(3,.row 9 .str)],4,[],c8⟩
def ada:LF Tryz.f141 [] [1,1,1,1,1,1,1,0,1,0,0] wW:=sq (v:= .nil) XO (b:=ZT) kN
def Zo(x:Y4×List A4×Int×A2):Rnd (Y4×List A4×Int×A2) (A2) (Y4×List A4×A2):=if A0 (x.2.2.1<(x.1.2.2.2.1.length:Int)) then if inb x.2.2.1 x.1.2.2.2.1.length then(KZ (((rd (dfl .note) x.1.2.2.2.1 x.2.2.1).fr,(rd (dfl .note) x.1.2.2.2.1 x.2.2.1).nu,(rd (dfl .note) x.1.2.2.2.1 x.2.2.1).to,(rd (dfl .note) x.1.2.2.2.1 x.2.2.1).un,(rd (dfl .note) x.1.2.2.2.1 x.2.2.1).tx,()),())).bind λa=>if A0 ((B [104,101,108,100,32]).size+a.1.1.size<=4611686018427387904) then if Ac (x.2.1.length+([((B [104,101,108,100,32])++a.1.1)]:List A4).length) then I (.inl (x.1,(x.2.1++([((B [104,101,108,100,32])++a.1.1)]:List A4)),(w64<|x.2.2.1+1),())) else U else U else U else I (.inr<|.inr (x.1,x.2.1,()))
def Zx:=AW Zo
def aDM:Loop:=⟨[(1,Z9),(3,.row 9 .str),(6,.int .i64)],[(1,Z9),(3,.row 9 .str)],2,[],Zx⟩
def ai4:LF Tryz.f141 [] [1,1,1,1,1,1,0,1,0,0] aDM:=sq (v:= .nil) XO (b:=Zo) kN
def fA(x:Y4×List A4×Int×A2):Rnd (Y4×List A4×Int×A2) (A2) (Y4×List A4×A2):=if A0 (x.2.2.1<(x.1.2.2.2.2.1.length:Int)) then if inb x.2.2.1 x.1.2.2.2.2.1.length then let d:=(rd (dfl .mark) x.1.2.2.2.2.1 x.2.2.1).mf;let e:=(rd (dfl .mark) x.1.2.2.2.2.1 x.2.2.1).mn;let f:=(rd (dfl .mark) x.1.2.2.2.2.1 x.2.2.1).mu;(DO (d,())).bind λa=>if A0 ((B [109,97,114,107,32]).size+a.1.1.size<=4611686018427387904) then if A0 (((B [109,97,114,107,32])++a.1.1).size+(B [32]).size<=4611686018427387904) then(DO (e,())).bind λb=>if A0 ((((B [109,97,114,107,32])++a.1.1)++(B [32])).size+b.1.1.size<=4611686018427387904) then if A0 (((((B [109,97,114,107,32])++a.1.1)++(B [32]))++b.1.1).size+(B [32]).size<=4611686018427387904) then(DO (f,())).bind λc=>if A0 ((((((B [109,97,114,107,32])++a.1.1)++(B [32]))++b.1.1)++(B [32])).size+c.1.1.size<=4611686018427387904) then if Ac (x.2.1.length+([((((((B [109,97,114,107,32])++a.1.1)++(B [32]))++b.1.1)++(B [32]))++c.1.1)]:List A4).length) then I (.inl (x.1,(x.2.1++([((((((B [109,97,114,107,32])++a.1.1)++(B [32]))++b.1.1)++(B [32]))++c.1.1)]:List A4)),(w64<|x.2.2.1+1),())) else U else U else U else U else U else U else U else I (.inr<|.inr (x.1,x.2.1,()))
def au:=AW fA
def abw:Loop:=⟨[(1,Z9),(3,.row 9 .str),(4,.int .i64)],[(1,Z9),(3,.row 9 .str)],0,[],au⟩
def azo:LF Tryz.f141 [] [1,1,1,1,1,0,1,0,0] abw:=sq (v:= .nil) XO (b:=fA) kN
def U0(x:Y4×A2):Option ((List A4×A2)×A2):=(OM x).bind λg=>if !g.1.1 then I ((([]:List A4),()),()) else(BF (X:=Y4×List A4×A2) (λa=>(BF (X:=Y4×List A4×A2) (λd=>(AO (au (d.1,d.2.1,0,())) (λ_=>U) λe=>(AO (Zx (e.1,e.2.1,0,())) (λ_=>U) λf=>(AO (c8 (f.1,f.2.1,0,())) (λ_=>U) λh=>I (h,())))))<|(if A0 (1<a.1.2.2.1) then(DO (a.1.2.2.1,())).bind λb=>if A0 ((B [110,101,120,116,32]).size+b.1.1.size<=4611686018427387904) then if Ac (a.2.1.length+([((B [110,101,120,116,32])++b.1.1)]:List A4).length) then I (.inr (a.1,(a.2.1++([((B [110,101,120,116,32])++b.1.1)]:List A4)),())) else U else U else I (.inr a))))<|(if A0 (0<x.1.2.1) then(DO (x.1.2.1,())).bind λc=>if A0 ((B [116,105,109,101,32]).size+c.1.1.size<=4611686018427387904) then if Ac (([]:List A4).length+([((B [116,105,109,101,32])++c.1.1)]:List A4).length) then I (.inr (x.1,(([]:List A4)++([((B [116,105,109,101,32])++c.1.1)]:List A4)),())) else U else U else I (.inr (x.1,([]:List A4),()))))
def pV:Ent:=(141,U,⟨[Z10],[.row 9 .str],U0⟩)
def aAN:SQ Tryz.prog pV:=sk (v:=t1<|t1<|t1<|.join [(1,Z9),(3,.row 9 .str)] .nil<|.join [(1,Z9),(3,.row 9 .str)] .nil<|.two (t1<|.one<|.loop abw)<|.two (t1<|.one<|.loop aDM)<|.two (t1<|.one<|.loop wW) .nil) (fn:=Tryz.f141) XO<|kC azo<|kC ai4<|kC ada kN
def amt:Cx:=cX [Gb,jm,kD,Sn,mv,pV] [] []
def arA:OKC Tryz.prog amt AF:=okc mixed<|gC H7<|gC adG<|gC abv<|gC aW<|gC tQ<|gC aAN<|AL
def Jx(x:Y1×A4×Bool×A2):Option ((Y1×Bool×A2)×A2):=(Ey (x.1,())).bind λb=>(RB (b.1.1,x.2.1,())).bind λe=>if !e.1.2.1 then I ((x.1,A3,()),()) else(Nz ((x.1.2.2.1,x.1.2.2.2.1,()),x.2.1,())).bind λc=>(BF (X:=Bool×Y1×Y1×Y7×Bool×A2) (λa=>if !a.2.2.2.2.1 then I ((a.2.1,A3,()),()) else if a.1 then(Nn (a.2.2.2.1,())).bind λd=>I (((a.2.1.1,a.2.1.2.1,d.1.1.1,d.1.1.2.1,a.2.1.2.2.2.2),A1,()),()) else I (((a.2.1.1,a.2.1.2.1,a.2.2.2.1.1,a.2.2.2.1.2.1,a.2.1.2.2.2.2),A1,()),()))<|(if !c.1.2.1 then(U0 (b.1.1,())).bind λf=>(QQ ((x.1.2.2.1,x.1.2.2.2.1,()),f.1)).bind λg=>(Nz (g.1.1,x.2.1,())).bind λh=>I (.inr (x.2.2.1,x.1,(0,A3,noB,0,([]:List AH),()),h.1)) else I (.inr (x.2.2.1,x.1,(0,A3,noB,0,([]:List AH),()),c.1))))
def RH:Ent:=(136,U,⟨[Z14,.str,.bool],[Z14,.bool],Jx⟩)
def Up:SQ Tryz.prog RH:=sk (v:=t1<|t1<|t1<|t1<|t1<|.join [(2,.bool),(3,Z19),(6,Z20),(12,Z21),(13,.bool)] .nil .nil) (fn:=Tryz.f136) arA kN
def aqw:Cx:=cX [] [] []
def aiy:OKC Tryz.prog aqw AF:=okc mixed<|AL
def aU(x:Int×Y3×A2):Option ((Y3×A2)×A2):=I (((x.1,x.2.1.2.2.1,x.2.1.2.1,x.2.1.2.2.2.1,x.2.1.2.2.2.2.1,x.2.1.2.2.2.2.2.1,x.2.1.2.2.2.2.2.2.1,0,0,noB,()),()),())
def aDV:Ent:=(167,U,⟨[.int .i64,Z4],[Z4],aU⟩)
def aq4:SQ Tryz.prog aDV:=sk (v:= .nil) (fn:=Tryz.f167) aiy kN
def alO:Cx:=cX [] [] []
def auU:OKC Tryz.prog alO AF:=okc mixed<|AL
def OZ(x:List AH×Int×A2):Option ((List AH×A2)×A2):=if A0 (0<=x.2.1)&&A0 (x.2.1<=(x.1.length:Int)) then if Ac (([]:List AH).length+(BU (AM x.2.1) x.1).length) then if A0 (0<=(w64<|x.2.1+1))&&A0 ((w64<|x.2.1+1)<=(x.1.length:Int)) then if Ac ((([]:List AH)++(BU (AM x.2.1) x.1)).length+(Bs (AM<|w64<|x.2.1+1) x.1).length) then I ((((([]:List AH)++(BU (AM x.2.1) x.1))++(Bs (AM<|w64<|x.2.1+1) x.1)),()),()) else U else U else U else U
def qP:Ent:=(171,U,⟨[.fz .half,.int .i64],[.row 106 .half],OZ⟩)
def aEj:SQ Tryz.prog qP:=sk (v:= .nil) (fn:=Tryz.f171) auU kN
def atd:Cx:=cX [] [] [(22,28)]
def aAs:OKC Tryz.prog atd AF:=okc mixed<|AL
def Xz(x:List AH×Int×Int×Int×A2):Rnd (List AH×Int×Int×Int×A2) (Int×A2) (A2):=if A0 (x.2.2.2.1<(x.1.length:Int)) then if inb x.2.2.2.1 x.1.length then if Ad (A0<|(rd (dfl .half) x.1 x.2.2.2.1).fr=x.2.1) (inb x.2.2.2.1 x.1.length) then if(A0<|(rd (dfl .half) x.1 x.2.2.2.1).fr=x.2.1)&&(A0<|(rd (dfl .half) x.1 x.2.2.2.1).nu=x.2.2.1) then I (.inr<|.inl x.2.2.2) else I (.inl (x.1,x.2.1,x.2.2.1,(w64<|x.2.2.2.1+1),())) else U else U else I (.inr<|.inr ())
def kK:=AW Xz
def aEP:Loop:=⟨[(0,.sl .half),(1,.int .i64),(2,.int .i64),(7,.int .i64)],[],0,[(6,.int .i64)],kK⟩
def ajc:LF Tryz.f211 [] [1,0,1,0,0] aEP:=sq (v:= .nil) aAs (b:=Xz) kN
def dz(x:List AH×Int×Int×A2):Option ((Int×A2)×A2):=(AO (kK (x.1,x.2.1,x.2.2.1,0,())) (λa=>I (a,())) λa=>I (((-1),()),()))
def xW:Ent:=(211,U,⟨[.fz .half,.int .i64,.int .i64],[.int .i64],dz⟩)
def aup:SQ Tryz.prog xW:=sk (v:=t1<|.two (t1<|.one<|.loop aEP) .nil) (fn:=Tryz.f211) aAs<|kC ajc kN
def axd:Cx:=cX [qP,xW] [] []
def aDR:OKC Tryz.prog axd AF:=okc mixed<|gC aEj<|gC aup<|AL
def aJ(x:Y1×Y3×Y1×Int×Y9×List AQ×Int×A2):Rnd (Y1×Y3×Y1×Int×Y9×List AQ×Int×A2) (A2) (Y1×Y3×Y1×Int×Y9×List AQ×A2):=if A0 (x.2.2.2.2.2.2.1<(x.2.2.2.2.1.2.2.2.2.2.1.length:Int)) then if inb x.2.2.2.2.2.2.1 x.2.2.2.2.1.2.2.2.2.2.1.length then if !decide ((rd (dfl .mixed) x.2.2.2.2.1.2.2.2.2.2.1 x.2.2.2.2.2.2.1).nu=x.2.1.2.2.2.2.2.2.2.2.1) then if inb x.2.2.2.2.2.2.1 x.2.2.2.2.1.2.2.2.2.2.1.length then if Ac (x.2.2.2.2.2.1.length+([(rd (dfl .mixed) x.2.2.2.2.1.2.2.2.2.2.1 x.2.2.2.2.2.2.1)]:List AQ).length) then let a:=(w64<|x.2.2.2.2.2.2.1+1);I (.inl (x.1,x.2.1,x.2.2.1,x.2.2.2.1,x.2.2.2.2.1,(x.2.2.2.2.2.1++([(rd (dfl .mixed) x.2.2.2.2.1.2.2.2.2.2.1 x.2.2.2.2.2.2.1)]:List AQ)),a,())) else U else U else let b:=(w64<|x.2.2.2.2.2.2.1+1);I (.inl (x.1,x.2.1,x.2.2.1,x.2.2.2.1,x.2.2.2.2.1,x.2.2.2.2.2.1,b,())) else U else I (.inr<|.inr (x.1,x.2.1,x.2.2.1,x.2.2.2.1,x.2.2.2.2.1,x.2.2.2.2.2.1,()))
def c9:=AW aJ
def yG:Loop:=⟨[(2,Z20),(3,Z5),(4,Z20),(6,.int .i64),(7,Z17),(8,.row 123 .mixed),(9,.int .i64)],[(2,Z20),(3,Z5),(4,Z20),(6,.int .i64),(7,Z17),(8,.row 123 .mixed)],0,[],c9⟩
def aiq:LF Tryz.f169 [] [1,1,1,1,1,1,0,1,0,0] yG:=sq (v:= .nil) aDR (b:=aJ) kN
def dn(x:Y1×Y3×A2):Option ((Y1×Int×A2)×A2):=(dz (x.1.2.2.2.2.1,x.2.1.2.2.2.1,x.2.1.2.2.2.2.1,())).bind λe=>(BF (X:=Y1×Y3×Y1×Int×A2) (λa=>if inb a.2.2.2.1 a.1.2.2.2.2.1.length then let i:=(rd (dfl .half) a.1.2.2.2.2.1 a.2.2.2.1).fr;let j:=(rd (dfl .half) a.1.2.2.2.2.1 a.2.2.2.1).nu;let f:=(rd (dfl .half) a.1.2.2.2.2.1 a.2.2.2.1).to;let g:=(rd (dfl .half) a.1.2.2.2.2.1 a.2.2.2.1).un;let h:=(rd (dfl .half) a.1.2.2.2.2.1 a.2.2.2.1).sz;let k:=(rd (dfl .half) a.1.2.2.2.2.1 a.2.2.2.1).got;if !decide (f=a.2.1.2.2.2.2.2.1) then I ((a.1,(-1),()),()) else if !decide (g=a.2.1.2.2.2.2.2.2.1) then I ((a.1,(-1),()),()) else if !decide (h=a.2.1.2.2.2.2.2.2.2.1) then I ((a.1,(-1),()),()) else(AO (c9 (a.1,a.2.1,a.2.2.1,a.2.2.2.1,(i,j,f,g,h,k,()),([]:List AQ),0,())) (λ_=>U) λd=>(BF (X:=Y1×Y3×Y1×Int×Y9×List AQ×A2) (λc=>if Ac (c.2.2.2.2.2.1.length+([(AQ.mk c.2.1.2.2.2.2.2.2.2.2.1 c.2.1.2.2.2.2.2.2.2.2.2.1)]:List AQ).length) then if inb c.2.2.2.1 c.1.2.2.2.2.1.length then I (((c.1.1,c.1.2.1,c.1.2.2.1,c.1.2.2.2.1,(Bq c.1.2.2.2.2.1 (AM c.2.2.2.1)<|AH.mk c.2.2.2.2.1.1 c.2.2.2.2.1.2.1 c.2.2.2.2.1.2.2.1 c.2.2.2.2.1.2.2.2.1 c.2.2.2.2.1.2.2.2.2.1<|c.2.2.2.2.2.1++([(AQ.mk c.2.1.2.2.2.2.2.2.2.2.1 c.2.1.2.2.2.2.2.2.2.2.2.1)]:List AQ)),()),c.2.2.2.1,()),()) else U else U)<|(if A0 (14<=(d.2.2.2.2.2.1.length:Int)) then if A0 (0<=1)&&A0 (1<=(d.2.2.2.2.2.1.length:Int)) then if Ac (([]:List AQ).length+(Bs (AM 1) d.2.2.2.2.2.1).length) then I (.inr (d.1,d.2.1,d.2.2.1,d.2.2.2.1,d.2.2.2.2.1,(([]:List AQ)++(Bs (AM 1) d.2.2.2.2.2.1)),())) else U else U else I (.inr d)))) else U)<|(if A0 (e.1.1<0) then(BF (X:=Y1×Y3×Y1×A2) (λb=>if Ac (b.1.2.2.2.2.1.length+([(AH.mk b.2.1.2.2.2.1 b.2.1.2.2.2.2.1 b.2.1.2.2.2.2.2.1 b.2.1.2.2.2.2.2.2.1 b.2.1.2.2.2.2.2.2.2.1 ([]:List AQ))]:List AH).length) then let l:=(w64<|((b.1.2.2.2.2.1++([(AH.mk b.2.1.2.2.2.1 b.2.1.2.2.2.2.1 b.2.1.2.2.2.2.2.1 b.2.1.2.2.2.2.2.2.1 b.2.1.2.2.2.2.2.2.2.1 ([]:List AQ))]:List AH)).length:Int) - 1);I (.inr ((b.1.1,b.1.2.1,b.1.2.2.1,b.1.2.2.2.1,(b.1.2.2.2.2.1++([(AH.mk b.2.1.2.2.2.1 b.2.1.2.2.2.2.1 b.2.1.2.2.2.2.2.1 b.2.1.2.2.2.2.2.2.1 b.2.1.2.2.2.2.2.2.2.1 ([]:List AQ))]:List AH)),()),b.2.1,b.2.2.1,l,())) else U)<|(if A0 (3<=(x.1.2.2.2.2.1.length:Int)) then(OZ (x.1.2.2.2.2.1,0,())).bind λm=>I (.inr ((x.1.1,x.1.2.1,x.1.2.2.1,x.1.2.2.2.1,m.1),x.2.1,(0,A3,noB,0,([]:List AH),()),())) else I (.inr (x.1,x.2.1,(0,A3,noB,0,([]:List AH),()),())))) else I (.inr (x.1,x.2.1,(0,A3,noB,0,([]:List AH),()),e.1))))
def aAd:Ent:=(169,U,⟨[Z1,Z4],[Z1,.int .i64],dn⟩)
def ama:SQ Tryz.prog aAd:=sk (v:=t1<|t1<|.join [(2,Z20),(3,Z5),(4,Z20),(6,.int .i64)] (t1<|.two (.join [(2,Z20),(3,Z5),(4,Z20)] .nil .nil) .nil)<|t1<|t1<|t1<|.two (t1<|.one<|.loop yG)<|.join [(2,Z20),(3,Z5),(4,Z20),(6,.int .i64),(7,Z17),(8,.row 123 .mixed)] .nil .nil) (fn:=Tryz.f169) aDR<|kC aiq kN
def auc:Cx:=cX [H6] [] []
def aj4:OKC Tryz.prog auc AF:=okc mixed<|gC HI<|AL
def Oq(x:Int×A2):Option ((Int×A2)×A2):=(DK (x.1,0,65535,())).bind λa=>if !a.1.1 then I ((0,()),()) else let b:=(BC (w64<|(w64<|x.1 * 25173)+13849) 65536);I ((b,()),())
def sK:Ent:=(213,U,⟨[.int .i64],[.int .i64],Oq⟩)
def xU:SQ Tryz.prog sK:=sk (v:= .nil) (fn:=Tryz.f213) aj4 kN
def arx:Cx:=cX [] [] []
def anh:OKC Tryz.prog arx AF:=okc mixed<|AL
def cW(x:Int×Int×A2):Option ((Int×A2)×A2):=if A0 (x.2.1=1) then if !decide (x.1=0) then let a:=(w64<|(w64<|B0 60 x.1)+10);I ((a,()),()) else U else if !decide ((w64<|x.2.1 * (w64<|x.2.1 - 1))=0) then let b:=(w64<|B0 60<|w64<|x.2.1 * (w64<|x.2.1 - 1));I ((b,()),()) else U
def aaY:Ent:=(234,U,⟨[.int .i64,.int .i64],[.int .i64],cW⟩)
def aip:SQ Tryz.prog aaY:=sk (v:= .nil) (fn:=Tryz.f234) anh kN
def anr:Cx:=cX [Ty,sK,aaY] [] []
def mW:OKC Tryz.prog anr AF:=okc mixed<|gC XS<|gC xU<|gC aip<|AL
def TF(x:Int×Int×Int×A2):Rnd (Int×Int×Int×A2) (Int×A2) (Int×A2):=if A0 (x.2.2.1<x.1) then(cW (x.1,x.2.2)).bind λa=>if A0 ((w64<|x.2.1 - a.1.1)<0) then I (.inr<|.inl x.2.2) else I (.inl (x.1,(w64<|x.2.1 - a.1.1),(w64<|x.2.2.1+1),())) else I (.inr<|.inr (x.1,()))
def aH:=AW TF
def wR:Loop:=⟨[(0,.int .i64),(7,.int .i64),(8,.int .i64)],[(0,.int .i64)],2,[(4,.int .i64)],aH⟩
def aka:LF Tryz.f214 [] [1,1,1,1,1,1,0,1,0,0] wR:=sq (v:= .nil) mW (b:=TF) kN
def aBl(x:Int×Int×Int×Int×A2):Rnd (Int×Int×Int×Int×A2) (A2) (Int×Int×Int×A2):=if A0 (x.2.2.2.1<=x.1) then(cW (x.1,x.2.2.2)).bind λa=>I (.inl (x.1,x.2.1,(w64<|x.2.2.1+a.1.1),(w64<|x.2.2.2.1+1),())) else I (.inr<|.inr (x.1,x.2.1,x.2.2.1,()))
def ee:=AW aBl
def abc:Loop:=⟨[(0,.int .i64),(1,.int .i64),(5,.int .i64),(6,.int .i64)],[(0,.int .i64),(1,.int .i64),(5,.int .i64)],0,[],ee⟩
def amW:LF Tryz.f214 [] [1,1,1,1,0,1,0,0] abc:=sq (v:= .nil) mW (b:=aBl) kN
def fp(x:Int×Int×A2):Option ((Int×A2)×A2):=(Mg x).bind λc=>if !c.1.1 then I ((0,()),()) else if A0 (x.2.1<x.1) then I ((1,()),()) else(AO (ee (x.1,x.2.1,0,1,())) (λ_=>U) (λa=>(Oq ((w64<|(w64<|a.2.1 * 31)+a.1),())).bind λd=>(Oq d.1).bind λe=>if !decide (a.2.2.1=0) then let f:=(BC (w64<|B0 e.1.1 16) a.2.2.1);(AO (aH (a.1,f,1,())) (λb=>I (b,())) λb=>I (b,())) else U))
def ua:Ent:=(214,U,⟨[.int .i64,.int .i64],[.int .i64],fp⟩)
def auF:SQ Tryz.prog ua:=sk (v:=t1<|t1<|t1<|t1<|.two (t1<|.one<|.loop abc)<|t1<|.two (t1<|.one<|.loop wR) .nil) (fn:=Tryz.f214) mW<|kC amW<|kC aka kN
def apO:Cx:=cX [Ty,sK,ua] [] []
def Xt:OKC Tryz.prog apO AF:=okc mixed<|gC XS<|gC xU<|gC auF<|AL
def U9(x:Int×List Int×List Bool×Int×Int×Int×A2):Rnd (Int×List Int×List Bool×Int×Int×Int×A2) (A2) (Int×List Int×List Bool×Int×Int×Int×A2):=if inb x.2.2.2.2.2.1 x.2.2.1.length then if rd (dfl .bool) x.2.2.1 x.2.2.2.2.2.1 then if !decide (x.1=0) then let a:=(BC (w64<|x.2.2.2.2.2.1+1) x.1);I (.inl (x.1,x.2.1,x.2.2.1,x.2.2.2.1,x.2.2.2.2.1,a,())) else U else I (.inr<|.inr x) else U
def ZU:=AW U9
def aBA:Loop:=⟨[(0,.int .i64),(5,.row 3 .int),(6,.row 4 .bool),(7,.int .i64),(8,.int .i64),(9,.int .i64)],[(0,.int .i64),(5,.row 3 .int),(6,.row 4 .bool),(7,.int .i64),(8,.int .i64),(9,.int .i64)],2,[],ZU⟩
def axj:LF Tryz.f173 [] [1,1,1,1,1,1,0,1,0,0,1,0,0,1,1,0,0,0] aBA:=sq (v:= .nil) Xt (b:=U9) kN
def YY(x:Int×List Int×List Bool×Int×A2):Rnd (Int×List Int×List Bool×Int×A2) (A2) (List Int×A2):=if A0 (x.2.2.2.1<x.1) then if inb x.2.2.2.1 x.2.2.1.length then if rd (dfl .bool) x.2.2.1 x.2.2.2.1 then if Ac (x.2.1.length+([x.2.2.2.1]:List Int).length) then I (.inl (x.1,(x.2.1++([x.2.2.2.1]:List Int)),x.2.2.1,(w64<|x.2.2.2.1+1),())) else U else I (.inl (x.1,x.2.1,x.2.2.1,(w64<|x.2.2.2.1+1),())) else U else I (.inr<|.inr (x.2.1,()))
def rP:=AW YY
def aA8:Loop:=⟨[(0,.int .i64),(5,.row 3 .int),(6,.row 4 .bool),(10,.int .i64)],[(5,.row 3 .int)],4,[],rP⟩
def awn:LF Tryz.f173 [] [1,1,1,1,1,1,1,0,1,0,0] aA8:=sq (v:= .nil) Xt (b:=YY) kN
def qK(x:Int×List Int×List Bool×Int×Int×A2):Rnd (Int×List Int×List Bool×Int×Int×A2) (A2) (Int×List Int×List Bool×A2):=if A0 (0<x.2.2.2.2.1) then(Oq (x.2.2.2.1,())).bind λb=>if !decide (x.1=0) then let c:=(BC (w64<|B0 b.1.1 16) x.1);(AO (ZU (x.1,x.2.1,x.2.2.1,b.1.1,x.2.2.2.2.1,c,())) (λ_=>I<|.inr<|.inl ()) λa=>(if inb a.2.2.2.2.2.1 a.2.2.1.length then let d:=(w64<|a.2.2.2.2.1 - 1);I (.inl (a.1,a.2.1,(Bq a.2.2.1 (AM a.2.2.2.2.2.1) A1),a.2.2.2.1,d,())) else U)) else U else I (.inr<|.inr (x.1,x.2.1,x.2.2.1,()))
def oS:=AW qK
def xY:Loop:=⟨[(0,.int .i64),(5,.row 3 .int),(6,.row 4 .bool),(7,.int .i64),(8,.int .i64)],[(0,.int .i64),(5,.row 3 .int),(6,.row 4 .bool)],0,[],oS⟩
def aox:LF Tryz.f173 [] [1,1,1,1,1,1,0,1,0,0] xY:=sq (v:=t1<|.two (.one<|t1<|t1<|.two (.one<|.loop aBA) .nil) .nil) Xt (b:=qK)<|kC axj kN
def SI(x:Int×Int×A2):Option ((List Int×A2)×A2):=(Mg x).bind λb=>if !b.1.1 then I ((([]:List Int),()),()) else if A0 (x.2.1<x.1) then if Ac (([]:List Int).length+([x.2.1]:List Int).length) then I (((([]:List Int)++([x.2.1]:List Int)),()),()) else U else if A0 (0<=x.1)&&A0 (x.1<=4294967296) then(Oq ((w64<|(w64<|x.2.1 * 7)+1),())).bind λc=>(fp x).bind λd=>(AO (oS (x.1,([]:List Int),(BW (AM x.1)<|dfl .bool),c.1.1,d.1)) (λ_=>U) λa=>(AO (rP (a.1,a.2.1,a.2.2.1,0,())) (λ_=>U) λe=>I (e,()))) else U
def oB:Ent:=(173,U,⟨[.int .i64,.int .i64],[.row 3 .int],SI⟩)
def vA:SQ Tryz.prog oB:=sk (v:=t1<|t1<|t1<|t1<|t1<|t1<|.two (t1<|.one<|.loop xY)<|.two (t1<|.one<|.loop aA8) .nil) (fn:=Tryz.f173) Xt<|kC aox<|kC awn kN
def au7:Cx:=cX [] [] []
def acK:OKC Tryz.prog au7 AF:=okc mixed<|AL
def aFd(x:A4×A4×List Int×Int×A2):Rnd (A4×A4×List Int×Int×A2) (A2) (List Int×A2):=if A0 (x.2.2.2.1<4) then if inb x.2.2.2.1 x.1.size then if inb x.2.2.2.1 x.2.1.size then if Ac (x.2.2.1.length+([(Dm .u8 (bt x.1 x.2.2.2.1)<|bt x.2.1 x.2.2.2.1)]:List Int).length) then I (.inl (x.1,x.2.1,(x.2.2.1++([(Dm .u8 (bt x.1 x.2.2.2.1)<|bt x.2.1 x.2.2.2.1)]:List Int)),(w64<|x.2.2.2.1+1),())) else U else U else U else I (.inr<|.inr (x.2.2.1,()))
def kR:=AW aFd
def tl:Loop:=⟨[(0,.str),(1,.str),(5,.row 5 .u8),(6,.int .i64)],[(5,.row 5 .u8)],0,[],kR⟩
def ajw:LF Tryz.f175 [] [1,1,0,1,0,0] tl:=sq (v:= .nil) acK (b:=aFd) kN
def Se(x:A4×A4×A2):Option ((A4×A2)×A2):=(AO (kR (x.1,x.2.1,([]:List Int),0,())) (λ_=>U) λa=>I (((BH a.1),()),()))
def lq:Ent:=(175,U,⟨[.str,.str],[.str],Se⟩)
def ya:SQ Tryz.prog lq:=sk (v:=t1<|t1<|.two (t1<|.one<|.loop tl) .nil) (fn:=Tryz.f175) acK<|kC ajw kN
def agp:Cx:=cX [oB,lq] [] []
def ach:OKC Tryz.prog agp AF:=okc mixed<|gC vA<|gC ya<|AL
def Tb(x:List A4×List Int×A4×List Int×Int×A2):Rnd (List A4×List Int×A4×List Int×Int×A2) (A2) (List Int×A4×A2):=if A0 (x.2.2.2.2.1<(x.2.2.2.1.length:Int)) then if inb x.2.2.2.2.1 x.2.2.2.1.length then if inb (rd (dfl .int) x.2.2.2.1 x.2.2.2.2.1) x.1.length then if A0 ((rd (dfl .str) x.1<|rd (dfl .int) x.2.2.2.1 x.2.2.2.2.1)=noB) then if inb x.2.2.2.2.1 x.2.2.2.1.length then if Ac (x.2.1.length+([(rd (dfl .int) x.2.2.2.1 x.2.2.2.2.1)]:List Int).length) then I (.inl (x.1,(x.2.1++([(rd (dfl .int) x.2.2.2.1 x.2.2.2.2.1)]:List Int)),x.2.2.1,x.2.2.2.1,(w64<|x.2.2.2.2.1+1),())) else U else U else if inb x.2.2.2.2.1 x.2.2.2.1.length then if inb (rd (dfl .int) x.2.2.2.1 x.2.2.2.2.1) x.1.length then(Se (x.2.2.1,(rd (dfl .str) x.1<|rd (dfl .int) x.2.2.2.1 x.2.2.2.2.1),())).bind λa=>I (.inl (x.1,x.2.1,a.1.1,x.2.2.2.1,(w64<|x.2.2.2.2.1+1),())) else U else U else U else U else I (.inr<|.inr (x.2.1,x.2.2.1,()))
def bK:=AW Tb
def aED:Loop:=⟨[(2,.sl .str),(8,.row 3 .int),(9,.str),(10,.row 3 .int),(11,.int .i64)],[(8,.row 3 .int),(9,.str)],0,[],bK⟩
def axe:LF Tryz.f233 [] [1,1,1,1,0,1,0,0] aED:=sq (v:= .nil) ach (b:=Tb) kN
def YE(x:Int×Y8×List A4×A2):Option ((List Int×A4×A2)×A2):=(SI (x.1,x.2.1.1,())).bind λa=>(AO (bK (x.2.2.1,([]:List Int),x.2.1.2.1,a.1.1,0,())) (λ_=>U) λb=>I (b,()))
def aBZ:Ent:=(233,U,⟨[.int .i64,Z16,.fz .str],[.row 3 .int,.str],YE⟩)
def ajs:SQ Tryz.prog aBZ:=sk (v:=t1<|t1<|t1<|t1<|.two (t1<|.one<|.loop aED) .nil) (fn:=Tryz.f233) ach<|kC axe kN
def ag7:Cx:=cX [H6,s6,aBZ] [] []
def km:OKC Tryz.prog ag7 AF:=okc mixed<|gC HI<|gC aEo<|gC ajs<|AL
def Pg(x:Int×List AQ×List A4×Bool×Int×A2):Rnd (Int×List AQ×List A4×Bool×Int×A2) (A2) (Int×List AQ×List A4×Bool×A2):=if A0 (x.2.2.2.2.1<(x.2.1.length:Int)) then if inb x.2.2.2.2.1 x.2.1.length then(Q4 (x.1,((rd (dfl .mixed) x.2.1 x.2.2.2.2.1).nu,(rd (dfl .mixed) x.2.1 x.2.2.2.2.1).da,()),())).bind λb=>if !b.1.1 then I (.inl (x.1,x.2.1,x.2.2.1,x.2.2.2.1,(w64<|x.2.2.2.2.1+1),())) else if inb x.2.2.2.2.1 x.2.1.length then(YE (x.1,((rd (dfl .mixed) x.2.1 x.2.2.2.2.1).nu,(rd (dfl .mixed) x.2.1 x.2.2.2.2.1).da,()),x.2.2.1,())).bind λa=>if A0 ((a.1.1.length:Int)=1) then if inb 0 a.1.1.length then if inb (rd (dfl .int) a.1.1 0) x.2.2.1.length then I (.inl (x.1,x.2.1,(Bq x.2.2.1 (AM<|rd (dfl .int) a.1.1 0) a.1.2.1),A1,(w64<|x.2.2.2.2.1+1),())) else U else U else I (.inl (x.1,x.2.1,x.2.2.1,x.2.2.2.1,(w64<|x.2.2.2.2.1+1),())) else U else U else I (.inr<|.inr (x.1,x.2.1,x.2.2.1,x.2.2.2.1,()))
def Tn:=AW Pg
def aBD:Loop:=⟨[(0,.int .i64),(1,.sl .mixed),(5,.row 9 .str),(6,.bool),(7,.int .i64)],[(0,.int .i64),(1,.sl .mixed),(5,.row 9 .str),(6,.bool)],2,[],Tn⟩
def aix:LF Tryz.f212 [] [1,1,1,1,0,0,0,1,0,1,1,0,0] aBD:=sq (v:= .nil) km (b:=Pg) kN
def rI(x:Int×List AQ×List A4×Bool×A2):Rnd (Int×List AQ×List A4×Bool×A2) (A2) (List A4×A2):=if x.2.2.2.1 then(AO (Tn (x.1,x.2.1,x.2.2.1,A3,0,())) (λ_=>I<|.inr<|.inl ()) λa=>I<|.inl a) else I (.inr<|.inr (x.2.2.1,()))
def qp:=AW rI
def abL:Loop:=⟨[(0,.int .i64),(1,.sl .mixed),(5,.row 9 .str),(6,.bool)],[(5,.row 9 .str)],0,[],qp⟩
def amz:LF Tryz.f212 [] [1,1,1,1,0,0,0] abL:=sq (v:=t1<|.one<|t1<|t1<|.one<|.loop aBD) km (b:=rI)<|kC aix kN
def Xd(x:Int×List AQ×A2):Option ((List A4×A2)×A2):=(DK (x.1,1,6,())).bind λa=>if !a.1.1 then I ((([]:List A4),()),()) else if A0 (0<=x.1)&&A0 (x.1<=4294967296) then(AO (qp (x.1,x.2.1,(BW (AM x.1)<|dfl .str),A1,())) (λ_=>U) λb=>I (b,())) else U
def abG:Ent:=(212,U,⟨[.int .i64,.fz .mixed],[.row 9 .str],Xd⟩)
def ay2:SQ Tryz.prog abG:=sk (v:=t1<|t1<|t1<|t1<|.two (.one<|.loop abL) .nil) (fn:=Tryz.f212) km<|kC amz kN
def apj:Cx:=cX [H6,VX,abG] [] []
def jo:OKC Tryz.prog apj AF:=okc mixed<|gC HI<|gC YV<|gC ay2<|AL
def fJ(x:Int×A4×Int×A2):Rnd (Int×A4×Int×A2) (A4×Bool×A2) (Int×A4×A2):=if A0 (x.2.2.1<(x.2.1.size:Int)) then if inb x.2.2.1 x.2.1.size then if !decide ((bt x.2.1 x.2.2.1)=0) then I (.inr<|.inl (noB,A3,())) else I (.inl (x.1,x.2.1,(w64<|x.2.2.1+1),())) else U else I (.inr<|.inr (x.1,x.2.1,()))
def mZ:=AW fJ
def aFg:Loop:=⟨[(0,.int .i64),(7,.str),(9,.int .i64)],[(0,.int .i64),(7,.str)],2,[(4,.str),(5,.bool)],mZ⟩
def amB:LF Tryz.f170 [] [1,1,1,1,1,0,1,0,0] aFg:=sq (v:= .nil) jo (b:=fJ) kN
def SR(x:Int×List A4×A4×Int×A2):Rnd (Int×List A4×A4×Int×A2) (A4×Bool×A2) (Int×A4×A2):=if A0 (x.2.2.2.1<(x.2.1.length:Int)) then if inb x.2.2.2.1 x.2.1.length then if A0 ((rd (dfl .str) x.2.1 x.2.2.2.1)=noB) then I (.inr<|.inl (noB,A3,())) else if inb x.2.2.2.1 x.2.1.length then if A0 (x.2.2.1.size+(rd (dfl .str) x.2.1 x.2.2.2.1).size<=4611686018427387904) then let a:=(x.2.2.1++(rd (dfl .str) x.2.1 x.2.2.2.1));I (.inl (x.1,x.2.1,a,(w64<|x.2.2.2.1+1),())) else U else U else U else I (.inr<|.inr (x.1,x.2.2.1,()))
def Wd:=AW SR
def adA:Loop:=⟨[(0,.int .i64),(6,.row 9 .str),(7,.str),(8,.int .i64)],[(0,.int .i64),(7,.str)],0,[(4,.str),(5,.bool)],Wd⟩
def afB:LF Tryz.f170 [] [1,1,1,1,0,1,0,0] adA:=sq (v:= .nil) jo (b:=SR) kN
def aw(x:Int×List AQ×A2):Option ((A4×Bool×A2)×A2):=(DK (x.1,1,24,())).bind λc=>if !c.1.1 then I ((noB,A3,()),()) else(LW (x.1,())).bind λd=>(Xd (d.1.1,x.2)).bind λe=>(AO (Wd (x.1,e.1.1,noB,0,())) (λb=>I (b,())) λb=>(AO (mZ (b.1,b.2.1,b.1,())) (λa=>I (a,())) λa=>(if A0 (0<=a.1)&&A0 (a.1<=(a.2.1.size:Int)) then let f:=(a.2.1.extract (0)<|AM a.1);I ((f,A1,()),()) else U)))
def vk:Ent:=(170,U,⟨[.int .i64,.fz .mixed],[.str,.bool],aw⟩)
def amU:SQ Tryz.prog vk:=sk (v:=t1<|t1<|t1<|t1<|.two (t1<|.one<|.loop adA)<|.two (t1<|.one<|.loop aFg) .nil) (fn:=Tryz.f170) jo<|kC afB<|kC amB kN
def aid:Cx:=cX [Gb,KC,Sn,Py,VX,RH,Ty,aDV,UF,aAd,vk,qP] [] [(39,46),(62,68)]
def adw:OKC Tryz.prog aid AF:=okc mixed<|gC H7<|gC Ku<|gC aW<|gC Sw<|gC YV<|gC Up<|gC XS<|gC aq4<|gC fM<|gC ama<|gC amU<|gC aEj<|AL
def SW(x:Y1×Y3×A2):Option ((Y1×List Frame×A2)×A2):=(Ey (x.1,())).bind λe=>if A0 (x.2.1.2.2.2.2.2.2.1<=e.1.1.2.1) then(aU (3,x.2)).bind λb=>I ((x.1,([(Frame.mk b.1.1.1 b.1.1.2.1 b.1.1.2.2.1 b.1.1.2.2.2.1 b.1.1.2.2.2.2.1 b.1.1.2.2.2.2.2.1 b.1.1.2.2.2.2.2.2.1 b.1.1.2.2.2.2.2.2.2.1 b.1.1.2.2.2.2.2.2.2.2.1 b.1.1.2.2.2.2.2.2.2.2.2.1)]:List Frame),()),()) else(FB (e.1.1.2.2.2.1,x.2.1.2.2.2.1,x.2.1.2.2.2.2.1,())).bind λh=>if Ad (!(A0<|0<=h.1.1)) ((KT (e.1.1.2.2.2.2.1,x.2.1.2.2.2.1,x.2.1.2.2.2.2.1,())).isSome) then if(A0<|0<=h.1.1)||(A0<|0<=((KT (e.1.1.2.2.2.2.1,x.2.1.2.2.2.1,x.2.1.2.2.2.2.1,())).getD ((0,()),())).1.1) then(Nn ((x.1.2.2.1,x.1.2.2.2.1,()),())).bind λi=>(aU (2,x.2)).bind λc=>I (((x.1.1,x.1.2.1,i.1.1.1,i.1.1.2.1,x.1.2.2.2.2),([(Frame.mk c.1.1.1 c.1.1.2.1 c.1.1.2.2.1 c.1.1.2.2.2.1 c.1.1.2.2.2.2.1 c.1.1.2.2.2.2.2.1 c.1.1.2.2.2.2.2.2.1 c.1.1.2.2.2.2.2.2.2.1 c.1.1.2.2.2.2.2.2.2.2.1 c.1.1.2.2.2.2.2.2.2.2.2.1)]:List Frame),()),()) else if Ad (!(A0<|x.2.1.2.2.2.1=x.1.1)) ((LW (x.2.1.2.2.2.2.2.2.2.1,())).isSome) then if Ad (!(A0<|x.2.1.2.2.2.1=x.1.1)) ((Mg (((LW (x.2.1.2.2.2.2.2.2.2.1,())).getD ((0,()),())).1.1,x.2.1.2.2.2.2.2.2.2.2.1,())).isSome) then if(A0<|x.2.1.2.2.2.1=x.1.1)||(!(((Mg (((LW (x.2.1.2.2.2.2.2.2.2.1,())).getD ((0,()),())).1.1,x.2.1.2.2.2.2.2.2.2.2.1,())).getD ((A3,()),())).1.1)) then I ((x.1,([]:List Frame),()),()) else(dn x).bind λa=>if A0 (a.1.2.1<0) then I ((a.1.1,([]:List Frame),()),()) else if inb a.1.2.1 a.1.1.2.2.2.2.1.length then(aw (x.2.1.2.2.2.2.2.2.2.1,(rd (dfl .half) a.1.1.2.2.2.2.1 a.1.2.1).got,())).bind λj=>if !j.1.2.1 then I ((a.1.1,([]:List Frame),()),()) else(OZ (a.1.1.2.2.2.2.1,a.1.2)).bind λk=>(KZ ((x.2.1.2.2.2.1,x.2.1.2.2.2.2.1,x.2.1.2.2.2.2.2.1,x.2.1.2.2.2.2.2.2.1,j.1.1,()),())).bind λf=>if A0 (f.1.1=noB) then I (((a.1.1.1,a.1.1.2.1,a.1.1.2.2.1,a.1.1.2.2.2.1,k.1),([]:List Frame),()),()) else if A0 ((B [116,97,107,101,32]).size+f.1.1.size<=4611686018427387904) then(Jx ((a.1.1.1,a.1.1.2.1,a.1.1.2.2.1,a.1.1.2.2.2.1,k.1),((B [116,97,107,101,32])++f.1.1),A1,())).bind λg=>if !g.1.2.1 then I ((g.1.1,([]:List Frame),()),()) else(aU (2,x.2)).bind λd=>I ((g.1.1,([(Frame.mk d.1.1.1 d.1.1.2.1 d.1.1.2.2.1 d.1.1.2.2.2.1 d.1.1.2.2.2.2.1 d.1.1.2.2.2.2.2.1 d.1.1.2.2.2.2.2.2.1 d.1.1.2.2.2.2.2.2.2.1 d.1.1.2.2.2.2.2.2.2.2.1 d.1.1.2.2.2.2.2.2.2.2.2.1)]:List Frame),()),()) else U else U else U else U else U
def zL:Ent:=(135,U,⟨[Z1,Z4],[Z14,.fz .frame],SW⟩)
def auw:SQ Tryz.prog zL:=sk (v:= .nil) (fn:=Tryz.f135) adw kN
def azK:Cx:=cX [Gb,Jw,La,KC,bq,l9,zL,RH] [] []
def af0:OKC Tryz.prog azK AF:=okc mixed<|gC H7<|gC LB<|gC MK<|gC Ku<|gC nG<|gC vW<|gC auw<|gC Up<|AL
def SO(x:Y1×Y3×A2):Option ((Y1×List Frame×A2)×A2):=(Ip (x.1,())).bind λf=>if !f.1.1 then I (((0,A3,noB,0,([]:List AH),()),([]:List Frame),()),()) else(G7 (x.1,())).bind λa=>if !x.1.2.1 then I ((a.1.1,([]:List Frame),()),()) else(T8 x.2).bind λg=>if !g.1.1 then I ((a.1.1,([]:List Frame),()),()) else if !decide (x.2.1.2.2.1=x.1.1) then I ((a.1.1,([]:List Frame),()),()) else if A0 (x.2.1.1=1) then(SW (a.1.1,x.2)).bind λd=>(G7 (d.1.1,())).bind λh=>I ((h.1.1,d.1.2),()) else(Ey (x.1,())).bind λb=>(FB (b.1.1.2.2.2.1,x.2.1.2.2.2.1,x.2.1.2.2.2.2.1,())).bind λc=>if !decide (x.2.1.1=2) then I ((a.1.1,([]:List Frame),()),()) else if A0 (c.1.1<0) then I ((a.1.1,([]:List Frame),()),()) else if inb c.1.1 b.1.1.2.2.2.1.length then if !decide ((rd (dfl .note) b.1.1.2.2.2.1 c.1.1).un=x.2.1.2.2.2.2.2.2.1) then I ((a.1.1,([]:List Frame),()),()) else if inb c.1.1 b.1.1.2.2.2.1.length then if !decide ((rd (dfl .note) b.1.1.2.2.2.1 c.1.1).to=x.2.1.2.2.2.2.2.1) then I ((a.1.1,([]:List Frame),()),()) else(Nv (x.2.1.2.2.2.1,x.2.1.2.2.2.2.1,x.2.1.2.2.2.2.2.2.1,())).bind λe=>if A0 ((B [108,101,116,32]).size+e.1.1.size<=4611686018427387904) then(Jx (a.1.1,((B [108,101,116,32])++e.1.1),A3,())).bind λi=>I ((i.1.1,([]:List Frame),()),()) else U else U else U
def pY:Ent:=(90,U,⟨[Z14,Z4],[Z14,.fz .frame],SO⟩)
def abr:SQ Tryz.prog pY:=sk (v:= .nil) (fn:=Tryz.f90) af0 kN
def apr:Cx:=cX [ig] [] [(11,13)]
def aaQ:OKC Tryz.prog apr AF:=okc mixed<|gC ye<|AL
def WE(x:List AT×List Frame×Int×A2):Rnd (List AT×List Frame×Int×A2) (A2) (List AT×A2):=if(A0<|x.2.2.1<(x.2.1.length:Int))&&(A0<|(x.1.length:Int)<30) then if inb x.2.2.1 x.2.1.length then if inb x.2.2.1 x.2.1.length then if inb x.2.2.1 x.2.1.length then(PO (((rd (dfl .frame) x.2.1 x.2.2.1).ki,(rd (dfl .frame) x.2.1 x.2.2.1).src,(rd (dfl .frame) x.2.1 x.2.2.1).dst,(rd (dfl .frame) x.2.1 x.2.2.1).fr,(rd (dfl .frame) x.2.1 x.2.2.1).nu,(rd (dfl .frame) x.2.1 x.2.2.1).to,(rd (dfl .frame) x.2.1 x.2.2.1).un,(rd (dfl .frame) x.2.1 x.2.2.1).sz,(rd (dfl .frame) x.2.1 x.2.2.1).mix,(rd (dfl .frame) x.2.1 x.2.2.1).da,()),())).bind λa=>if Ac (x.1.length+([(AT.mk ((rd (dfl .frame) x.2.1 x.2.2.1).src) ((rd (dfl .frame) x.2.1 x.2.2.1).dst) (BH a.1.1) A3)]:List AT).length) then I (.inl ((x.1++([(AT.mk ((rd (dfl .frame) x.2.1 x.2.2.1).src) ((rd (dfl .frame) x.2.1 x.2.2.1).dst) (BH a.1.1) A3)]:List AT)),x.2.1,(w64<|x.2.2.1+1),())) else U else U else U else U else I (.inr<|.inr (x.1,()))
def ny:=AW WE
def zw:Loop:=⟨[(0,.row 53 .Ai),(1,.sl .frame),(5,.int .i64)],[(0,.row 53 .Ai)],0,[],ny⟩
def ayL:LF Tryz.f91 [] [1,0,1,0,0] zw:=sq (v:= .nil) aaQ (b:=WE) kN
def QU(x:List AT×List Frame×A2):Option ((List AT×A2)×A2):=(AO (ny (x.1,x.2.1,0,())) (λ_=>U) λa=>I (a,()))
def pa:Ent:=(91,U,⟨[.row 53 .Ai,.fz .frame],[.row 53 .Ai],QU⟩)
def aDG:SQ Tryz.prog pa:=sk (v:=t1<|.two (t1<|.one<|.loop zw) .nil) (fn:=Tryz.f91) aaQ<|kC ayL kN
def ah1:Cx:=cX [Gb,Jw,La,Py,RH] [] [(37,38)]
def apu:OKC Tryz.prog ah1 AF:=okc mixed<|gC H7<|gC LB<|gC MK<|gC Sw<|gC Up<|AL
def Ve(x:Y1×Int×Int×A4×A2):Option ((Y1×Int×A2)×A2):=(Ip (x.1,())).bind λd=>if !d.1.1 then I (((0,A3,noB,0,([]:List AH),()),0,()),()) else(Ey (x.1,())).bind λb=>(KZ ((x.1.1,b.1.1.2.2.1,x.2),())).bind λa=>if(!x.1.2.1)||(A0<|a.1.1=noB) then(G7 (x.1,())).bind λe=>I ((e.1.1,0,()),()) else(G7 (x.1,())).bind λf=>if A0 ((B [111,119,110,32]).size+a.1.1.size<=4611686018427387904) then(Jx (f.1.1,((B [111,119,110,32])++a.1.1),A1,())).bind λc=>if !c.1.2.1 then(G7 (x.1,())).bind λg=>I ((g.1.1,0,()),()) else I ((c.1.1,b.1.1.2.2.1,()),()) else U
def iv:Ent:=(137,U,⟨[Z14,.int .i64,.int .i64,.str],[Z14,.int .i64],Ve⟩)
def wC:SQ Tryz.prog iv:=sk (v:= .nil) (fn:=Tryz.f137) apu kN
def aoJ:Cx:=cX [Gb,Jw,La,MM,RH] [] [(19,21)]
def asH:OKC Tryz.prog aoJ AF:=okc mixed<|gC H7<|gC LB<|gC MK<|gC Ms<|gC Up<|AL
def V4(x:Y1×A2):Option ((Y1×Bool×A2)×A2):=(Ip x).bind λc=>if !c.1.1 then I (((0,A3,noB,0,([]:List AH),()),A3,()),()) else(Ey x).bind λa=>if(!x.1.2.1)||(A0<|999<=a.1.1.2.1) then(G7 x).bind λd=>I ((d.1.1,A3,()),()) else(G7 x).bind λe=>(DO ((w64<|a.1.1.2.1+1),())).bind λb=>if A0 ((B [116,105,109,101,32]).size+b.1.1.size<=4611686018427387904) then(Jx (e.1.1,((B [116,105,109,101,32])++b.1.1),A1,())).bind λf=>I (f.1,()) else U
def oW:Ent:=(93,U,⟨[Z14],[Z14,.bool],V4⟩)
def acG:SQ Tryz.prog oW:=sk (v:= .nil) (fn:=Tryz.f93) asH kN
def asf:Cx:=cX [VX] [] [(12,14)]
def kv:OKC Tryz.prog asf AF:=okc mixed<|gC YV<|AL
def YH(x:A4×List A4×Int×List Int×Int×A2):Rnd (A4×List A4×Int×List Int×Int×A2) (A2) (A4×List A4×Int×List Int×A2):=if A0 (x.2.2.2.2.1<(w64<|(w64<|x.2.2.1+1) * 4)) then if A0 (x.2.2.2.2.1<(x.1.size:Int)) then if inb x.2.2.2.2.1 x.1.size then if Ac (x.2.2.2.1.length+([(bt x.1 x.2.2.2.2.1)]:List Int).length) then I (.inl (x.1,x.2.1,x.2.2.1,(x.2.2.2.1++([(bt x.1 x.2.2.2.2.1)]:List Int)),(w64<|x.2.2.2.2.1+1),())) else U else U else if Ac (x.2.2.2.1.length+([0]:List Int).length) then I (.inl (x.1,x.2.1,x.2.2.1,(x.2.2.2.1++([0]:List Int)),(w64<|x.2.2.2.2.1+1),())) else U else I (.inr<|.inr (x.1,x.2.1,x.2.2.1,x.2.2.2.1,()))
def sQ:=AW YH
def aBv:Loop:=⟨[(0,.str),(3,.row 9 .str),(4,.int .i64),(5,.row 5 .u8),(6,.int .i64)],[(0,.str),(3,.row 9 .str),(4,.int .i64),(5,.row 5 .u8)],2,[],sQ⟩
def ag5:LF Tryz.f172 [] [1,1,1,0,1,0,0,1,0,0,1,0,1,0,0] aBv:=sq (v:= .nil) kv (b:=YH) kN
def Wl(x:A4×List A4×Int×A2):Rnd (A4×List A4×Int×A2) (A2) (List A4×A2):=(LW ((x.1.size:Int),())).bind λb=>if A0 (x.2.2.1<b.1.1) then(AO (sQ (x.1,x.2.1,x.2.2.1,([]:List Int),(w64<|x.2.2.1 * 4),())) (λ_=>I<|.inr<|.inl ()) λa=>(if Ac (a.2.1.length+([(BH a.2.2.2.1)]:List A4).length) then I (.inl (a.1,(a.2.1++([(BH a.2.2.2.1)]:List A4)),(w64<|a.2.2.1+1),())) else U)) else I (.inr<|.inr (x.2.1,()))
def nY:=AW Wl
def aFu:Loop:=⟨[(0,.str),(3,.row 9 .str),(4,.int .i64)],[(3,.row 9 .str)],0,[],nY⟩
def aj8:LF Tryz.f172 [] [1,1,1,0,1,0,0] aFu:=sq (v:=t1<|.two (.one<|t1<|.two (t1<|.one<|.loop aBv) .nil) .nil) kv (b:=Wl)<|kC ag5 kN
def eW(x:A4×A2):Option ((List A4×A2)×A2):=if(A0<|(x.1.size:Int)<1)||(A0<|24<(x.1.size:Int)) then I ((([]:List A4),()),()) else(AO (nY (x.1,([]:List A4),0,())) (λ_=>U) λa=>I (a,()))
def aBG:Ent:=(172,U,⟨[.str],[.row 9 .str],eW⟩)
def amv:SQ Tryz.prog aBG:=sk (v:=t1<|t1<|t1<|.two (t1<|.one<|.loop aFu) .nil) (fn:=Tryz.f172) kv<|kC aj8 kN
def as6:Cx:=cX [] [] []
def ade:OKC Tryz.prog as6 AF:=okc mixed<|AL
def la(x:A2):Option ((A4×A2)×A2):=if A0 (0<=4)&&A0 (4<=4294967296) then let a:=(BH<|BW (AM 4)<|dfl .u8);I ((a,()),()) else U
def aaN:Ent:=(174,U,⟨[],[.str],la⟩)
def awc:SQ Tryz.prog aaN:=sk (v:= .nil) (fn:=Tryz.f174) ade kN
def ayd:Cx:=cX [aBG,oB,aaN,lq] [] [(19,21)]
def zh:OKC Tryz.prog ayd AF:=okc mixed<|gC amv<|gC vA<|gC awc<|gC ya<|AL
def cb(x:List A4×List Int×A4×Int×A2):Rnd (List A4×List Int×A4×Int×A2) (A2) (A4×A2):=if A0 (x.2.2.2.1<(x.2.1.length:Int)) then if inb x.2.2.2.1 x.2.1.length then if inb (rd (dfl .int) x.2.1 x.2.2.2.1) x.1.length then(Se (x.2.2.1,(rd (dfl .str) x.1<|rd (dfl .int) x.2.1 x.2.2.2.1),())).bind λa=>I (.inl (x.1,x.2.1,a.1.1,(w64<|x.2.2.2.1+1),())) else U else U else I (.inr<|.inr (x.2.2.1,()))
def cL:=AW cb
def aCe:Loop:=⟨[(5,.row 9 .str),(6,.row 3 .int),(7,.str),(8,.int .i64)],[(7,.str)],0,[],cL⟩
def ap5:LF Tryz.f138 [] [1,1,1,1,1,0,1,0,0] aCe:=sq (v:= .nil) zh (b:=cb) kN
def YU(x:A4×Int×A2):Option ((A4×A2)×A2):=(eW (x.1,())).bind λa=>(SI ((a.1.1.length:Int),x.2)).bind λb=>if(A0<|(a.1.1.length:Int)=0)||(A0<|(b.1.1.length:Int)=0) then I ((noB,()),()) else(la ()).bind λc=>(AO (cL (a.1.1,b.1.1,c.1.1,0,())) (λ_=>U) λd=>I (d,()))
def x9:Ent:=(138,U,⟨[.str,.int .i64],[.str],YU⟩)
def afK:SQ Tryz.prog x9:=sk (v:=t1<|t1<|t1<|t1<|t1<|.two (t1<|.one<|.loop aCe) .nil) (fn:=Tryz.f138) zh<|kC ap5 kN
def aoR:Cx:=cX [Gb,H6,Jw,KC,Wb,x9] [] [(18,20),(36,38)]
def azd:OKC Tryz.prog aoR AF:=okc mixed<|gC H7<|gC HI<|gC LB<|gC Ku<|gC lu<|gC afK<|AL
def UG(x:Y1×Int×Int×Int×A2):Option ((Y3×Bool×A2)×A2):=(Ip (x.1,())).bind λe=>if(!e.1.1)||(!x.1.2.1) then I (((0,0,0,0,0,0,0,0,0,noB,()),A3,()),()) else(Ey (x.1,())).bind λb=>(FB (b.1.1.2.2.2.1,x.2.1,x.2.2.1,())).bind λa=>if Ad (!(A0<|a.1.1<0)) ((DK (x.2.2.2.1,0,999,())).isSome) then if(A0<|a.1.1<0)||(!(((DK (x.2.2.2.1,0,999,())).getD ((A3,()),())).1.1)) then I (((0,0,0,0,0,0,0,0,0,noB,()),A3,()),()) else if inb a.1.1 b.1.1.2.2.2.1.length then let f:=(rd (dfl .note) b.1.1.2.2.2.1 a.1.1).fr;let g:=(rd (dfl .note) b.1.1.2.2.2.1 a.1.1).nu;let c:=(rd (dfl .note) b.1.1.2.2.2.1 a.1.1).to;let h:=(rd (dfl .note) b.1.1.2.2.2.1 a.1.1).un;let d:=(rd (dfl .note) b.1.1.2.2.2.1 a.1.1).tx;(L3 (x.1.1,c,())).bind λi=>(YU (d,x.2.2.2)).bind λj=>I (((1,x.1.1,i.1.1,f,g,c,h,(d.size:Int),x.2.2.2.1,j.1),A1,()),()) else U else U
def kt:Ent:=(94,U,⟨[Z14,.int .i64,.int .i64,.int .i64],[Z4,.bool],UG⟩)
def yM:SQ Tryz.prog kt:=sk (v:= .nil) (fn:=Tryz.f94) azd kN
def aml:Cx:=cX [QI,Qi] [] []
def auA:OKC Tryz.prog aml AF:=okc mixed<|gC VI<|gC T5<|AL
def Yn(x:Y7×Int×A2):Option ((Y7×A2)×A2):=(N2 (x.1,())).bind λd=>if !d.1.1 then I (((noB,0,()),()),()) else(BF (X:=Int×Y7×Y7×Int×A2) (λb=>(BF (X:=Y7×Y7×Int×A2) (λa=>if A0 (0<=a.2.2.1)&&A0 (a.2.2.1<=(a.1.1.size:Int)) then(Jz ((a.1.1.extract (0)<|AM a.2.2.1),())).bind λc=>if A0 (0<=c.1.2.1)&&A0 (c.1.2.1<=(a.1.1.size:Int)) then let e:=(a.1.1.extract (0)<|AM c.1.2.1);I (((e,c.1.2),()),()) else U else U)<|(if A0 (0<b.1) then let f:=(w64<|b.2.2.2.1+b.1);I (.inr (b.2.1,b.2.2.1,f,())) else I (.inr b.2))))<|(if A0 ((w64<|(x.1.1.size:Int) - x.1.2.1)<x.2.1) then let g:=(w64<|(x.1.1.size:Int) - x.1.2.1);I (.inr (g,x.1,(noB,0,()),x.1.2)) else I (.inr (x.2.1,x.1,(noB,0,()),x.1.2))))
def aFh:Ent:=(139,U,⟨[Z15,.int .i64],[Z15],Yn⟩)
def ayy:SQ Tryz.prog aFh:=sk (v:=t1<|t1<|t1<|.join [(1,.int .i64),(2,Z21),(4,Z21),(5,.int .i64)] .nil<|.join [(2,Z21),(4,Z21),(5,.int .i64)] .nil .nil) (fn:=Tryz.f139) auA kN
def apY:Cx:=cX [Jw,aFh] [] []
def ale:OKC Tryz.prog apY AF:=okc mixed<|gC LB<|gC ayy<|AL
def VY(x:Y1×Int×A2):Option ((Y1×A2)×A2):=(Ip (x.1,())).bind λb=>if !b.1.1 then I (((0,A3,noB,0,([]:List AH),()),()),()) else(Yn ((x.1.2.2.1,x.1.2.2.2.1,()),x.2)).bind λa=>I (((x.1.1,A3,a.1.1.1,a.1.1.2.1,([]:List AH),()),()),())
def qe:Ent:=(95,U,⟨[Z14,.int .i64],[Z1],VY⟩)
def adK:SQ Tryz.prog qe:=sk (v:= .nil) (fn:=Tryz.f95) ale kN
def al6:Cx:=cX [Jw,La] [] []
def ai8:OKC Tryz.prog al6 AF:=okc mixed<|gC LB<|gC MK<|AL
def UL(x:Y1×A2):Option ((Y1×A2)×A2):=(Ip x).bind λa=>if !a.1.1 then I (((0,A3,noB,0,([]:List AH),()),()),()) else if x.1.2.1 then(G7 x).bind λb=>I (b.1,()) else I (((x.1.1,A1,x.1.2.2.1,x.1.2.2.2.1,([]:List AH),()),()),())
def lV:Ent:=(96,U,⟨[Z14],[Z1],UL⟩)
def tY:SQ Tryz.prog lV:=sk (v:= .nil) (fn:=Tryz.f96) ai8 kN
def aqa:Cx:=cX [Gb,Jw,La,KC,bq,RH] [] [(33,34)]
def ax9:OKC Tryz.prog aqa AF:=okc mixed<|gC H7<|gC LB<|gC MK<|gC Ku<|gC nG<|gC Up<|AL
def Sa(x:Y1×Int×Int×A2):Option ((Y1×Y5×Bool×A2)×A2):=(Ip (x.1,())).bind λe=>if !e.1.1 then I (((0,A3,noB,0,([]:List AH),()),(0,0,0,0,noB,()),A3,()),()) else(Ey (x.1,())).bind λa=>(FB (a.1.1.2.2.2.2.2.1,x.2)).bind λb=>if(!x.1.2.1)||(A0<|b.1.1<0) then(G7 (x.1,())).bind λf=>I ((f.1.1,(0,0,0,0,noB,()),A3,()),()) else(G7 (x.1,())).bind λg=>if inb b.1.1 a.1.1.2.2.2.2.2.1.length then(Nv (x.2.1,x.2.2.1,(rd (dfl .note) a.1.1.2.2.2.2.2.1 b.1.1).un,())).bind λc=>if A0 ((B [101,97,116,32]).size+c.1.1.size<=4611686018427387904) then(Jx (g.1.1,((B [101,97,116,32])++c.1.1),A1,())).bind λd=>if !d.1.2.1 then(G7 (x.1,())).bind λh=>I ((h.1.1,(0,0,0,0,noB,()),A3,()),()) else if inb b.1.1 a.1.1.2.2.2.2.2.1.length then let i:=(rd (dfl .note) a.1.1.2.2.2.2.2.1 b.1.1).fr;let j:=(rd (dfl .note) a.1.1.2.2.2.2.2.1 b.1.1).nu;let k:=(rd (dfl .note) a.1.1.2.2.2.2.2.1 b.1.1).to;let l:=(rd (dfl .note) a.1.1.2.2.2.2.2.1 b.1.1).un;let m:=(rd (dfl .note) a.1.1.2.2.2.2.2.1 b.1.1).tx;I ((d.1.1,(i,j,k,l,m,()),A1,()),()) else U else U else U
def nJ:Ent:=(97,U,⟨[Z14,.int .i64,.int .i64],[Z14,Z8,.bool],Sa⟩)
def aaw:SQ Tryz.prog nJ:=sk (v:= .nil) (fn:=Tryz.f97) ax9 kN
def ayR:Cx:=cX [Gb,Jw,La,mv,pV] [] [(32,33)]
def aeE:OKC Tryz.prog ayR AF:=okc mixed<|gC H7<|gC LB<|gC MK<|gC tQ<|gC aAN<|AL
def Sg(x:Y1×A2):Option ((Y1×Bool×A2)×A2):=(Ip x).bind λc=>if !c.1.1 then I (((0,A3,noB,0,([]:List AH),()),A3,()),()) else(G7 x).bind λa=>(Ey x).bind λd=>(U0 (d.1.1,())).bind λe=>(QQ ((x.1.2.2.1,x.1.2.2.2.1,()),e.1)).bind λb=>if(!x.1.2.1)||(!b.1.2.1) then I ((a.1.1,A3,()),()) else I (((a.1.1.1,a.1.1.2.1,b.1.1.1,b.1.1.2.1,a.1.1.2.2.2.2),A1,()),())
def rG:Ent:=(98,U,⟨[Z14],[Z14,.bool],Sg⟩)
def aEh:SQ Tryz.prog rG:=sk (v:= .nil) (fn:=Tryz.f98) aeE kN
def agT:Cx:=cX [Jw,La,Sn] [] [(15,22)]
def apJ:OKC Tryz.prog agT AF:=okc mixed<|gC LB<|gC MK<|gC aW<|AL
def SY(x:Y1×A2):Option ((Y1×Bool×A2)×A2):=(Ip x).bind λc=>if !c.1.1 then I (((0,A3,noB,0,([]:List AH),()),A3,()),()) else(G7 x).bind λa=>if(!x.1.2.1)||(A0<|x.1.2.2.2.1=(x.1.2.2.1.size:Int)) then I ((a.1.1,A3,()),()) else(Nn ((x.1.2.2.1,x.1.2.2.2.1,()),())).bind λb=>I (((a.1.1.1,a.1.1.2.1,b.1.1.1,b.1.1.2.1,a.1.1.2.2.2.2),A1,()),())
def pt:Ent:=(99,U,⟨[Z14],[Z14,.bool],SY⟩)
def aaO:SQ Tryz.prog pt:=sk (v:= .nil) (fn:=Tryz.f99) apJ kN
def ad1:Cx:=cX [H6,IX,l6,jQ,pY,pa,oW,kt,qe,lV,nJ,rG,pt,iv] [] []
def awL:OKC Tryz.prog ad1 (Nc ad1 2):=adM 2 mixed<|gC HI<|gC Ij<|gC tc<|gC aCX<|gC abr<|gC aDG<|gC acG<|gC yM<|gC adK<|gC tY<|gC aaw<|gC aEh<|gC aaO<|gC wC<|AL
abbrev ZE:Type:=Int×Int×Int×Int×Int×Int×Int×Int×Int×A4×A2
def Rt{Ω:Type}(a:List AA)(c:List AT)(e:ZE)(p:AT)(K:List AA->List AT->Option Ω):Option Ω:=
 if(A0<|e.1=5) then
 K a c
 else
 if Ac p.data.size then
 (Xv ((BA p.data),())).bind λr=>
 if(!r.1.2.1) then
 K a c
 else
 if(!decide (r.1.1.2.1=p.src)) then
 K a c
 else
 if(!decide (r.1.1.2.2.1=p.dst)) then
 K a c
 else
 if inb p.dst a.length then
 (SO (((rd (dfl .AN) a p.dst).id,(rd (dfl .AN) a p.dst).up,(rd (dfl .AN) a p.dst).log,(rd (dfl .AN) a p.dst).fo,(rd (dfl .AN) a p.dst).AE,()),r.1.1,())).bind λq=>
 if inb p.dst a.length then
 (QU (c,q.1.2)).bind λs=>
 K (Bq a (AM p.dst)<|AA.mk q.1.1.1 q.1.1.2.1 q.1.1.2.2.1 q.1.1.2.2.2.1 q.1.1.2.2.2.2.1) s.1.1
 else U
 else U
 else U
def eJ{Ω:Type}(a:List AA)(c:List AT)(e:ZE)(p:AT)(K:List AA->List AT->Option Ω):Option Ω:=
 if(A0 (0<=e.2.2.2.2.1)&&A0 (e.2.2.2.2.1<=(c.length:Int))) then
 if Ac (([]:List AT).length+(BU (AM e.2.2.2.2.1) c).length) then
 if(A0 (0<=(w64<|e.2.2.2.2.1+1))&&A0 ((w64<|e.2.2.2.2.1+1)<=(c.length:Int))) then
 if Ac ((([]:List AT)++(BU (AM e.2.2.2.2.1) c)).length+(Bs (AM<|w64<|e.2.2.2.2.1+1) c).length) then
 Rt a ((([]:List AT)++(BU (AM e.2.2.2.2.1) c))++(Bs (AM<|w64<|e.2.2.2.2.1+1) c)) e p K
 else U
 else U
 else U
 else U
def bM{Ω:Type}(a:List AA)(c:List AT)(e:ZE)(p:AT)(K:List AA->List AT->Option Ω):Option Ω:=
 if(A0<|e.1=5) then
 eJ a c e p K
 else
 if(A0<|e.2.2.2.2.2.2.1=0) then
 eJ a c e p K
 else
 Rt a c e p K
def Qx{Ω:Type}(a:List AA)(b:List Bool)(c:List AT)(e:ZE)(K:List AA->List AT->Option Ω)(F:Option Ω):Option Ω:=
 (DK (e.2.2.2.2.1,0,(w64<|(c.length:Int) - 1),())).bind λr=>
 if(!r.1.1) then
 F
 else
 if inb e.2.2.2.2.1 c.length then
 if(A0<|e.1=6) then
 if(rd (dfl .Ai) c e.2.2.2.2.1).sp then
 F
 else
 (DK (e.2.2.2.2.2.1,0,(w64<|((rd (dfl .Ai) c e.2.2.2.2.1).data.size:Int) - 1),())).bind λr=>
 if(!r.1.1) then
 F
 else
 (DK (e.2.2.2.2.2.2.1,1,255,())).bind λr=>
 if(!r.1.1) then
 F
 else
 if Ac (rd (dfl .Ai) c e.2.2.2.2.1).data.size then
 if inb e.2.2.2.2.2.1 ((BA (rd (dfl .Ai) c e.2.2.2.2.1).data).length) then
 if inb e.2.2.2.2.2.1 ((BA (rd (dfl .Ai) c e.2.2.2.2.1).data).length) then
 if inb e.2.2.2.2.1 c.length then
 if inb e.2.2.2.2.1 ((Bq c (AM e.2.2.2.2.1)<|AT.mk ((rd (dfl .Ai) c e.2.2.2.2.1).src) ((rd (dfl .Ai) c e.2.2.2.2.1).dst) (BH<|Bq (BA (rd (dfl .Ai) c e.2.2.2.2.1).data) (AM e.2.2.2.2.2.1)<|Dm .u8 (rd (dfl .u8) (BA (rd (dfl .Ai) c e.2.2.2.2.1).data) e.2.2.2.2.2.1)<|w8 e.2.2.2.2.2.2.1)<|(rd (dfl .Ai) c e.2.2.2.2.1).sp).length) then
 K a (Bq (Bq c (AM e.2.2.2.2.1)<|AT.mk ((rd (dfl .Ai) c e.2.2.2.2.1).src) ((rd (dfl .Ai) c e.2.2.2.2.1).dst) (BH<|Bq (BA (rd (dfl .Ai) c e.2.2.2.2.1).data) (AM e.2.2.2.2.2.1)<|Dm .u8 (rd (dfl .u8) (BA (rd (dfl .Ai) c e.2.2.2.2.1).data) e.2.2.2.2.2.1)<|w8 e.2.2.2.2.2.2.1)<|(rd (dfl .Ai) c e.2.2.2.2.1).sp) (AM e.2.2.2.2.1)<|AT.mk ((rd (dfl .Ai) (Bq c (AM e.2.2.2.2.1)<|AT.mk ((rd (dfl .Ai) c e.2.2.2.2.1).src) ((rd (dfl .Ai) c e.2.2.2.2.1).dst) (BH<|Bq (BA (rd (dfl .Ai) c e.2.2.2.2.1).data) (AM e.2.2.2.2.2.1)<|Dm .u8 (rd (dfl .u8) (BA (rd (dfl .Ai) c e.2.2.2.2.1).data) e.2.2.2.2.2.1)<|w8 e.2.2.2.2.2.2.1)<|(rd (dfl .Ai) c e.2.2.2.2.1).sp) e.2.2.2.2.1).src) ((rd (dfl .Ai) (Bq c (AM e.2.2.2.2.1)<|AT.mk ((rd (dfl .Ai) c e.2.2.2.2.1).src) ((rd (dfl .Ai) c e.2.2.2.2.1).dst) (BH<|Bq (BA (rd (dfl .Ai) c e.2.2.2.2.1).data) (AM e.2.2.2.2.2.1)<|Dm .u8 (rd (dfl .u8) (BA (rd (dfl .Ai) c e.2.2.2.2.1).data) e.2.2.2.2.2.1)<|w8 e.2.2.2.2.2.2.1)<|(rd (dfl .Ai) c e.2.2.2.2.1).sp) e.2.2.2.2.1).dst) ((rd (dfl .Ai) (Bq c (AM e.2.2.2.2.1)<|AT.mk ((rd (dfl .Ai) c e.2.2.2.2.1).src) ((rd (dfl .Ai) c e.2.2.2.2.1).dst) (BH<|Bq (BA (rd (dfl .Ai) c e.2.2.2.2.1).data) (AM e.2.2.2.2.2.1)<|Dm .u8 (rd (dfl .u8) (BA (rd (dfl .Ai) c e.2.2.2.2.1).data) e.2.2.2.2.2.1)<|w8 e.2.2.2.2.2.2.1)<|(rd (dfl .Ai) c e.2.2.2.2.1).sp) e.2.2.2.2.1).data) A1)
 else U
 else U
 else U
 else U
 else U
 else
 if(A0<|e.1=4) then
 (cE ((rd (dfl .Ai) c e.2.2.2.2.1).src,(rd (dfl .Ai) c e.2.2.2.2.1).dst,())).bind λr=>
 if inb r.1.1 b.length then
 if(!(rd (dfl .bool) b r.1.1)) then
 F
 else
 bM a c e (rd (dfl .Ai) c e.2.2.2.2.1) K
 else U
 else
 bM a c e (rd (dfl .Ai) c e.2.2.2.2.1) K
 else U
def Ss{Ω:Type}(b:List Bool)(e:ZE)(K:List Bool->Option Ω)(F:Option Ω):Option Ω:=
 (DK (e.2.1,0,(w64<|(b.length:Int) - 1),())).bind λr=>
 if(!r.1.1) then
 F
 else
 if inb e.2.1 b.length then
 if(A0<|(rd (dfl .bool) b e.2.1)=(A0<|e.1=9)) then
 F
 else
 if inb e.2.1 b.length then
 K (Bq b (AM e.2.1)<|A0<|e.1=9)
 else U
 else U
def kE{Ω:Type}(a:List AA)(c:List AT)(d g:List A7)(e:ZE)(K:List AA->List A7->List A7->Option Ω)(F:Option Ω)(Kv:List AA->Bool->Option Ω)(Km:List AT->Bool->Option Ω)(Kz:Bool->Option Ω):Option Ω:=
 (FN (e.2.1,())).bind λr=>
 if(!r.1.1) then
 F
 else
 if inb e.2.1 a.length then
 if(A0<|e.1=1) then
 if(A0<|6<=(d.length:Int)) then
 F
 else
 if inb e.2.1 a.length then
 (Ve (((rd (dfl .AN) a e.2.1).id,(rd (dfl .AN) a e.2.1).up,(rd (dfl .AN) a e.2.1).log,(rd (dfl .AN) a e.2.1).fo,(rd (dfl .AN) a e.2.1).AE,()),e.2.2.2.2.2.2.2)).bind λr=>
 if(A0<|r.1.2.1=0) then
 F
 else
 if inb e.2.1 a.length then
 if Ac (d.length+([(A7.mk e.2.1 r.1.2.1 e.2.2.2.2.2.2.2.1 e.2.2.2.2.2.2.2.2.1 e.2.2.2.2.2.2.2.2.2.1)]:List A7).length) then
 K (Bq a (AM e.2.1)<|AA.mk r.1.1.1 r.1.1.2.1 r.1.1.2.2.1 r.1.1.2.2.2.1 r.1.1.2.2.2.2.1) (d++([(A7.mk e.2.1 r.1.2.1 e.2.2.2.2.2.2.2.1 e.2.2.2.2.2.2.2.2.1 e.2.2.2.2.2.2.2.2.2.1)]:List A7)) g
 else U
 else U
 else U
 else
 if(A0<|e.1=2) then
 (V4 (((rd (dfl .AN) a e.2.1).id,(rd (dfl .AN) a e.2.1).up,(rd (dfl .AN) a e.2.1).log,(rd (dfl .AN) a e.2.1).fo,(rd (dfl .AN) a e.2.1).AE,()),())).bind λr=>
 if inb e.2.1 a.length then
 Kv (Bq a (AM e.2.1)<|AA.mk r.1.1.1 r.1.1.2.1 r.1.1.2.2.1 r.1.1.2.2.2.1 r.1.1.2.2.2.2.1) r.1.2.1
 else U
 else
 if(A0<|e.1=3) then
 (UG (((rd (dfl .AN) a e.2.1).id,(rd (dfl .AN) a e.2.1).up,(rd (dfl .AN) a e.2.1).log,(rd (dfl .AN) a e.2.1).fo,(rd (dfl .AN) a e.2.1).AE,()),e.2.2.1,e.2.2.2.1,e.2.2.2.2.2.1,())).bind λr=>
 if r.1.2.1 then
 (QU (c,([(Frame.mk r.1.1.1 r.1.1.2.1 r.1.1.2.2.1 r.1.1.2.2.2.1 r.1.1.2.2.2.2.1 r.1.1.2.2.2.2.2.1 r.1.1.2.2.2.2.2.2.1 r.1.1.2.2.2.2.2.2.2.1 r.1.1.2.2.2.2.2.2.2.2.1 r.1.1.2.2.2.2.2.2.2.2.2.1)]:List Frame),())).bind λs=>
 Km s.1.1 r.1.2.1
 else
 Kz r.1.2.1
 else
 if(A0<|e.1=7) then
 (VY (((rd (dfl .AN) a e.2.1).id,(rd (dfl .AN) a e.2.1).up,(rd (dfl .AN) a e.2.1).log,(rd (dfl .AN) a e.2.1).fo,(rd (dfl .AN) a e.2.1).AE,()),e.2.2.2.2.2.2.1,())).bind λr=>
 if inb e.2.1 a.length then
 Kv (Bq a (AM e.2.1)<|AA.mk r.1.1.1 r.1.1.2.1 r.1.1.2.2.1 r.1.1.2.2.2.1 r.1.1.2.2.2.2.1) (rd (dfl .AN) a e.2.1).up
 else U
 else
 if(A0<|e.1=8) then
 (UL (((rd (dfl .AN) a e.2.1).id,(rd (dfl .AN) a e.2.1).up,(rd (dfl .AN) a e.2.1).log,(rd (dfl .AN) a e.2.1).fo,(rd (dfl .AN) a e.2.1).AE,()),())).bind λr=>
 if inb e.2.1 a.length then
 Kv (Bq a (AM e.2.1)<|AA.mk r.1.1.1 r.1.1.2.1 r.1.1.2.2.1 r.1.1.2.2.2.1 r.1.1.2.2.2.2.1) (!(rd (dfl .AN) a e.2.1).up)
 else U
 else
 if(A0<|e.1=11) then
 (Sa (((rd (dfl .AN) a e.2.1).id,(rd (dfl .AN) a e.2.1).up,(rd (dfl .AN) a e.2.1).log,(rd (dfl .AN) a e.2.1).fo,(rd (dfl .AN) a e.2.1).AE,()),e.2.2.1,e.2.2.2.1,())).bind λr=>
 if r.1.2.2.1 then
 if(A0<|(g.length:Int)<6) then
 if inb e.2.1 a.length then
 if Ac (g.length+([(A7.mk r.1.2.1.1 r.1.2.1.2.1 r.1.2.1.2.2.1 r.1.2.1.2.2.2.1 r.1.2.1.2.2.2.2.1)]:List A7).length) then
 K (Bq a (AM e.2.1)<|AA.mk r.1.1.1 r.1.1.2.1 r.1.1.2.2.1 r.1.1.2.2.2.1 r.1.1.2.2.2.2.1) d (g++([(A7.mk r.1.2.1.1 r.1.2.1.2.1 r.1.2.1.2.2.1 r.1.2.1.2.2.2.1 r.1.2.1.2.2.2.2.1)]:List A7))
 else U
 else U
 else
 F
 else
 F
 else
 if(A0<|e.1=12) then
 (Sg (((rd (dfl .AN) a e.2.1).id,(rd (dfl .AN) a e.2.1).up,(rd (dfl .AN) a e.2.1).log,(rd (dfl .AN) a e.2.1).fo,(rd (dfl .AN) a e.2.1).AE,()),())).bind λr=>
 if inb e.2.1 a.length then
 Kv (Bq a (AM e.2.1)<|AA.mk r.1.1.1 r.1.1.2.1 r.1.1.2.2.1 r.1.1.2.2.2.1 r.1.1.2.2.2.2.1) r.1.2.1
 else U
 else
 if(A0<|e.1=13) then
 (SY (((rd (dfl .AN) a e.2.1).id,(rd (dfl .AN) a e.2.1).up,(rd (dfl .AN) a e.2.1).log,(rd (dfl .AN) a e.2.1).fo,(rd (dfl .AN) a e.2.1).AE,()),())).bind λr=>
 if inb e.2.1 a.length then
 Kv (Bq a (AM e.2.1)<|AA.mk r.1.1.1 r.1.1.2.1 r.1.1.2.2.1 r.1.1.2.2.2.1 r.1.1.2.2.2.2.1) r.1.2.1
 else U
 else
 F
 else U
def doK{Ω:Type}(a:List AA)(b:List Bool)(c:List AT)(d g:List A7)(e:ZE)(K:List AA->List Bool->List AT->List A7->List A7->Option Ω)(F:Option Ω)(Kv:List AA->Bool->Option Ω)(Km:List AT->Bool->Option Ω)(Kz:Bool->Option Ω):Option Ω:=
 if(A0<|e.1=4) then
 Qx a b c e (λx y=>K x b y d g) F
 else
 if(A0<|e.1=5) then
 Qx a b c e (λx y=>K x b y d g) F
 else
 if(A0<|e.1=6) then
 Qx a b c e (λx y=>K x b y d g) F
 else
 if(A0<|e.1=9) then
 Ss b e (λy=>K a y c d g) F
 else
 if(A0<|e.1=10) then
 Ss b e (λy=>K a y c d g) F
 else
 kE a c d g e (λx y z=>K x b c y z) F Kv Km Kz
def Us(x:Y2×Y3×A2):Option ((Y2×Bool×A2)×A2):=(doK x.1.2.1 x.1.2.2.1 x.1.2.2.2.1 x.1.2.2.2.2.1 x.1.2.2.2.2.2.1 x.2.1 (λk l r s g=>I ((((w64<|x.1.1+1),k,l,r,s,g,()),A1,()),())) (I ((((w64<|x.1.1+1),x.1.2),A3,()),())) (λk b=>I ((((w64<|x.1.1+1),k,x.1.2.2.1,x.1.2.2.2.1,x.1.2.2.2.2.1,x.1.2.2.2.2.2.1,()),b,()),())) (λr b=>I ((((w64<|x.1.1+1),x.1.2.1,x.1.2.2.1,r,x.1.2.2.2.2.1,x.1.2.2.2.2.2.1,()),b,()),())) λb=>I ((((w64<|x.1.1+1),x.1.2.1,x.1.2.2.1,x.1.2.2.2.1,x.1.2.2.2.2.1,x.1.2.2.2.2.2.1,()),b,()),()))
def uq:Ent:=(24,U,⟨[Z3,Z4],[Z3,.bool],Us⟩)
def azs:SQ Tryz.prog uq:=sk (v:= .nil) (fn:=Tryz.f24) awL kN
def Qb:Cx:=cX [H6,IX,l6,jQ,pY,pa,oW,kt,qe,lV,nJ,rG,pt,iv] [] []
def ajr:OKC Tryz.prog Qb (Nc Qb 3):=adM 3 mixed<|gC HI<|gC Ij<|gC tc<|gC aCX<|gC abr<|gC aDG<|gC acG<|gC yM<|gC adK<|gC tY<|gC aaw<|gC aEh<|gC aaO<|gC wC<|AL
def FI(x:Y10×Y3×A2):Option ((Bool×A2)×(Y10×A2)):=(doK x.1.2.2.1 x.1.2.2.2.1 x.1.2.2.2.2.1 x.1.2.2.2.2.2.1 x.1.2.2.2.2.2.2.1 x.2.1 (λk l r s g=>if Ac (x.1.2.2.2.2.2.2.2.1.length+([(Event.mk x.2.1.1 x.2.1.2.1 x.2.1.2.2.1 x.2.1.2.2.2.1 x.2.1.2.2.2.2.1 x.2.1.2.2.2.2.2.1 x.2.1.2.2.2.2.2.2.1 x.2.1.2.2.2.2.2.2.2.1 x.2.1.2.2.2.2.2.2.2.2.1 x.2.1.2.2.2.2.2.2.2.2.2.1)]:List Event).length) then I ((A1,()),((x.1.1,(w64<|x.1.2.1+1),k,l,r,s,g,(x.1.2.2.2.2.2.2.2.1++([(Event.mk x.2.1.1 x.2.1.2.1 x.2.1.2.2.1 x.2.1.2.2.2.1 x.2.1.2.2.2.2.1 x.2.1.2.2.2.2.2.1 x.2.1.2.2.2.2.2.2.1 x.2.1.2.2.2.2.2.2.2.1 x.2.1.2.2.2.2.2.2.2.2.1 x.2.1.2.2.2.2.2.2.2.2.2.1)]:List Event)),()),())) else U) (I ((A3,()),(x.1,()))) (λk b=>if b then if Ac (x.1.2.2.2.2.2.2.2.1.length+([(Event.mk x.2.1.1 x.2.1.2.1 x.2.1.2.2.1 x.2.1.2.2.2.1 x.2.1.2.2.2.2.1 x.2.1.2.2.2.2.2.1 x.2.1.2.2.2.2.2.2.1 x.2.1.2.2.2.2.2.2.2.1 x.2.1.2.2.2.2.2.2.2.2.1 x.2.1.2.2.2.2.2.2.2.2.2.1)]:List Event).length) then I ((b,()),((x.1.1,(w64<|x.1.2.1+1),k,x.1.2.2.2.1,x.1.2.2.2.2.1,x.1.2.2.2.2.2.1,x.1.2.2.2.2.2.2.1,(x.1.2.2.2.2.2.2.2.1++([(Event.mk x.2.1.1 x.2.1.2.1 x.2.1.2.2.1 x.2.1.2.2.2.1 x.2.1.2.2.2.2.1 x.2.1.2.2.2.2.2.1 x.2.1.2.2.2.2.2.2.1 x.2.1.2.2.2.2.2.2.2.1 x.2.1.2.2.2.2.2.2.2.2.1 x.2.1.2.2.2.2.2.2.2.2.2.1)]:List Event)),()),())) else U else I ((b,()),((x.1.1,x.1.2.1,k,x.1.2.2.2),()))) (λr b=>if b then if Ac (x.1.2.2.2.2.2.2.2.1.length+([(Event.mk x.2.1.1 x.2.1.2.1 x.2.1.2.2.1 x.2.1.2.2.2.1 x.2.1.2.2.2.2.1 x.2.1.2.2.2.2.2.1 x.2.1.2.2.2.2.2.2.1 x.2.1.2.2.2.2.2.2.2.1 x.2.1.2.2.2.2.2.2.2.2.1 x.2.1.2.2.2.2.2.2.2.2.2.1)]:List Event).length) then I ((b,()),((x.1.1,(w64<|x.1.2.1+1),x.1.2.2.1,x.1.2.2.2.1,r,x.1.2.2.2.2.2.1,x.1.2.2.2.2.2.2.1,(x.1.2.2.2.2.2.2.2.1++([(Event.mk x.2.1.1 x.2.1.2.1 x.2.1.2.2.1 x.2.1.2.2.2.1 x.2.1.2.2.2.2.1 x.2.1.2.2.2.2.2.1 x.2.1.2.2.2.2.2.2.1 x.2.1.2.2.2.2.2.2.2.1 x.2.1.2.2.2.2.2.2.2.2.1 x.2.1.2.2.2.2.2.2.2.2.2.1)]:List Event)),()),())) else U else U) λb=>if b then if Ac (x.1.2.2.2.2.2.2.2.1.length+([(Event.mk x.2.1.1 x.2.1.2.1 x.2.1.2.2.1 x.2.1.2.2.2.1 x.2.1.2.2.2.2.1 x.2.1.2.2.2.2.2.1 x.2.1.2.2.2.2.2.2.1 x.2.1.2.2.2.2.2.2.2.1 x.2.1.2.2.2.2.2.2.2.2.1 x.2.1.2.2.2.2.2.2.2.2.2.1)]:List Event).length) then I ((b,()),((x.1.1,(w64<|x.1.2.1+1),x.1.2.2.1,x.1.2.2.2.1,x.1.2.2.2.2.1,x.1.2.2.2.2.2.1,x.1.2.2.2.2.2.2.1,(x.1.2.2.2.2.2.2.2.1++([(Event.mk x.2.1.1 x.2.1.2.1 x.2.1.2.2.1 x.2.1.2.2.2.1 x.2.1.2.2.2.2.1 x.2.1.2.2.2.2.2.1 x.2.1.2.2.2.2.2.2.1 x.2.1.2.2.2.2.2.2.2.1 x.2.1.2.2.2.2.2.2.2.2.1 x.2.1.2.2.2.2.2.2.2.2.2.1)]:List Event)),()),())) else U else I ((b,()),(x.1,())))
def KP:Ent:=(20,U,⟨[Z22,Z4],[.bool],FI⟩)
end Go.VS
end
