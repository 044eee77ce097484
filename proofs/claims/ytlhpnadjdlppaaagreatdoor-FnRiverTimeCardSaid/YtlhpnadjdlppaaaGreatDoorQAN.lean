/- Part 14. -/
import Derived.Shelf.Utf8.RuneCount
import Derived.Shelf.Strconv.Itoa0
import Derived.Shelf.Strconv.Itoa1
import Derived.Shelf.LaysM
import Derived.Shelf.Strconv.Itoa2
import Derived.Shelf.Strconv.Itoa3
import Derived.Shelf.Strings.Search1
import Derived.Shelf.Strings.Search2
import Derived.Shelf.Strings.Search3
import Derived.Shelf.Strings.Cut
import Derived.Shelf.Strings.Count
import Derived.Shelf.Strings.Shaped
import Derived.Shelf.Strings.Split
import Derived.Shelf.Strings.SplitShaped
import Derived.Shelf.Unicode.Decode
import Derived.Shelf.Strings.RuneCount
import Derived.Shelf.Strings.Explode
import Derived.Shelf.Unicode.DecodeSlow
import Derived.Shelf.Unicode.DecodeAny
import Derived.Test.YtlhpnadjdlppaaaGreatDoorProg
import Derived.Test.YtlhpnadjdlppaaaGreatDoorQAM
open Bool renaming false->A3,true->A1
open Decidable renaming decide->A0
open Go.Lib renaming TabIs->Me,cellsOf->Za,countB->Mr,cut->FB,itoa->B6,pow10Tab->NA,splitB->Ix
open Go.Shelf renaming Ren->VV
open Go.Value renaming string->YS
open Int renaming tdiv->Ay,tmod->B5,toNat->AK
open List renaming drop->Bp,replicate->BX,set->Bn,take->BH
open Option renaming none->U,some->I
set_option linter.all false
noncomputable section
namespace Go.Proofs
open Go.Shelf
def Tryz.apc:VV:=⟨fun|171=>142|243=>174|246=>209|283=>228|284=>229|285=>230|286=>231|129=>237|317=>236|318=>238|319=>239|320=>240|337=>248|338=>249|n=>n,fun|3=>3|9=>9|2=>2|4=>4|171=>214|0=>0|53=>215|37=>22|5=>5|173=>218|212=>223|51=>224|20=>20|213=>225|46=>226|232=>234|233=>235|n=>n,fun|17=>0|18=>2|19=>3|n=>n⟩
def Tryz.ahx:Go.Proofs.LaysM.n171 Tryz.prog Tryz.apc:={
 mixed:=by kernel_rfl
 f129:=Tryz.func237.trans (congrArg I<|by kernel_rfl)
 f171:=Tryz.func142.trans (congrArg I<|by kernel_rfl)
 f243:=Tryz.func174.trans (congrArg I<|by kernel_rfl)
 f246:=Tryz.func209.trans (congrArg I<|by kernel_rfl)
 f283:=Tryz.func228.trans (congrArg I<|by kernel_rfl)
 f284:=Tryz.func229.trans (congrArg I<|by kernel_rfl)
 f285:=Tryz.func230.trans (congrArg I<|by kernel_rfl)
 f286:=Tryz.func231.trans (congrArg I<|by kernel_rfl)
 f317:=Tryz.func236.trans (congrArg I<|by kernel_rfl)
 f318:=Tryz.func238.trans (congrArg I<|by kernel_rfl)
 f319:=Tryz.func239.trans (congrArg I<|by kernel_rfl)
 f320:=Tryz.func240.trans (congrArg I<|by kernel_rfl)
 f337:=Tryz.func248.trans (congrArg I<|by kernel_rfl)
 f338:=Tryz.func249.trans (congrArg I<|by kernel_rfl)
 t0:=Tryz.underlying0
 a0:=Tryz.isAgg0
 z0:=Tryz.sizeOf0
 v0:=Tryz.zeroValue0
 t2:=Tryz.underlying2
 a2:=Tryz.isAgg2
 z2:=Tryz.sizeOf2
 v2:=Tryz.zeroValue2
 t3:=Tryz.underlying3
 a3:=Tryz.isAgg3
 z3:=Tryz.sizeOf3
 v3:=Tryz.zeroValue3
 t4:=Tryz.underlying4
 a4:=Tryz.isAgg4
 z4:=Tryz.sizeOf4
 v4:=Tryz.zeroValue4
 t5:=Tryz.underlying5
 a5:=Tryz.isAgg5
 z5:=Tryz.sizeOf5
 v5:=Tryz.zeroValue5
 t9:=Tryz.underlying9
 a9:=Tryz.isAgg9
 z9:=Tryz.sizeOf9
 v9:=Tryz.zeroValue9
 t20:=Tryz.underlying20
 a20:=Tryz.isAgg20
 z20:=Tryz.sizeOf20
 v20:=Tryz.zeroValue20
 t37:=Tryz.underlying22
 a37:=Tryz.isAgg22
 z37:=Tryz.sizeOf22
 v37:=Tryz.zeroValue22
 t46:=Tryz.underlying226
 a46:=Tryz.isAgg226
 z46:=Tryz.sizeOf226
 v46:=Tryz.zeroValue226
 t51:=Tryz.underlying224
 a51:=Tryz.isAgg224
 z51:=Tryz.sizeOf224
 v51:=Tryz.zeroValue224
 t53:=Tryz.underlying215
 a53:=Tryz.isAgg215
 z53:=Tryz.sizeOf215
 v53:=Tryz.zeroValue215
 t171:=Tryz.underlying214
 a171:=Tryz.isAgg214
 z171:=Tryz.sizeOf214
 v171:=Tryz.zeroValue214
 t173:=Tryz.underlying218
 a173:=Tryz.isAgg218
 z173:=Tryz.sizeOf218
 v173:=Tryz.zeroValue218
 t212:=Tryz.underlying223
 a212:=Tryz.isAgg223
 z212:=Tryz.sizeOf223
 v212:=Tryz.zeroValue223
 t213:=Tryz.underlying225
 a213:=Tryz.isAgg225
 z213:=Tryz.sizeOf225
 t232:=Tryz.underlying234
 a232:=Tryz.isAgg234
 z232:=Tryz.sizeOf234
 v232:=Tryz.zeroValue234
 t233:=Tryz.underlying235
 a233:=Tryz.isAgg235
 z233:=Tryz.sizeOf235
 v233:=Tryz.zeroValue235
 g17:=by kernel_rfl
 g18:=by kernel_rfl
 g19:=by kernel_rfl
 i0:=by kernel_rfl
 i2:=by kernel_rfl
 i3:=by kernel_rfl
 i4:=by kernel_rfl
 i5:=by kernel_rfl
 i9:=by kernel_rfl
 i20:=by kernel_rfl
 i37:=by kernel_rfl
 i46:=by kernel_rfl
 i51:=by kernel_rfl
 i53:=by kernel_rfl
 i171:=by kernel_rfl
 i173:=by kernel_rfl
 i212:=by kernel_rfl
 i232:=by kernel_rfl
 i233:=by kernel_rfl
 m17:=by kernel_rfl
 m18:=by kernel_rfl
 m19:=by kernel_rfl }
def Tryz.aib:VV:=⟨fun|145=>196|220=>218|219=>232|217=>241|225=>242|224=>243|267=>244|266=>250|314=>251|n=>n,fun|9=>9|4=>4|59=>194|3=>3|5=>5|46=>226|146=>232|51=>224|n=>n,fun|1=>1|n=>n⟩
def Tryz.at4:Go.Proofs.Lays.n145 Tryz.prog Tryz.aib:={
 mixed:=by kernel_rfl
 f145:=Tryz.func196.trans (congrArg I<|by kernel_rfl)
 f217:=Tryz.func241.trans (congrArg I<|by kernel_rfl)
 f219:=Tryz.func232.trans (congrArg I<|by kernel_rfl)
 f220:=Tryz.func218.trans (congrArg I<|by kernel_rfl)
 f224:=Tryz.func243.trans (congrArg I<|by kernel_rfl)
 f225:=Tryz.func242.trans (congrArg I<|by kernel_rfl)
 f266:=Tryz.func250.trans (congrArg I<|by kernel_rfl)
 f267:=Tryz.func244.trans (congrArg I<|by kernel_rfl)
 f314:=Tryz.func251.trans (congrArg I<|by kernel_rfl)
 t3:=Tryz.underlying3
 a3:=Tryz.isAgg3
 z3:=Tryz.sizeOf3
 v3:=Tryz.zeroValue3
 t4:=Tryz.underlying4
 a4:=Tryz.isAgg4
 z4:=Tryz.sizeOf4
 v4:=Tryz.zeroValue4
 t5:=Tryz.underlying5
 a5:=Tryz.isAgg5
 z5:=Tryz.sizeOf5
 v5:=Tryz.zeroValue5
 t9:=Tryz.underlying9
 a9:=Tryz.isAgg9
 z9:=Tryz.sizeOf9
 v9:=Tryz.zeroValue9
 t46:=Tryz.underlying226
 a46:=Tryz.isAgg226
 z46:=Tryz.sizeOf226
 v46:=Tryz.zeroValue226
 t51:=Tryz.underlying224
 a51:=Tryz.isAgg224
 z51:=Tryz.sizeOf224
 v51:=Tryz.zeroValue224
 t59:=Tryz.underlying194
 a59:=Tryz.isAgg194
 z59:=Tryz.sizeOf194
 v59:=Tryz.zeroValue194
 t146:=Tryz.underlying232
 a146:=Tryz.isAgg232
 z146:=Tryz.sizeOf232
 v146:=Tryz.zeroValue232
 g1:=by kernel_rfl }
def Tryz.akk:VV:=⟨fun|145=>196|220=>218|219=>232|217=>241|225=>242|224=>243|267=>244|266=>250|314=>251|n=>n,fun|9=>9|4=>4|59=>194|3=>3|5=>5|46=>226|146=>232|51=>224|n=>n,fun|1=>1|n=>n⟩
def Tryz.gH:Go.Proofs.LaysM.n145 Tryz.prog Tryz.akk:={
 mixed:=by kernel_rfl
 f145:=Tryz.func196.trans (congrArg I<|by kernel_rfl)
 f217:=Tryz.func241.trans (congrArg I<|by kernel_rfl)
 f219:=Tryz.func232.trans (congrArg I<|by kernel_rfl)
 f220:=Tryz.func218.trans (congrArg I<|by kernel_rfl)
 f224:=Tryz.func243.trans (congrArg I<|by kernel_rfl)
 f225:=Tryz.func242.trans (congrArg I<|by kernel_rfl)
 f266:=Tryz.func250.trans (congrArg I<|by kernel_rfl)
 f267:=Tryz.func244.trans (congrArg I<|by kernel_rfl)
 f314:=Tryz.func251.trans (congrArg I<|by kernel_rfl)
 t3:=Tryz.underlying3
 a3:=Tryz.isAgg3
 z3:=Tryz.sizeOf3
 v3:=Tryz.zeroValue3
 t4:=Tryz.underlying4
 a4:=Tryz.isAgg4
 z4:=Tryz.sizeOf4
 v4:=Tryz.zeroValue4
 t5:=Tryz.underlying5
 a5:=Tryz.isAgg5
 z5:=Tryz.sizeOf5
 v5:=Tryz.zeroValue5
 t9:=Tryz.underlying9
 a9:=Tryz.isAgg9
 z9:=Tryz.sizeOf9
 v9:=Tryz.zeroValue9
 t46:=Tryz.underlying226
 a46:=Tryz.isAgg226
 z46:=Tryz.sizeOf226
 v46:=Tryz.zeroValue226
 t51:=Tryz.underlying224
 a51:=Tryz.isAgg224
 z51:=Tryz.sizeOf224
 v51:=Tryz.zeroValue224
 t59:=Tryz.underlying194
 a59:=Tryz.isAgg194
 z59:=Tryz.sizeOf194
 v59:=Tryz.zeroValue194
 t146:=Tryz.underlying232
 a146:=Tryz.isAgg232
 z146:=Tryz.sizeOf232
 v146:=Tryz.zeroValue232
 g1:=by kernel_rfl
 i3:=by kernel_rfl
 i4:=by kernel_rfl
 i5:=by kernel_rfl
 i9:=by kernel_rfl
 i46:=by kernel_rfl
 i51:=by kernel_rfl
 i59:=by kernel_rfl
 i146:=by kernel_rfl
 m1:=by kernel_rfl
 s1_3:=λw h=>Go.Proofs.cell_of_shapedOpen_int (zero:= #[.int .i64 0]) (t:=3) h (of_decide_eq_true<|by kernel_rfl) (by kernel_rfl) rfl (by kernel_rfl) (by kernel_rfl) Tryz.underlying3 }
def Tryz.aiJ:VV:=⟨fun|146=>201|221=>223|268=>233|138=>234|143=>235|195=>245|197=>246|218=>247|219=>232|260=>252|217=>241|225=>242|224=>243|267=>244|266=>250|314=>251|n=>n,fun|9=>9|31=>95|3=>3|4=>4|0=>0|105=>229|21=>21|5=>5|46=>226|119=>236|139=>239|138=>238|146=>232|51=>224|n=>n,fun|1=>1|3=>4|4=>5|n=>n⟩
def Tryz.aqr:Go.Proofs.Lays.n146 Tryz.prog Tryz.aiJ:={
 mixed:=by kernel_rfl
 f138:=Tryz.func234.trans (congrArg I<|by kernel_rfl)
 f143:=Tryz.func235.trans (congrArg I<|by kernel_rfl)
 f146:=Tryz.func201.trans (congrArg I<|by kernel_rfl)
 f195:=Tryz.func245.trans (congrArg I<|by kernel_rfl)
 f197:=Tryz.func246.trans (congrArg I<|by kernel_rfl)
 f217:=Tryz.func241.trans (congrArg I<|by kernel_rfl)
 f218:=Tryz.func247.trans (congrArg I<|by kernel_rfl)
 f219:=Tryz.func232.trans (congrArg I<|by kernel_rfl)
 f221:=Tryz.func223.trans (congrArg I<|by kernel_rfl)
 f224:=Tryz.func243.trans (congrArg I<|by kernel_rfl)
 f225:=Tryz.func242.trans (congrArg I<|by kernel_rfl)
 f260:=Tryz.func252.trans (congrArg I<|by kernel_rfl)
 f266:=Tryz.func250.trans (congrArg I<|by kernel_rfl)
 f267:=Tryz.func244.trans (congrArg I<|by kernel_rfl)
 f268:=Tryz.func233.trans (congrArg I<|by kernel_rfl)
 f314:=Tryz.func251.trans (congrArg I<|by kernel_rfl)
 t0:=Tryz.underlying0
 a0:=Tryz.isAgg0
 z0:=Tryz.sizeOf0
 v0:=Tryz.zeroValue0
 t3:=Tryz.underlying3
 a3:=Tryz.isAgg3
 z3:=Tryz.sizeOf3
 v3:=Tryz.zeroValue3
 t4:=Tryz.underlying4
 a4:=Tryz.isAgg4
 z4:=Tryz.sizeOf4
 v4:=Tryz.zeroValue4
 t5:=Tryz.underlying5
 a5:=Tryz.isAgg5
 z5:=Tryz.sizeOf5
 v5:=Tryz.zeroValue5
 t9:=Tryz.underlying9
 a9:=Tryz.isAgg9
 z9:=Tryz.sizeOf9
 v9:=Tryz.zeroValue9
 t21:=Tryz.underlying21
 a21:=Tryz.isAgg21
 z21:=Tryz.sizeOf21
 v21:=Tryz.zeroValue21
 t31:=Tryz.underlying95
 a31:=Tryz.isAgg95
 z31:=Tryz.sizeOf95
 v31:=Tryz.zeroValue95
 t46:=Tryz.underlying226
 a46:=Tryz.isAgg226
 z46:=Tryz.sizeOf226
 v46:=Tryz.zeroValue226
 t51:=Tryz.underlying224
 a51:=Tryz.isAgg224
 z51:=Tryz.sizeOf224
 v51:=Tryz.zeroValue224
 t105:=Tryz.underlying229
 a105:=Tryz.isAgg229
 z105:=Tryz.sizeOf229
 v105:=Tryz.zeroValue229
 t119:=Tryz.underlying236
 a119:=Tryz.isAgg236
 z119:=Tryz.sizeOf236
 t138:=Tryz.underlying238
 a138:=Tryz.isAgg238
 z138:=Tryz.sizeOf238
 v138:=Tryz.zeroValue238
 t139:=Tryz.underlying239
 a139:=Tryz.isAgg239
 z139:=Tryz.sizeOf239
 v139:=Tryz.zeroValue239
 t146:=Tryz.underlying232
 a146:=Tryz.isAgg232
 z146:=Tryz.sizeOf232
 v146:=Tryz.zeroValue232
 g1:=by kernel_rfl
 g3:=by kernel_rfl
 g4:=by kernel_rfl }
def Tryz.af4:VV:=⟨fun|147=>220|221=>223|268=>233|138=>234|143=>235|195=>245|197=>246|218=>247|219=>232|260=>252|217=>241|225=>242|224=>243|267=>244|266=>250|314=>251|n=>n,fun|9=>9|3=>3|31=>95|4=>4|0=>0|105=>229|21=>21|5=>5|46=>226|119=>236|139=>239|138=>238|146=>232|51=>224|n=>n,fun|1=>1|3=>4|4=>5|n=>n⟩
def Tryz.att:Go.Proofs.Lays.n147 Tryz.prog Tryz.af4:={
 mixed:=by kernel_rfl
 f138:=Tryz.func234.trans (congrArg I<|by kernel_rfl)
 f143:=Tryz.func235.trans (congrArg I<|by kernel_rfl)
 f147:=Tryz.func220.trans (congrArg I<|by kernel_rfl)
 f195:=Tryz.func245.trans (congrArg I<|by kernel_rfl)
 f197:=Tryz.func246.trans (congrArg I<|by kernel_rfl)
 f217:=Tryz.func241.trans (congrArg I<|by kernel_rfl)
 f218:=Tryz.func247.trans (congrArg I<|by kernel_rfl)
 f219:=Tryz.func232.trans (congrArg I<|by kernel_rfl)
 f221:=Tryz.func223.trans (congrArg I<|by kernel_rfl)
 f224:=Tryz.func243.trans (congrArg I<|by kernel_rfl)
 f225:=Tryz.func242.trans (congrArg I<|by kernel_rfl)
 f260:=Tryz.func252.trans (congrArg I<|by kernel_rfl)
 f266:=Tryz.func250.trans (congrArg I<|by kernel_rfl)
 f267:=Tryz.func244.trans (congrArg I<|by kernel_rfl)
 f268:=Tryz.func233.trans (congrArg I<|by kernel_rfl)
 f314:=Tryz.func251.trans (congrArg I<|by kernel_rfl)
 t0:=Tryz.underlying0
 a0:=Tryz.isAgg0
 z0:=Tryz.sizeOf0
 v0:=Tryz.zeroValue0
 t3:=Tryz.underlying3
 a3:=Tryz.isAgg3
 z3:=Tryz.sizeOf3
 v3:=Tryz.zeroValue3
 t4:=Tryz.underlying4
 a4:=Tryz.isAgg4
 z4:=Tryz.sizeOf4
 v4:=Tryz.zeroValue4
 t5:=Tryz.underlying5
 a5:=Tryz.isAgg5
 z5:=Tryz.sizeOf5
 v5:=Tryz.zeroValue5
 t9:=Tryz.underlying9
 a9:=Tryz.isAgg9
 z9:=Tryz.sizeOf9
 v9:=Tryz.zeroValue9
 t21:=Tryz.underlying21
 a21:=Tryz.isAgg21
 z21:=Tryz.sizeOf21
 v21:=Tryz.zeroValue21
 t31:=Tryz.underlying95
 a31:=Tryz.isAgg95
 z31:=Tryz.sizeOf95
 v31:=Tryz.zeroValue95
 t46:=Tryz.underlying226
 a46:=Tryz.isAgg226
 z46:=Tryz.sizeOf226
 v46:=Tryz.zeroValue226
 t51:=Tryz.underlying224
 a51:=Tryz.isAgg224
 z51:=Tryz.sizeOf224
 v51:=Tryz.zeroValue224
 t105:=Tryz.underlying229
 a105:=Tryz.isAgg229
 z105:=Tryz.sizeOf229
 v105:=Tryz.zeroValue229
 t119:=Tryz.underlying236
 a119:=Tryz.isAgg236
 z119:=Tryz.sizeOf236
 t138:=Tryz.underlying238
 a138:=Tryz.isAgg238
 z138:=Tryz.sizeOf238
 v138:=Tryz.zeroValue238
 t139:=Tryz.underlying239
 a139:=Tryz.isAgg239
 z139:=Tryz.sizeOf239
 v139:=Tryz.zeroValue239
 t146:=Tryz.underlying232
 a146:=Tryz.isAgg232
 z146:=Tryz.sizeOf232
 v146:=Tryz.zeroValue232
 g1:=by kernel_rfl
 g3:=by kernel_rfl
 g4:=by kernel_rfl }
open Go.RowKit Go.Sort Go.Lib in
theorem Tryz.strconv_Itoa (n:Int) (h0: -9223372036854775808<=n) (h1:n<=9223372036854775807) (w:World) (dX:Me Tryz.prog w "internal/strconv.uint64pow10" .u64 NA):
  Calls Tryz.prog 142 #[.int .i64 n] w λe w'=>e= .returned (.string ⟨(B6 n).toArray⟩)/\ ∃k os,w'=grow (w.drewN k) os:=Any.strconv_Itoa Tryz.ahx n h0 h1 w dX
open Go.RowKit Go.Lib in
theorem Tryz.strings_Cut (s sep:ByteArray) (m:Int) (w:World) (hs:s.size<4294967281) (hm:w.cell? ⟨1,0,U⟩=I (.int .i64 m)):
  Calls Tryz.prog 196 #[.string s,.string sep] w λe w'=>e= .returned (.tuple #[.string ⟨(FB s.data.toList sep.data.toList).1.toArray⟩,.string ⟨(FB s.data.toList sep.data.toList).2.1.toArray⟩,.bool (FB s.data.toList sep.data.toList).2.2])/\ ∃n,w'=w.drewN n:=Any.strings_Cut Tryz.at4 s sep m w hs hm
open Go.RowKit Go.Lib in
theorem Tryz.strings_Split (s sep:ByteArray) (m:Int) (w:World) (hs:s.size<4294967281) (hm:w.cell? ⟨1,0,U⟩=I (.int .i64 m)) (h1:1<=sep.size):
  Calls Tryz.prog 201 #[.string s,.string sep] w λe w'=>
   e= .returned (.slice (I ⟨w.heap.size,0,U⟩) (Mr s sep+1)<|Mr s sep+1)/\w'=w.alloc (.cells ((Ix sep 0 (Mr s sep) s).map YS).toArray 9):=Any.strings_Split Tryz.aqr (by kernel_rfl) s sep m w hs hm h1
open Go.RowKit Go.Lib in
theorem Tryz.strings_SplitN (s sep:ByteArray) (n:Nat) (m:Int) (w:World) (hs:s.size<4294967281) (hm:w.cell? ⟨1,0,U⟩=I (.int .i64 m)) (h1:1<=sep.size) (hn:1<=n) (vB:n<=9223372036854775807):
  Calls Tryz.prog 220 #[.string s,.string sep,.int .i64 n] w λe w'=>
   e= .returned (.slice (I ⟨w.heap.size,0,U⟩) (Ix sep 0 (min n (s.size+1) - 1) s).length<|min n<|s.size+1)/\w'=w.alloc (.cells (Za (Ix sep 0 (min n (s.size+1) - 1) s)<|min n<|s.size+1) 9):=Any.strings_SplitN Tryz.att (by kernel_rfl) s sep n m w hs hm h1 hn vB
end Go.Proofs
namespace Go.VS
open Go Go.Proofs
set_option linter.unusedVariables false
set_option maxRecDepth 100000
abbrev t1(v:Adv):Adv:= .two .nil v
def sk{P:Program}{C:Cx}{inl:(Ω:Type)->Inl Ω}{f:Nat}{d:Option Nat}{fn:Func}{m:DK}{v:Adv}{ls:List (Code×Loop)}(hC:OKC P C inl)(hl:LpK P fn.ntmps (Dh 0 m.ps) ls)
  (hf:fnB P f fn m=(I fn,A3,A1,A1):=by kernel_rfl)(hb:fn.body=I (L4 fn):=by kernel_rfl)(h:FI (L4 fn) v=ls:=by kernel_rfl)(hg:∀x,XX C inl fn v m x=m.g x:=by intro _;kernel_rfl):SQ P (f,d,m):=
 so hC hf hb h hl hg
def sq{P:Program}{C:Cx}{inl:(Ω:Type)->Inl Ω}(hC:OKC P C inl){n:Nat}{pins:List Nat}{body:Code}{v:Adv}{l:Loop}{b:Lv l.sch->Option (Lv l.sch ⊕ (Lv l.Jv ⊕ Lv l.Jn))}{ls:List (Code×Loop)}
  (hl:LpK P n pins ls)(hb:∀x,evL C inl n pins body v l x=b x:=by intro _;kernel_rfl)(hr:l.run=AZ b:=by rfl)(h:FI body v=ls:=by kernel_rfl):LpK P n pins [(body,l)]:=lk hC hb hr h hl
def kd:TypeId->Option K
 | 2=>I .int
 | 3=>I .int
 | 4=>I .bool
 | 5=>I .u8
 | 9=>I .str
 | 10=>I .str
 | 11=>I .str
 | 30=>I .GJ
 | 38=>I .Ad
 | 46=>I .AL
 | 50=>I .keep
 | 53=>I .note
 | 56=>I .frame
 | 102=>I .half
 | 105=>I .mixed
 | 174=>I .mark
 | _=>U
abbrev Y0:Type:=List Int×Int×A2
abbrev Z0:Sh:= .box 83 [.fz .u8,.int .i64]
abbrev Y1:Type:=Int×Bool×A4×Int×List AG×A2
abbrev Z1:Sh:= .agg [.int .i64,.bool,.str,.int .i64,.row 102 .half]
abbrev Y2:Type:=Int×List AA×List Bool×List AR×List A7×List A7×A2
abbrev Z2:Sh:= .box 28 [.int .i64,.row 46 .AL,.row 4 .bool,.row 38 .Ad,.row 53 .note,.row 53 .note]
abbrev Z3:Sh:= .agg [.int .i64,.row 46 .AL,.row 4 .bool,.row 38 .Ad,.row 53 .note,.row 53 .note]
abbrev Y3:Type:=Int×Int×Int×Int×Int×Int×Int×Int×Int×A4×A2
abbrev Z4:Sh:= .agg [.int .i64,.int .i64,.int .i64,.int .i64,.int .i64,.int .i64,.int .i64,.int .i64,.int .i64,.str]
abbrev Z5:Sh:= .box 56 [.int .i64,.int .i64,.int .i64,.int .i64,.int .i64,.int .i64,.int .i64,.int .i64,.int .i64,.str]
abbrev Y4:Type:=Int×Int×Int×List A7×List Mark×List A7×A2
abbrev Z6:Sh:= .agg [.int .i64,.int .i64,.int .i64,.row 53 .note,.row 174 .mark,.row 53 .note]
abbrev Y5:Type:=Int×Int×Int×Int×A4×A2
abbrev Z7:Sh:= .box 53 [.int .i64,.int .i64,.int .i64,.int .i64,.str]
abbrev Z8:Sh:= .agg [.int .i64,.int .i64,.int .i64,.int .i64,.str]
abbrev Z9:Sh:= .box 50 [.int .i64,.int .i64,.int .i64,.sl .note,.sl .mark,.sl .note]
abbrev Z10:Sh:= .agg [.int .i64,.int .i64,.int .i64,.fz .note,.fz .mark,.fz .note]
abbrev Z11:Sh:= .box 50 [.int .i64,.int .i64,.int .i64,.row 53 .note,.row 174 .mark,.row 53 .note]
abbrev Y6:Type:=Int×Int×Int×A2
abbrev Z12:Sh:= .box 174 [.int .i64,.int .i64,.int .i64]
abbrev Z13:Sh:= .agg [.int .i64,.int .i64,.int .i64]
abbrev Z14:Sh:= .agg [.int .i64,.bool,.str,.int .i64,.fz .half]
abbrev Y7:Type:=A4×Int×A2
abbrev Z15:Sh:= .agg [.str,.int .i64]
abbrev Y8:Type:=Int×A4×A2
abbrev Z16:Sh:= .agg [.int .i64,.str]
abbrev Y9:Type:=Int×Int×Int×Int×Int×List AQ×A2
abbrev Z17:Sh:= .box 102 [.int .i64,.int .i64,.int .i64,.int .i64,.int .i64,.sl .mixed]
abbrev Z18:Sh:= .agg [.int .i64,.int .i64,.int .i64,.int .i64,.int .i64,.fz .mixed]
abbrev Z19:Sh:= .box 46 [.int .i64,.bool,.str,.int .i64,.sl .half]
abbrev Z20:Sh:= .box 46 [.int .i64,.bool,.str,.int .i64,.row 102 .half]
abbrev Z21:Sh:= .box 43 [.str,.int .i64]
abbrev Y10:Type:=Y0×Int×List AA×List Bool×List AR×List A7×List A7×List Event×A2
abbrev Z22:Sh:= .box 69 [Z0,.int .i64,.row 46 .AL,.row 4 .bool,.row 38 .Ad,.row 53 .note,.row 53 .note,.row 30 .GJ]
abbrev Z23:Sh:= .box 83 [.sl .u8,.int .i64]
abbrev Z24:Sh:= .box 69 [Z23,.int .i64,.row 46 .AL,.row 4 .bool,.row 38 .Ad,.row 53 .note,.row 53 .note,.row 30 .GJ]
abbrev Z25:Sh:= .box 69 [Z23,.int .i64,.sl .AL,.sl .bool,.sl .Ad,.sl .note,.sl .note,.sl .GJ]
abbrev Z26:Sh:= .box 69 [Z0,.int .i64,.fz .AL,.fz .bool,.fz .Ad,.fz .note,.fz .note,.fz .GJ]
abbrev Z27:Sh:= .box 30 [.int .i64,.int .i64,.int .i64,.int .i64,.int .i64,.int .i64,.int .i64,.int .i64,.int .i64,.str]
abbrev Y11:Type:=A2×Int×List AA×List Bool×List AR×List A7×List A7×List Event×A2
abbrev Z28:Sh:= .box 69 [.same 0,.int .i64,.row 46 .AL,.row 4 .bool,.row 38 .Ad,.row 53 .note,.row 53 .note,.row 30 .GJ]
abbrev Z29:Sh:= .box 28 [.int .i64,.sl .AL,.sl .bool,.sl .Ad,.sl .note,.sl .note]
abbrev Z30:Sh:= .agg [.int .i64,.fz .AL,.fz .bool,.fz .Ad,.fz .note,.fz .note]
abbrev Z31:Sh:= .box 69 [.same 4,.int .i64,.fz .AL,.fz .bool,.fz .Ad,.fz .note,.fz .note,.row 30 .GJ]
abbrev Z32:Sh:= .box 28 [.int .i64,.fz .AL,.fz .bool,.fz .Ad,.fz .note,.fz .note]
abbrev Z33:Sh:= .box 69 [.same 4,.int .i64,.row 46 .AL,.row 4 .bool,.row 38 .Ad,.row 53 .note,.row 53 .note,.row 30 .GJ]
abbrev Z34:Sh:= .box 50 [.int .i64,.int .i64,.int .i64,.row 53 .note,.row 174 .mark,.sl .note]
abbrev Z35:Sh:= .box 105 [.int .i64,.str]
abbrev Y12:Type:=Int×Int×A4×Bool×A2
abbrev Z36:Sh:= .box 38 [.int .i64,.int .i64,.str,.bool]
abbrev Z37:Sh:= .box 46 [.int .i64,.bool,.str,.int .i64,.fz .half]
abbrev Rnd(a b c:Type):=Option<|a ⊕ (b ⊕ c)
noncomputable abbrev cX(l:List Ent)(cz sp:List (Nat×Nat)):Cx:=⟨Tryz.prog,kd,gam l,inR cz,inR sp⟩
abbrev LF(fn:Func)(pins path:List Nat)(l:Loop):=LpK Tryz.prog fn.ntmps pins [(PS path<|L4 fn,l)]
def mixed:Tryz.prog.follows .mixedOrders=A1:=by kernel_rfl
def Iu:(Int×A2)->Option ((A4×A2)×(A2)):=V6
def Q8:Ent:=(142,U,⟨[.int .i64],[.str],Iu⟩)
def Si:SQ Tryz.prog Q8:=⟨ajt (Nk Tryz.func142 (by kernel_rfl) (by kernel_rfl:Tryz.f142.body=I (L4 Tryz.f142))) (by kernel_rfl) Tryz.strconv_Itoa,by kernel_rfl⟩
def TB:(A4×A4×A2)->Option ((A4×A4×Bool×A2)×(A2)):=Oc
def aAd:Ent:=(196,U,⟨[.str,.str],[.str,.str,.bool],TB⟩)
def agN:SQ Tryz.prog aAd:=⟨afQ (gm:=1) (Nk Tryz.func196 (by kernel_rfl) (by kernel_rfl:Tryz.f196.body=I (L4 Tryz.f196))) (BP<|by kernel_rfl) (λw h=>Tryz.gH.s1_3 w h) Tryz.strings_Cut,by kernel_rfl⟩
def dT:(A4×A4×A2)->Option ((List A4×A2)×(A2)):=TF
def tU:Ent:=(201,U,⟨[.str,.str],[.row 9 .str],dT⟩)
def ajL:SQ Tryz.prog tU:=⟨amw (gm:=1) (Nk Tryz.func201 (by kernel_rfl) (by kernel_rfl:Tryz.f201.body=I (L4 Tryz.f201))) (BP<|by kernel_rfl) (λw h=>Tryz.gH.s1_3 w h) Tryz.strings_Split,by kernel_rfl⟩
def eF:(A4×A4×Int×A2)->Option ((List A4×A2)×(A2)):=UG
def ab8:Ent:=(220,U,⟨[.str,.str,.int .i64],[.row 9 .str],eF⟩)
def aez:SQ Tryz.prog ab8:=⟨axH (gm:=1) (Nk Tryz.func220 (by kernel_rfl) (by kernel_rfl:Tryz.f220.body=I (L4 Tryz.f220))) (BP<|by kernel_rfl) (λw h=>Tryz.gH.s1_3 w h) Tryz.strings_SplitN,by kernel_rfl⟩
def amh:Cx:=cX [] [] []
def amv:OKC Tryz.prog amh AF:=okc mixed<|AJ
def Wc(x:List Int×A2):Option ((Y0×A2)×A2):=if A0 (2000<(x.1.length:Int)) then if A0 (0<=2000)&&A0 (2000<=(x.1.length:Int)) then let a:=(BH (AK 2000) x.1);I (((a,0,()),()),()) else U else I (((x.1,0,()),()),())
def wY:Ent:=(23,U,⟨[.fz .u8],[Z0],Wc⟩)
def azC:SQ Tryz.prog wY:=sk (v:= .nil) (fn:=Tryz.f23) amv kN
def ak6:Cx:=cX [] [] [(18,23)]
def arI:OKC Tryz.prog ak6 AF:=okc mixed<|AJ
def Aq(x:Y0×Int×A2):Option ((Int×A2)×(Y0×A2)):=if(A0<|x.2.1<1)||(A0<|(x.1.1.length:Int)=0) then I ((0,()),((x.1.1,(w64<|x.1.2.1+1),()),())) else let a:=(w64<|(w64<|x.1.2.1+1) - 1);(if A0 (a<(x.1.1.length:Int)) then if inb a x.1.1.length then if !decide (x.2.1=0) then let c:=(B5 (w64<|rd (dfl .u8) x.1.1 a) x.2.1);I ((c,()),((x.1.1,(w64<|x.1.2.1+1),()),())) else U else U else if !decide ((x.1.1.length:Int)=0) then if inb (B5 a (x.1.1.length:Int)) x.1.1.length then if !decide ((x.1.1.length:Int)=0) then if inb (B5 (w64<|(w64<|a * 7)+3) (x.1.1.length:Int)) x.1.1.length then if !decide ((x.1.1.length:Int)=0) then let b:=(w64<|(w64<|(w64<|(w64<|(w64<|rd (dfl .u8) x.1.1<|B5 a (x.1.1.length:Int)) * 131)+(w64<|(w64<|rd (dfl .u8) x.1.1<|B5 (w64<|(w64<|a * 7)+3) (x.1.1.length:Int)) * 1117))+(w64<|a * 29))+(w64<|(w64<|Ay a (x.1.1.length:Int)) * 53));let d:=(DY .i64 b<|w64<|Ay b 64);(if !decide (x.2.1=0) then I (((B5 d x.2.1),()),((x.1.1,(w64<|x.1.2.1+1),()),())) else U) else U else U else U else U else U)
def G8:Ent:=(25,U,⟨[Z0,.int .i64],[.int .i64],Aq⟩)
def GQ:SQ Tryz.prog G8:=sk (v:= .nil) (fn:=Tryz.f25) arI kN
def asV:Cx:=cX [] [] [(11,13)]
def afW:OKC Tryz.prog asV AF:=okc mixed<|AJ
def Cv(x:Int×Int×Int×A2):Option ((Bool×A2)×A2):=let a:=((A0<|x.2.1<=x.1)&&(A0<|x.1<=x.2.2.1));I ((a,()),())
def GR:Ent:=(32,U,⟨[.int .i64,.int .i64,.int .i64],[.bool],Cv⟩)
def HI:SQ Tryz.prog GR:=sk (v:= .nil) (fn:=Tryz.f32) afW kN
def aem:Cx:=cX [GR] [] []
def ape:OKC Tryz.prog aem AF:=okc mixed<|gC HI<|AJ
def FC(x:Int×A2):Option ((Bool×A2)×A2):=(Cv (x.1,0,3,())).bind λa=>I (a.1,())
def IG:Ent:=(34,U,⟨[.int .i64],[.bool],FC⟩)
def Iz:SQ Tryz.prog IG:=sk (v:= .nil) (fn:=Tryz.f34) ape kN
def aw1:Cx:=cX [IG] [] []
def atS:OKC Tryz.prog aw1 AF:=okc mixed<|gC Iz<|AJ
def Se(x:Int×A2):Option ((Y1×A2)×A2):=(FC x).bind λa=>if !a.1.1 then I (((0,A3,noB,0,([]:List AG),()),()),()) else I (((x.1,A1,noB,0,([]:List AG),()),()),())
def yU:Ent:=(70,U,⟨[.int .i64],[Z1],Se⟩)
def ats:SQ Tryz.prog yU:=sk (v:= .nil) (fn:=Tryz.f70) atS kN
def an0:Cx:=cX [yU] [] []
def jm:OKC Tryz.prog an0 AF:=okc mixed<|gC ats<|AJ
def Td(x:Y2×Y2×Int×A2):Rnd (Y2×Y2×Int×A2) (A2) (Y2×Y2×A2):=if A0 ((w64<|x.2.2.1+1)<4) then if Ab (x.2.1.2.2.1.length+([A1]:List Bool).length) then I (.inl (x.1,(x.2.1.1,x.2.1.2.1,(x.2.1.2.2.1++([A1]:List Bool)),x.2.1.2.2.2),(w64<|x.2.2.1+1),())) else U else I (.inr<|.inr (x.1,x.2.1,()))
def iV:=AZ Td
def ad4:Loop:=⟨[(0,Z2),(1,Z2),(3,.int .i64)],[(0,Z2),(1,Z2)],2,[],iV⟩
def ao8:LF Tryz.f43 [] [1,1,1,0,1,0,0] ad4:=sq (v:= .nil) jm (b:=Td) kN
def Xb(x:Y2×Y2×Int×A2):Rnd (Y2×Y2×Int×A2) (A2) (Y2×Y2×A2):=if A0 (x.2.2.1<4) then(Se x.2.2).bind λa=>if Ab (x.2.1.2.1.length+([(AA.mk a.1.1.1 a.1.1.2.1 a.1.1.2.2.1 a.1.1.2.2.2.1 a.1.1.2.2.2.2.1)]:List AA).length) then I (.inl (x.1,(x.2.1.1,(x.2.1.2.1++([(AA.mk a.1.1.1 a.1.1.2.1 a.1.1.2.2.1 a.1.1.2.2.2.1 a.1.1.2.2.2.2.1)]:List AA)),x.2.1.2.2),(w64<|x.2.2.1+1),())) else U else I (.inr<|.inr (x.1,x.2.1,()))
def oy:=AZ Xb
def zG:Loop:=⟨[(0,Z2),(1,Z2),(2,.int .i64)],[(0,Z2),(1,Z2)],0,[],oy⟩
def au7:LF Tryz.f43 [] [1,1,0,1,0,0] zG:=sq (v:= .nil) jm (b:=Xb) kN
def aP(x:A2):Option ((Y2×A2)×A2):=(AS (oy ((0,([]:List AA),([]:List Bool),([]:List AR),([]:List A7),([]:List A7),()),(0,([]:List AA),([]:List Bool),([]:List AR),([]:List A7),([]:List A7),()),0,())) (λ_=>U) λa=>(AS (iV (a.1,a.2.1,0,())) (λ_=>U) λb=>I (b.2,())))
def aA3:Ent:=(43,U,⟨[],[Z3],aP⟩)
def akZ:SQ Tryz.prog aA3:=sk (v:=t1<|t1<|.two (t1<|.one<|.loop zG)<|.two (t1<|.one<|.loop ad4) .nil) (fn:=Tryz.f43) jm<|kC au7<|kC ao8 kN
def axR:Cx:=cX [IG] [] []
def aty:OKC Tryz.prog axR AF:=okc mixed<|gC Iz<|AJ
def Q1(x:Int×Int×A2):Option ((Int×A2)×A2):=(B8 (X:=Int×Int×Bool×A2) (λa=>if a.2.2.1 then I (((-1),()),()) else if A0 (a.1<a.2.1) then I (((w64<|a.1+1),()),()) else I (((w64<|a.1 - 1),()),()))<|(FC (x.1,())).bind λb=>if !b.1.1 then I (.inr (x.1,x.2.1,A1,())) else(FC x.2).bind λc=>if !c.1.1 then I (.inr (x.1,x.2.1,A1,())) else I (.inr (x.1,x.2.1,(A0<|x.1=x.2.1),())))
def jI:Ent:=(117,U,⟨[.int .i64,.int .i64],[.int .i64],Q1⟩)
def zz:SQ Tryz.prog jI:=sk (v:=t1<|.two (.one<|.join [(0,.int .i64),(1,.int .i64),(5,.bool)] .nil .nil) .nil) (fn:=Tryz.f117) aty kN
def axY:Cx:=cX [GR,IG,jI] [] [(65,67),(88,91)]
def avJ:OKC Tryz.prog axY AF:=okc mixed<|gC HI<|gC Iz<|gC zz<|AJ
def UL(x:Y3×A2):Option ((Bool×A2)×A2):=(Cv (x.1.1,1,3,())).bind λa=>if !a.1.1 then I ((A3,()),()) else(FC (x.1.2.1,())).bind λb=>if !b.1.1 then I ((A3,()),()) else(FC (x.1.2.2.1,())).bind λc=>if !c.1.1 then I ((A3,()),()) else(FC (x.1.2.2.2.1,())).bind λd=>if !d.1.1 then I ((A3,()),()) else(FC (x.1.2.2.2.2.2.1,())).bind λe=>if !e.1.1 then I ((A3,()),()) else(Cv (x.1.2.2.2.2.1,1,99,())).bind λf=>if !f.1.1 then I ((A3,()),()) else(Cv (x.1.2.2.2.2.2.2.1,1,999,())).bind λg=>if !g.1.1 then I ((A3,()),()) else if !decide (x.1.1=1) then(Q1 (x.1.2.2.1,x.1.2.2.2.2.2.1,())).bind λh=>if A0 (h.1.1=x.1.2.1) then if A0 (x.1.2.2.2.2.2.2.2.1=0) then let i:=((A0<|x.1.2.2.2.2.2.2.2.2.1=0)&&(A0<|x.1.2.2.2.2.2.2.2.2.2.1=noB));I ((i,()),()) else I ((A3,()),()) else I ((A3,()),()) else(Q1 (x.1.2.1,x.1.2.2.2.2.2.1,())).bind λj=>if A0 (j.1.1=x.1.2.2.1) then(Cv (x.1.2.2.2.2.2.2.2.1,1,24,())).bind λk=>if k.1.1 then(Cv (x.1.2.2.2.2.2.2.2.2.1,0,999,())).bind λl=>let m:=(l.1.1&&(A0<|(x.1.2.2.2.2.2.2.2.2.2.1.size:Int)=4));I ((m,()),()) else I ((A3,()),()) else I ((A3,()),())
def lK:Ent:=(67,U,⟨[Z4],[.bool],UL⟩)
def abE:SQ Tryz.prog lK:=sk (v:= .nil) (fn:=Tryz.f67) avJ kN
def aqx:Cx:=cX [] [] []
def als:OKC Tryz.prog aqx AF:=okc mixed<|AJ
def Np(x:List Int×Int×A2):Option ((List Int×A2)×A2):=if Ab (x.1.length+([(w8<|w64<|Ay x.2.1 256),(w8<|B5 x.2.1 256)]:List Int).length) then I (((x.1++([(w8<|w64<|Ay x.2.1 256),(w8<|B5 x.2.1 256)]:List Int)),()),()) else U
def aaK:Ent:=(68,U,⟨[.row 5 .u8,.int .i64],[.row 5 .u8],Np⟩)
def awq:SQ Tryz.prog aaK:=sk (v:= .nil) (fn:=Tryz.f68) als kN
def aqW:Cx:=cX [] [] []
def acu:OKC Tryz.prog aqW AF:=okc mixed<|AJ
def Yu(x:List Int×Int×Int×A2):Rnd (List Int×Int×Int×A2) (A2) (Int×A2):=if A0 (x.2.2.1<(x.1.length:Int)) then if inb x.2.2.1 x.1.length then let a:=(B5 (w64<|x.2.1+(w64<|(w64<|(B5 x.2.2.1 1000)+1) * (w64<|rd (dfl .u8) x.1 x.2.2.1))) 65521);I (.inl (x.1,a,(w64<|x.2.2.1+1),())) else U else I (.inr<|.inr (x.2.1,()))
def Zi:=AZ Yu
def rY:Loop:=⟨[(0,.sl .u8),(3,.int .i64),(4,.int .i64)],[(3,.int .i64)],0,[],Zi⟩
def as5:LF Tryz.f69 [] [1,1,0,1,0,0] rY:=sq (v:= .nil) acu (b:=Yu) kN
def Pp(x:List Int×A2):Option ((Int×A2)×A2):=(AS (Zi (x.1,0,0,())) (λ_=>U) λa=>I (a,()))
def aax:Ent:=(69,U,⟨[.fz .u8],[.int .i64],Pp⟩)
def auG:SQ Tryz.prog aax:=sk (v:=t1<|t1<|.two (t1<|.one<|.loop rY) .nil) (fn:=Tryz.f69) acu<|kC as5 kN
def agU:Cx:=cX [lK,aaK,aax] [] []
def ag8:OKC Tryz.prog agU AF:=okc mixed<|gC abE<|gC awq<|gC auG<|AJ
def OR(x:Y3×A2):Option ((List Int×A2)×A2):=(UL x).bind λc=>if !c.1.1 then I ((([]:List Int),()),()) else if Ab (([]:List Int).length+([(w8 x.1.1),(w8 x.1.2.1),(w8 x.1.2.2.1),(w8 x.1.2.2.2.1),(w8 x.1.2.2.2.2.1),(w8 x.1.2.2.2.2.2.1)]:List Int).length) then(Np ((([]:List Int)++([(w8 x.1.1),(w8 x.1.2.1),(w8 x.1.2.2.1),(w8 x.1.2.2.2.1),(w8 x.1.2.2.2.2.1),(w8 x.1.2.2.2.2.2.1)]:List Int)),x.1.2.2.2.2.2.2.1,())).bind λa=>if A0 (x.1.1=1) then if Ab (a.1.1.length+([(w8 x.1.2.2.2.2.2.2.2.1)]:List Int).length) then(Np ((a.1.1++([(w8 x.1.2.2.2.2.2.2.2.1)]:List Int)),x.1.2.2.2.2.2.2.2.2.1,())).bind λb=>if Ab x.1.2.2.2.2.2.2.2.2.2.1.size then if Ab (b.1.1.length+(BB x.1.2.2.2.2.2.2.2.2.2.1).length) then(Pp ((b.1.1++(BB x.1.2.2.2.2.2.2.2.2.2.1)),())).bind λd=>(Np ((b.1.1++(BB x.1.2.2.2.2.2.2.2.2.2.1)),d.1)).bind λe=>I (e.1,()) else U else U else U else(Pp a.1).bind λf=>(Np (a.1.1,f.1)).bind λg=>I (g.1,()) else U
def fD:Ent:=(42,U,⟨[Z4],[.row 5 .u8],OR⟩)
def aAJ:SQ Tryz.prog fD:=sk (v:= .nil) (fn:=Tryz.f42) ag8 kN
def auV:Cx:=cX [fD] [] [(9,11)]
def ako:OKC Tryz.prog auV AF:=okc mixed<|gC aAJ<|AJ
def Qv(x:List Int×A2):Option ((Y3×Bool×A2)×A2):=if(!decide ((x.1.length:Int)=10))&&(!decide ((x.1.length:Int)=17)) then I (((0,0,0,0,0,0,0,0,0,noB,()),A3,()),()) else if inb 0 x.1.length then if inb 1 x.1.length then if inb 2 x.1.length then if inb 3 x.1.length then if inb 4 x.1.length then if inb 5 x.1.length then if inb 6 x.1.length then if inb 7 x.1.length then let b:=(w64<|rd (dfl .u8) x.1 0);let c:=(w64<|rd (dfl .u8) x.1 1);let d:=(w64<|rd (dfl .u8) x.1 2);let e:=(w64<|rd (dfl .u8) x.1 3);let f:=(w64<|rd (dfl .u8) x.1 4);let g:=(w64<|rd (dfl .u8) x.1 5);let h:=(w64<|(w64<|(w64<|rd (dfl .u8) x.1 6) * 256)+(w64<|rd (dfl .u8) x.1 7));(B8 (X:=List Int×Y3×Y3×A2) (λa=>(OR a.2.2).bind λi=>if !decide ((BA i.1.1)=(BA a.1)) then I (((0,0,0,0,0,0,0,0,0,noB,()),A3,()),()) else I ((a.2.2.1,A1,()),()))<|(if A0 (10<(x.1.length:Int)) then if inb 8 x.1.length then let j:=(w64<|rd (dfl .u8) x.1 8);(if inb 9 x.1.length then if inb 10 x.1.length then let k:=(w64<|(w64<|(w64<|rd (dfl .u8) x.1 9) * 256)+(w64<|rd (dfl .u8) x.1 10));(if(A0 (0<=15)&&A0 (15<=(x.1.length:Int)))&&(A0 (0<=11)&&A0 (11<=15)) then let l:=(BA<|Bp (AK 11)<|BH (AK 15) x.1);I (.inr (x.1,(0,0,0,0,0,0,0,0,0,noB,()),(b,c,d,e,f,g,h,j,k,l,()),())) else U) else U else U) else U else I (.inr (x.1,(0,0,0,0,0,0,0,0,0,noB,()),(b,c,d,e,f,g,h,0,0,noB,()),())))) else U else U else U else U else U else U else U else U
def Yg:Ent:=(22,U,⟨[.fz .u8],[Z4,.bool],Qv⟩)
def mM:SQ Tryz.prog Yg:=sk (v:=t1<|t1<|t1<|.join [(0,.sl .u8),(2,Z5),(4,Z5)] .nil .nil) (fn:=Tryz.f22) ako kN
def anr:Cx:=cX [] [] []
def auJ:OKC Tryz.prog anr AF:=okc mixed<|AJ
def ao(x:Int×Int×A2):Option ((Int×A2)×A2):=if A0 (x.1<x.2.1) then I ((x.1,()),()) else I (x.2,())
def nM:Ent:=(79,U,⟨[.int .i64,.int .i64],[.int .i64],ao⟩)
def uZ:SQ Tryz.prog nM:=sk (v:= .nil) (fn:=Tryz.f79) auJ kN
def GC(sK:(Int×A2)->Option ((A4×A2)×(A2)))(x:Int×A2):Option ((A4×A2)×A2):=
 if A0 (x.1<(-9223372036854775807)) then
 let v2:=(B [45,57,50,50,51,51,55,50,48,51,54,56,53,52,55,55,53,56,48,56])
 I ((v2,()),())
 else
 if A0 (x.1<0) then
 (sK ((w64<|0 - x.1),())).bind λr4=>
 if A0 ((B [45]).size+r4.1.1.size<=4611686018427387904) then
 I ((((B [45])++r4.1.1),()),())
 else U
 else
 if A0 (x.1<10) then
 let v6:=(BA ([(w8<|w64<|48+x.1)]:List Int))
 I ((v6,()),())
 else
 (sK ((w64<|Ay x.1 10),())).bind λr7=>
 if A0 (r7.1.1.size+(BA ([(w8<|w64<|48+(B5 x.1 10))]:List Int)).size<=4611686018427387904) then
 let v8:=(r7.1.1++(BA ([(w8<|w64<|48+(B5 x.1 10))]:List Int)))
 I ((v8,()),())
 else U
def D6:=O6 GC
def apM(g:(Int×A2)->Option ((A4×A2)×(A2))):Cx:=cX [(121,U,⟨[.int .i64],[.str],g⟩)] [] []
def anI(g:(Int×A2)->Option ((A4×A2)×(A2)))(h:SQ Tryz.prog (121,U,⟨[.int .i64],[.str],g⟩)):OKC Tryz.prog (apM g) AF:=okc mixed<|gC h<|AJ
def Mi:Ent:=(121,U,⟨[.int .i64],[.str],D6⟩)
def N4:SQ Tryz.prog Mi:=soR (Nk (by kernel_rfl:Tryz.prog.funcs[121]? =I Tryz.f121) (by kernel_rfl) (by kernel_rfl:Tryz.f121.body=I (L4 Tryz.f121))) (λ_=>by kernel_rfl) λg h=>so (v:= .nil) (fn:=Tryz.f121) (anI g h) (by kernel_rfl) (by kernel_rfl) (by kernel_rfl) kN λ_=>by kernel_rfl
def axD:Cx:=cX [Mi] [] [(9,11),(24,27)]
def aaU:OKC Tryz.prog axD AF:=okc mixed<|gC N4<|AJ
def bL(x:A4×Int×Int×A2):Rnd (A4×Int×Int×A2) (Int×A2) (A4×Int×A2):=if A0 (x.2.2.1<(x.1.size:Int)) then if inb x.2.2.1 x.1.size then if Ah (!(A0<|(bt x.1 x.2.2.1)<48)) (inb x.2.2.1 x.1.size) then if(A0<|(bt x.1 x.2.2.1)<48)||(A0<|57<(bt x.1 x.2.2.1)) then I (.inr<|.inl ((-1),())) else if inb x.2.2.1 x.1.size then let a:=(w64<|(w64<|x.2.1 * 10)+(w64<|w8<|(bt x.1 x.2.2.1) - 48));I (.inl (x.1,a,(w64<|x.2.2.1+1),())) else U else U else U else I (.inr<|.inr (x.1,x.2.1,()))
def fM:=AZ bL
def vT:Loop:=⟨[(0,.str),(3,.int .i64),(4,.int .i64)],[(0,.str),(3,.int .i64)],0,[(2,.int .i64)],fM⟩
def axj:LF Tryz.f149 [] [1,1,1,0,1,0,0] vT:=sq (v:= .nil) aaU (b:=bL) kN
def P8(x:A4×A2):Option ((Int×A2)×A2):=if(A0<|(x.1.size:Int)<1)||(A0<|4<(x.1.size:Int)) then I (((-1),()),()) else(AS (fM (x.1,0,0,())) (λa=>I (a,())) λa=>(D6 a.2).bind λb=>if !decide (b.1.1=a.1) then I (((-1),()),()) else I (a.2,()))
def Zp:Ent:=(149,U,⟨[.str],[.int .i64],P8⟩)
def pY:SQ Tryz.prog Zp:=sk (v:=t1<|t1<|t1<|.two (t1<|.one<|.loop vT) .nil) (fn:=Tryz.f149) aaU<|kC axj kN
def azY:Cx:=cX [Zp] [] [(11,12)]
def aAS:OKC Tryz.prog azY AF:=okc mixed<|gC pY<|AJ
def Nl(x:A4×Int×A2):Rnd (A4×Int×A2) (A4×Int×A2) (A2):=if(A0<|x.2.1<(x.1.size:Int))&&(A0<|x.2.1<3) then if inb x.2.1 x.1.size then if !decide ((bt x.1 x.2.1)=58) then I (.inl (x.1,(w64<|x.2.1+1),())) else if A0 (0<=x.2.1)&&A0 (x.2.1<=(x.1.size:Int)) then(P8 ((x.1.extract (0)<|AK x.2.1),())).bind λa=>if A0 (a.1.1<1) then I (.inr<|.inl (noB,0,())) else if A0 (60<a.1.1) then I (.inr<|.inl (noB,0,())) else if A0 ((x.1.size:Int)<(w64<|(w64<|x.2.1+2)+a.1.1)) then I (.inr<|.inl (noB,0,())) else if inb (w64<|(w64<|x.2.1+1)+a.1.1) x.1.size then if !decide ((bt x.1<|w64<|(w64<|x.2.1+1)+a.1.1)=59) then I (.inr<|.inl (noB,0,())) else if(A0 (0<=(w64<|(w64<|x.2.1+1)+a.1.1))&&A0 ((w64<|(w64<|x.2.1+1)+a.1.1)<=(x.1.size:Int)))&&(A0 (0<=(w64<|x.2.1+1))&&A0 ((w64<|x.2.1+1)<=(w64<|(w64<|x.2.1+1)+a.1.1))) then let b:=(x.1.extract (AK<|w64<|x.2.1+1)<|AK<|w64<|(w64<|x.2.1+1)+a.1.1);let c:=(w64<|(w64<|x.2.1+2)+a.1.1);I (.inr<|.inl (b,c,())) else U else U else U else U else I (.inr<|.inr ())
def ma:=AZ Nl
def qE:Loop:=⟨[(0,.str),(4,.int .i64)],[],0,[(2,.str),(3,.int .i64)],ma⟩
def an8:LF Tryz.f107 [] [1,0,1,0,0] qE:=sq (v:= .nil) aAS (b:=Nl) kN
def Xi(x:A4×A2):Option ((A4×Int×A2)×A2):=(AS (ma (x.1,0,())) (λa=>I (a,())) λa=>I ((noB,0,()),()))
def xI:Ent:=(107,U,⟨[.str],[.str,.int .i64],Xi⟩)
def alw:SQ Tryz.prog xI:=sk (v:=t1<|.two (t1<|.one<|.loop qE) .nil) (fn:=Tryz.f107) aAS<|kC an8 kN
def ags:Cx:=cX [xI] [] []
def xh:OKC Tryz.prog ags AF:=okc mixed<|gC alw<|AJ
def RM(x:A4×List A4×Int×A2):Rnd (A4×List A4×Int×A2) (List A4×Int×A2) (List A4×Int×A2):=if A0 (x.2.2.1<(x.1.size:Int)) then if A0 (0<=x.2.2.1)&&A0 (x.2.2.1<=(x.1.size:Int)) then(Xi ((x.1.extract (AK x.2.2.1)<|x.1.size),())).bind λa=>if A0 (a.1.2.1=0) then I (.inr<|.inl x.2) else if Ab (x.2.1.length+([a.1.1]:List A4).length) then let b:=(w64<|x.2.2.1+a.1.2.1);I (.inl (x.1,(x.2.1++([a.1.1]:List A4)),b,())) else U else U else I (.inr<|.inr x.2)
def ee:=AZ RM
def sX:Loop:=⟨[(0,.str),(4,.row 9 .str),(5,.int .i64)],[(4,.row 9 .str),(5,.int .i64)],0,[(2,.row 9 .str),(3,.int .i64)],ee⟩
def alQ:LF Tryz.f58 [] [1,1,1,0,0,0] sX:=sq (v:= .nil) xh (b:=RM) kN
def Ky(x:A4×A2):Option ((List A4×Int×A2)×A2):=(AS (ee (x.1,([]:List A4),0,())) (λa=>I (a,())) λa=>I (a,()))
def UE:Ent:=(58,U,⟨[.str],[.row 9 .str,.int .i64],Ky⟩)
def bN:SQ Tryz.prog UE:=sk (v:=t1<|t1<|t1<|.two (.one<|.loop sX) .nil) (fn:=Tryz.f58) xh<|kC alQ kN
def ag7:Cx:=cX [IG] [] []
def aju:OKC Tryz.prog ag7 AF:=okc mixed<|gC Iz<|AJ
def XI(x:Int×A2):Option ((Y4×A2)×A2):=(FC x).bind λa=>if !a.1.1 then I (((0,0,0,([]:List A7),([]:List Mark),([]:List A7),()),()),()) else I (((x.1,0,1,([]:List A7),([]:List Mark),([]:List A7),()),()),())
def abt:Ent:=(108,U,⟨[.int .i64],[Z6],XI⟩)
def ahX:SQ Tryz.prog abt:=sk (v:= .nil) (fn:=Tryz.f108) aju kN
def aoK:Cx:=cX [] [] [(22,28)]
def rk:OKC Tryz.prog aoK AF:=okc mixed<|AJ
def aJ(x:List Mark×Int×Int×Int×A2):Rnd (List Mark×Int×Int×Int×A2) (Int×A2) (A2):=if A0 (x.2.2.2.1<(x.1.length:Int)) then if inb x.2.2.2.1 x.1.length then if Ah (A0<|(rd (dfl .mark) x.1 x.2.2.2.1).mf=x.2.1) (inb x.2.2.2.1 x.1.length) then if(A0<|(rd (dfl .mark) x.1 x.2.2.2.1).mf=x.2.1)&&(A0<|(rd (dfl .mark) x.1 x.2.2.2.1).mn=x.2.2.1) then I (.inr<|.inl x.2.2.2) else I (.inl (x.1,x.2.1,x.2.2.1,(w64<|x.2.2.2.1+1),())) else U else U else I (.inr<|.inr ())
def pg:=AZ aJ
def qP:Loop:=⟨[(0,.sl .mark),(1,.int .i64),(2,.int .i64),(7,.int .i64)],[],0,[(6,.int .i64)],pg⟩
def ayZ:LF Tryz.f159 [] [1,0,1,0,0] qP:=sq (v:= .nil) rk (b:=aJ) kN
def Jc(x:List Mark×Int×Int×A2):Option ((Int×A2)×A2):=(AS (pg (x.1,x.2.1,x.2.2.1,0,())) (λa=>I (a,())) λa=>I (((-1),()),()))
def Va:Ent:=(159,U,⟨[.fz .mark,.int .i64,.int .i64],[.int .i64],Jc⟩)
def W8:SQ Tryz.prog Va:=sk (v:=t1<|.two (t1<|.one<|.loop qP) .nil) (fn:=Tryz.f159) rk<|kC ayZ kN
def ahS:Cx:=cX [GR,IG] [] [(51,55)]
def uf:OKC Tryz.prog ahS AF:=okc mixed<|gC HI<|gC Iz<|AJ
def XF(x:Y5×Int×A2):Rnd (Y5×Int×A2) (Bool×A2) (A2):=if A0 (x.2.1<(x.1.2.2.2.2.1.size:Int)) then if inb x.2.1 x.1.2.2.2.2.1.size then if Ah (!(A0<|(bt x.1.2.2.2.2.1 x.2.1)<32)) (inb x.2.1 x.1.2.2.2.2.1.size) then if(A0<|(bt x.1.2.2.2.2.1 x.2.1)<32)||(A0<|126<(bt x.1.2.2.2.2.1 x.2.1)) then I (.inr<|.inl (A3,())) else I (.inl (x.1,(w64<|x.2.1+1),())) else U else U else I (.inr<|.inr ())
def oF:=AZ XF
def q6:Loop:=⟨[(1,Z7),(3,.int .i64)],[],0,[(2,.bool)],oF⟩
def agk:LF Tryz.f35 [] [1,1,0,1,0,0] q6:=sq (v:= .nil) uf (b:=XF) kN
def O3(x:Y5×A2):Option ((Bool×A2)×A2):=(FC (x.1.1,())).bind λb=>if !b.1.1 then I ((A3,()),()) else(FC (x.1.2.2.1,())).bind λc=>if !c.1.1 then I ((A3,()),()) else(Cv (x.1.2.1,1,99,())).bind λd=>if !d.1.1 then I ((A3,()),()) else(Cv (x.1.2.2.2.1,1,999,())).bind λe=>if !e.1.1 then I ((A3,()),()) else if A0 ((x.1.2.2.2.2.1.size:Int)<1) then I ((A3,()),()) else if A0 (24<(x.1.2.2.2.2.1.size:Int)) then I ((A3,()),()) else(AS (oF (x.1,0,())) (λa=>I (a,())) λa=>I ((A1,()),()))
def Ul:Ent:=(35,U,⟨[Z8],[.bool],O3⟩)
def bQ:SQ Tryz.prog Ul:=sk (v:=t1<|t1<|.two (t1<|.one<|.loop q6) .nil) (fn:=Tryz.f35) uf<|kC agk kN
def afY:Cx:=cX [] [] [(13,20)]
def aw7:OKC Tryz.prog afY AF:=okc mixed<|AJ
def Mq(x:Int×Int×Int×Int×A2):Option ((Bool×A2)×A2):=let a:=((A0<|x.1<x.2.2.1)||((A0<|x.1=x.2.2.1)&&(A0<|x.2.1<x.2.2.2.1)));I ((a,()),())
def Sl:Ent:=(214,U,⟨[.int .i64,.int .i64,.int .i64,.int .i64],[.bool],Mq⟩)
def cr:SQ Tryz.prog Sl:=sk (v:= .nil) (fn:=Tryz.f214) aw7 kN
def axm:Cx:=cX [Ul,Sl] [] [(23,50)]
def ae8:OKC Tryz.prog axm AF:=okc mixed<|gC bQ<|gC cr<|AJ
def ae(x:List A7×Int×A2):Rnd (List A7×Int×A2) (Bool×A2) (A2):=if A0 (x.2.1<(x.1.length:Int)) then if inb x.2.1 x.1.length then(O3 (((rd (dfl .note) x.1 x.2.1).fr,(rd (dfl .note) x.1 x.2.1).nu,(rd (dfl .note) x.1 x.2.1).to,(rd (dfl .note) x.1 x.2.1).un,(rd (dfl .note) x.1 x.2.1).tx,()),())).bind λa=>if Ah ((!(!a.1.1))&&(A0<|0<x.2.1)) (inb (w64<|x.2.1 - 1) x.1.length) then if Ah ((!(!a.1.1))&&(A0<|0<x.2.1)) (inb (w64<|x.2.1 - 1) x.1.length) then if Ah ((!(!a.1.1))&&(A0<|0<x.2.1)) (inb x.2.1 x.1.length) then if Ah ((!(!a.1.1))&&(A0<|0<x.2.1)) (inb x.2.1 x.1.length) then if Ah ((!(!a.1.1))&&(A0<|0<x.2.1)) ((Mq ((rd (dfl .note) x.1<|w64<|x.2.1 - 1).fr,(rd (dfl .note) x.1<|w64<|x.2.1 - 1).nu,(rd (dfl .note) x.1 x.2.1).fr,(rd (dfl .note) x.1 x.2.1).nu,())).isSome) then if(!a.1.1)||((A0<|0<x.2.1)&&(!(((Mq ((rd (dfl .note) x.1<|w64<|x.2.1 - 1).fr,(rd (dfl .note) x.1<|w64<|x.2.1 - 1).nu,(rd (dfl .note) x.1 x.2.1).fr,(rd (dfl .note) x.1 x.2.1).nu,())).getD ((A3,()),())).1.1))) then I (.inr<|.inl (A3,())) else I (.inl (x.1,(w64<|x.2.1+1),())) else U else U else U else U else U else U else I (.inr<|.inr ())
def mX:=AZ ae
def yf:Loop:=⟨[(0,.sl .note),(5,.int .i64)],[],0,[(4,.bool)],mX⟩
def ayt:LF Tryz.f181 [] [1,1,0,1,0,0] yf:=sq (v:= .nil) ae8 (b:=ae) kN
def UK(x:List A7×Int×A2):Option ((Bool×A2)×A2):=if A0 (x.2.1<(x.1.length:Int)) then I ((A3,()),()) else(AS (mX (x.1,0,())) (λa=>I (a,())) λa=>I ((A1,()),()))
def acE:Ent:=(181,U,⟨[.fz .note,.int .i64],[.bool],UK⟩)
def aqi:SQ Tryz.prog acE:=sk (v:=t1<|t1<|.two (t1<|.one<|.loop yf) .nil) (fn:=Tryz.f181) ae8<|kC ayt kN
def auv:Cx:=cX [GR,IG,Sl] [] []
def abN:OKC Tryz.prog auv AF:=okc mixed<|gC HI<|gC Iz<|gC cr<|AJ
def WB(x:List Mark×Int×A2):Rnd (List Mark×Int×A2) (Bool×A2) (A2):=if A0 (x.2.1<(x.1.length:Int)) then if inb x.2.1 x.1.length then let a:=(rd (dfl .mark) x.1 x.2.1).mf;let b:=(rd (dfl .mark) x.1 x.2.1).mn;let c:=(rd (dfl .mark) x.1 x.2.1).mu;(FC (a,())).bind λd=>if !d.1.1 then I (.inr<|.inl (A3,())) else(Cv (b,1,99,())).bind λe=>if !e.1.1 then I (.inr<|.inl (A3,())) else(Cv (c,1,999,())).bind λf=>if !f.1.1 then I (.inr<|.inl (A3,())) else if A0 (0<x.2.1) then if inb (w64<|x.2.1 - 1) x.1.length then if inb (w64<|x.2.1 - 1) x.1.length then(Mq ((rd (dfl .mark) x.1<|w64<|x.2.1 - 1).mf,(rd (dfl .mark) x.1<|w64<|x.2.1 - 1).mn,a,b,())).bind λg=>if !g.1.1 then I (.inr<|.inl (A3,())) else I (.inl (x.1,(w64<|x.2.1+1),())) else U else U else I (.inl (x.1,(w64<|x.2.1+1),())) else U else I (.inr<|.inr ())
def mE:=AZ WB
def wZ:Loop:=⟨[(0,.sl .mark),(3,.int .i64)],[],0,[(2,.bool)],mE⟩
def av4:LF Tryz.f182 [] [1,1,0,1,0,0] wZ:=sq (v:= .nil) abN (b:=WB) kN
def bO(x:List Mark×A2):Option ((Bool×A2)×A2):=if A0 (12<(x.1.length:Int)) then I ((A3,()),()) else(AS (mE (x.1,0,())) (λa=>I (a,())) λa=>I ((A1,()),()))
def rq:Ent:=(182,U,⟨[.fz .mark],[.bool],bO⟩)
def apB:SQ Tryz.prog rq:=sk (v:=t1<|t1<|.two (t1<|.one<|.loop wZ) .nil) (fn:=Tryz.f182) abN<|kC av4 kN
def afd:Cx:=cX [] [] [(16,25)]
def avu:OKC Tryz.prog afd AF:=okc mixed<|AJ
def cg(x:Y5×Int×A2):Option ((Bool×A2)×A2):=if A0 (x.1.1<=x.2.1) then let a:=((A0<|x.2.1<x.1.2.2.1)||((A0<|x.1.2.2.1<x.2.1)&&(A0<|x.2.1<=x.1.1)));I ((a,()),()) else let b:=((A0<|x.1.2.2.1<x.2.1)&&(A0<|x.2.1<=x.1.1));I ((b,()),())
def aA1:Ent:=(183,U,⟨[Z8,.int .i64],[.bool],cg⟩)
def as9:SQ Tryz.prog aA1:=sk (v:= .nil) (fn:=Tryz.f183) avu kN
def agO:Cx:=cX [GR,IG,Va,acE,rq,aA1] [] [(109,120)]
def dp:OKC Tryz.prog agO AF:=okc mixed<|gC HI<|gC Iz<|gC W8<|gC aqi<|gC apB<|gC as9<|AJ
def Yk(x:Y4×Int×A2):Rnd (Y4×Int×A2) (Bool×A2) (A2):=if A0 (x.2.1<(x.1.2.2.2.2.2.1.length:Int)) then if inb x.2.1 x.1.2.2.2.2.2.1.length then let pa:=(rd (dfl .note) x.1.2.2.2.2.2.1 x.2.1).fr;let a:=(rd (dfl .note) x.1.2.2.2.2.2.1 x.2.1).nu;let ap2:=(rd (dfl .note) x.1.2.2.2.2.2.1 x.2.1).to;let b:=(rd (dfl .note) x.1.2.2.2.2.2.1 x.2.1).un;let aBl:=(rd (dfl .note) x.1.2.2.2.2.2.1 x.2.1).tx;(if !decide (ap2=x.1.1) then I (.inr<|.inl (A3,())) else if A0 (pa=x.1.1) then if A0 (x.1.2.2.1<=a) then I (.inr<|.inl (A3,())) else if A0 (x.1.2.1<b) then(Jc (x.1.2.2.2.2.1,pa,a,())).bind λasN=>if A0 (asN.1.1<0) then I (.inr<|.inl (A3,())) else I (.inl (x.1,(w64<|x.2.1+1),())) else I (.inl (x.1,(w64<|x.2.1+1),())) else if A0 (x.1.2.1<b) then(Jc (x.1.2.2.2.2.1,pa,a,())).bind λahe=>if A0 (ahe.1.1<0) then I (.inr<|.inl (A3,())) else I (.inl (x.1,(w64<|x.2.1+1),())) else I (.inl (x.1,(w64<|x.2.1+1),()))) else U else I (.inr<|.inr ())
def iW:=AZ Yk
def tJ:Loop:=⟨[(1,Z9),(7,.int .i64)],[],4,[(2,.bool)],iW⟩
def axN:LF Tryz.f150 [] [1,1,1,1,0,1,0,0] tJ:=sq (v:= .nil) dp (b:=Yk) kN
def ZA(x:Y4×Int×A2):Rnd (Y4×Int×A2) (Bool×A2) (Y4×A2):=if A0 (x.2.1<(x.1.2.2.2.2.1.length:Int)) then if inb x.2.1 x.1.2.2.2.2.1.length then let a:=(rd (dfl .mark) x.1.2.2.2.2.1 x.2.1).mf;let b:=(rd (dfl .mark) x.1.2.2.2.2.1 x.2.1).mn;let c:=(rd (dfl .mark) x.1.2.2.2.2.1 x.2.1).mu;if(A0<|c<=x.1.2.1)||((A0<|a=x.1.1)&&(A0<|x.1.2.2.1<=b)) then I (.inr<|.inl (A3,())) else I (.inl (x.1,(w64<|x.2.1+1),())) else U else I (.inr<|.inr (x.1,()))
def mz:=AZ ZA
def adF:Loop:=⟨[(1,Z9),(5,.int .i64)],[(1,Z9)],2,[(2,.bool)],mz⟩
def ahl:LF Tryz.f150 [] [1,1,1,0,1,0,0] adF:=sq (v:= .nil) dp (b:=ZA) kN
def dD(x:Y4×Int×A2):Rnd (Y4×Int×A2) (Bool×A2) (Y4×A2):=if A0 (x.2.1<(x.1.2.2.2.1.length:Int)) then if inb x.2.1 x.1.2.2.2.1.length then let a:=(rd (dfl .note) x.1.2.2.2.1 x.2.1).fr;let b:=(rd (dfl .note) x.1.2.2.2.1 x.2.1).nu;let d:=(rd (dfl .note) x.1.2.2.2.1 x.2.1).to;let c:=(rd (dfl .note) x.1.2.2.2.1 x.2.1).un;let e:=(rd (dfl .note) x.1.2.2.2.1 x.2.1).tx;if A0 (c<=x.1.2.1) then I (.inr<|.inl (A3,())) else(cg ((a,b,d,c,e,()),x.1.1,())).bind λf=>if !f.1.1 then I (.inr<|.inl (A3,())) else if A0 (a=x.1.1) then if A0 (x.1.2.2.1<=b) then I (.inr<|.inl (A3,())) else(Jc (x.1.2.2.2.2.1,a,b,())).bind λg=>if A0 (0<=g.1.1) then I (.inr<|.inl (A3,())) else I (.inl (x.1,(w64<|x.2.1+1),())) else(Jc (x.1.2.2.2.2.1,a,b,())).bind λh=>if A0 (0<=h.1.1) then I (.inr<|.inl (A3,())) else I (.inl (x.1,(w64<|x.2.1+1),())) else U else I (.inr<|.inr (x.1,()))
def mI:=AZ dD
def sP:Loop:=⟨[(1,Z9),(3,.int .i64)],[(1,Z9)],0,[(2,.bool)],mI⟩
def arF:LF Tryz.f150 [] [1,1,0,1,0,0] sP:=sq (v:= .nil) dp (b:=dD) kN
def PB(x:Y4×A2):Option ((Bool×A2)×A2):=(FC (x.1.1,())).bind λc=>if !c.1.1 then I ((A3,()),()) else(Cv (x.1.2.1,0,999,())).bind λd=>if !d.1.1 then I ((A3,()),()) else(Cv (x.1.2.2.1,1,100,())).bind λe=>if !e.1.1 then I ((A3,()),()) else(UK (x.1.2.2.2.1,6,())).bind λf=>if !f.1.1 then I ((A3,()),()) else(bO (x.1.2.2.2.2.1,())).bind λg=>if !g.1.1 then I ((A3,()),()) else(UK (x.1.2.2.2.2.2.1,6,())).bind λh=>if !h.1.1 then I ((A3,()),()) else(AS (mI (x.1,0,())) (λa=>I (a,())) λa=>(AS (mz (a.1,0,())) (λb=>I (b,())) λb=>(AS (iW (b.1,0,())) (λaBb=>I (aBb,())) λaBb=>I ((A1,()),()))))
def jn:Ent:=(150,U,⟨[Z10],[.bool],PB⟩)
def aAE:SQ Tryz.prog jn:=sk (v:=t1<|t1<|.two (t1<|.one<|.loop sP)<|.two (t1<|.one<|.loop adF)<|.two (t1<|.one<|.loop tJ) .nil) (fn:=Tryz.f150) dp<|kC arF<|kC ahl<|kC axN kN
def ar0:Cx:=cX [] [] [(22,28)]
def aAL:OKC Tryz.prog ar0 AF:=okc mixed<|AJ
def aj(x:List A7×Int×Int×Int×A2):Rnd (List A7×Int×Int×Int×A2) (Int×A2) (A2):=if A0 (x.2.2.2.1<(x.1.length:Int)) then if inb x.2.2.2.1 x.1.length then if Ah (A0<|(rd (dfl .note) x.1 x.2.2.2.1).fr=x.2.1) (inb x.2.2.2.1 x.1.length) then if(A0<|(rd (dfl .note) x.1 x.2.2.2.1).fr=x.2.1)&&(A0<|(rd (dfl .note) x.1 x.2.2.2.1).nu=x.2.2.1) then I (.inr<|.inl x.2.2.2) else I (.inl (x.1,x.2.1,x.2.2.1,(w64<|x.2.2.2.1+1),())) else U else U else I (.inr<|.inr ())
def fh:=AZ aj
def abJ:Loop:=⟨[(0,.sl .note),(1,.int .i64),(2,.int .i64),(7,.int .i64)],[],0,[(6,.int .i64)],fh⟩
def ahy:LF Tryz.f125 [] [1,0,1,0,0] abJ:=sq (v:= .nil) aAL (b:=aj) kN
def FY(x:List A7×Int×Int×A2):Option ((Int×A2)×A2):=(AS (fh (x.1,x.2.1,x.2.2.1,0,())) (λa=>I (a,())) λa=>I (((-1),()),()))
def M6:Ent:=(125,U,⟨[.fz .note,.int .i64,.int .i64],[.int .i64],FY⟩)
def O7:SQ Tryz.prog M6:=sk (v:=t1<|.two (t1<|.one<|.loop abJ) .nil) (fn:=Tryz.f125) aAL<|kC ahy kN
def aw5:Cx:=cX [] [] []
def uW:OKC Tryz.prog aw5 AF:=okc mixed<|AJ
def dQ(x:A4×Int×A2):Rnd (A4×Int×A2) (A4×A4×A2) (A4×A2):=if A0 (x.2.1<(x.1.size:Int)) then if inb x.2.1 x.1.size then if A0 ((bt x.1 x.2.1)=32) then if A0 (0<=x.2.1)&&A0 (x.2.1<=(x.1.size:Int)) then if A0 (0<=(w64<|x.2.1+1))&&A0 ((w64<|x.2.1+1)<=(x.1.size:Int)) then let a:=(x.1.extract (0)<|AK x.2.1);let b:=(x.1.extract (AK<|w64<|x.2.1+1)<|x.1.size);I (.inr<|.inl (a,b,())) else U else U else I (.inl (x.1,(w64<|x.2.1+1),())) else U else I (.inr<|.inr (x.1,()))
def gh:=AZ dQ
def tC:Loop:=⟨[(0,.str),(4,.int .i64)],[(0,.str)],0,[(2,.str),(3,.str)],gh⟩
def azo:LF Tryz.f184 [] [1,0,1,0,0] tC:=sq (v:= .nil) uW (b:=dQ) kN
def Nw(x:A4×A2):Option ((A4×A4×A2)×A2):=(AS (gh (x.1,0,())) (λa=>I (a,())) λa=>I ((a.1,noB,()),()))
def gU:Ent:=(184,U,⟨[.str],[.str,.str],Nw⟩)
def aai:SQ Tryz.prog gU:=sk (v:=t1<|.two (t1<|.one<|.loop tC) .nil) (fn:=Tryz.f184) uW<|kC azo kN
def amL:Cx:=cX [] [] []
def kt:OKC Tryz.prog amL AF:=okc mixed<|AJ
def dR(x:Int×Y4×Y4×List A7×List Mark×Int×A2):Rnd (Int×Y4×Y4×List A7×List Mark×Int×A2) (A2) (Int×Y4×Y4×List A7×List Mark×A2):=if A0 (x.2.2.2.2.2.1<(x.2.1.2.2.2.2.1.length:Int)) then if inb x.2.2.2.2.2.1 x.2.1.2.2.2.2.1.length then if A0 (x.1<(rd (dfl .mark) x.2.1.2.2.2.2.1 x.2.2.2.2.2.1).mu) then if inb x.2.2.2.2.2.1 x.2.1.2.2.2.2.1.length then if Ab (x.2.2.2.2.1.length+([(rd (dfl .mark) x.2.1.2.2.2.2.1 x.2.2.2.2.2.1)]:List Mark).length) then let a:=(w64<|x.2.2.2.2.2.1+1);I (.inl (x.1,x.2.1,x.2.2.1,x.2.2.2.1,(x.2.2.2.2.1++([(rd (dfl .mark) x.2.1.2.2.2.2.1 x.2.2.2.2.2.1)]:List Mark)),a,())) else U else U else let b:=(w64<|x.2.2.2.2.2.1+1);I (.inl (x.1,x.2.1,x.2.2.1,x.2.2.2.1,x.2.2.2.2.1,b,())) else U else I (.inr<|.inr (x.1,x.2.1,x.2.2.1,x.2.2.2.1,x.2.2.2.2.1,()))
def nU:=AZ dR
def zO:Loop:=⟨[(1,.int .i64),(2,Z9),(4,Z11),(5,.row 53 .note),(7,.row 174 .mark),(8,.int .i64)],[(1,.int .i64),(2,Z9),(4,Z11),(5,.row 53 .note),(7,.row 174 .mark)],2,[],nU⟩
def avK:LF Tryz.f185 [] [1,1,1,1,0,1,0,0] zO:=sq (v:= .nil) kt (b:=dR) kN
def de(x:Int×Y4×Y4×List A7×Int×A2):Rnd (Int×Y4×Y4×List A7×Int×A2) (A2) (Int×Y4×Y4×List A7×A2):=if A0 (x.2.2.2.2.1<(x.2.1.2.2.2.1.length:Int)) then if inb x.2.2.2.2.1 x.2.1.2.2.2.1.length then if A0 (x.1<(rd (dfl .note) x.2.1.2.2.2.1 x.2.2.2.2.1).un) then if inb x.2.2.2.2.1 x.2.1.2.2.2.1.length then if Ab (x.2.2.2.1.length+([(rd (dfl .note) x.2.1.2.2.2.1 x.2.2.2.2.1)]:List A7).length) then I (.inl (x.1,x.2.1,x.2.2.1,(x.2.2.2.1++([(rd (dfl .note) x.2.1.2.2.2.1 x.2.2.2.2.1)]:List A7)),(w64<|x.2.2.2.2.1+1),())) else U else U else I (.inl (x.1,x.2.1,x.2.2.1,x.2.2.2.1,(w64<|x.2.2.2.2.1+1),())) else U else I (.inr<|.inr (x.1,x.2.1,x.2.2.1,x.2.2.2.1,()))
def pf:=AZ de
def aeR:Loop:=⟨[(1,.int .i64),(2,Z9),(4,Z11),(5,.row 53 .note),(6,.int .i64)],[(1,.int .i64),(2,Z9),(4,Z11),(5,.row 53 .note)],0,[],pf⟩
def arK:LF Tryz.f185 [] [1,1,0,1,0,0] aeR:=sq (v:= .nil) kt (b:=de) kN
def bz(x:Y4×Int×A2):Option ((Y4×A2)×A2):=(AS (pf (x.2.1,x.1,(0,0,0,([]:List A7),([]:List Mark),([]:List A7),()),([]:List A7),0,())) (λ_=>U) λb=>(AS (nU (b.1,b.2.1,b.2.2.1,b.2.2.2.1,([]:List Mark),0,())) (λ_=>U) λa=>I (((a.2.1.1,a.1,a.2.1.2.2.1,a.2.2.2.1,a.2.2.2.2.1,a.2.1.2.2.2.2.2),()),())))
def tH:Ent:=(185,U,⟨[Z10,.int .i64],[Z10],bz⟩)
def aot:SQ Tryz.prog tH:=sk (v:=t1<|t1<|.two (t1<|.one<|.loop aeR)<|t1<|.two (t1<|.one<|.loop zO) .nil) (fn:=Tryz.f185) kt<|kC arK<|kC avK kN
def aoM:Cx:=cX [Ul,Mi] [] []
def ayy:OKC Tryz.prog aoM AF:=okc mixed<|gC bQ<|gC N4<|AJ
def Ju(x:Y5×A2):Option ((A4×A2)×A2):=(O3 x).bind λe=>if !e.1.1 then I ((noB,()),()) else(D6 (x.1.1,())).bind λa=>if A0 (a.1.1.size+(B [32]).size<=4611686018427387904) then(D6 (x.1.2.1,())).bind λb=>if A0 ((a.1.1++(B [32])).size+b.1.1.size<=4611686018427387904) then if A0 (((a.1.1++(B [32]))++b.1.1).size+(B [32]).size<=4611686018427387904) then(D6 (x.1.2.2.1,())).bind λc=>if A0 ((((a.1.1++(B [32]))++b.1.1)++(B [32])).size+c.1.1.size<=4611686018427387904) then if A0 (((((a.1.1++(B [32]))++b.1.1)++(B [32]))++c.1.1).size+(B [32]).size<=4611686018427387904) then(D6 (x.1.2.2.2.1,())).bind λd=>if A0 ((((((a.1.1++(B [32]))++b.1.1)++(B [32]))++c.1.1)++(B [32])).size+d.1.1.size<=4611686018427387904) then if A0 (((((((a.1.1++(B [32]))++b.1.1)++(B [32]))++c.1.1)++(B [32]))++d.1.1).size+(B [32]).size<=4611686018427387904) then if A0 ((((((((a.1.1++(B [32]))++b.1.1)++(B [32]))++c.1.1)++(B [32]))++d.1.1)++(B [32])).size+x.1.2.2.2.2.1.size<=4611686018427387904) then let f:=((((((((a.1.1++(B [32]))++b.1.1)++(B [32]))++c.1.1)++(B [32]))++d.1.1)++(B [32]))++x.1.2.2.2.2.1);I ((f,()),()) else U else U else U else U else U else U else U else U
def Rg:Ent:=(123,U,⟨[Z8],[.str],Ju⟩)
def Uf:SQ Tryz.prog Rg:=sk (v:= .nil) (fn:=Tryz.f123) ayy kN
def ar4:Cx:=cX [Zp,gU] [] []
def y5:OKC Tryz.prog ar4 AF:=okc mixed<|gC pY<|gC aai<|AJ
def dF(x:A4×Int×List Int×Int×A2):Rnd (A4×Int×List Int×Int×A2) (A2) (A4×List Int×A2):=if A0 (x.2.2.2.1<x.2.1) then(Nw (x.1,())).bind λa=>(P8 (a.1.1,())).bind λb=>if Ab (x.2.2.1.length+([b.1.1]:List Int).length) then I (.inl (a.1.2.1,x.2.1,(x.2.2.1++([b.1.1]:List Int)),(w64<|x.2.2.2.1+1),())) else U else I (.inr<|.inr (x.1,x.2.2.1,()))
def oN:=AZ dF
def zC:Loop:=⟨[(0,.str),(1,.int .i64),(6,.row 3 .int),(7,.int .i64)],[(0,.str),(6,.row 3 .int)],0,[],oN⟩
def amo:LF Tryz.f189 [] [1,1,0,1,0,0] zC:=sq (v:= .nil) y5 (b:=dF) kN
def OU(x:A4×Int×A2):Option ((List Int×A4×A2)×A2):=(AS (oN (x.1,x.2.1,([]:List Int),0,())) (λ_=>U) λa=>I ((a.2.1,a.1,()),()))
def fW:Ent:=(189,U,⟨[.str,.int .i64],[.row 3 .int,.str],OU⟩)
def xU:SQ Tryz.prog fW:=sk (v:=t1<|t1<|.two (t1<|.one<|.loop zC) .nil) (fn:=Tryz.f189) y5<|kC amo kN
def ayu:Cx:=cX [Rg,fW] [] [(29,32)]
def avg:OKC Tryz.prog ayu AF:=okc mixed<|gC Uf<|gC xU<|AJ
def Pl(x:A4×A2):Option ((Y5×Bool×A2)×A2):=(OU (x.1,4,())).bind λa=>if inb 0 a.1.1.length then if inb 1 a.1.1.length then if inb 2 a.1.1.length then if inb 3 a.1.1.length then if Ah (!(A0<|x.1=noB)) ((Ju (((rd (dfl .int) a.1.1 0),(rd (dfl .int) a.1.1 1),(rd (dfl .int) a.1.1 2),(rd (dfl .int) a.1.1 3),a.1.2),())).isSome) then if(A0<|x.1=noB)||(!decide (((Ju (((rd (dfl .int) a.1.1 0),(rd (dfl .int) a.1.1 1),(rd (dfl .int) a.1.1 2),(rd (dfl .int) a.1.1 3),a.1.2),())).getD ((noB,()),())).1.1=x.1)) then I (((0,0,0,0,noB,()),A3,()),()) else I ((((rd (dfl .int) a.1.1 0),(rd (dfl .int) a.1.1 1),(rd (dfl .int) a.1.1 2),(rd (dfl .int) a.1.1 3),a.1.2),A1,()),()) else U else U else U else U else U
def abj:Ent:=(186,U,⟨[.str],[Z8,.bool],Pl⟩)
def anm:SQ Tryz.prog abj:=sk (v:= .nil) (fn:=Tryz.f186) avg kN
def alv:Cx:=cX [Sl] [] [(18,32)]
def aA8:OKC Tryz.prog alv AF:=okc mixed<|gC cr<|AJ
def XV(x:List A7×Y5×List A7×Bool×Int×A2):Rnd (List A7×Y5×List A7×Bool×Int×A2) (A2) (Y5×List A7×Bool×A2):=if A0 (x.2.2.2.2.1<(x.1.length:Int)) then(B8 (X:=List A7×Y5×List A7×Bool×Int×A2) (λa=>if inb a.2.2.2.2.1 a.1.length then if Ab (a.2.2.1.length+([(rd (dfl .note) a.1 a.2.2.2.2.1)]:List A7).length) then I (.inl (a.1,a.2.1,(a.2.2.1++([(rd (dfl .note) a.1 a.2.2.2.2.1)]:List A7)),a.2.2.2.1,(w64<|a.2.2.2.2.1+1),())) else U else U)<|(if Ah (!x.2.2.2.1) (inb x.2.2.2.2.1 x.1.length) then if Ah (!x.2.2.2.1) (inb x.2.2.2.2.1 x.1.length) then if Ah (!x.2.2.2.1) ((Mq (x.2.1.1,x.2.1.2.1,(rd (dfl .note) x.1 x.2.2.2.2.1).fr,(rd (dfl .note) x.1 x.2.2.2.2.1).nu,())).isSome) then if(!x.2.2.2.1)&&(((Mq (x.2.1.1,x.2.1.2.1,(rd (dfl .note) x.1 x.2.2.2.2.1).fr,(rd (dfl .note) x.1 x.2.2.2.2.1).nu,())).getD ((A3,()),())).1.1) then if Ab (x.2.2.1.length+([(A7.mk x.2.1.1 x.2.1.2.1 x.2.1.2.2.1 x.2.1.2.2.2.1 x.2.1.2.2.2.2.1)]:List A7).length) then I (.inr (x.1,x.2.1,(x.2.2.1++([(A7.mk x.2.1.1 x.2.1.2.1 x.2.1.2.2.1 x.2.1.2.2.2.1 x.2.1.2.2.2.2.1)]:List A7)),A1,x.2.2.2.2)) else U else I (.inr x) else U else U else U)) else I (.inr<|.inr (x.2.1,x.2.2.1,x.2.2.2.1,()))
def gJ:=AZ XV
def vS:Loop:=⟨[(0,.sl .note),(3,Z7),(5,.row 53 .note),(6,.bool),(7,.int .i64)],[(3,Z7),(5,.row 53 .note),(6,.bool)],0,[],gJ⟩
def auS:LF Tryz.f188 [] [1,1,1,0,1,0,0] vS:=sq (v:=t1<|.two (.one<|.join [(0,.sl .note),(3,Z7),(5,.row 53 .note),(6,.bool),(7,.int .i64)] .nil .nil) .nil) aA8 (b:=XV) kN
def OL(x:List A7×Y5×A2):Option ((List A7×A2)×A2):=(AS (gJ (x.1,x.2.1,([]:List A7),A3,0,())) (λ_=>U) λa=>(if !a.2.2.1 then if Ab (a.2.1.length+([(A7.mk a.1.1 a.1.2.1 a.1.2.2.1 a.1.2.2.2.1 a.1.2.2.2.2.1)]:List A7).length) then I (((a.2.1++([(A7.mk a.1.1 a.1.2.1 a.1.2.2.1 a.1.2.2.2.1 a.1.2.2.2.2.1)]:List A7)),()),()) else U else I ((a.2.1,()),())))
def pU:Ent:=(188,U,⟨[.fz .note,Z8],[.row 53 .note],OL⟩)
def uJ:SQ Tryz.prog pU:=sk (v:=t1<|t1<|t1<|.two (t1<|.one<|.loop vS) .nil) (fn:=Tryz.f188) aA8<|kC auS kN
def aof:Cx:=cX [Sl] [] [(18,32)]
def rQ:OKC Tryz.prog aof AF:=okc mixed<|gC cr<|AJ
def bE(x:List Mark×Y6×List Mark×Bool×Int×A2):Rnd (List Mark×Y6×List Mark×Bool×Int×A2) (A2) (Y6×List Mark×Bool×A2):=if A0 (x.2.2.2.2.1<(x.1.length:Int)) then(B8 (X:=List Mark×Y6×List Mark×Bool×Int×A2) (λa=>if inb a.2.2.2.2.1 a.1.length then if Ab (a.2.2.1.length+([(rd (dfl .mark) a.1 a.2.2.2.2.1)]:List Mark).length) then I (.inl (a.1,a.2.1,(a.2.2.1++([(rd (dfl .mark) a.1 a.2.2.2.2.1)]:List Mark)),a.2.2.2.1,(w64<|a.2.2.2.2.1+1),())) else U else U)<|(if Ah (!x.2.2.2.1) (inb x.2.2.2.2.1 x.1.length) then if Ah (!x.2.2.2.1) (inb x.2.2.2.2.1 x.1.length) then if Ah (!x.2.2.2.1) ((Mq (x.2.1.1,x.2.1.2.1,(rd (dfl .mark) x.1 x.2.2.2.2.1).mf,(rd (dfl .mark) x.1 x.2.2.2.2.1).mn,())).isSome) then if(!x.2.2.2.1)&&(((Mq (x.2.1.1,x.2.1.2.1,(rd (dfl .mark) x.1 x.2.2.2.2.1).mf,(rd (dfl .mark) x.1 x.2.2.2.2.1).mn,())).getD ((A3,()),())).1.1) then if Ab (x.2.2.1.length+([(Mark.mk x.2.1.1 x.2.1.2.1 x.2.1.2.2.1)]:List Mark).length) then I (.inr (x.1,x.2.1,(x.2.2.1++([(Mark.mk x.2.1.1 x.2.1.2.1 x.2.1.2.2.1)]:List Mark)),A1,x.2.2.2.2)) else U else I (.inr x) else U else U else U)) else I (.inr<|.inr (x.2.1,x.2.2.1,x.2.2.2.1,()))
def fg:=AZ bE
def aco:Loop:=⟨[(0,.sl .mark),(3,Z12),(5,.row 174 .mark),(6,.bool),(7,.int .i64)],[(3,Z12),(5,.row 174 .mark),(6,.bool)],0,[],fg⟩
def ajF:LF Tryz.f192 [] [1,1,1,0,1,0,0] aco:=sq (v:=t1<|.two (.one<|.join [(0,.sl .mark),(3,Z12),(5,.row 174 .mark),(6,.bool),(7,.int .i64)] .nil .nil) .nil) rQ (b:=bE) kN
def Q5(x:List Mark×Y6×A2):Option ((List Mark×A2)×A2):=(AS (fg (x.1,x.2.1,([]:List Mark),A3,0,())) (λ_=>U) λa=>(if !a.2.2.1 then if Ab (a.2.1.length+([(Mark.mk a.1.1 a.1.2.1 a.1.2.2.1)]:List Mark).length) then I (((a.2.1++([(Mark.mk a.1.1 a.1.2.1 a.1.2.2.1)]:List Mark)),()),()) else U else I ((a.2.1,()),())))
def Yz:Ent:=(192,U,⟨[.fz .mark,Z13],[.row 174 .mark],Q5⟩)
def my:SQ Tryz.prog Yz:=sk (v:=t1<|t1<|t1<|.two (t1<|.one<|.loop aco) .nil) (fn:=Tryz.f192) rQ<|kC ajF kN
def ahw:Cx:=cX [Ul,M6,Va] [] [(35,42)]
def alc:OKC Tryz.prog ahw AF:=okc mixed<|gC bQ<|gC O7<|gC W8<|AJ
def WR(x:Y4×Y5×A2):Option ((Bool×A2)×A2):=(O3 x.2).bind λb=>if b.1.1 then if A0 (x.1.2.1<x.2.1.2.2.2.1) then(FY (x.1.2.2.2.1,x.2.1.1,x.2.1.2.1,())).bind λc=>if A0 (c.1.1<0) then(Jc (x.1.2.2.2.2.1,x.2.1.1,x.2.1.2.1,())).bind λa=>if Ah (A0<|a.1.1<0) ((FY (x.1.2.2.2.2.2.1,x.2.1.1,x.2.1.2.1,())).isSome) then let d:=((A0<|a.1.1<0)&&(A0<|((FY (x.1.2.2.2.2.2.1,x.2.1.1,x.2.1.2.1,())).getD ((0,()),())).1.1<0));I ((d,()),()) else U else if Ah A3 ((FY (x.1.2.2.2.2.2.1,x.2.1.1,x.2.1.2.1,())).isSome) then I ((A3,()),()) else U else if Ah A3 ((FY (x.1.2.2.2.2.2.1,x.2.1.1,x.2.1.2.1,())).isSome) then I ((A3,()),()) else U else if Ah A3 ((FY (x.1.2.2.2.2.2.1,x.2.1.1,x.2.1.2.1,())).isSome) then I ((A3,()),()) else U
def vX:Ent:=(215,U,⟨[Z10,Z8],[.bool],WR⟩)
def akg:SQ Tryz.prog vX:=sk (v:= .nil) (fn:=Tryz.f215) alc kN
def atk:Cx:=cX [pU,Yz,vX] [] []
def asP:OKC Tryz.prog atk AF:=okc mixed<|gC uJ<|gC my<|gC akg<|AJ
def Sn(x:Y4×Y5×A2):Option ((Y4×Bool×A2)×A2):=(WR x).bind λc=>if !c.1.1 then I ((x.1,A3,()),()) else if !decide (x.2.1.2.2.1=x.1.1) then(OL (x.1.2.2.2.1,x.2)).bind λa=>let d:=(A0<|(w64<|(a.1.1.length:Int)+(x.1.2.2.2.2.1.length:Int))<=12);I (((x.1.1,x.1.2.1,x.1.2.2.1,a.1.1,x.1.2.2.2.2),d,()),()) else(OL (x.1.2.2.2.2.2.1,x.2)).bind λe=>(Q5 (x.1.2.2.2.2.1,(x.2.1.1,x.2.1.2.1,x.2.1.2.2.2.1,()),())).bind λb=>let f:=(A0<|(w64<|(x.1.2.2.2.1.length:Int)+(b.1.1.length:Int))<=12);I (((x.1.1,x.1.2.1,x.1.2.2.1,x.1.2.2.2.1,b.1.1,e.1),f,()),())
def sa:Ent:=(187,U,⟨[Z10,Z8],[Z10,.bool],Sn⟩)
def ao0:SQ Tryz.prog sa:=sk (v:= .nil) (fn:=Tryz.f187) asP kN
def aie:Cx:=cX [M6,Yz] [] []
def afw:OKC Tryz.prog aie AF:=okc mixed<|gC O7<|gC my<|AJ
def bM(x:Y4×Int×Int×A2):Option ((Y4×Bool×A2)×A2):=(FY (x.1.2.2.2.1,x.2)).bind λa=>if A0 (a.1.1<0) then I ((x.1,A3,()),()) else if inb a.1.1 x.1.2.2.2.1.length then let d:=(rd (dfl .note) x.1.2.2.2.1 a.1.1).fr;let e:=(rd (dfl .note) x.1.2.2.2.1 a.1.1).nu;let f:=(rd (dfl .note) x.1.2.2.2.1 a.1.1).to;let b:=(rd (dfl .note) x.1.2.2.2.1 a.1.1).un;let g:=(rd (dfl .note) x.1.2.2.2.1 a.1.1).tx;if A0 (0<=a.1.1)&&A0 (a.1.1<=(x.1.2.2.2.1.length:Int)) then if Ab (([]:List A7).length+(BH (AK a.1.1) x.1.2.2.2.1).length) then if A0 (0<=(w64<|a.1.1+1))&&A0 ((w64<|a.1.1+1)<=(x.1.2.2.2.1.length:Int)) then if Ab ((([]:List A7)++(BH (AK a.1.1) x.1.2.2.2.1)).length+(Bp (AK<|w64<|a.1.1+1) x.1.2.2.2.1).length) then(Q5 (x.1.2.2.2.2.1,(x.2.1,x.2.2.1,b,()),())).bind λc=>I (((x.1.1,x.1.2.1,x.1.2.2.1,((([]:List A7)++(BH (AK a.1.1) x.1.2.2.2.1))++(Bp (AK<|w64<|a.1.1+1) x.1.2.2.2.1)),c.1.1,x.1.2.2.2.2.2),A1,()),()) else U else U else U else U else U
def zc:Ent:=(190,U,⟨[Z10,.int .i64,.int .i64],[Z10,.bool],bM⟩)
def alA:SQ Tryz.prog zc:=sk (v:= .nil) (fn:=Tryz.f190) afw kN
def akY:Cx:=cX [M6] [] []
def akQ:OKC Tryz.prog akY AF:=okc mixed<|gC O7<|AJ
def cQ(x:Y4×Int×Int×A2):Option ((Y4×Bool×A2)×A2):=(FY (x.1.2.2.2.2.2.1,x.2)).bind λa=>if A0 (a.1.1<0) then I ((x.1,A3,()),()) else if A0 (0<=a.1.1)&&A0 (a.1.1<=(x.1.2.2.2.2.2.1.length:Int)) then if Ab (([]:List A7).length+(BH (AK a.1.1) x.1.2.2.2.2.2.1).length) then if A0 (0<=(w64<|a.1.1+1))&&A0 ((w64<|a.1.1+1)<=(x.1.2.2.2.2.2.1.length:Int)) then if Ab ((([]:List A7)++(BH (AK a.1.1) x.1.2.2.2.2.2.1)).length+(Bp (AK<|w64<|a.1.1+1) x.1.2.2.2.2.2.1).length) then I (((x.1.1,x.1.2.1,x.1.2.2.1,x.1.2.2.2.1,x.1.2.2.2.2.1,((([]:List A7)++(BH (AK a.1.1) x.1.2.2.2.2.2.1))++(Bp (AK<|w64<|a.1.1+1) x.1.2.2.2.2.2.1)),()),A1,()),()) else U else U else U else U
def acn:Ent:=(191,U,⟨[Z10,.int .i64,.int .i64],[Z10,.bool],cQ⟩)
def aef:SQ Tryz.prog acn:=sk (v:= .nil) (fn:=Tryz.f191) akQ kN
def amN:Cx:=cX [Mi,M6,Zp,Va,gU,tH,abj,sa,pU,fW,zc,acn,Yz] [] [(81,85),(157,174),(192,201),(228,237)]
def awg:OKC Tryz.prog amN AF:=okc mixed<|gC N4<|gC O7<|gC pY<|gC W8<|gC aai<|gC aot<|gC anm<|gC ao0<|gC uJ<|gC xU<|gC alA<|gC aef<|gC my<|AJ
def VC(x:Y4×A4×A2):Option ((Y4×Bool×A2)×A2):=(Nw x.2).bind λc=>let l:=(A0<|c.1.1=(B [116,105,109,101]));(if l then(P8 c.1.2).bind λi=>if A0 (i.1.1<=x.1.2.1) then I ((x.1,A3,()),()) else(bz (x.1,i.1)).bind λm=>I ((m.1.1,A1,()),()) else let n:=(A0<|c.1.1=(B [111,119,110]));(if n then(Pl c.1.2).bind λg=>if !g.1.2.1 then I ((x.1,A3,()),()) else if !decide (g.1.1.1=x.1.1) then I ((x.1,A3,()),()) else if !decide (g.1.1.2.1=x.1.2.2.1) then I ((x.1,A3,()),()) else(Sn ((x.1.1,x.1.2.1,(w64<|x.1.2.2.1+1),x.1.2.2.2),g.1.1,())).bind λo=>I (o.1,()) else let p:=(A0<|c.1.1=(B [116,97,107,101]));(if p then(Pl c.1.2).bind λh=>if(!h.1.2.1)||(A0<|h.1.1.1=x.1.1) then I ((x.1,A3,()),()) else(Sn (x.1,h.1.1,())).bind λq=>I (q.1,()) else let r:=(A0<|c.1.1=(B [110,101,120,116]));(if r then(P8 c.1.2).bind λj=>if A0 (j.1.1<=x.1.2.2.1) then I ((x.1,A3,()),()) else I (((x.1.1,x.1.2.1,j.1.1,x.1.2.2.2),A1,()),()) else(B8 (X:=Y4×Y4×A4×A4×Bool×A2) (λb=>if b.2.2.2.2.1 then(Pl (b.2.2.2.1,())).bind λd=>if !d.1.2.1 then I ((b.1,A3,()),()) else(FY (b.1.2.2.2.1,d.1.1.1,d.1.1.2.1,())).bind λs=>if A0 (0<=s.1.1) then I ((b.1,A3,()),()) else(FY (b.1.2.2.2.2.2.1,d.1.1.1,d.1.1.2.1,())).bind λt=>if A0 (0<=t.1.1) then I ((b.1,A3,()),()) else if A0 (b.2.2.1=(B [104,101,108,100])) then(OL (b.1.2.2.2.1,d.1.1,())).bind λu=>I (((b.1.1,b.1.2.1,b.1.2.2.1,u.1.1,b.1.2.2.2.2),A1,()),()) else(OL (b.1.2.2.2.2.2.1,d.1.1,())).bind λv=>I (((b.1.1,b.1.2.1,b.1.2.2.1,b.1.2.2.2.1,b.1.2.2.2.2.1,v.1),A1,()),()) else(OU (b.2.2.2.1,3,())).bind λa=>if Ah (!(!decide (a.1.2.1=noB))) (inb 0 a.1.1.length) then if Ah (!(!decide (a.1.2.1=noB))) ((D6 ((rd (dfl .int) a.1.1 0),())).isSome) then if Ah (!(!decide (a.1.2.1=noB))) (A0<|(((D6 ((rd (dfl .int) a.1.1 0),())).getD ((noB,()),())).1.1).size+(B [32]).size<=4611686018427387904) then if Ah (!(!decide (a.1.2.1=noB))) (inb 1 a.1.1.length) then if Ah (!(!decide (a.1.2.1=noB))) ((D6 ((rd (dfl .int) a.1.1 1),())).isSome) then if Ah (!(!decide (a.1.2.1=noB))) (A0<|((((D6 ((rd (dfl .int) a.1.1 0),())).getD ((noB,()),())).1.1)++(B [32])).size+(((D6 ((rd (dfl .int) a.1.1 1),())).getD ((noB,()),())).1.1).size<=4611686018427387904) then if Ah (!(!decide (a.1.2.1=noB))) (A0<|(((((D6 ((rd (dfl .int) a.1.1 0),())).getD ((noB,()),())).1.1)++(B [32]))++(((D6 ((rd (dfl .int) a.1.1 1),())).getD ((noB,()),())).1.1)).size+(B [32]).size<=4611686018427387904) then if Ah (!(!decide (a.1.2.1=noB))) (inb 2 a.1.1.length) then if Ah (!(!decide (a.1.2.1=noB))) ((D6 ((rd (dfl .int) a.1.1 2),())).isSome) then if Ah (!(!decide (a.1.2.1=noB))) (A0<|((((((D6 ((rd (dfl .int) a.1.1 0),())).getD ((noB,()),())).1.1)++(B [32]))++(((D6 ((rd (dfl .int) a.1.1 1),())).getD ((noB,()),())).1.1))++(B [32])).size+(((D6 ((rd (dfl .int) a.1.1 2),())).getD ((noB,()),())).1.1).size<=4611686018427387904) then if(!decide (a.1.2.1=noB))||(!decide (b.2.2.2.1=(((((((D6 ((rd (dfl .int) a.1.1 0),())).getD ((noB,()),())).1.1)++(B [32]))++(((D6 ((rd (dfl .int) a.1.1 1),())).getD ((noB,()),())).1.1))++(B [32]))++(((D6 ((rd (dfl .int) a.1.1 2),())).getD ((noB,()),())).1.1)))) then I ((b.1,A3,()),()) else let w:=(A0<|b.2.2.1=(B [108,101,116]));(if w then if inb 0 a.1.1.length then if inb 1 a.1.1.length then(FY (b.1.2.2.2.1,(rd (dfl .int) a.1.1 0),(rd (dfl .int) a.1.1 1),())).bind λe=>if Ah (!(A0<|e.1.1<0)) (inb e.1.1 b.1.2.2.2.1.length) then if Ah (!(A0<|e.1.1<0)) (inb 2 a.1.1.length) then if(A0<|e.1.1<0)||(!decide ((rd (dfl .note) b.1.2.2.2.1 e.1.1).un=(rd (dfl .int) a.1.1 2))) then I ((b.1,A3,()),()) else if inb 0 a.1.1.length then if inb 1 a.1.1.length then(bM (b.1,(rd (dfl .int) a.1.1 0),(rd (dfl .int) a.1.1 1),())).bind λy=>I (y.1,()) else U else U else U else U else U else U else let z:=(A0<|b.2.2.1=(B [101,97,116]));(if z then if inb 0 a.1.1.length then if inb 1 a.1.1.length then(FY (b.1.2.2.2.2.2.1,(rd (dfl .int) a.1.1 0),(rd (dfl .int) a.1.1 1),())).bind λf=>if Ah (!(A0<|f.1.1<0)) (inb f.1.1 b.1.2.2.2.2.2.1.length) then if Ah (!(A0<|f.1.1<0)) (inb 2 a.1.1.length) then if(A0<|f.1.1<0)||(!decide ((rd (dfl .note) b.1.2.2.2.2.2.1 f.1.1).un=(rd (dfl .int) a.1.1 2))) then I ((b.1,A3,()),()) else if inb 0 a.1.1.length then if inb 1 a.1.1.length then(cQ (b.1,(rd (dfl .int) a.1.1 0),(rd (dfl .int) a.1.1 1),())).bind λA=>I (A.1,()) else U else U else U else U else U else U else let C:=(A0<|b.2.2.1=(B [109,97,114,107]));(if C then if inb 0 a.1.1.length then if inb 1 a.1.1.length then(Jc (b.1.2.2.2.2.1,(rd (dfl .int) a.1.1 0),(rd (dfl .int) a.1.1 1),())).bind λD=>if A0 (0<=D.1.1) then I ((b.1,A3,()),()) else if inb 0 a.1.1.length then if inb 1 a.1.1.length then if inb 2 a.1.1.length then(Q5 (b.1.2.2.2.2.1,((rd (dfl .int) a.1.1 0),(rd (dfl .int) a.1.1 1),(rd (dfl .int) a.1.1 2),()),())).bind λE=>I (((b.1.1,b.1.2.1,b.1.2.2.1,b.1.2.2.2.1,E.1.1,b.1.2.2.2.2.2),A1,()),()) else U else U else U else U else U else I ((b.1,A3,()),())))) else U else U else U else U else U else U else U else U else U else U) (let k:=(A0<|c.1.1=(B [104,101,108,100]));(if k then I (.inr (x.1,(0,0,0,([]:List A7),([]:List Mark),([]:List A7),()),c.1.1,c.1.2.1,k,())) else let F:=(A0<|c.1.1=(B [105,110,98,111,120]));I (.inr (x.1,(0,0,0,([]:List A7),([]:List Mark),([]:List A7),()),c.1.1,c.1.2.1,F,())))))))))
def ac3:Ent:=(151,U,⟨[Z10,.str],[Z10,.bool],VC⟩)
def asj:SQ Tryz.prog ac3:=sk (v:=t1<|t1<|.two (t1<|.one<|t1<|t1<|t1<|t1<|t1<|t1<|t1<|t1<|.join [(2,Z9),(4,Z11),(6,.str),(7,.str),(105,.bool)] .nil .nil) .nil) (fn:=Tryz.f151) awg kN
def anG:Cx:=cX [] [] []
def arZ:OKC Tryz.prog anG AF:=okc mixed<|AJ
def Qk(x:Y4×A2):Option ((Y4×A2)×A2):=if Ab (([]:List A7).length+x.1.2.2.2.1.length) then if Ab (([]:List Mark).length+x.1.2.2.2.2.1.length) then if Ab (([]:List A7).length+x.1.2.2.2.2.2.1.length) then I (((x.1.1,x.1.2.1,x.1.2.2.1,(([]:List A7)++x.1.2.2.2.1),(([]:List Mark)++x.1.2.2.2.2.1),(([]:List A7)++x.1.2.2.2.2.2.1),()),()),()) else U else U else U
def vj:Ent:=(152,U,⟨[Z10],[Z6],Qk⟩)
def apw:SQ Tryz.prog vj:=sk (v:= .nil) (fn:=Tryz.f152) arZ kN
def avd:Cx:=cX [jn,ac3,vj] [] [(22,24)]
def aiN:OKC Tryz.prog avd AF:=okc mixed<|gC aAE<|gC asj<|gC apw<|AJ
def RP(x:Y4×A4×A2):Option ((Y4×Bool×A2)×A2):=(PB (x.1,())).bind λb=>if !b.1.1 then I (((0,0,0,([]:List A7),([]:List Mark),([]:List A7),()),A3,()),()) else(Qk (x.1,())).bind λc=>(VC (c.1.1,x.2)).bind λa=>if Ah (!(!a.1.2.1)) ((PB (a.1.1,())).isSome) then if(!a.1.2.1)||(!(((PB (a.1.1,())).getD ((A3,()),())).1.1)) then(Qk (x.1,())).bind λd=>I ((d.1.1,A3,()),()) else(Qk (a.1.1,())).bind λe=>I ((e.1.1,A1,()),()) else U
def er:Ent:=(109,U,⟨[Z10,.str],[Z6,.bool],RP⟩)
def vo:SQ Tryz.prog er:=sk (v:= .nil) (fn:=Tryz.f109) aiN kN
def aid:Cx:=cX [IG,abt,er] [] []
def zU:OKC Tryz.prog aid AF:=okc mixed<|gC Iz<|gC ahX<|gC vo<|AJ
def TP(x:List A4×Y4×Y4×Int×A2):Rnd (List A4×Y4×Y4×Int×A2) (Y4×Bool×A2) (Y4×Y4×A2):=if A0 (x.2.2.2.1<(x.1.length:Int)) then if inb x.2.2.2.1 x.1.length then(RP (x.2.2.1,(rd (dfl .str) x.1 x.2.2.2.1),())).bind λa=>if !a.1.2.1 then I (.inr<|.inl ((0,0,0,([]:List A7),([]:List Mark),([]:List A7),()),A3,())) else I (.inl (x.1,x.2.1,a.1.1,(w64<|x.2.2.2.1+1),())) else U else I (.inr<|.inr (x.2.1,x.2.2.1,()))
def l8:=AZ TP
def zg:Loop:=⟨[(1,.sl .str),(4,Z11),(6,Z11),(7,.int .i64)],[(4,Z11),(6,Z11)],0,[(4,Z11),(5,.bool)],l8⟩
def ah6:LF Tryz.f59 [] [1,1,1,0,1,0,0] zg:=sq (v:= .nil) zU (b:=TP) kN
def Py(x:Int×List A4×A2):Option ((Y4×Bool×A2)×A2):=(XI (x.1,())).bind λb=>(FC (x.1,())).bind λc=>if !c.1.1 then I ((b.1.1,A3,()),()) else(AS (l8 (x.2.1,(0,0,0,([]:List A7),([]:List Mark),([]:List A7),()),b.1.1,0,())) (λa=>I (a,())) λa=>I ((a.2.1,A1,()),()))
def iM:Ent:=(59,U,⟨[.int .i64,.fz .str],[Z6,.bool],Py⟩)
def aa4:SQ Tryz.prog iM:=sk (v:=t1<|t1<|t1<|.two (t1<|.one<|.loop zg) .nil) (fn:=Tryz.f59) zU<|kC ah6 kN
def aqa:Cx:=cX [UE,iM] [] []
def amO:OKC Tryz.prog aqa AF:=okc mixed<|gC bN<|gC aa4<|AJ
def FN(x:Y1×A2):Option ((Y4×Bool×A2)×A2):=(Ky (x.1.2.2.1,())).bind λa=>(Py (x.1.1,a.1.1,())).bind λb=>I (b.1,())
def IF:Ent:=(46,U,⟨[Z14],[Z6,.bool],FN⟩)
def Iw:SQ Tryz.prog IF:=sk (v:= .nil) (fn:=Tryz.f46) amO kN
def agF:Cx:=cX [GR,UE] [] [(12,18),(41,44)]
def axM:OKC Tryz.prog agF AF:=okc mixed<|gC HI<|gC bN<|AJ
def Mz(x:Y7×A2):Option ((Bool×A2)×A2):=if Ah (!(A0<|2400<(x.1.1.size:Int))) ((Cv (x.1.2.1,0,(x.1.1.size:Int),())).isSome) then if(A0<|2400<(x.1.1.size:Int))||(!(((Cv (x.1.2.1,0,(x.1.1.size:Int),())).getD ((A3,()),())).1.1)) then I ((A3,()),()) else(Ky (x.1.1,())).bind λa=>if A0 (0<=x.1.2.1)&&A0 (x.1.2.1<=(x.1.1.size:Int)) then(Ky ((x.1.1.extract (0)<|AK x.1.2.1),())).bind λb=>let c:=((A0<|a.1.2.1=(x.1.1.size:Int))&&(A0<|b.1.2.1=x.1.2.1));I ((c,()),()) else U else U
def QW:Ent:=(57,U,⟨[Z15],[.bool],Mz⟩)
def VJ:SQ Tryz.prog QW:=sk (v:= .nil) (fn:=Tryz.f57) axM kN
def aq1:Cx:=cX [GR] [] [(8,9)]
def aoI:OKC Tryz.prog aq1 AF:=okc mixed<|gC HI<|AJ
def M7(x:Int×Int×A2):Option ((Bool×A2)×A2):=(Cv (x.1,1,6,())).bind λa=>if Ah a.1.1 ((Cv (x.2.1,0,999,())).isSome) then let b:=(a.1.1&&(((Cv (x.2.1,0,999,())).getD ((A3,()),())).1.1));I ((b,()),()) else U
def Ug:Ent:=(153,U,⟨[.int .i64,.int .i64],[.bool],M7⟩)
def Xl:SQ Tryz.prog Ug:=sk (v:= .nil) (fn:=Tryz.f153) aoI kN
def anq:Cx:=cX [Ug] [] [(10,13)]
def afu:OKC Tryz.prog anq AF:=okc mixed<|gC Xl<|AJ
def RV(x:Int×Y8×A2):Option ((Bool×A2)×A2):=(M7 (x.1,x.2.1.1,())).bind λa=>let b:=(a.1.1&&(A0<|(x.2.1.2.1.size:Int)=4));I ((b,()),())
def kj:Ent:=(110,U,⟨[.int .i64,Z16],[.bool],RV⟩)
def zT:SQ Tryz.prog kj:=sk (v:= .nil) (fn:=Tryz.f110) afu kN
def aw0:Cx:=cX [] [] []
def amn:OKC Tryz.prog aw0 AF:=okc mixed<|AJ
def LI(x:Int×A2):Option ((Int×A2)×A2):=let a:=(w64<|Ay (w64<|(w64<|x.1+4) - 1) 4);I ((a,()),())
def Rs:Ent:=(111,U,⟨[.int .i64],[.int .i64],LI⟩)
def YU:SQ Tryz.prog Rs:=sk (v:= .nil) (fn:=Tryz.f111) amn kN
def auj:Cx:=cX [GR,IG,kj,Rs] [] []
def fJ:OKC Tryz.prog auj AF:=okc mixed<|gC HI<|gC Iz<|gC zT<|gC YU<|AJ
def cm(x:Y9×Int×Int×A2):Rnd (Y9×Int×Int×A2) (Bool×A2) (Y9×Int×A2):=if A0 (x.2.2.1<x.2.1) then if inb x.2.2.1 x.1.2.2.2.2.2.1.length then if inb x.2.1 x.1.2.2.2.2.2.1.length then if A0 ((rd (dfl .mixed) x.1.2.2.2.2.2.1 x.2.2.1).nu=(rd (dfl .mixed) x.1.2.2.2.2.2.1 x.2.1).nu) then I (.inr<|.inl (A3,())) else I (.inl (x.1,x.2.1,(w64<|x.2.2.1+1),())) else U else U else I (.inr<|.inr (x.1,x.2.1,()))
def ld:=AZ cm
def adG:Loop:=⟨[(1,Z17),(3,.int .i64),(4,.int .i64)],[(1,Z17),(3,.int .i64)],2,[(2,.bool)],ld⟩
def az0:LF Tryz.f60 [] [1,1,0,1,0,0,1,0,0,1,1,0,0] adG:=sq (v:= .nil) fJ (b:=cm) kN
def bZ(x:Y9×Int×A2):Rnd (Y9×Int×A2) (Bool×A2) (A2):=if A0 (x.2.1<(x.1.2.2.2.2.2.1.length:Int)) then(LI (x.1.2.2.2.2.1,())).bind λb=>if inb x.2.1 x.1.2.2.2.2.2.1.length then(RV (b.1.1,((rd (dfl .mixed) x.1.2.2.2.2.2.1 x.2.1).nu,(rd (dfl .mixed) x.1.2.2.2.2.2.1 x.2.1).da,()),())).bind λc=>if !c.1.1 then I (.inr<|.inl (A3,())) else(AS (ld (x.1,x.2.1,0,())) (λa=>I<|.inr<|.inl a) λa=>I<|.inl (a.1,(w64<|a.2.1+1),())) else U else I (.inr<|.inr ())
def lB:=AZ bZ
def wD:Loop:=⟨[(1,Z17),(3,.int .i64)],[],0,[(2,.bool)],lB⟩
def aqg:LF Tryz.f60 [] [1,1,0,1,0,0] wD:=sq (v:=t1<|.two (.one<|t1<|t1<|.one<|.loop adG) .nil) fJ (b:=bZ)<|kC az0 kN
def an(x:Y9×A2):Option ((Bool×A2)×A2):=(FC (x.1.1,())).bind λb=>if !b.1.1 then I ((A3,()),()) else(FC (x.1.2.2.1,())).bind λc=>if !c.1.1 then I ((A3,()),()) else(Cv (x.1.2.1,1,99,())).bind λd=>if !d.1.1 then I ((A3,()),()) else(Cv (x.1.2.2.2.1,1,999,())).bind λe=>if !e.1.1 then I ((A3,()),()) else(Cv (x.1.2.2.2.2.1,1,24,())).bind λf=>if !f.1.1 then I ((A3,()),()) else if A0 (14<(x.1.2.2.2.2.2.1.length:Int)) then I ((A3,()),()) else(AS (lB (x.1,0,())) (λa=>I (a,())) λa=>I ((A1,()),()))
def tu:Ent:=(60,U,⟨[Z18],[.bool],an⟩)
def aoS:SQ Tryz.prog tu:=sk (v:=t1<|t1<|.two (t1<|.one<|.loop wD) .nil) (fn:=Tryz.f60) fJ<|kC aqg kN
def aur:Cx:=cX [IG,IF,QW,UE,iM,tu] [] [(64,65),(100,112)]
def gR:OKC Tryz.prog aur AF:=okc mixed<|gC Iz<|gC Iw<|gC VJ<|gC bN<|gC aa4<|gC aoS<|AJ
def Vt(x:Y1×Int×Int×A2):Rnd (Y1×Int×Int×A2) (Bool×A2) (Y1×Int×A2):=if A0 (x.2.2.1<x.2.1) then if inb x.2.2.1 x.1.2.2.2.2.1.length then if inb x.2.1 x.1.2.2.2.2.1.length then if Ah (A0<|(rd (dfl .half) x.1.2.2.2.2.1 x.2.2.1).fr=(rd (dfl .half) x.1.2.2.2.2.1 x.2.1).fr) (inb x.2.2.1 x.1.2.2.2.2.1.length) then if Ah (A0<|(rd (dfl .half) x.1.2.2.2.2.1 x.2.2.1).fr=(rd (dfl .half) x.1.2.2.2.2.1 x.2.1).fr) (inb x.2.1 x.1.2.2.2.2.1.length) then if(A0<|(rd (dfl .half) x.1.2.2.2.2.1 x.2.2.1).fr=(rd (dfl .half) x.1.2.2.2.2.1 x.2.1).fr)&&(A0<|(rd (dfl .half) x.1.2.2.2.2.1 x.2.2.1).nu=(rd (dfl .half) x.1.2.2.2.2.1 x.2.1).nu) then I (.inr<|.inl (A3,())) else I (.inl (x.1,x.2.1,(w64<|x.2.2.1+1),())) else U else U else U else U else I (.inr<|.inr (x.1,x.2.1,()))
def kH:=AZ Vt
def yt:Loop:=⟨[(1,Z19),(9,.int .i64),(10,.int .i64)],[(1,Z19),(9,.int .i64)],2,[(2,.bool)],kH⟩
def ai9:LF Tryz.f33 [] [1,1,1,1,1,1,0,1,0,0,1,0,0,1,1,0,0] yt:=sq (v:= .nil) gR (b:=Vt) kN
def az(x:Y1×Int×A2):Rnd (Y1×Int×A2) (Bool×A2) (A2):=if A0 (x.2.1<(x.1.2.2.2.2.1.length:Int)) then if inb x.2.1 x.1.2.2.2.2.1.length then(an (((rd (dfl .half) x.1.2.2.2.2.1 x.2.1).fr,(rd (dfl .half) x.1.2.2.2.2.1 x.2.1).nu,(rd (dfl .half) x.1.2.2.2.2.1 x.2.1).to,(rd (dfl .half) x.1.2.2.2.2.1 x.2.1).un,(rd (dfl .half) x.1.2.2.2.2.1 x.2.1).sz,(rd (dfl .half) x.1.2.2.2.2.1 x.2.1).got,()),())).bind λb=>if !b.1.1 then I (.inr<|.inl (A3,())) else(AS (kH (x.1,x.2.1,0,())) (λa=>I<|.inr<|.inl a) λa=>I<|.inl (a.1,(w64<|a.2.1+1),())) else U else I (.inr<|.inr ())
def aE:=AZ az
def vA:Loop:=⟨[(1,Z19),(9,.int .i64)],[],0,[(2,.bool)],aE⟩
def azb:LF Tryz.f33 [] [1,1,1,1,1,1,0,1,0,0] vA:=sq (v:=t1<|.two (.one<|t1<|t1<|.one<|.loop yt) .nil) gR (b:=az)<|kC ai9 kN
def It(x:Y1×A2):Option ((Bool×A2)×A2):=(B8 (X:=Y1×A2) (λa=>if A0 (0<=a.1.2.2.2.1)&&A0 (a.1.2.2.2.1<=(a.1.2.2.1.size:Int)) then(Ky ((a.1.2.2.1.extract (0)<|AK a.1.2.2.2.1),())).bind λc=>(Py (a.1.1,c.1.1,())).bind λd=>(FN a).bind λe=>if(!e.1.2.1)||(!d.1.2.1) then I ((A3,()),()) else(AS (aE (a.1,0,())) (λb=>I (b,())) λb=>I ((A1,()),())) else U)<|(FC (x.1.1,())).bind λf=>if !f.1.1 then I (.inl ((A3,()),())) else(Mz ((x.1.2.2.1,x.1.2.2.2.1,()),())).bind λg=>if !g.1.1 then I (.inl ((A3,()),())) else if A0 (3<(x.1.2.2.2.2.1.length:Int)) then I (.inl ((A3,()),())) else if !x.1.2.1 then if A0 (0<(x.1.2.2.2.2.1.length:Int)) then I (.inl ((A3,()),())) else I (.inr x) else I (.inr x))
def KM:Ent:=(33,U,⟨[Z14],[.bool],It⟩)
def LD:SQ Tryz.prog KM:=sk (v:=t1<|.join [(1,Z19)] .nil<|t1<|t1<|t1<|t1<|.two (t1<|.one<|.loop vA) .nil) (fn:=Tryz.f33) gR<|kC azb kN
def aqX:Cx:=cX [] [] []
def yu:OKC Tryz.prog aqX AF:=okc mixed<|AJ
def ZD(x:Y1×Y1×List AG×Int×A2):Rnd (Y1×Y1×List AG×Int×A2) (A2) (Y1×Y1×List AG×A2):=if A0 (x.2.2.2.1<(x.1.2.2.2.2.1.length:Int)) then if inb x.2.2.2.1 x.1.2.2.2.2.1.length then let b:=(rd (dfl .half) x.1.2.2.2.2.1 x.2.2.2.1).fr;let c:=(rd (dfl .half) x.1.2.2.2.2.1 x.2.2.2.1).nu;let d:=(rd (dfl .half) x.1.2.2.2.2.1 x.2.2.2.1).to;let e:=(rd (dfl .half) x.1.2.2.2.2.1 x.2.2.2.1).un;let f:=(rd (dfl .half) x.1.2.2.2.2.1 x.2.2.2.1).sz;let a:=(rd (dfl .half) x.1.2.2.2.2.1 x.2.2.2.1).got;if Ab (([]:List AQ).length+a.length) then if Ab (x.2.2.1.length+([(AG.mk b c d e f<|([]:List AQ)++a)]:List AG).length) then I (.inl (x.1,x.2.1,(x.2.2.1++([(AG.mk b c d e f<|([]:List AQ)++a)]:List AG)),(w64<|x.2.2.2.1+1),())) else U else U else U else I (.inr<|.inr (x.1,x.2.1,x.2.2.1,()))
def fS:=AZ ZD
def aAR:Loop:=⟨[(1,Z19),(2,Z20),(3,.row 102 .half),(4,.int .i64)],[(1,Z19),(2,Z20),(3,.row 102 .half)],0,[],fS⟩
def aiG:LF Tryz.f50 [] [1,1,0,1,0,0] aAR:=sq (v:= .nil) yu (b:=ZD) kN
def Fg(x:Y1×A2):Option ((Y1×A2)×A2):=(AS (fS (x.1,(0,A3,noB,0,([]:List AG),()),([]:List AG),0,())) (λ_=>U) λa=>I (((a.1.1,a.1.2.1,a.1.2.2.1,a.1.2.2.2.1,a.2.2),()),()))
def LW:Ent:=(50,U,⟨[Z14],[Z1],Fg⟩)
def MH:SQ Tryz.prog LW:=sk (v:=t1<|t1<|.two (t1<|.one<|.loop aAR) .nil) (fn:=Tryz.f50) yu<|kC aiG kN
def agz:Cx:=cX [Mi] [] []
def asf:OKC Tryz.prog agz AF:=okc mixed<|gC N4<|AJ
def Nt(x:Int×Int×Int×A2):Option ((A4×A2)×A2):=(D6 (x.1,())).bind λa=>if A0 (a.1.1.size+(B [32]).size<=4611686018427387904) then(D6 (x.2.1,())).bind λb=>if A0 ((a.1.1++(B [32])).size+b.1.1.size<=4611686018427387904) then if A0 (((a.1.1++(B [32]))++b.1.1).size+(B [32]).size<=4611686018427387904) then(D6 x.2.2).bind λc=>if A0 ((((a.1.1++(B [32]))++b.1.1)++(B [32])).size+c.1.1.size<=4611686018427387904) then let d:=((((a.1.1++(B [32]))++b.1.1)++(B [32]))++c.1.1);I ((d,()),()) else U else U else U else U
def ZF:Ent:=(122,U,⟨[.int .i64,.int .i64,.int .i64],[.str],Nt⟩)
def ir:SQ Tryz.prog ZF:=sk (v:= .nil) (fn:=Tryz.f122) asf kN
def azJ:Cx:=cX [QW] [] []
def aps:OKC Tryz.prog azJ AF:=okc mixed<|gC VJ<|AJ
def Nf(x:Y7×A2):Option ((Y7×A2)×A2):=(Mz x).bind λa=>if !a.1.1 then I (((noB,0,()),()),()) else I (((x.1.1,(x.1.1.size:Int),()),()),())
def Rw:Ent:=(119,U,⟨[Z15],[Z15],Nf⟩)
def Zx:SQ Tryz.prog Rw:=sk (v:= .nil) (fn:=Tryz.f119) aps kN
def ayl:Cx:=cX [Mi] [] []
def arL:OKC Tryz.prog ayl AF:=okc mixed<|gC N4<|AJ
def Jy(x:A4×A2):Option ((A4×A2)×A2):=(D6 ((x.1.size:Int),())).bind λa=>if A0 (a.1.1.size+(B [58]).size<=4611686018427387904) then if A0 ((a.1.1++(B [58])).size+x.1.size<=4611686018427387904) then if A0 (((a.1.1++(B [58]))++x.1).size+(B [59]).size<=4611686018427387904) then let b:=(((a.1.1++(B [58]))++x.1)++(B [59]));I ((b,()),()) else U else U else U
def SE:Ent:=(76,U,⟨[.str],[.str],Jy⟩)
def Xa:SQ Tryz.prog SE:=sk (v:= .nil) (fn:=Tryz.f76) arL kN
def aug:Cx:=cX [GR] [] []
def afF:OKC Tryz.prog aug AF:=okc mixed<|gC HI<|AJ
def Ww(x:A4×A2):Option ((Bool×A2)×A2):=(Cv ((x.1.size:Int),1,60,())).bind λa=>I (a.1,())
def nv:Ent:=(157,U,⟨[.str],[.bool],Ww⟩)
def ad6:SQ Tryz.prog nv:=sk (v:= .nil) (fn:=Tryz.f157) afF kN
def axK:Cx:=cX [QW,SE,nv] [] [(14,21)]
def awC:OKC Tryz.prog axK AF:=okc mixed<|gC VJ<|gC Xa<|gC ad6<|AJ
def Mx(x:Y7×A4×A2):Option ((Y7×Bool×A2)×A2):=(Mz (x.1,())).bind λc=>if !c.1.1 then I (((noB,0,()),A3,()),()) else(Ww x.2).bind λa=>if Ah (!(!a.1.1)) ((Jy x.2).isSome) then if(!a.1.1)||(A0<|2400<(w64<|(x.1.1.size:Int)+((((Jy x.2).getD ((noB,()),())).1.1).size:Int))) then I ((x.1,A3,()),()) else(Jy x.2).bind λb=>if A0 (x.1.1.size+b.1.1.size<=4611686018427387904) then I ((((x.1.1++b.1.1),x.1.2),A1,()),()) else U else U
def gV:Ent:=(118,U,⟨[Z15,.str],[Z15,.bool],Mx⟩)
def zA:SQ Tryz.prog gV:=sk (v:= .nil) (fn:=Tryz.f118) awC kN
def afe:Cx:=cX [QW,SE,nv] [] []
def aaZ:OKC Tryz.prog afe AF:=okc mixed<|gC VJ<|gC Xa<|gC ad6<|AJ
def R6(x:List A4×Y7×Y7×A4×Int×A2):Rnd (List A4×Y7×Y7×A4×Int×A2) (Y7×Bool×A2) (Y7×Y7×A4×A2):=if A0 (x.2.2.2.2.1<(x.1.length:Int)) then if inb x.2.2.2.2.1 x.1.length then(Ww ((rd (dfl .str) x.1 x.2.2.2.2.1),())).bind λb=>if !b.1.1 then I (.inr<|.inl (x.2.1,A3,())) else if inb x.2.2.2.2.1 x.1.length then(Jy ((rd (dfl .str) x.1 x.2.2.2.2.1),())).bind λa=>if A0 (x.2.2.2.1.size+a.1.1.size<=4611686018427387904) then I (.inl (x.1,x.2.1,x.2.2.1,(x.2.2.2.1++a.1.1),(w64<|x.2.2.2.2.1+1),())) else U else U else U else I (.inr<|.inr (x.2.1,x.2.2.1,x.2.2.2.1,()))
def aH:=AZ R6
def aAT:Loop:=⟨[(1,.sl .str),(2,Z21),(4,Z21),(6,.str),(7,.int .i64)],[(2,Z21),(4,Z21),(6,.str)],0,[(4,Z21),(5,.bool)],aH⟩
def ama:LF Tryz.f130 [] [1,1,1,0,1,0,0] aAT:=sq (v:= .nil) aaZ (b:=R6) kN
def RN(x:Y7×List A4×A2):Option ((Y7×Bool×A2)×A2):=(Mz (x.1,())).bind λb=>if !b.1.1 then I (((noB,0,()),A3,()),()) else(AS (aH (x.2.1,x.1,(noB,0,()),noB,0,())) (λa=>I (a,())) λa=>(if A0 (2400<(a.2.2.1.size:Int)) then I ((a.1,A3,()),()) else I (((a.2.2.1,(a.2.2.1.size:Int),()),A1,()),())))
def eA:Ent:=(130,U,⟨[Z15,.fz .str],[Z15,.bool],RN⟩)
def yC:SQ Tryz.prog eA:=sk (v:=t1<|t1<|t1<|.two (t1<|.one<|.loop aAT) .nil) (fn:=Tryz.f130) aaZ<|kC ama kN
def ao7:Cx:=cX [Mi,Rg,jn] [] []
def ZS:OKC Tryz.prog ao7 AF:=okc mixed<|gC N4<|gC Uf<|gC aAE<|AJ
def aR(x:Y4×List A4×Int×A2):Rnd (Y4×List A4×Int×A2) (A2) (List A4×A2):=if A0 (x.2.2.1<(x.1.2.2.2.2.2.1.length:Int)) then if inb x.2.2.1 x.1.2.2.2.2.2.1.length then(Ju (((rd (dfl .note) x.1.2.2.2.2.2.1 x.2.2.1).fr,(rd (dfl .note) x.1.2.2.2.2.2.1 x.2.2.1).nu,(rd (dfl .note) x.1.2.2.2.2.2.1 x.2.2.1).to,(rd (dfl .note) x.1.2.2.2.2.2.1 x.2.2.1).un,(rd (dfl .note) x.1.2.2.2.2.2.1 x.2.2.1).tx,()),())).bind λa=>if A0 ((B [105,110,98,111,120,32]).size+a.1.1.size<=4611686018427387904) then if Ab (x.2.1.length+([((B [105,110,98,111,120,32])++a.1.1)]:List A4).length) then I (.inl (x.1,(x.2.1++([((B [105,110,98,111,120,32])++a.1.1)]:List A4)),(w64<|x.2.2.1+1),())) else U else U else U else I (.inr<|.inr (x.2.1,()))
def Yy:=AZ aR
def zE:Loop:=⟨[(1,Z9),(3,.row 9 .str),(7,.int .i64)],[(3,.row 9 .str)],4,[],Yy⟩
def apJ:LF Tryz.f131 [] [1,1,1,1,1,1,1,0,1,0,0] zE:=sq (v:= .nil) ZS (b:=aR) kN
def Wj(x:Y4×List A4×Int×A2):Rnd (Y4×List A4×Int×A2) (A2) (Y4×List A4×A2):=if A0 (x.2.2.1<(x.1.2.2.2.1.length:Int)) then if inb x.2.2.1 x.1.2.2.2.1.length then(Ju (((rd (dfl .note) x.1.2.2.2.1 x.2.2.1).fr,(rd (dfl .note) x.1.2.2.2.1 x.2.2.1).nu,(rd (dfl .note) x.1.2.2.2.1 x.2.2.1).to,(rd (dfl .note) x.1.2.2.2.1 x.2.2.1).un,(rd (dfl .note) x.1.2.2.2.1 x.2.2.1).tx,()),())).bind λa=>if A0 ((B [104,101,108,100,32]).size+a.1.1.size<=4611686018427387904) then if Ab (x.2.1.length+([((B [104,101,108,100,32])++a.1.1)]:List A4).length) then I (.inl (x.1,(x.2.1++([((B [104,101,108,100,32])++a.1.1)]:List A4)),(w64<|x.2.2.1+1),())) else U else U else U else I (.inr<|.inr (x.1,x.2.1,()))
def Vw:=AZ Wj
def abu:Loop:=⟨[(1,Z9),(3,.row 9 .str),(6,.int .i64)],[(1,Z9),(3,.row 9 .str)],2,[],Vw⟩
def alh:LF Tryz.f131 [] [1,1,1,1,1,1,0,1,0,0] abu:=sq (v:= .nil) ZS (b:=Wj) kN
def YX(x:Y4×List A4×Int×A2):Rnd (Y4×List A4×Int×A2) (A2) (Y4×List A4×A2):=if A0 (x.2.2.1<(x.1.2.2.2.2.1.length:Int)) then if inb x.2.2.1 x.1.2.2.2.2.1.length then let d:=(rd (dfl .mark) x.1.2.2.2.2.1 x.2.2.1).mf;let e:=(rd (dfl .mark) x.1.2.2.2.2.1 x.2.2.1).mn;let f:=(rd (dfl .mark) x.1.2.2.2.2.1 x.2.2.1).mu;(D6 (d,())).bind λa=>if A0 ((B [109,97,114,107,32]).size+a.1.1.size<=4611686018427387904) then if A0 (((B [109,97,114,107,32])++a.1.1).size+(B [32]).size<=4611686018427387904) then(D6 (e,())).bind λb=>if A0 ((((B [109,97,114,107,32])++a.1.1)++(B [32])).size+b.1.1.size<=4611686018427387904) then if A0 (((((B [109,97,114,107,32])++a.1.1)++(B [32]))++b.1.1).size+(B [32]).size<=4611686018427387904) then(D6 (f,())).bind λc=>if A0 ((((((B [109,97,114,107,32])++a.1.1)++(B [32]))++b.1.1)++(B [32])).size+c.1.1.size<=4611686018427387904) then if Ab (x.2.1.length+([((((((B [109,97,114,107,32])++a.1.1)++(B [32]))++b.1.1)++(B [32]))++c.1.1)]:List A4).length) then I (.inl (x.1,(x.2.1++([((((((B [109,97,114,107,32])++a.1.1)++(B [32]))++b.1.1)++(B [32]))++c.1.1)]:List A4)),(w64<|x.2.2.1+1),())) else U else U else U else U else U else U else U else I (.inr<|.inr (x.1,x.2.1,()))
def Vk:=AZ YX
def rW:Loop:=⟨[(1,Z9),(3,.row 9 .str),(4,.int .i64)],[(1,Z9),(3,.row 9 .str)],0,[],Vk⟩
def avV:LF Tryz.f131 [] [1,1,1,1,1,0,1,0,0] rW:=sq (v:= .nil) ZS (b:=YX) kN
def TW(x:Y4×A2):Option ((List A4×A2)×A2):=(PB x).bind λg=>if !g.1.1 then I ((([]:List A4),()),()) else(B8 (X:=Y4×List A4×A2) (λa=>(B8 (X:=Y4×List A4×A2) (λd=>(AS (Vk (d.1,d.2.1,0,())) (λ_=>U) λe=>(AS (Vw (e.1,e.2.1,0,())) (λ_=>U) λf=>(AS (Yy (f.1,f.2.1,0,())) (λ_=>U) λh=>I (h,())))))<|(if A0 (1<a.1.2.2.1) then(D6 (a.1.2.2.1,())).bind λb=>if A0 ((B [110,101,120,116,32]).size+b.1.1.size<=4611686018427387904) then if Ab (a.2.1.length+([((B [110,101,120,116,32])++b.1.1)]:List A4).length) then I (.inr (a.1,(a.2.1++([((B [110,101,120,116,32])++b.1.1)]:List A4)),())) else U else U else I (.inr a))))<|(if A0 (0<x.1.2.1) then(D6 (x.1.2.1,())).bind λc=>if A0 ((B [116,105,109,101,32]).size+c.1.1.size<=4611686018427387904) then if Ab (([]:List A4).length+([((B [116,105,109,101,32])++c.1.1)]:List A4).length) then I (.inr (x.1,(([]:List A4)++([((B [116,105,109,101,32])++c.1.1)]:List A4)),())) else U else U else I (.inr (x.1,([]:List A4),()))))
def pV:Ent:=(131,U,⟨[Z10],[.row 9 .str],TW⟩)
def yR:SQ Tryz.prog pV:=sk (v:=t1<|t1<|t1<|.join [(1,Z9),(3,.row 9 .str)] .nil<|.join [(1,Z9),(3,.row 9 .str)] .nil<|.two (t1<|.one<|.loop rW)<|.two (t1<|.one<|.loop abu)<|.two (t1<|.one<|.loop zE) .nil) (fn:=Tryz.f131) ZS<|kC avV<|kC alh<|kC apJ kN
def an5:Cx:=cX [IF,er,gV,Rw,eA,pV] [] []
def ayR:OKC Tryz.prog an5 AF:=okc mixed<|gC Iw<|gC vo<|gC zA<|gC Zx<|gC yC<|gC yR<|AJ
def KT(x:Y1×A4×Bool×A2):Option ((Y1×Bool×A2)×A2):=(FN (x.1,())).bind λb=>(RP (b.1.1,x.2.1,())).bind λe=>if !e.1.2.1 then I ((x.1,A3,()),()) else(Mx ((x.1.2.2.1,x.1.2.2.2.1,()),x.2.1,())).bind λc=>(B8 (X:=Bool×Y1×Y1×Y7×Bool×A2) (λa=>if !a.2.2.2.2.1 then I ((a.2.1,A3,()),()) else if a.1 then(Nf (a.2.2.2.1,())).bind λd=>I (((a.2.1.1,a.2.1.2.1,d.1.1.1,d.1.1.2.1,a.2.1.2.2.2.2),A1,()),()) else I (((a.2.1.1,a.2.1.2.1,a.2.2.2.1.1,a.2.2.2.1.2.1,a.2.1.2.2.2.2),A1,()),()))<|(if !c.1.2.1 then(TW (b.1.1,())).bind λf=>(RN ((x.1.2.2.1,x.1.2.2.2.1,()),f.1)).bind λg=>(Mx (g.1.1,x.2.1,())).bind λh=>I (.inr (x.2.2.1,x.1,(0,A3,noB,0,([]:List AG),()),h.1)) else I (.inr (x.2.2.1,x.1,(0,A3,noB,0,([]:List AG),()),c.1))))
def Pu:Ent:=(126,U,⟨[Z14,.str,.bool],[Z14,.bool],KT⟩)
def VH:SQ Tryz.prog Pu:=sk (v:=t1<|t1<|t1<|t1<|t1<|.join [(2,.bool),(3,Z19),(6,Z20),(12,Z21),(13,.bool)] .nil .nil) (fn:=Tryz.f126) ayR kN
def akW:Cx:=cX [] [] []
def asZ:OKC Tryz.prog akW AF:=okc mixed<|AJ
def Wh(x:Int×Y3×A2):Option ((Y3×A2)×A2):=I (((x.1,x.2.1.2.2.1,x.2.1.2.1,x.2.1.2.2.2.1,x.2.1.2.2.2.2.1,x.2.1.2.2.2.2.2.1,x.2.1.2.2.2.2.2.2.1,0,0,noB,()),()),())
def abg:Ent:=(158,U,⟨[.int .i64,Z4],[Z4],Wh⟩)
def aep:SQ Tryz.prog abg:=sk (v:= .nil) (fn:=Tryz.f158) asZ kN
def atX:Cx:=cX [] [] []
def afG:OKC Tryz.prog atX AF:=okc mixed<|AJ
def Ok(x:List AG×Int×A2):Option ((List AG×A2)×A2):=if A0 (0<=x.2.1)&&A0 (x.2.1<=(x.1.length:Int)) then if Ab (([]:List AG).length+(BH (AK x.2.1) x.1).length) then if A0 (0<=(w64<|x.2.1+1))&&A0 ((w64<|x.2.1+1)<=(x.1.length:Int)) then if Ab ((([]:List AG)++(BH (AK x.2.1) x.1)).length+(Bp (AK<|w64<|x.2.1+1) x.1).length) then I ((((([]:List AG)++(BH (AK x.2.1) x.1))++(Bp (AK<|w64<|x.2.1+1) x.1)),()),()) else U else U else U else U
def lj:Ent:=(162,U,⟨[.fz .half,.int .i64],[.row 102 .half],Ok⟩)
def zQ:SQ Tryz.prog lj:=sk (v:= .nil) (fn:=Tryz.f162) afG kN
def au6:Cx:=cX [] [] [(22,28)]
def zo:OKC Tryz.prog au6 AF:=okc mixed<|AJ
def cF(x:List AG×Int×Int×Int×A2):Rnd (List AG×Int×Int×Int×A2) (Int×A2) (A2):=if A0 (x.2.2.2.1<(x.1.length:Int)) then if inb x.2.2.2.1 x.1.length then if Ah (A0<|(rd (dfl .half) x.1 x.2.2.2.1).fr=x.2.1) (inb x.2.2.2.1 x.1.length) then if(A0<|(rd (dfl .half) x.1 x.2.2.2.1).fr=x.2.1)&&(A0<|(rd (dfl .half) x.1 x.2.2.2.1).nu=x.2.2.1) then I (.inr<|.inl x.2.2.2) else I (.inl (x.1,x.2.1,x.2.2.1,(w64<|x.2.2.2.1+1),())) else U else U else I (.inr<|.inr ())
def fQ:=AZ cF
def aAi:Loop:=⟨[(0,.sl .half),(1,.int .i64),(2,.int .i64),(7,.int .i64)],[],0,[(6,.int .i64)],fQ⟩
def ali:LF Tryz.f204 [] [1,0,1,0,0] aAi:=sq (v:= .nil) zo (b:=cF) kN
def Yp(x:List AG×Int×Int×A2):Option ((Int×A2)×A2):=(AS (fQ (x.1,x.2.1,x.2.2.1,0,())) (λa=>I (a,())) λa=>I (((-1),()),()))
def ue:Ent:=(204,U,⟨[.fz .half,.int .i64,.int .i64],[.int .i64],Yp⟩)
def ag3:SQ Tryz.prog ue:=sk (v:=t1<|.two (t1<|.one<|.loop aAi) .nil) (fn:=Tryz.f204) zo<|kC ali kN
def af0:Cx:=cX [lj,ue] [] []
def ad1:OKC Tryz.prog af0 AF:=okc mixed<|gC zQ<|gC ag3<|AJ
def W2(x:Y1×Y3×Y1×Int×Y9×List AQ×Int×A2):Rnd (Y1×Y3×Y1×Int×Y9×List AQ×Int×A2) (A2) (Y1×Y3×Y1×Int×Y9×List AQ×A2):=if A0 (x.2.2.2.2.2.2.1<(x.2.2.2.2.1.2.2.2.2.2.1.length:Int)) then if inb x.2.2.2.2.2.2.1 x.2.2.2.2.1.2.2.2.2.2.1.length then if !decide ((rd (dfl .mixed) x.2.2.2.2.1.2.2.2.2.2.1 x.2.2.2.2.2.2.1).nu=x.2.1.2.2.2.2.2.2.2.2.1) then if inb x.2.2.2.2.2.2.1 x.2.2.2.2.1.2.2.2.2.2.1.length then if Ab (x.2.2.2.2.2.1.length+([(rd (dfl .mixed) x.2.2.2.2.1.2.2.2.2.2.1 x.2.2.2.2.2.2.1)]:List AQ).length) then let a:=(w64<|x.2.2.2.2.2.2.1+1);I (.inl (x.1,x.2.1,x.2.2.1,x.2.2.2.1,x.2.2.2.2.1,(x.2.2.2.2.2.1++([(rd (dfl .mixed) x.2.2.2.2.1.2.2.2.2.2.1 x.2.2.2.2.2.2.1)]:List AQ)),a,())) else U else U else let b:=(w64<|x.2.2.2.2.2.2.1+1);I (.inl (x.1,x.2.1,x.2.2.1,x.2.2.2.1,x.2.2.2.2.1,x.2.2.2.2.2.1,b,())) else U else I (.inr<|.inr (x.1,x.2.1,x.2.2.1,x.2.2.2.1,x.2.2.2.2.1,x.2.2.2.2.2.1,()))
def Zf:=AZ W2
def qC:Loop:=⟨[(2,Z20),(3,Z5),(4,Z20),(6,.int .i64),(7,Z17),(8,.row 105 .mixed),(9,.int .i64)],[(2,Z20),(3,Z5),(4,Z20),(6,.int .i64),(7,Z17),(8,.row 105 .mixed)],0,[],Zf⟩
def azp:LF Tryz.f160 [] [1,1,1,1,1,1,0,1,0,0] qC:=sq (v:= .nil) ad1 (b:=W2) kN
def WX(x:Y1×Y3×A2):Option ((Y1×Int×A2)×A2):=(Yp (x.1.2.2.2.2.1,x.2.1.2.2.2.1,x.2.1.2.2.2.2.1,())).bind λe=>(B8 (X:=Y1×Y3×Y1×Int×A2) (λa=>if inb a.2.2.2.1 a.1.2.2.2.2.1.length then let i:=(rd (dfl .half) a.1.2.2.2.2.1 a.2.2.2.1).fr;let j:=(rd (dfl .half) a.1.2.2.2.2.1 a.2.2.2.1).nu;let f:=(rd (dfl .half) a.1.2.2.2.2.1 a.2.2.2.1).to;let g:=(rd (dfl .half) a.1.2.2.2.2.1 a.2.2.2.1).un;let h:=(rd (dfl .half) a.1.2.2.2.2.1 a.2.2.2.1).sz;let k:=(rd (dfl .half) a.1.2.2.2.2.1 a.2.2.2.1).got;if !decide (f=a.2.1.2.2.2.2.2.1) then I ((a.1,(-1),()),()) else if !decide (g=a.2.1.2.2.2.2.2.2.1) then I ((a.1,(-1),()),()) else if !decide (h=a.2.1.2.2.2.2.2.2.2.1) then I ((a.1,(-1),()),()) else(AS (Zf (a.1,a.2.1,a.2.2.1,a.2.2.2.1,(i,j,f,g,h,k,()),([]:List AQ),0,())) (λ_=>U) λd=>(B8 (X:=Y1×Y3×Y1×Int×Y9×List AQ×A2) (λc=>if Ab (c.2.2.2.2.2.1.length+([(AQ.mk c.2.1.2.2.2.2.2.2.2.2.1 c.2.1.2.2.2.2.2.2.2.2.2.1)]:List AQ).length) then if inb c.2.2.2.1 c.1.2.2.2.2.1.length then I (((c.1.1,c.1.2.1,c.1.2.2.1,c.1.2.2.2.1,(Bn c.1.2.2.2.2.1 (AK c.2.2.2.1)<|AG.mk c.2.2.2.2.1.1 c.2.2.2.2.1.2.1 c.2.2.2.2.1.2.2.1 c.2.2.2.2.1.2.2.2.1 c.2.2.2.2.1.2.2.2.2.1<|c.2.2.2.2.2.1++([(AQ.mk c.2.1.2.2.2.2.2.2.2.2.1 c.2.1.2.2.2.2.2.2.2.2.2.1)]:List AQ)),()),c.2.2.2.1,()),()) else U else U)<|(if A0 (14<=(d.2.2.2.2.2.1.length:Int)) then if A0 (0<=1)&&A0 (1<=(d.2.2.2.2.2.1.length:Int)) then if Ab (([]:List AQ).length+(Bp (AK 1) d.2.2.2.2.2.1).length) then I (.inr (d.1,d.2.1,d.2.2.1,d.2.2.2.1,d.2.2.2.2.1,(([]:List AQ)++(Bp (AK 1) d.2.2.2.2.2.1)),())) else U else U else I (.inr d)))) else U)<|(if A0 (e.1.1<0) then(B8 (X:=Y1×Y3×Y1×A2) (λb=>if Ab (b.1.2.2.2.2.1.length+([(AG.mk b.2.1.2.2.2.1 b.2.1.2.2.2.2.1 b.2.1.2.2.2.2.2.1 b.2.1.2.2.2.2.2.2.1 b.2.1.2.2.2.2.2.2.2.1 ([]:List AQ))]:List AG).length) then let l:=(w64<|((b.1.2.2.2.2.1++([(AG.mk b.2.1.2.2.2.1 b.2.1.2.2.2.2.1 b.2.1.2.2.2.2.2.1 b.2.1.2.2.2.2.2.2.1 b.2.1.2.2.2.2.2.2.2.1 ([]:List AQ))]:List AG)).length:Int) - 1);I (.inr ((b.1.1,b.1.2.1,b.1.2.2.1,b.1.2.2.2.1,(b.1.2.2.2.2.1++([(AG.mk b.2.1.2.2.2.1 b.2.1.2.2.2.2.1 b.2.1.2.2.2.2.2.1 b.2.1.2.2.2.2.2.2.1 b.2.1.2.2.2.2.2.2.2.1 ([]:List AQ))]:List AG)),()),b.2.1,b.2.2.1,l,())) else U)<|(if A0 (3<=(x.1.2.2.2.2.1.length:Int)) then(Ok (x.1.2.2.2.2.1,0,())).bind λm=>I (.inr ((x.1.1,x.1.2.1,x.1.2.2.1,x.1.2.2.2.1,m.1),x.2.1,(0,A3,noB,0,([]:List AG),()),())) else I (.inr (x.1,x.2.1,(0,A3,noB,0,([]:List AG),()),())))) else I (.inr (x.1,x.2.1,(0,A3,noB,0,([]:List AG),()),e.1))))
def aeZ:Ent:=(160,U,⟨[Z1,Z4],[Z1,.int .i64],WX⟩)
def arM:SQ Tryz.prog aeZ:=sk (v:=t1<|t1<|.join [(2,Z20),(3,Z5),(4,Z20),(6,.int .i64)] (t1<|.two (.join [(2,Z20),(3,Z5),(4,Z20)] .nil .nil) .nil)<|t1<|t1<|t1<|.two (t1<|.one<|.loop qC)<|.join [(2,Z20),(3,Z5),(4,Z20),(6,.int .i64),(7,Z17),(8,.row 105 .mixed)] .nil .nil) (fn:=Tryz.f160) ad1<|kC azp kN
def aj5:Cx:=cX [GR] [] []
def ahI:OKC Tryz.prog aj5 AF:=okc mixed<|gC HI<|AJ
def Ol(x:Int×A2):Option ((Int×A2)×A2):=(Cv (x.1,0,65535,())).bind λa=>if !a.1.1 then I ((0,()),()) else let b:=(B5 (w64<|(w64<|x.1 * 25173)+13849) 65536);I ((b,()),())
def ov:Ent:=(206,U,⟨[.int .i64],[.int .i64],Ol⟩)
def acb:SQ Tryz.prog ov:=sk (v:= .nil) (fn:=Tryz.f206) ahI kN
def akK:Cx:=cX [] [] []
def aek:OKC Tryz.prog akK AF:=okc mixed<|AJ
def Ws(x:Int×Int×A2):Option ((Int×A2)×A2):=if A0 (x.2.1=1) then if !decide (x.1=0) then let a:=(w64<|(w64<|Ay 60 x.1)+10);I ((a,()),()) else U else if !decide ((w64<|x.2.1 * (w64<|x.2.1 - 1))=0) then let b:=(w64<|Ay 60<|w64<|x.2.1 * (w64<|x.2.1 - 1));I ((b,()),()) else U
def rj:Ent:=(227,U,⟨[.int .i64,.int .i64],[.int .i64],Ws⟩)
def amj:SQ Tryz.prog rj:=sk (v:= .nil) (fn:=Tryz.f227) aek kN
def atD:Cx:=cX [Ug,ov,rj] [] []
def gv:OKC Tryz.prog atD AF:=okc mixed<|gC Xl<|gC acb<|gC amj<|AJ
def Tr(x:Int×Int×Int×A2):Rnd (Int×Int×Int×A2) (Int×A2) (Int×A2):=if A0 (x.2.2.1<x.1) then(Ws (x.1,x.2.2)).bind λa=>if A0 ((w64<|x.2.1 - a.1.1)<0) then I (.inr<|.inl x.2.2) else I (.inl (x.1,(w64<|x.2.1 - a.1.1),(w64<|x.2.2.1+1),())) else I (.inr<|.inr (x.1,()))
def Xw:=AZ Tr
def ada:Loop:=⟨[(0,.int .i64),(7,.int .i64),(8,.int .i64)],[(0,.int .i64)],2,[(4,.int .i64)],Xw⟩
def an7:LF Tryz.f207 [] [1,1,1,1,1,1,0,1,0,0] ada:=sq (v:= .nil) gv (b:=Tr) kN
def zu(x:Int×Int×Int×Int×A2):Rnd (Int×Int×Int×Int×A2) (A2) (Int×Int×Int×A2):=if A0 (x.2.2.2.1<=x.1) then(Ws (x.1,x.2.2.2)).bind λa=>I (.inl (x.1,x.2.1,(w64<|x.2.2.1+a.1.1),(w64<|x.2.2.2.1+1),())) else I (.inr<|.inr (x.1,x.2.1,x.2.2.1,()))
def YF:=AZ zu
def um:Loop:=⟨[(0,.int .i64),(1,.int .i64),(5,.int .i64),(6,.int .i64)],[(0,.int .i64),(1,.int .i64),(5,.int .i64)],0,[],YF⟩
def ahR:LF Tryz.f207 [] [1,1,1,1,0,1,0,0] um:=sq (v:= .nil) gv (b:=zu) kN
def Xr(x:Int×Int×A2):Option ((Int×A2)×A2):=(M7 x).bind λc=>if !c.1.1 then I ((0,()),()) else if A0 (x.2.1<x.1) then I ((1,()),()) else(AS (YF (x.1,x.2.1,0,1,())) (λ_=>U) (λa=>(Ol ((w64<|(w64<|a.2.1 * 31)+a.1),())).bind λd=>(Ol d.1).bind λe=>if !decide (a.2.2.1=0) then let f:=(B5 (w64<|Ay e.1.1 16) a.2.2.1);(AS (Xw (a.1,f,1,())) (λb=>I (b,())) λb=>I (b,())) else U))
def zW:Ent:=(207,U,⟨[.int .i64,.int .i64],[.int .i64],Xr⟩)
def ah3:SQ Tryz.prog zW:=sk (v:=t1<|t1<|t1<|t1<|.two (t1<|.one<|.loop um)<|t1<|.two (t1<|.one<|.loop ada) .nil) (fn:=Tryz.f207) gv<|kC ahR<|kC an7 kN
def alK:Cx:=cX [Ug,ov,zW] [] []
def cW:OKC Tryz.prog alK AF:=okc mixed<|gC Xl<|gC acb<|gC ah3<|AJ
def Th(x:Int×List Int×List Bool×Int×Int×Int×A2):Rnd (Int×List Int×List Bool×Int×Int×Int×A2) (A2) (Int×List Int×List Bool×Int×Int×Int×A2):=if inb x.2.2.2.2.2.1 x.2.2.1.length then if rd (dfl .bool) x.2.2.1 x.2.2.2.2.2.1 then if !decide (x.1=0) then let a:=(B5 (w64<|x.2.2.2.2.2.1+1) x.1);I (.inl (x.1,x.2.1,x.2.2.1,x.2.2.2.1,x.2.2.2.2.1,a,())) else U else I (.inr<|.inr x) else U
def ba:=AZ Th
def zH:Loop:=⟨[(0,.int .i64),(5,.row 3 .int),(6,.row 4 .bool),(7,.int .i64),(8,.int .i64),(9,.int .i64)],[(0,.int .i64),(5,.row 3 .int),(6,.row 4 .bool),(7,.int .i64),(8,.int .i64),(9,.int .i64)],2,[],ba⟩
def ahE:LF Tryz.f164 [] [1,1,1,1,1,1,0,1,0,0,1,0,0,1,1,0,0,0] zH:=sq (v:= .nil) cW (b:=Th) kN
def YH(x:Int×List Int×List Bool×Int×A2):Rnd (Int×List Int×List Bool×Int×A2) (A2) (List Int×A2):=if A0 (x.2.2.2.1<x.1) then if inb x.2.2.2.1 x.2.2.1.length then if rd (dfl .bool) x.2.2.1 x.2.2.2.1 then if Ab (x.2.1.length+([x.2.2.2.1]:List Int).length) then I (.inl (x.1,(x.2.1++([x.2.2.2.1]:List Int)),x.2.2.1,(w64<|x.2.2.2.1+1),())) else U else I (.inl (x.1,x.2.1,x.2.2.1,(w64<|x.2.2.2.1+1),())) else U else I (.inr<|.inr (x.2.1,()))
def kJ:=AZ YH
def aeV:Loop:=⟨[(0,.int .i64),(5,.row 3 .int),(6,.row 4 .bool),(10,.int .i64)],[(5,.row 3 .int)],4,[],kJ⟩
def aoF:LF Tryz.f164 [] [1,1,1,1,1,1,1,0,1,0,0] aeV:=sq (v:= .nil) cW (b:=YH) kN
def ow(x:Int×List Int×List Bool×Int×Int×A2):Rnd (Int×List Int×List Bool×Int×Int×A2) (A2) (Int×List Int×List Bool×A2):=if A0 (0<x.2.2.2.2.1) then(Ol (x.2.2.2.1,())).bind λb=>if !decide (x.1=0) then let c:=(B5 (w64<|Ay b.1.1 16) x.1);(AS (ba (x.1,x.2.1,x.2.2.1,b.1.1,x.2.2.2.2.1,c,())) (λ_=>I<|.inr<|.inl ()) λa=>(if inb a.2.2.2.2.2.1 a.2.2.1.length then let d:=(w64<|a.2.2.2.2.1 - 1);I (.inl (a.1,a.2.1,(Bn a.2.2.1 (AK a.2.2.2.2.2.1) A1),a.2.2.2.1,d,())) else U)) else U else I (.inr<|.inr (x.1,x.2.1,x.2.2.1,()))
def gZ:=AZ ow
def tq:Loop:=⟨[(0,.int .i64),(5,.row 3 .int),(6,.row 4 .bool),(7,.int .i64),(8,.int .i64)],[(0,.int .i64),(5,.row 3 .int),(6,.row 4 .bool)],0,[],gZ⟩
def anx:LF Tryz.f164 [] [1,1,1,1,1,1,0,1,0,0] tq:=sq (v:=t1<|.two (.one<|t1<|t1<|.two (.one<|.loop zH) .nil) .nil) cW (b:=ow)<|kC ahE kN
def SA(x:Int×Int×A2):Option ((List Int×A2)×A2):=(M7 x).bind λb=>if !b.1.1 then I ((([]:List Int),()),()) else if A0 (x.2.1<x.1) then if Ab (([]:List Int).length+([x.2.1]:List Int).length) then I (((([]:List Int)++([x.2.1]:List Int)),()),()) else U else if A0 (0<=x.1)&&A0 (x.1<=4294967296) then(Ol ((w64<|(w64<|x.2.1 * 7)+1),())).bind λc=>(Xr x).bind λd=>(AS (gZ (x.1,([]:List Int),(BX (AK x.1)<|dfl .bool),c.1.1,d.1)) (λ_=>U) λa=>(AS (kJ (a.1,a.2.1,a.2.2.1,0,())) (λ_=>U) λe=>I (e,()))) else U
def jg:Ent:=(164,U,⟨[.int .i64,.int .i64],[.row 3 .int],SA⟩)
def wO:SQ Tryz.prog jg:=sk (v:=t1<|t1<|t1<|t1<|t1<|t1<|.two (t1<|.one<|.loop tq)<|.two (t1<|.one<|.loop aeV) .nil) (fn:=Tryz.f164) cW<|kC anx<|kC aoF kN
def aqQ:Cx:=cX [] [] []
def qg:OKC Tryz.prog aqQ AF:=okc mixed<|AJ
def aeF(x:A4×A4×List Int×Int×A2):Rnd (A4×A4×List Int×Int×A2) (A2) (List Int×A2):=if A0 (x.2.2.2.1<4) then if inb x.2.2.2.1 x.1.size then if inb x.2.2.2.1 x.2.1.size then if Ab (x.2.2.1.length+([(DY .u8 (bt x.1 x.2.2.2.1)<|bt x.2.1 x.2.2.2.1)]:List Int).length) then I (.inl (x.1,x.2.1,(x.2.2.1++([(DY .u8 (bt x.1 x.2.2.2.1)<|bt x.2.1 x.2.2.2.1)]:List Int)),(w64<|x.2.2.2.1+1),())) else U else U else U else I (.inr<|.inr (x.2.2.1,()))
def pn:=AZ aeF
def q5:Loop:=⟨[(0,.str),(1,.str),(5,.row 5 .u8),(6,.int .i64)],[(5,.row 5 .u8)],0,[],pn⟩
def aiA:LF Tryz.f166 [] [1,1,0,1,0,0] q5:=sq (v:= .nil) qg (b:=aeF) kN
def TI(x:A4×A4×A2):Option ((A4×A2)×A2):=(AS (pn (x.1,x.2.1,([]:List Int),0,())) (λ_=>U) λa=>I (((BA a.1),()),()))
def eQ:Ent:=(166,U,⟨[.str,.str],[.str],TI⟩)
def aea:SQ Tryz.prog eQ:=sk (v:=t1<|t1<|.two (t1<|.one<|.loop q5) .nil) (fn:=Tryz.f166) qg<|kC aiA kN
def aiq:Cx:=cX [jg,eQ] [] []
def ua:OKC Tryz.prog aiq AF:=okc mixed<|gC wO<|gC aea<|AJ
def V8(x:List A4×List Int×A4×List Int×Int×A2):Rnd (List A4×List Int×A4×List Int×Int×A2) (A2) (List Int×A4×A2):=if A0 (x.2.2.2.2.1<(x.2.2.2.1.length:Int)) then if inb x.2.2.2.2.1 x.2.2.2.1.length then if inb (rd (dfl .int) x.2.2.2.1 x.2.2.2.2.1) x.1.length then if A0 ((rd (dfl .str) x.1<|rd (dfl .int) x.2.2.2.1 x.2.2.2.2.1)=noB) then if inb x.2.2.2.2.1 x.2.2.2.1.length then if Ab (x.2.1.length+([(rd (dfl .int) x.2.2.2.1 x.2.2.2.2.1)]:List Int).length) then I (.inl (x.1,(x.2.1++([(rd (dfl .int) x.2.2.2.1 x.2.2.2.2.1)]:List Int)),x.2.2.1,x.2.2.2.1,(w64<|x.2.2.2.2.1+1),())) else U else U else if inb x.2.2.2.2.1 x.2.2.2.1.length then if inb (rd (dfl .int) x.2.2.2.1 x.2.2.2.2.1) x.1.length then(TI (x.2.2.1,(rd (dfl .str) x.1<|rd (dfl .int) x.2.2.2.1 x.2.2.2.2.1),())).bind λa=>I (.inl (x.1,x.2.1,a.1.1,x.2.2.2.1,(w64<|x.2.2.2.2.1+1),())) else U else U else U else U else I (.inr<|.inr (x.2.1,x.2.2.1,()))
def cV:=AZ V8
def tT:Loop:=⟨[(2,.sl .str),(8,.row 3 .int),(9,.str),(10,.row 3 .int),(11,.int .i64)],[(8,.row 3 .int),(9,.str)],0,[],cV⟩
def axZ:LF Tryz.f226 [] [1,1,1,1,0,1,0,0] tT:=sq (v:= .nil) ua (b:=V8) kN
def cC(x:Int×Y8×List A4×A2):Option ((List Int×A4×A2)×A2):=(SA (x.1,x.2.1.1,())).bind λa=>(AS (cV (x.2.2.1,([]:List Int),x.2.1.2.1,a.1.1,0,())) (λ_=>U) λb=>I (b,()))
def xE:Ent:=(226,U,⟨[.int .i64,Z16,.fz .str],[.row 3 .int,.str],cC⟩)
def ayV:SQ Tryz.prog xE:=sk (v:=t1<|t1<|t1<|t1<|.two (t1<|.one<|.loop tT) .nil) (fn:=Tryz.f226) ua<|kC axZ kN
def ajO:Cx:=cX [GR,kj,xE] [] []
def jP:OKC Tryz.prog ajO AF:=okc mixed<|gC HI<|gC zT<|gC ayV<|AJ
def PH(x:Int×List AQ×List A4×Bool×Int×A2):Rnd (Int×List AQ×List A4×Bool×Int×A2) (A2) (Int×List AQ×List A4×Bool×A2):=if A0 (x.2.2.2.2.1<(x.2.1.length:Int)) then if inb x.2.2.2.2.1 x.2.1.length then(RV (x.1,((rd (dfl .mixed) x.2.1 x.2.2.2.2.1).nu,(rd (dfl .mixed) x.2.1 x.2.2.2.2.1).da,()),())).bind λb=>if !b.1.1 then I (.inl (x.1,x.2.1,x.2.2.1,x.2.2.2.1,(w64<|x.2.2.2.2.1+1),())) else if inb x.2.2.2.2.1 x.2.1.length then(cC (x.1,((rd (dfl .mixed) x.2.1 x.2.2.2.2.1).nu,(rd (dfl .mixed) x.2.1 x.2.2.2.2.1).da,()),x.2.2.1,())).bind λa=>if A0 ((a.1.1.length:Int)=1) then if inb 0 a.1.1.length then if inb (rd (dfl .int) a.1.1 0) x.2.2.1.length then I (.inl (x.1,x.2.1,(Bn x.2.2.1 (AK<|rd (dfl .int) a.1.1 0) a.1.2.1),A1,(w64<|x.2.2.2.2.1+1),())) else U else U else I (.inl (x.1,x.2.1,x.2.2.1,x.2.2.2.1,(w64<|x.2.2.2.2.1+1),())) else U else U else I (.inr<|.inr (x.1,x.2.1,x.2.2.1,x.2.2.2.1,()))
def VI:=AZ PH
def aAb:Loop:=⟨[(0,.int .i64),(1,.sl .mixed),(5,.row 9 .str),(6,.bool),(7,.int .i64)],[(0,.int .i64),(1,.sl .mixed),(5,.row 9 .str),(6,.bool)],2,[],VI⟩
def ala:LF Tryz.f205 [] [1,1,1,1,0,0,0,1,0,1,1,0,0] aAb:=sq (v:= .nil) jP (b:=PH) kN
def jT(x:Int×List AQ×List A4×Bool×A2):Rnd (Int×List AQ×List A4×Bool×A2) (A2) (List A4×A2):=if x.2.2.2.1 then(AS (VI (x.1,x.2.1,x.2.2.1,A3,0,())) (λ_=>I<|.inr<|.inl ()) λa=>I<|.inl a) else I (.inr<|.inr (x.2.2.1,()))
def jY:=AZ jT
def qY:Loop:=⟨[(0,.int .i64),(1,.sl .mixed),(5,.row 9 .str),(6,.bool)],[(5,.row 9 .str)],0,[],jY⟩
def ao4:LF Tryz.f205 [] [1,1,1,1,0,0,0] qY:=sq (v:=t1<|.one<|t1<|t1<|.one<|.loop aAb) jP (b:=jT)<|kC ala kN
def ZM(x:Int×List AQ×A2):Option ((List A4×A2)×A2):=(Cv (x.1,1,6,())).bind λa=>if !a.1.1 then I ((([]:List A4),()),()) else if A0 (0<=x.1)&&A0 (x.1<=4294967296) then(AS (jY (x.1,x.2.1,(BX (AK x.1)<|dfl .str),A1,())) (λ_=>U) λb=>I (b,())) else U
def yH:Ent:=(205,U,⟨[.int .i64,.fz .mixed],[.row 9 .str],ZM⟩)
def at2:SQ Tryz.prog yH:=sk (v:=t1<|t1<|t1<|t1<|.two (.one<|.loop qY) .nil) (fn:=Tryz.f205) jP<|kC ao4 kN
def asa:Cx:=cX [GR,Rs,yH] [] []
def lf:OKC Tryz.prog asa AF:=okc mixed<|gC HI<|gC YU<|gC at2<|AJ
def YK(x:Int×A4×Int×A2):Rnd (Int×A4×Int×A2) (A4×Bool×A2) (Int×A4×A2):=if A0 (x.2.2.1<(x.2.1.size:Int)) then if inb x.2.2.1 x.2.1.size then if !decide ((bt x.2.1 x.2.2.1)=0) then I (.inr<|.inl (noB,A3,())) else I (.inl (x.1,x.2.1,(w64<|x.2.2.1+1),())) else U else I (.inr<|.inr (x.1,x.2.1,()))
def nC:=AZ YK
def xu:Loop:=⟨[(0,.int .i64),(7,.str),(9,.int .i64)],[(0,.int .i64),(7,.str)],2,[(4,.str),(5,.bool)],nC⟩
def aw9:LF Tryz.f161 [] [1,1,1,1,1,0,1,0,0] xu:=sq (v:= .nil) lf (b:=YK) kN
def SF(x:Int×List A4×A4×Int×A2):Rnd (Int×List A4×A4×Int×A2) (A4×Bool×A2) (Int×A4×A2):=if A0 (x.2.2.2.1<(x.2.1.length:Int)) then if inb x.2.2.2.1 x.2.1.length then if A0 ((rd (dfl .str) x.2.1 x.2.2.2.1)=noB) then I (.inr<|.inl (noB,A3,())) else if inb x.2.2.2.1 x.2.1.length then if A0 (x.2.2.1.size+(rd (dfl .str) x.2.1 x.2.2.2.1).size<=4611686018427387904) then let a:=(x.2.2.1++(rd (dfl .str) x.2.1 x.2.2.2.1));I (.inl (x.1,x.2.1,a,(w64<|x.2.2.2.1+1),())) else U else U else U else I (.inr<|.inr (x.1,x.2.2.1,()))
def bP:=AZ SF
def wb:Loop:=⟨[(0,.int .i64),(6,.row 9 .str),(7,.str),(8,.int .i64)],[(0,.int .i64),(7,.str)],0,[(4,.str),(5,.bool)],bP⟩
def amA:LF Tryz.f161 [] [1,1,1,1,0,1,0,0] wb:=sq (v:= .nil) lf (b:=SF) kN
def Xn(x:Int×List AQ×A2):Option ((A4×Bool×A2)×A2):=(Cv (x.1,1,24,())).bind λc=>if !c.1.1 then I ((noB,A3,()),()) else(LI (x.1,())).bind λd=>(ZM (d.1.1,x.2)).bind λe=>(AS (bP (x.1,e.1.1,noB,0,())) (λb=>I (b,())) λb=>(AS (nC (b.1,b.2.1,b.1,())) (λa=>I (a,())) λa=>(if A0 (0<=a.1)&&A0 (a.1<=(a.2.1.size:Int)) then let f:=(a.2.1.extract (0)<|AK a.1);I ((f,A1,()),()) else U)))
def si:Ent:=(161,U,⟨[.int .i64,.fz .mixed],[.str,.bool],Xn⟩)
def ahU:SQ Tryz.prog si:=sk (v:=t1<|t1<|t1<|t1<|.two (t1<|.one<|.loop wb)<|.two (t1<|.one<|.loop xu) .nil) (fn:=Tryz.f161) lf<|kC amA<|kC aw9 kN
def aj0:Cx:=cX [IF,Rs,Rw,Rg,M6,Pu,Ug,abg,Va,aeZ,si,lj] [] [(39,46),(62,68)]
def axk:OKC Tryz.prog aj0 AF:=okc mixed<|gC Iw<|gC YU<|gC Zx<|gC Uf<|gC O7<|gC VH<|gC Xl<|gC aep<|gC W8<|gC arM<|gC ahU<|gC zQ<|AJ
def Um(x:Y1×Y3×A2):Option ((Y1×List Frame×A2)×A2):=(FN (x.1,())).bind λe=>if A0 (x.2.1.2.2.2.2.2.2.1<=e.1.1.2.1) then(Wh (3,x.2)).bind λb=>I ((x.1,([(Frame.mk b.1.1.1 b.1.1.2.1 b.1.1.2.2.1 b.1.1.2.2.2.1 b.1.1.2.2.2.2.1 b.1.1.2.2.2.2.2.1 b.1.1.2.2.2.2.2.2.1 b.1.1.2.2.2.2.2.2.2.1 b.1.1.2.2.2.2.2.2.2.2.1 b.1.1.2.2.2.2.2.2.2.2.2.1)]:List Frame),()),()) else(FY (e.1.1.2.2.2.1,x.2.1.2.2.2.1,x.2.1.2.2.2.2.1,())).bind λh=>if Ah (!(A0<|0<=h.1.1)) ((Jc (e.1.1.2.2.2.2.1,x.2.1.2.2.2.1,x.2.1.2.2.2.2.1,())).isSome) then if(A0<|0<=h.1.1)||(A0<|0<=((Jc (e.1.1.2.2.2.2.1,x.2.1.2.2.2.1,x.2.1.2.2.2.2.1,())).getD ((0,()),())).1.1) then(Nf ((x.1.2.2.1,x.1.2.2.2.1,()),())).bind λi=>(Wh (2,x.2)).bind λc=>I (((x.1.1,x.1.2.1,i.1.1.1,i.1.1.2.1,x.1.2.2.2.2),([(Frame.mk c.1.1.1 c.1.1.2.1 c.1.1.2.2.1 c.1.1.2.2.2.1 c.1.1.2.2.2.2.1 c.1.1.2.2.2.2.2.1 c.1.1.2.2.2.2.2.2.1 c.1.1.2.2.2.2.2.2.2.1 c.1.1.2.2.2.2.2.2.2.2.1 c.1.1.2.2.2.2.2.2.2.2.2.1)]:List Frame),()),()) else if Ah (!(A0<|x.2.1.2.2.2.1=x.1.1)) ((LI (x.2.1.2.2.2.2.2.2.2.1,())).isSome) then if Ah (!(A0<|x.2.1.2.2.2.1=x.1.1)) ((M7 (((LI (x.2.1.2.2.2.2.2.2.2.1,())).getD ((0,()),())).1.1,x.2.1.2.2.2.2.2.2.2.2.1,())).isSome) then if(A0<|x.2.1.2.2.2.1=x.1.1)||(!(((M7 (((LI (x.2.1.2.2.2.2.2.2.2.1,())).getD ((0,()),())).1.1,x.2.1.2.2.2.2.2.2.2.2.1,())).getD ((A3,()),())).1.1)) then I ((x.1,([]:List Frame),()),()) else(WX x).bind λa=>if A0 (a.1.2.1<0) then I ((a.1.1,([]:List Frame),()),()) else if inb a.1.2.1 a.1.1.2.2.2.2.1.length then(Xn (x.2.1.2.2.2.2.2.2.2.1,(rd (dfl .half) a.1.1.2.2.2.2.1 a.1.2.1).got,())).bind λj=>if !j.1.2.1 then I ((a.1.1,([]:List Frame),()),()) else(Ok (a.1.1.2.2.2.2.1,a.1.2)).bind λk=>(Ju ((x.2.1.2.2.2.1,x.2.1.2.2.2.2.1,x.2.1.2.2.2.2.2.1,x.2.1.2.2.2.2.2.2.1,j.1.1,()),())).bind λf=>if A0 (f.1.1=noB) then I (((a.1.1.1,a.1.1.2.1,a.1.1.2.2.1,a.1.1.2.2.2.1,k.1),([]:List Frame),()),()) else if A0 ((B [116,97,107,101,32]).size+f.1.1.size<=4611686018427387904) then(KT ((a.1.1.1,a.1.1.2.1,a.1.1.2.2.1,a.1.1.2.2.2.1,k.1),((B [116,97,107,101,32])++f.1.1),A1,())).bind λg=>if !g.1.2.1 then I ((g.1.1,([]:List Frame),()),()) else(Wh (2,x.2)).bind λd=>I ((g.1.1,([(Frame.mk d.1.1.1 d.1.1.2.1 d.1.1.2.2.1 d.1.1.2.2.2.1 d.1.1.2.2.2.2.1 d.1.1.2.2.2.2.2.1 d.1.1.2.2.2.2.2.2.1 d.1.1.2.2.2.2.2.2.2.1 d.1.1.2.2.2.2.2.2.2.2.1 d.1.1.2.2.2.2.2.2.2.2.2.1)]:List Frame),()),()) else U else U else U else U else U
def abn:Ent:=(124,U,⟨[Z1,Z4],[Z14,.fz .frame],Um⟩)
def aga:SQ Tryz.prog abn:=sk (v:= .nil) (fn:=Tryz.f124) axk kN
def auq:Cx:=cX [KM,IF,LW,lK,ZF,abn,M6,Pu] [] []
def auY:OKC Tryz.prog auq AF:=okc mixed<|gC LD<|gC Iw<|gC MH<|gC abE<|gC ir<|gC aga<|gC O7<|gC VH<|AJ
def Ue(x:Y1×Y3×A2):Option ((Y1×List Frame×A2)×A2):=(It (x.1,())).bind λf=>if !f.1.1 then I (((0,A3,noB,0,([]:List AG),()),([]:List Frame),()),()) else(Fg (x.1,())).bind λa=>if !x.1.2.1 then I ((a.1.1,([]:List Frame),()),()) else(UL x.2).bind λg=>if !g.1.1 then I ((a.1.1,([]:List Frame),()),()) else if !decide (x.2.1.2.2.1=x.1.1) then I ((a.1.1,([]:List Frame),()),()) else if A0 (x.2.1.1=1) then(Um (a.1.1,x.2)).bind λd=>(Fg (d.1.1,())).bind λh=>I ((h.1.1,d.1.2),()) else(FN (x.1,())).bind λb=>(FY (b.1.1.2.2.2.1,x.2.1.2.2.2.1,x.2.1.2.2.2.2.1,())).bind λc=>if !decide (x.2.1.1=2) then I ((a.1.1,([]:List Frame),()),()) else if A0 (c.1.1<0) then I ((a.1.1,([]:List Frame),()),()) else if inb c.1.1 b.1.1.2.2.2.1.length then if !decide ((rd (dfl .note) b.1.1.2.2.2.1 c.1.1).un=x.2.1.2.2.2.2.2.2.1) then I ((a.1.1,([]:List Frame),()),()) else if inb c.1.1 b.1.1.2.2.2.1.length then if !decide ((rd (dfl .note) b.1.1.2.2.2.1 c.1.1).to=x.2.1.2.2.2.2.2.1) then I ((a.1.1,([]:List Frame),()),()) else(Nt (x.2.1.2.2.2.1,x.2.1.2.2.2.2.1,x.2.1.2.2.2.2.2.2.1,())).bind λe=>if A0 ((B [108,101,116,32]).size+e.1.1.size<=4611686018427387904) then(KT (a.1.1,((B [108,101,116,32])++e.1.1),A3,())).bind λi=>I ((i.1.1,([]:List Frame),()),()) else U else U else U
def nZ:Ent:=(80,U,⟨[Z14,Z4],[Z14,.fz .frame],Ue⟩)
def wv:SQ Tryz.prog nZ:=sk (v:= .nil) (fn:=Tryz.f80) auY kN
def awW:Cx:=cX [fD] [] [(11,13)]
def yc:OKC Tryz.prog awW AF:=okc mixed<|gC aAJ<|AJ
def Vf(x:List AR×List Frame×Int×A2):Rnd (List AR×List Frame×Int×A2) (A2) (List AR×A2):=if(A0<|x.2.2.1<(x.2.1.length:Int))&&(A0<|(x.1.length:Int)<30) then if inb x.2.2.1 x.2.1.length then if inb x.2.2.1 x.2.1.length then if inb x.2.2.1 x.2.1.length then(OR (((rd (dfl .frame) x.2.1 x.2.2.1).ki,(rd (dfl .frame) x.2.1 x.2.2.1).src,(rd (dfl .frame) x.2.1 x.2.2.1).dst,(rd (dfl .frame) x.2.1 x.2.2.1).fr,(rd (dfl .frame) x.2.1 x.2.2.1).nu,(rd (dfl .frame) x.2.1 x.2.2.1).to,(rd (dfl .frame) x.2.1 x.2.2.1).un,(rd (dfl .frame) x.2.1 x.2.2.1).sz,(rd (dfl .frame) x.2.1 x.2.2.1).mix,(rd (dfl .frame) x.2.1 x.2.2.1).da,()),())).bind λa=>if Ab (x.1.length+([(AR.mk ((rd (dfl .frame) x.2.1 x.2.2.1).src) ((rd (dfl .frame) x.2.1 x.2.2.1).dst) (BA a.1.1) A3)]:List AR).length) then I (.inl ((x.1++([(AR.mk ((rd (dfl .frame) x.2.1 x.2.2.1).src) ((rd (dfl .frame) x.2.1 x.2.2.1).dst) (BA a.1.1) A3)]:List AR)),x.2.1,(w64<|x.2.2.1+1),())) else U else U else U else U else I (.inr<|.inr (x.1,()))
def eS:=AZ Vf
def tI:Loop:=⟨[(0,.row 38 .Ad),(1,.sl .frame),(5,.int .i64)],[(0,.row 38 .Ad)],0,[],eS⟩
def ayO:LF Tryz.f81 [] [1,0,1,0,0] tI:=sq (v:= .nil) yc (b:=Vf) kN
def R5(x:List AR×List Frame×A2):Option ((List AR×A2)×A2):=(AS (eS (x.1,x.2.1,0,())) (λ_=>U) λa=>I (a,()))
def fX:Ent:=(81,U,⟨[.row 38 .Ad,.fz .frame],[.row 38 .Ad],R5⟩)
def aAj:SQ Tryz.prog fX:=sk (v:=t1<|.two (t1<|.one<|.loop tI) .nil) (fn:=Tryz.f81) yc<|kC ayO kN
def atL:Cx:=cX [KM,IF,LW,Rg,Pu] [] [(37,38)]
def ay6:OKC Tryz.prog atL AF:=okc mixed<|gC LD<|gC Iw<|gC MH<|gC Uf<|gC VH<|AJ
def UI(x:Y1×Int×Int×A4×A2):Option ((Y1×Int×A2)×A2):=(It (x.1,())).bind λd=>if !d.1.1 then I (((0,A3,noB,0,([]:List AG),()),0,()),()) else(FN (x.1,())).bind λb=>(Ju ((x.1.1,b.1.1.2.2.1,x.2),())).bind λa=>if(!x.1.2.1)||(A0<|a.1.1=noB) then(Fg (x.1,())).bind λe=>I ((e.1.1,0,()),()) else(Fg (x.1,())).bind λf=>if A0 ((B [111,119,110,32]).size+a.1.1.size<=4611686018427387904) then(KT (f.1.1,((B [111,119,110,32])++a.1.1),A1,())).bind λc=>if !c.1.2.1 then(Fg (x.1,())).bind λg=>I ((g.1.1,0,()),()) else I ((c.1.1,b.1.1.2.2.1,()),()) else U
def pX:Ent:=(127,U,⟨[Z14,.int .i64,.int .i64,.str],[Z14,.int .i64],UI⟩)
def abQ:SQ Tryz.prog pX:=sk (v:= .nil) (fn:=Tryz.f127) ay6 kN
def afm:Cx:=cX [KM,IF,LW,Mi,Pu] [] [(19,21)]
def ar7:OKC Tryz.prog afm AF:=okc mixed<|gC LD<|gC Iw<|gC MH<|gC N4<|gC VH<|AJ
def VQ(x:Y1×A2):Option ((Y1×Bool×A2)×A2):=(It x).bind λc=>if !c.1.1 then I (((0,A3,noB,0,([]:List AG),()),A3,()),()) else(FN x).bind λa=>if(!x.1.2.1)||(A0<|999<=a.1.1.2.1) then(Fg x).bind λd=>I ((d.1.1,A3,()),()) else(Fg x).bind λe=>(D6 ((w64<|a.1.1.2.1+1),())).bind λb=>if A0 ((B [116,105,109,101,32]).size+b.1.1.size<=4611686018427387904) then(KT (e.1.1,((B [116,105,109,101,32])++b.1.1),A1,())).bind λf=>I (f.1,()) else U
def oS:Ent:=(83,U,⟨[Z14],[Z14,.bool],VQ⟩)
def vc:SQ Tryz.prog oS:=sk (v:= .nil) (fn:=Tryz.f83) ar7 kN
def arw:Cx:=cX [Rs] [] [(12,14)]
def fA:OKC Tryz.prog arw AF:=okc mixed<|gC YU<|AJ
def Yh(x:A4×List A4×Int×List Int×Int×A2):Rnd (A4×List A4×Int×List Int×Int×A2) (A2) (A4×List A4×Int×List Int×A2):=if A0 (x.2.2.2.2.1<(w64<|(w64<|x.2.2.1+1) * 4)) then if A0 (x.2.2.2.2.1<(x.1.size:Int)) then if inb x.2.2.2.2.1 x.1.size then if Ab (x.2.2.2.1.length+([(bt x.1 x.2.2.2.2.1)]:List Int).length) then I (.inl (x.1,x.2.1,x.2.2.1,(x.2.2.2.1++([(bt x.1 x.2.2.2.2.1)]:List Int)),(w64<|x.2.2.2.2.1+1),())) else U else U else if Ab (x.2.2.2.1.length+([0]:List Int).length) then I (.inl (x.1,x.2.1,x.2.2.1,(x.2.2.2.1++([0]:List Int)),(w64<|x.2.2.2.2.1+1),())) else U else I (.inr<|.inr (x.1,x.2.1,x.2.2.1,x.2.2.2.1,()))
def mO:=AZ Yh
def vq:Loop:=⟨[(0,.str),(3,.row 9 .str),(4,.int .i64),(5,.row 5 .u8),(6,.int .i64)],[(0,.str),(3,.row 9 .str),(4,.int .i64),(5,.row 5 .u8)],2,[],mO⟩
def aq9:LF Tryz.f163 [] [1,1,1,0,1,0,0,1,0,0,1,0,1,0,0] vq:=sq (v:= .nil) fA (b:=Yh) kN
def cb(x:A4×List A4×Int×A2):Rnd (A4×List A4×Int×A2) (A2) (List A4×A2):=(LI ((x.1.size:Int),())).bind λb=>if A0 (x.2.2.1<b.1.1) then(AS (mO (x.1,x.2.1,x.2.2.1,([]:List Int),(w64<|x.2.2.1 * 4),())) (λ_=>I<|.inr<|.inl ()) λa=>(if Ab (a.2.1.length+([(BA a.2.2.2.1)]:List A4).length) then I (.inl (a.1,(a.2.1++([(BA a.2.2.2.1)]:List A4)),(w64<|a.2.2.1+1),())) else U)) else I (.inr<|.inr (x.2.1,()))
def gW:=AZ cb
def abT:Loop:=⟨[(0,.str),(3,.row 9 .str),(4,.int .i64)],[(3,.row 9 .str)],0,[],gW⟩
def au2:LF Tryz.f163 [] [1,1,1,0,1,0,0] abT:=sq (v:=t1<|.two (.one<|t1<|.two (t1<|.one<|.loop vq) .nil) .nil) fA (b:=cb)<|kC aq9 kN
def Xg(x:A4×A2):Option ((List A4×A2)×A2):=if(A0<|(x.1.size:Int)<1)||(A0<|24<(x.1.size:Int)) then I ((([]:List A4),()),()) else(AS (gW (x.1,([]:List A4),0,())) (λ_=>U) λa=>I (a,()))
def aaY:Ent:=(163,U,⟨[.str],[.row 9 .str],Xg⟩)
def alD:SQ Tryz.prog aaY:=sk (v:=t1<|t1<|t1<|.two (t1<|.one<|.loop abT) .nil) (fn:=Tryz.f163) fA<|kC au2 kN
def ajE:Cx:=cX [] [] []
def anh:OKC Tryz.prog ajE AF:=okc mixed<|AJ
def jM(x:A2):Option ((A4×A2)×A2):=if A0 (0<=4)&&A0 (4<=4294967296) then let a:=(BA<|BX (AK 4)<|dfl .u8);I ((a,()),()) else U
def acT:Ent:=(165,U,⟨[],[.str],jM⟩)
def akC:SQ Tryz.prog acT:=sk (v:= .nil) (fn:=Tryz.f165) anh kN
def akn:Cx:=cX [aaY,jg,acT,eQ] [] [(19,21)]
def rG:OKC Tryz.prog akn AF:=okc mixed<|gC alD<|gC wO<|gC akC<|gC aea<|AJ
def ZL(x:List A4×List Int×A4×Int×A2):Rnd (List A4×List Int×A4×Int×A2) (A2) (A4×A2):=if A0 (x.2.2.2.1<(x.2.1.length:Int)) then if inb x.2.2.2.1 x.2.1.length then if inb (rd (dfl .int) x.2.1 x.2.2.2.1) x.1.length then(TI (x.2.2.1,(rd (dfl .str) x.1<|rd (dfl .int) x.2.1 x.2.2.2.1),())).bind λa=>I (.inl (x.1,x.2.1,a.1.1,(w64<|x.2.2.2.1+1),())) else U else U else I (.inr<|.inr (x.2.2.1,()))
def X5:=AZ ZL
def acP:Loop:=⟨[(5,.row 9 .str),(6,.row 3 .int),(7,.str),(8,.int .i64)],[(7,.str)],0,[],X5⟩
def aix:LF Tryz.f128 [] [1,1,1,1,1,0,1,0,0] acP:=sq (v:= .nil) rG (b:=ZL) kN
def W3(x:A4×Int×A2):Option ((A4×A2)×A2):=(Xg (x.1,())).bind λa=>(SA ((a.1.1.length:Int),x.2)).bind λb=>if(A0<|(a.1.1.length:Int)=0)||(A0<|(b.1.1.length:Int)=0) then I ((noB,()),()) else(jM ()).bind λc=>(AS (X5 (a.1.1,b.1.1,c.1.1,0,())) (λ_=>U) λd=>I (d,()))
def abc:Ent:=(128,U,⟨[.str,.int .i64],[.str],W3⟩)
def ayg:SQ Tryz.prog abc:=sk (v:=t1<|t1<|t1<|t1<|t1<|.two (t1<|.one<|.loop acP) .nil) (fn:=Tryz.f128) rG<|kC aix kN
def asJ:Cx:=cX [GR,KM,IF,jI,M6,abc] [] [(18,20),(36,38)]
def aun:OKC Tryz.prog asJ AF:=okc mixed<|gC HI<|gC LD<|gC Iw<|gC zz<|gC O7<|gC ayg<|AJ
def UZ(x:Y1×Int×Int×Int×A2):Option ((Y3×Bool×A2)×A2):=(It (x.1,())).bind λe=>if(!e.1.1)||(!x.1.2.1) then I (((0,0,0,0,0,0,0,0,0,noB,()),A3,()),()) else(FN (x.1,())).bind λb=>(FY (b.1.1.2.2.2.1,x.2.1,x.2.2.1,())).bind λa=>if Ah (!(A0<|a.1.1<0)) ((Cv (x.2.2.2.1,0,999,())).isSome) then if(A0<|a.1.1<0)||(!(((Cv (x.2.2.2.1,0,999,())).getD ((A3,()),())).1.1)) then I (((0,0,0,0,0,0,0,0,0,noB,()),A3,()),()) else if inb a.1.1 b.1.1.2.2.2.1.length then let f:=(rd (dfl .note) b.1.1.2.2.2.1 a.1.1).fr;let g:=(rd (dfl .note) b.1.1.2.2.2.1 a.1.1).nu;let c:=(rd (dfl .note) b.1.1.2.2.2.1 a.1.1).to;let h:=(rd (dfl .note) b.1.1.2.2.2.1 a.1.1).un;let d:=(rd (dfl .note) b.1.1.2.2.2.1 a.1.1).tx;(Q1 (x.1.1,c,())).bind λi=>(W3 (d,x.2.2.2)).bind λj=>I (((1,x.1.1,i.1.1,f,g,c,h,(d.size:Int),x.2.2.2.1,j.1),A1,()),()) else U else U
def k0:Ent:=(84,U,⟨[Z14,.int .i64,.int .i64,.int .i64],[Z4,.bool],UZ⟩)
def ads:SQ Tryz.prog k0:=sk (v:= .nil) (fn:=Tryz.f84) aun kN
def agM:Cx:=cX [QW,UE] [] []
def awG:OKC Tryz.prog agM AF:=okc mixed<|gC VJ<|gC bN<|AJ
def Ym(x:Y7×Int×A2):Option ((Y7×A2)×A2):=(Mz (x.1,())).bind λd=>if !d.1.1 then I (((noB,0,()),()),()) else(B8 (X:=Int×Y7×Y7×Int×A2) (λb=>(B8 (X:=Y7×Y7×Int×A2) (λa=>if A0 (0<=a.2.2.1)&&A0 (a.2.2.1<=(a.1.1.size:Int)) then(Ky ((a.1.1.extract (0)<|AK a.2.2.1),())).bind λc=>if A0 (0<=c.1.2.1)&&A0 (c.1.2.1<=(a.1.1.size:Int)) then let e:=(a.1.1.extract (0)<|AK c.1.2.1);I (((e,c.1.2),()),()) else U else U)<|(if A0 (0<b.1) then let f:=(w64<|b.2.2.2.1+b.1);I (.inr (b.2.1,b.2.2.1,f,())) else I (.inr b.2))))<|(if A0 ((w64<|(x.1.1.size:Int) - x.1.2.1)<x.2.1) then let g:=(w64<|(x.1.1.size:Int) - x.1.2.1);I (.inr (g,x.1,(noB,0,()),x.1.2)) else I (.inr (x.2.1,x.1,(noB,0,()),x.1.2))))
def abF:Ent:=(129,U,⟨[Z15,.int .i64],[Z15],Ym⟩)
def amF:SQ Tryz.prog abF:=sk (v:=t1<|t1<|t1<|.join [(1,.int .i64),(2,Z21),(4,Z21),(5,.int .i64)] .nil<|.join [(2,Z21),(4,Z21),(5,.int .i64)] .nil .nil) (fn:=Tryz.f129) awG kN
def agb:Cx:=cX [KM,abF] [] []
def avD:OKC Tryz.prog agb AF:=okc mixed<|gC LD<|gC amF<|AJ
def Uy(x:Y1×Int×A2):Option ((Y1×A2)×A2):=(It (x.1,())).bind λb=>if !b.1.1 then I (((0,A3,noB,0,([]:List AG),()),()),()) else(Ym ((x.1.2.2.1,x.1.2.2.2.1,()),x.2)).bind λa=>I (((x.1.1,A3,a.1.1.1,a.1.1.2.1,([]:List AG),()),()),())
def lY:Ent:=(85,U,⟨[Z14,.int .i64],[Z1],Uy⟩)
def adu:SQ Tryz.prog lY:=sk (v:= .nil) (fn:=Tryz.f85) avD kN
def aj4:Cx:=cX [KM,LW] [] []
def afa:OKC Tryz.prog aj4 AF:=okc mixed<|gC LD<|gC MH<|AJ
def SW(x:Y1×A2):Option ((Y1×A2)×A2):=(It x).bind λa=>if !a.1.1 then I (((0,A3,noB,0,([]:List AG),()),()),()) else if x.1.2.1 then(Fg x).bind λb=>I (b.1,()) else I (((x.1.1,A1,x.1.2.2.1,x.1.2.2.2.1,([]:List AG),()),()),())
def k8:Ent:=(86,U,⟨[Z14],[Z1],SW⟩)
def ac8:SQ Tryz.prog k8:=sk (v:= .nil) (fn:=Tryz.f86) afa kN
def ayT:Cx:=cX [KM,IF,LW,ZF,M6,Pu] [] [(33,34)]
def azO:OKC Tryz.prog ayT AF:=okc mixed<|gC LD<|gC Iw<|gC MH<|gC ir<|gC O7<|gC VH<|AJ
def Tg(x:Y1×Int×Int×A2):Option ((Y1×Y5×Bool×A2)×A2):=(It (x.1,())).bind λe=>if !e.1.1 then I (((0,A3,noB,0,([]:List AG),()),(0,0,0,0,noB,()),A3,()),()) else(FN (x.1,())).bind λa=>(FY (a.1.1.2.2.2.2.2.1,x.2)).bind λb=>if(!x.1.2.1)||(A0<|b.1.1<0) then(Fg (x.1,())).bind λf=>I ((f.1.1,(0,0,0,0,noB,()),A3,()),()) else(Fg (x.1,())).bind λg=>if inb b.1.1 a.1.1.2.2.2.2.2.1.length then(Nt (x.2.1,x.2.2.1,(rd (dfl .note) a.1.1.2.2.2.2.2.1 b.1.1).un,())).bind λc=>if A0 ((B [101,97,116,32]).size+c.1.1.size<=4611686018427387904) then(KT (g.1.1,((B [101,97,116,32])++c.1.1),A1,())).bind λd=>if !d.1.2.1 then(Fg (x.1,())).bind λh=>I ((h.1.1,(0,0,0,0,noB,()),A3,()),()) else if inb b.1.1 a.1.1.2.2.2.2.2.1.length then let i:=(rd (dfl .note) a.1.1.2.2.2.2.2.1 b.1.1).fr;let j:=(rd (dfl .note) a.1.1.2.2.2.2.2.1 b.1.1).nu;let k:=(rd (dfl .note) a.1.1.2.2.2.2.2.1 b.1.1).to;let l:=(rd (dfl .note) a.1.1.2.2.2.2.2.1 b.1.1).un;let m:=(rd (dfl .note) a.1.1.2.2.2.2.2.1 b.1.1).tx;I ((d.1.1,(i,j,k,l,m,()),A1,()),()) else U else U else U
def l4:Ent:=(87,U,⟨[Z14,.int .i64,.int .i64],[Z14,Z8,.bool],Tg⟩)
def ae0:SQ Tryz.prog l4:=sk (v:= .nil) (fn:=Tryz.f87) azO kN
def ahg:Cx:=cX [KM,IF,LW,eA,pV] [] [(32,33)]
def al0:OKC Tryz.prog ahg AF:=okc mixed<|gC LD<|gC Iw<|gC MH<|gC yC<|gC yR<|AJ
def U8(x:Y1×A2):Option ((Y1×Bool×A2)×A2):=(It x).bind λc=>if !c.1.1 then I (((0,A3,noB,0,([]:List AG),()),A3,()),()) else(Fg x).bind λa=>(FN x).bind λd=>(TW (d.1.1,())).bind λe=>(RN ((x.1.2.2.1,x.1.2.2.2.1,()),e.1)).bind λb=>if(!x.1.2.1)||(!b.1.2.1) then I ((a.1.1,A3,()),()) else I (((a.1.1.1,a.1.1.2.1,b.1.1.1,b.1.1.2.1,a.1.1.2.2.2.2),A1,()),())
def oe:Ent:=(88,U,⟨[Z14],[Z14,.bool],U8⟩)
def xP:SQ Tryz.prog oe:=sk (v:= .nil) (fn:=Tryz.f88) al0 kN
def aqN:Cx:=cX [KM,LW,Rw] [] [(15,22)]
def atZ:OKC Tryz.prog aqN AF:=okc mixed<|gC LD<|gC MH<|gC Zx<|AJ
def SN(x:Y1×A2):Option ((Y1×Bool×A2)×A2):=(It x).bind λc=>if !c.1.1 then I (((0,A3,noB,0,([]:List AG),()),A3,()),()) else(Fg x).bind λa=>if(!x.1.2.1)||(A0<|x.1.2.2.2.1=(x.1.2.2.1.size:Int)) then I ((a.1.1,A3,()),()) else(Nf ((x.1.2.2.1,x.1.2.2.2.1,()),())).bind λb=>I (((a.1.1.1,a.1.1.2.1,b.1.1.1,b.1.1.2.1,a.1.1.2.2.2.2),A1,()),())
def kK:Ent:=(89,U,⟨[Z14],[Z14,.bool],SN⟩)
def zV:SQ Tryz.prog kK:=sk (v:= .nil) (fn:=Tryz.f89) atZ kN
def xd:Cx:=cX [Yg,GR,IG,nM,nZ,fX,oS,k0,lY,k8,l4,oe,kK,pX] [] []
def ajQ:OKC Tryz.prog xd (N0 xd 2):=xD 2 mixed<|gC mM<|gC HI<|gC Iz<|gC uZ<|gC wv<|gC aAj<|gC vc<|gC ads<|gC adu<|gC ac8<|gC ae0<|gC xP<|gC zV<|gC abQ<|AJ
abbrev ZE:Type:=Int×Int×Int×Int×Int×Int×Int×Int×Int×A4×A2
def QD{Ω:Type}(a:List AA)(c:List AR)(e:ZE)(p:AR)(K:List AA->List AR->Option Ω):Option Ω:=
 if(A0<|e.1=5) then
 K a c
 else
 if Ab p.data.size then
 (Qv ((BB p.data),())).bind λr=>
 if(!r.1.2.1) then
 K a c
 else
 if(!decide (r.1.1.2.1=p.src)) then
 K a c
 else
 if(!decide (r.1.1.2.2.1=p.dst)) then
 K a c
 else
 if inb p.dst a.length then
 (Ue (((rd (dfl .AL) a p.dst).id,(rd (dfl .AL) a p.dst).up,(rd (dfl .AL) a p.dst).log,(rd (dfl .AL) a p.dst).fo,(rd (dfl .AL) a p.dst).AM,()),r.1.1,())).bind λq=>
 if inb p.dst a.length then
 (R5 (c,q.1.2)).bind λs=>
 K (Bn a (AK p.dst)<|AA.mk q.1.1.1 q.1.1.2.1 q.1.1.2.2.1 q.1.1.2.2.2.1 q.1.1.2.2.2.2.1) s.1.1
 else U
 else U
 else U
def YI{Ω:Type}(a:List AA)(c:List AR)(e:ZE)(p:AR)(K:List AA->List AR->Option Ω):Option Ω:=
 if(A0 (0<=e.2.2.2.2.1)&&A0 (e.2.2.2.2.1<=(c.length:Int))) then
 if Ab (([]:List AR).length+(BH (AK e.2.2.2.2.1) c).length) then
 if(A0 (0<=(w64<|e.2.2.2.2.1+1))&&A0 ((w64<|e.2.2.2.2.1+1)<=(c.length:Int))) then
 if Ab ((([]:List AR)++(BH (AK e.2.2.2.2.1) c)).length+(Bp (AK<|w64<|e.2.2.2.2.1+1) c).length) then
 QD a ((([]:List AR)++(BH (AK e.2.2.2.2.1) c))++(Bp (AK<|w64<|e.2.2.2.2.1+1) c)) e p K
 else U
 else U
 else U
 else U
def cJ{Ω:Type}(a:List AA)(c:List AR)(e:ZE)(p:AR)(K:List AA->List AR->Option Ω):Option Ω:=
 if(A0<|e.1=5) then
 YI a c e p K
 else
 if(A0<|e.2.2.2.2.2.2.1=0) then
 YI a c e p K
 else
 QD a c e p K
def QT{Ω:Type}(a:List AA)(b:List Bool)(c:List AR)(e:ZE)(K:List AA->List AR->Option Ω)(F:Option Ω):Option Ω:=
 (Cv (e.2.2.2.2.1,0,(w64<|(c.length:Int) - 1),())).bind λr=>
 if(!r.1.1) then
 F
 else
 if inb e.2.2.2.2.1 c.length then
 if(A0<|e.1=6) then
 if(rd (dfl .Ad) c e.2.2.2.2.1).sp then
 F
 else
 (Cv (e.2.2.2.2.2.1,0,(w64<|((rd (dfl .Ad) c e.2.2.2.2.1).data.size:Int) - 1),())).bind λr=>
 if(!r.1.1) then
 F
 else
 (Cv (e.2.2.2.2.2.2.1,1,255,())).bind λr=>
 if(!r.1.1) then
 F
 else
 if Ab (rd (dfl .Ad) c e.2.2.2.2.1).data.size then
 if inb e.2.2.2.2.2.1 ((BB (rd (dfl .Ad) c e.2.2.2.2.1).data).length) then
 if inb e.2.2.2.2.2.1 ((BB (rd (dfl .Ad) c e.2.2.2.2.1).data).length) then
 if inb e.2.2.2.2.1 c.length then
 if inb e.2.2.2.2.1 ((Bn c (AK e.2.2.2.2.1)<|AR.mk ((rd (dfl .Ad) c e.2.2.2.2.1).src) ((rd (dfl .Ad) c e.2.2.2.2.1).dst) (BA<|Bn (BB (rd (dfl .Ad) c e.2.2.2.2.1).data) (AK e.2.2.2.2.2.1)<|DY .u8 (rd (dfl .u8) (BB (rd (dfl .Ad) c e.2.2.2.2.1).data) e.2.2.2.2.2.1)<|w8 e.2.2.2.2.2.2.1)<|(rd (dfl .Ad) c e.2.2.2.2.1).sp).length) then
 K a (Bn (Bn c (AK e.2.2.2.2.1)<|AR.mk ((rd (dfl .Ad) c e.2.2.2.2.1).src) ((rd (dfl .Ad) c e.2.2.2.2.1).dst) (BA<|Bn (BB (rd (dfl .Ad) c e.2.2.2.2.1).data) (AK e.2.2.2.2.2.1)<|DY .u8 (rd (dfl .u8) (BB (rd (dfl .Ad) c e.2.2.2.2.1).data) e.2.2.2.2.2.1)<|w8 e.2.2.2.2.2.2.1)<|(rd (dfl .Ad) c e.2.2.2.2.1).sp) (AK e.2.2.2.2.1)<|AR.mk ((rd (dfl .Ad) (Bn c (AK e.2.2.2.2.1)<|AR.mk ((rd (dfl .Ad) c e.2.2.2.2.1).src) ((rd (dfl .Ad) c e.2.2.2.2.1).dst) (BA<|Bn (BB (rd (dfl .Ad) c e.2.2.2.2.1).data) (AK e.2.2.2.2.2.1)<|DY .u8 (rd (dfl .u8) (BB (rd (dfl .Ad) c e.2.2.2.2.1).data) e.2.2.2.2.2.1)<|w8 e.2.2.2.2.2.2.1)<|(rd (dfl .Ad) c e.2.2.2.2.1).sp) e.2.2.2.2.1).src) ((rd (dfl .Ad) (Bn c (AK e.2.2.2.2.1)<|AR.mk ((rd (dfl .Ad) c e.2.2.2.2.1).src) ((rd (dfl .Ad) c e.2.2.2.2.1).dst) (BA<|Bn (BB (rd (dfl .Ad) c e.2.2.2.2.1).data) (AK e.2.2.2.2.2.1)<|DY .u8 (rd (dfl .u8) (BB (rd (dfl .Ad) c e.2.2.2.2.1).data) e.2.2.2.2.2.1)<|w8 e.2.2.2.2.2.2.1)<|(rd (dfl .Ad) c e.2.2.2.2.1).sp) e.2.2.2.2.1).dst) ((rd (dfl .Ad) (Bn c (AK e.2.2.2.2.1)<|AR.mk ((rd (dfl .Ad) c e.2.2.2.2.1).src) ((rd (dfl .Ad) c e.2.2.2.2.1).dst) (BA<|Bn (BB (rd (dfl .Ad) c e.2.2.2.2.1).data) (AK e.2.2.2.2.2.1)<|DY .u8 (rd (dfl .u8) (BB (rd (dfl .Ad) c e.2.2.2.2.1).data) e.2.2.2.2.2.1)<|w8 e.2.2.2.2.2.2.1)<|(rd (dfl .Ad) c e.2.2.2.2.1).sp) e.2.2.2.2.1).data) A1)
 else U
 else U
 else U
 else U
 else U
 else
 if(A0<|e.1=4) then
 (ao ((rd (dfl .Ad) c e.2.2.2.2.1).src,(rd (dfl .Ad) c e.2.2.2.2.1).dst,())).bind λr=>
 if inb r.1.1 b.length then
 if(!(rd (dfl .bool) b r.1.1)) then
 F
 else
 cJ a c e (rd (dfl .Ad) c e.2.2.2.2.1) K
 else U
 else
 cJ a c e (rd (dfl .Ad) c e.2.2.2.2.1) K
 else U
def VR{Ω:Type}(b:List Bool)(e:ZE)(K:List Bool->Option Ω)(F:Option Ω):Option Ω:=
 (Cv (e.2.1,0,(w64<|(b.length:Int) - 1),())).bind λr=>
 if(!r.1.1) then
 F
 else
 if inb e.2.1 b.length then
 if(A0<|(rd (dfl .bool) b e.2.1)=(A0<|e.1=9)) then
 F
 else
 if inb e.2.1 b.length then
 K (Bn b (AK e.2.1)<|A0<|e.1=9)
 else U
 else U
def gO{Ω:Type}(a:List AA)(c:List AR)(d g:List A7)(e:ZE)(K:List AA->List A7->List A7->Option Ω)(F:Option Ω)(Kv:List AA->Bool->Option Ω)(Km:List AR->Bool->Option Ω)(Kz:Bool->Option Ω):Option Ω:=
 (FC (e.2.1,())).bind λr=>
 if(!r.1.1) then
 F
 else
 if inb e.2.1 a.length then
 if(A0<|e.1=1) then
 if(A0<|6<=(d.length:Int)) then
 F
 else
 if inb e.2.1 a.length then
 (UI (((rd (dfl .AL) a e.2.1).id,(rd (dfl .AL) a e.2.1).up,(rd (dfl .AL) a e.2.1).log,(rd (dfl .AL) a e.2.1).fo,(rd (dfl .AL) a e.2.1).AM,()),e.2.2.2.2.2.2.2)).bind λr=>
 if(A0<|r.1.2.1=0) then
 F
 else
 if inb e.2.1 a.length then
 if Ab (d.length+([(A7.mk e.2.1 r.1.2.1 e.2.2.2.2.2.2.2.1 e.2.2.2.2.2.2.2.2.1 e.2.2.2.2.2.2.2.2.2.1)]:List A7).length) then
 K (Bn a (AK e.2.1)<|AA.mk r.1.1.1 r.1.1.2.1 r.1.1.2.2.1 r.1.1.2.2.2.1 r.1.1.2.2.2.2.1) (d++([(A7.mk e.2.1 r.1.2.1 e.2.2.2.2.2.2.2.1 e.2.2.2.2.2.2.2.2.1 e.2.2.2.2.2.2.2.2.2.1)]:List A7)) g
 else U
 else U
 else U
 else
 if(A0<|e.1=2) then
 (VQ (((rd (dfl .AL) a e.2.1).id,(rd (dfl .AL) a e.2.1).up,(rd (dfl .AL) a e.2.1).log,(rd (dfl .AL) a e.2.1).fo,(rd (dfl .AL) a e.2.1).AM,()),())).bind λr=>
 if inb e.2.1 a.length then
 Kv (Bn a (AK e.2.1)<|AA.mk r.1.1.1 r.1.1.2.1 r.1.1.2.2.1 r.1.1.2.2.2.1 r.1.1.2.2.2.2.1) r.1.2.1
 else U
 else
 if(A0<|e.1=3) then
 (UZ (((rd (dfl .AL) a e.2.1).id,(rd (dfl .AL) a e.2.1).up,(rd (dfl .AL) a e.2.1).log,(rd (dfl .AL) a e.2.1).fo,(rd (dfl .AL) a e.2.1).AM,()),e.2.2.1,e.2.2.2.1,e.2.2.2.2.2.1,())).bind λr=>
 if r.1.2.1 then
 (R5 (c,([(Frame.mk r.1.1.1 r.1.1.2.1 r.1.1.2.2.1 r.1.1.2.2.2.1 r.1.1.2.2.2.2.1 r.1.1.2.2.2.2.2.1 r.1.1.2.2.2.2.2.2.1 r.1.1.2.2.2.2.2.2.2.1 r.1.1.2.2.2.2.2.2.2.2.1 r.1.1.2.2.2.2.2.2.2.2.2.1)]:List Frame),())).bind λs=>
 Km s.1.1 r.1.2.1
 else
 Kz r.1.2.1
 else
 if(A0<|e.1=7) then
 (Uy (((rd (dfl .AL) a e.2.1).id,(rd (dfl .AL) a e.2.1).up,(rd (dfl .AL) a e.2.1).log,(rd (dfl .AL) a e.2.1).fo,(rd (dfl .AL) a e.2.1).AM,()),e.2.2.2.2.2.2.1,())).bind λr=>
 if inb e.2.1 a.length then
 Kv (Bn a (AK e.2.1)<|AA.mk r.1.1.1 r.1.1.2.1 r.1.1.2.2.1 r.1.1.2.2.2.1 r.1.1.2.2.2.2.1) (rd (dfl .AL) a e.2.1).up
 else U
 else
 if(A0<|e.1=8) then
 (SW (((rd (dfl .AL) a e.2.1).id,(rd (dfl .AL) a e.2.1).up,(rd (dfl .AL) a e.2.1).log,(rd (dfl .AL) a e.2.1).fo,(rd (dfl .AL) a e.2.1).AM,()),())).bind λr=>
 if inb e.2.1 a.length then
 Kv (Bn a (AK e.2.1)<|AA.mk r.1.1.1 r.1.1.2.1 r.1.1.2.2.1 r.1.1.2.2.2.1 r.1.1.2.2.2.2.1) (!(rd (dfl .AL) a e.2.1).up)
 else U
 else
 if(A0<|e.1=11) then
 (Tg (((rd (dfl .AL) a e.2.1).id,(rd (dfl .AL) a e.2.1).up,(rd (dfl .AL) a e.2.1).log,(rd (dfl .AL) a e.2.1).fo,(rd (dfl .AL) a e.2.1).AM,()),e.2.2.1,e.2.2.2.1,())).bind λr=>
 if r.1.2.2.1 then
 if(A0<|(g.length:Int)<6) then
 if inb e.2.1 a.length then
 if Ab (g.length+([(A7.mk r.1.2.1.1 r.1.2.1.2.1 r.1.2.1.2.2.1 r.1.2.1.2.2.2.1 r.1.2.1.2.2.2.2.1)]:List A7).length) then
 K (Bn a (AK e.2.1)<|AA.mk r.1.1.1 r.1.1.2.1 r.1.1.2.2.1 r.1.1.2.2.2.1 r.1.1.2.2.2.2.1) d (g++([(A7.mk r.1.2.1.1 r.1.2.1.2.1 r.1.2.1.2.2.1 r.1.2.1.2.2.2.1 r.1.2.1.2.2.2.2.1)]:List A7))
 else U
 else U
 else
 F
 else
 F
 else
 if(A0<|e.1=12) then
 (U8 (((rd (dfl .AL) a e.2.1).id,(rd (dfl .AL) a e.2.1).up,(rd (dfl .AL) a e.2.1).log,(rd (dfl .AL) a e.2.1).fo,(rd (dfl .AL) a e.2.1).AM,()),())).bind λr=>
 if inb e.2.1 a.length then
 Kv (Bn a (AK e.2.1)<|AA.mk r.1.1.1 r.1.1.2.1 r.1.1.2.2.1 r.1.1.2.2.2.1 r.1.1.2.2.2.2.1) r.1.2.1
 else U
 else
 if(A0<|e.1=13) then
 (SN (((rd (dfl .AL) a e.2.1).id,(rd (dfl .AL) a e.2.1).up,(rd (dfl .AL) a e.2.1).log,(rd (dfl .AL) a e.2.1).fo,(rd (dfl .AL) a e.2.1).AM,()),())).bind λr=>
 if inb e.2.1 a.length then
 Kv (Bn a (AK e.2.1)<|AA.mk r.1.1.1 r.1.1.2.1 r.1.1.2.2.1 r.1.1.2.2.2.1 r.1.1.2.2.2.2.1) r.1.2.1
 else U
 else
 F
 else U
def doK{Ω:Type}(a:List AA)(b:List Bool)(c:List AR)(d g:List A7)(e:ZE)(K:List AA->List Bool->List AR->List A7->List A7->Option Ω)(F:Option Ω)(Kv:List AA->Bool->Option Ω)(Km:List AR->Bool->Option Ω)(Kz:Bool->Option Ω):Option Ω:=
 if(A0<|e.1=4) then
 QT a b c e (λx y=>K x b y d g) F
 else
 if(A0<|e.1=5) then
 QT a b c e (λx y=>K x b y d g) F
 else
 if(A0<|e.1=6) then
 QT a b c e (λx y=>K x b y d g) F
 else
 if(A0<|e.1=9) then
 VR b e (λy=>K a y c d g) F
 else
 if(A0<|e.1=10) then
 VR b e (λy=>K a y c d g) F
 else
 gO a c d g e (λx y z=>K x b c y z) F Kv Km Kz
def Vb(x:Y2×Y3×A2):Option ((Y2×Bool×A2)×A2):=(doK x.1.2.1 x.1.2.2.1 x.1.2.2.2.1 x.1.2.2.2.2.1 x.1.2.2.2.2.2.1 x.2.1 (λk l r s g=>I ((((w64<|x.1.1+1),k,l,r,s,g,()),A1,()),())) (I ((((w64<|x.1.1+1),x.1.2),A3,()),())) (λk b=>I ((((w64<|x.1.1+1),k,x.1.2.2.1,x.1.2.2.2.1,x.1.2.2.2.2.1,x.1.2.2.2.2.2.1,()),b,()),())) (λr b=>I ((((w64<|x.1.1+1),x.1.2.1,x.1.2.2.1,r,x.1.2.2.2.2.1,x.1.2.2.2.2.2.1,()),b,()),())) λb=>I ((((w64<|x.1.1+1),x.1.2.1,x.1.2.2.1,x.1.2.2.2.1,x.1.2.2.2.2.1,x.1.2.2.2.2.2.1,()),b,()),()))
def ace:Ent:=(30,U,⟨[Z3,Z4],[Z3,.bool],Vb⟩)
def amP:SQ Tryz.prog ace:=sk (v:= .nil) (fn:=Tryz.f30) ajQ kN
def QU:Cx:=cX [Yg,GR,IG,nM,nZ,fX,oS,k0,lY,k8,l4,oe,kK,pX] [] []
def ar2:OKC Tryz.prog QU (N0 QU 3):=xD 3 mixed<|gC mM<|gC HI<|gC Iz<|gC uZ<|gC wv<|gC aAj<|gC vc<|gC ads<|gC adu<|gC ac8<|gC ae0<|gC xP<|gC zV<|gC abQ<|AJ
def F7(x:Y10×Y3×A2):Option ((Bool×A2)×(Y10×A2)):=(doK x.1.2.2.1 x.1.2.2.2.1 x.1.2.2.2.2.1 x.1.2.2.2.2.2.1 x.1.2.2.2.2.2.2.1 x.2.1 (λk l r s g=>if Ab (x.1.2.2.2.2.2.2.2.1.length+([(Event.mk x.2.1.1 x.2.1.2.1 x.2.1.2.2.1 x.2.1.2.2.2.1 x.2.1.2.2.2.2.1 x.2.1.2.2.2.2.2.1 x.2.1.2.2.2.2.2.2.1 x.2.1.2.2.2.2.2.2.2.1 x.2.1.2.2.2.2.2.2.2.2.1 x.2.1.2.2.2.2.2.2.2.2.2.1)]:List Event).length) then I ((A1,()),((x.1.1,(w64<|x.1.2.1+1),k,l,r,s,g,(x.1.2.2.2.2.2.2.2.1++([(Event.mk x.2.1.1 x.2.1.2.1 x.2.1.2.2.1 x.2.1.2.2.2.1 x.2.1.2.2.2.2.1 x.2.1.2.2.2.2.2.1 x.2.1.2.2.2.2.2.2.1 x.2.1.2.2.2.2.2.2.2.1 x.2.1.2.2.2.2.2.2.2.2.1 x.2.1.2.2.2.2.2.2.2.2.2.1)]:List Event)),()),())) else U) (I ((A3,()),(x.1,()))) (λk b=>if b then if Ab (x.1.2.2.2.2.2.2.2.1.length+([(Event.mk x.2.1.1 x.2.1.2.1 x.2.1.2.2.1 x.2.1.2.2.2.1 x.2.1.2.2.2.2.1 x.2.1.2.2.2.2.2.1 x.2.1.2.2.2.2.2.2.1 x.2.1.2.2.2.2.2.2.2.1 x.2.1.2.2.2.2.2.2.2.2.1 x.2.1.2.2.2.2.2.2.2.2.2.1)]:List Event).length) then I ((b,()),((x.1.1,(w64<|x.1.2.1+1),k,x.1.2.2.2.1,x.1.2.2.2.2.1,x.1.2.2.2.2.2.1,x.1.2.2.2.2.2.2.1,(x.1.2.2.2.2.2.2.2.1++([(Event.mk x.2.1.1 x.2.1.2.1 x.2.1.2.2.1 x.2.1.2.2.2.1 x.2.1.2.2.2.2.1 x.2.1.2.2.2.2.2.1 x.2.1.2.2.2.2.2.2.1 x.2.1.2.2.2.2.2.2.2.1 x.2.1.2.2.2.2.2.2.2.2.1 x.2.1.2.2.2.2.2.2.2.2.2.1)]:List Event)),()),())) else U else I ((b,()),((x.1.1,x.1.2.1,k,x.1.2.2.2),()))) (λr b=>if b then if Ab (x.1.2.2.2.2.2.2.2.1.length+([(Event.mk x.2.1.1 x.2.1.2.1 x.2.1.2.2.1 x.2.1.2.2.2.1 x.2.1.2.2.2.2.1 x.2.1.2.2.2.2.2.1 x.2.1.2.2.2.2.2.2.1 x.2.1.2.2.2.2.2.2.2.1 x.2.1.2.2.2.2.2.2.2.2.1 x.2.1.2.2.2.2.2.2.2.2.2.1)]:List Event).length) then I ((b,()),((x.1.1,(w64<|x.1.2.1+1),x.1.2.2.1,x.1.2.2.2.1,r,x.1.2.2.2.2.2.1,x.1.2.2.2.2.2.2.1,(x.1.2.2.2.2.2.2.2.1++([(Event.mk x.2.1.1 x.2.1.2.1 x.2.1.2.2.1 x.2.1.2.2.2.1 x.2.1.2.2.2.2.1 x.2.1.2.2.2.2.2.1 x.2.1.2.2.2.2.2.2.1 x.2.1.2.2.2.2.2.2.2.1 x.2.1.2.2.2.2.2.2.2.2.1 x.2.1.2.2.2.2.2.2.2.2.2.1)]:List Event)),()),())) else U else U) λb=>if b then if Ab (x.1.2.2.2.2.2.2.2.1.length+([(Event.mk x.2.1.1 x.2.1.2.1 x.2.1.2.2.1 x.2.1.2.2.2.1 x.2.1.2.2.2.2.1 x.2.1.2.2.2.2.2.1 x.2.1.2.2.2.2.2.2.1 x.2.1.2.2.2.2.2.2.2.1 x.2.1.2.2.2.2.2.2.2.2.1 x.2.1.2.2.2.2.2.2.2.2.2.1)]:List Event).length) then I ((b,()),((x.1.1,(w64<|x.1.2.1+1),x.1.2.2.1,x.1.2.2.2.1,x.1.2.2.2.2.1,x.1.2.2.2.2.2.1,x.1.2.2.2.2.2.2.1,(x.1.2.2.2.2.2.2.2.1++([(Event.mk x.2.1.1 x.2.1.2.1 x.2.1.2.2.1 x.2.1.2.2.2.1 x.2.1.2.2.2.2.1 x.2.1.2.2.2.2.2.1 x.2.1.2.2.2.2.2.2.1 x.2.1.2.2.2.2.2.2.2.1 x.2.1.2.2.2.2.2.2.2.2.1 x.2.1.2.2.2.2.2.2.2.2.2.1)]:List Event)),()),())) else U else I ((b,()),(x.1,())))
def KB:Ent:=(27,U,⟨[Z22,Z4],[.bool],F7⟩)
end Go.VS
end
