/- Part 14. -/
import Derived.Shelf.Utf8.RuneCount
import Derived.Shelf.Strconv.Itoa0
import Derived.Shelf.Strconv.Itoa1
import Derived.Shelf.LaysM
import Derived.Shelf.Strconv.Itoa2
import Derived.Shelf.Strconv.Itoa3
import Derived.Shelf.Strings.Search1
import Derived.Shelf.Strings.Search2
import Derived.Shelf.Strings.Search3
import Derived.Shelf.Strings.Cut
import Derived.Shelf.Strings.Count
import Derived.Shelf.Strings.Shaped
import Derived.Shelf.Strings.Split
import Derived.Shelf.Strings.SplitShaped
import Derived.Shelf.Unicode.Decode
import Derived.Shelf.Strings.RuneCount
import Derived.Shelf.Strings.Explode
import Derived.Shelf.Unicode.DecodeSlow
import Derived.Shelf.Unicode.DecodeAny
import Derived.Test.YtplahhbealfpcaaGreatDoorProg
import Derived.Test.YtplahhbealfpcaaGreatDoorQAM
open Bool renaming false->A3,true->A0
open Decidable renaming decide->A1
open Go.Lib renaming TabIs->M8,cellsOf->Yn,countB->NL,cut->FH,itoa->B6,pow10Tab->NN,splitB->Ih
open Go.Shelf renaming Ren->TV
open Go.Value renaming string->Yq
open Int renaming tdiv->Ax,tmod->BG,toNat->AL
open List renaming drop->Bm,replicate->BT,set->Bn,take->BH
open Option renaming none->U,some->I
set_option linter.all false
noncomputable section
namespace Go.Proofs
open Go.Shelf
def Tryz.axj:TV:=⟨fun|171=>119|243=>155|246=>194|283=>225|284=>226|285=>227|286=>228|129=>238|317=>237|318=>239|319=>240|320=>241|337=>249|338=>250|n=>n,fun|3=>3|9=>9|2=>2|4=>4|171=>209|0=>0|53=>210|37=>22|5=>5|173=>213|212=>220|51=>221|20=>20|213=>222|46=>223|232=>231|233=>232|n=>n,fun|17=>0|18=>2|19=>3|n=>n⟩
def Tryz.axm:Go.Proofs.LaysM.n171 Tryz.prog Tryz.axj:={
 mixed:=by kernel_rfl
 f129:=Tryz.func238.trans (congrArg I<|by kernel_rfl)
 f171:=Tryz.func119.trans (congrArg I<|by kernel_rfl)
 f243:=Tryz.func155.trans (congrArg I<|by kernel_rfl)
 f246:=Tryz.func194.trans (congrArg I<|by kernel_rfl)
 f283:=Tryz.func225.trans (congrArg I<|by kernel_rfl)
 f284:=Tryz.func226.trans (congrArg I<|by kernel_rfl)
 f285:=Tryz.func227.trans (congrArg I<|by kernel_rfl)
 f286:=Tryz.func228.trans (congrArg I<|by kernel_rfl)
 f317:=Tryz.func237.trans (congrArg I<|by kernel_rfl)
 f318:=Tryz.func239.trans (congrArg I<|by kernel_rfl)
 f319:=Tryz.func240.trans (congrArg I<|by kernel_rfl)
 f320:=Tryz.func241.trans (congrArg I<|by kernel_rfl)
 f337:=Tryz.func249.trans (congrArg I<|by kernel_rfl)
 f338:=Tryz.func250.trans (congrArg I<|by kernel_rfl)
 t0:=Tryz.underlying0
 a0:=Tryz.isAgg0
 z0:=Tryz.sizeOf0
 v0:=Tryz.zeroValue0
 t2:=Tryz.underlying2
 a2:=Tryz.isAgg2
 z2:=Tryz.sizeOf2
 v2:=Tryz.zeroValue2
 t3:=Tryz.underlying3
 a3:=Tryz.isAgg3
 z3:=Tryz.sizeOf3
 v3:=Tryz.zeroValue3
 t4:=Tryz.underlying4
 a4:=Tryz.isAgg4
 z4:=Tryz.sizeOf4
 v4:=Tryz.zeroValue4
 t5:=Tryz.underlying5
 a5:=Tryz.isAgg5
 z5:=Tryz.sizeOf5
 v5:=Tryz.zeroValue5
 t9:=Tryz.underlying9
 a9:=Tryz.isAgg9
 z9:=Tryz.sizeOf9
 v9:=Tryz.zeroValue9
 t20:=Tryz.underlying20
 a20:=Tryz.isAgg20
 z20:=Tryz.sizeOf20
 v20:=Tryz.zeroValue20
 t37:=Tryz.underlying22
 a37:=Tryz.isAgg22
 z37:=Tryz.sizeOf22
 v37:=Tryz.zeroValue22
 t46:=Tryz.underlying223
 a46:=Tryz.isAgg223
 z46:=Tryz.sizeOf223
 v46:=Tryz.zeroValue223
 t51:=Tryz.underlying221
 a51:=Tryz.isAgg221
 z51:=Tryz.sizeOf221
 v51:=Tryz.zeroValue221
 t53:=Tryz.underlying210
 a53:=Tryz.isAgg210
 z53:=Tryz.sizeOf210
 v53:=Tryz.zeroValue210
 t171:=Tryz.underlying209
 a171:=Tryz.isAgg209
 z171:=Tryz.sizeOf209
 v171:=Tryz.zeroValue209
 t173:=Tryz.underlying213
 a173:=Tryz.isAgg213
 z173:=Tryz.sizeOf213
 v173:=Tryz.zeroValue213
 t212:=Tryz.underlying220
 a212:=Tryz.isAgg220
 z212:=Tryz.sizeOf220
 v212:=Tryz.zeroValue220
 t213:=Tryz.underlying222
 a213:=Tryz.isAgg222
 z213:=Tryz.sizeOf222
 t232:=Tryz.underlying231
 a232:=Tryz.isAgg231
 z232:=Tryz.sizeOf231
 v232:=Tryz.zeroValue231
 t233:=Tryz.underlying232
 a233:=Tryz.isAgg232
 z233:=Tryz.sizeOf232
 v233:=Tryz.zeroValue232
 g17:=by kernel_rfl
 g18:=by kernel_rfl
 g19:=by kernel_rfl
 i0:=by kernel_rfl
 i2:=by kernel_rfl
 i3:=by kernel_rfl
 i4:=by kernel_rfl
 i5:=by kernel_rfl
 i9:=by kernel_rfl
 i20:=by kernel_rfl
 i37:=by kernel_rfl
 i46:=by kernel_rfl
 i51:=by kernel_rfl
 i53:=by kernel_rfl
 i171:=by kernel_rfl
 i173:=by kernel_rfl
 i212:=by kernel_rfl
 i232:=by kernel_rfl
 i233:=by kernel_rfl
 m17:=by kernel_rfl
 m18:=by kernel_rfl
 m19:=by kernel_rfl }
def Tryz.axq:TV:=⟨fun|145=>165|220=>201|219=>229|217=>242|225=>243|224=>244|267=>245|266=>251|314=>252|n=>n,fun|9=>9|4=>4|59=>171|3=>3|5=>5|46=>223|146=>229|51=>221|n=>n,fun|1=>1|n=>n⟩
def Tryz.ay3:Go.Proofs.Lays.n145 Tryz.prog Tryz.axq:={
 mixed:=by kernel_rfl
 f145:=Tryz.func165.trans (congrArg I<|by kernel_rfl)
 f217:=Tryz.func242.trans (congrArg I<|by kernel_rfl)
 f219:=Tryz.func229.trans (congrArg I<|by kernel_rfl)
 f220:=Tryz.func201.trans (congrArg I<|by kernel_rfl)
 f224:=Tryz.func244.trans (congrArg I<|by kernel_rfl)
 f225:=Tryz.func243.trans (congrArg I<|by kernel_rfl)
 f266:=Tryz.func251.trans (congrArg I<|by kernel_rfl)
 f267:=Tryz.func245.trans (congrArg I<|by kernel_rfl)
 f314:=Tryz.func252.trans (congrArg I<|by kernel_rfl)
 t3:=Tryz.underlying3
 a3:=Tryz.isAgg3
 z3:=Tryz.sizeOf3
 v3:=Tryz.zeroValue3
 t4:=Tryz.underlying4
 a4:=Tryz.isAgg4
 z4:=Tryz.sizeOf4
 v4:=Tryz.zeroValue4
 t5:=Tryz.underlying5
 a5:=Tryz.isAgg5
 z5:=Tryz.sizeOf5
 v5:=Tryz.zeroValue5
 t9:=Tryz.underlying9
 a9:=Tryz.isAgg9
 z9:=Tryz.sizeOf9
 v9:=Tryz.zeroValue9
 t46:=Tryz.underlying223
 a46:=Tryz.isAgg223
 z46:=Tryz.sizeOf223
 v46:=Tryz.zeroValue223
 t51:=Tryz.underlying221
 a51:=Tryz.isAgg221
 z51:=Tryz.sizeOf221
 v51:=Tryz.zeroValue221
 t59:=Tryz.underlying171
 a59:=Tryz.isAgg171
 z59:=Tryz.sizeOf171
 v59:=Tryz.zeroValue171
 t146:=Tryz.underlying229
 a146:=Tryz.isAgg229
 z146:=Tryz.sizeOf229
 v146:=Tryz.zeroValue229
 g1:=by kernel_rfl }
def Tryz.axk:TV:=⟨fun|145=>165|220=>201|219=>229|217=>242|225=>243|224=>244|267=>245|266=>251|314=>252|n=>n,fun|9=>9|4=>4|59=>171|3=>3|5=>5|46=>223|146=>229|51=>221|n=>n,fun|1=>1|n=>n⟩
def Tryz.nH:Go.Proofs.LaysM.n145 Tryz.prog Tryz.axk:={
 mixed:=by kernel_rfl
 f145:=Tryz.func165.trans (congrArg I<|by kernel_rfl)
 f217:=Tryz.func242.trans (congrArg I<|by kernel_rfl)
 f219:=Tryz.func229.trans (congrArg I<|by kernel_rfl)
 f220:=Tryz.func201.trans (congrArg I<|by kernel_rfl)
 f224:=Tryz.func244.trans (congrArg I<|by kernel_rfl)
 f225:=Tryz.func243.trans (congrArg I<|by kernel_rfl)
 f266:=Tryz.func251.trans (congrArg I<|by kernel_rfl)
 f267:=Tryz.func245.trans (congrArg I<|by kernel_rfl)
 f314:=Tryz.func252.trans (congrArg I<|by kernel_rfl)
 t3:=Tryz.underlying3
 a3:=Tryz.isAgg3
 z3:=Tryz.sizeOf3
 v3:=Tryz.zeroValue3
 t4:=Tryz.underlying4
 a4:=Tryz.isAgg4
 z4:=Tryz.sizeOf4
 v4:=Tryz.zeroValue4
 t5:=Tryz.underlying5
 a5:=Tryz.isAgg5
 z5:=Tryz.sizeOf5
 v5:=Tryz.zeroValue5
 t9:=Tryz.underlying9
 a9:=Tryz.isAgg9
 z9:=Tryz.sizeOf9
 v9:=Tryz.zeroValue9
 t46:=Tryz.underlying223
 a46:=Tryz.isAgg223
 z46:=Tryz.sizeOf223
 v46:=Tryz.zeroValue223
 t51:=Tryz.underlying221
 a51:=Tryz.isAgg221
 z51:=Tryz.sizeOf221
 v51:=Tryz.zeroValue221
 t59:=Tryz.underlying171
 a59:=Tryz.isAgg171
 z59:=Tryz.sizeOf171
 v59:=Tryz.zeroValue171
 t146:=Tryz.underlying229
 a146:=Tryz.isAgg229
 z146:=Tryz.sizeOf229
 v146:=Tryz.zeroValue229
 g1:=by kernel_rfl
 i3:=by kernel_rfl
 i4:=by kernel_rfl
 i5:=by kernel_rfl
 i9:=by kernel_rfl
 i46:=by kernel_rfl
 i51:=by kernel_rfl
 i59:=by kernel_rfl
 i146:=by kernel_rfl
 m1:=by kernel_rfl
 s1_3:=λw h=>Go.Proofs.cell_of_shapedOpen_int (zero:= #[.int .i64 0]) (t:=3) h (of_decide_eq_true<|by kernel_rfl) (by kernel_rfl) rfl (by kernel_rfl) (by kernel_rfl) Tryz.underlying3 }
def Tryz.axp:TV:=⟨fun|146=>170|221=>206|268=>230|138=>231|143=>232|195=>246|197=>247|218=>248|219=>229|260=>253|217=>242|225=>243|224=>244|267=>245|266=>251|314=>252|n=>n,fun|9=>9|31=>88|3=>3|4=>4|0=>0|105=>226|21=>21|5=>5|46=>223|119=>233|139=>236|138=>235|146=>229|51=>221|n=>n,fun|1=>1|3=>4|4=>5|n=>n⟩
def Tryz.ay2:Go.Proofs.Lays.n146 Tryz.prog Tryz.axp:={
 mixed:=by kernel_rfl
 f138:=Tryz.func231.trans (congrArg I<|by kernel_rfl)
 f143:=Tryz.func232.trans (congrArg I<|by kernel_rfl)
 f146:=Tryz.func170.trans (congrArg I<|by kernel_rfl)
 f195:=Tryz.func246.trans (congrArg I<|by kernel_rfl)
 f197:=Tryz.func247.trans (congrArg I<|by kernel_rfl)
 f217:=Tryz.func242.trans (congrArg I<|by kernel_rfl)
 f218:=Tryz.func248.trans (congrArg I<|by kernel_rfl)
 f219:=Tryz.func229.trans (congrArg I<|by kernel_rfl)
 f221:=Tryz.func206.trans (congrArg I<|by kernel_rfl)
 f224:=Tryz.func244.trans (congrArg I<|by kernel_rfl)
 f225:=Tryz.func243.trans (congrArg I<|by kernel_rfl)
 f260:=Tryz.func253.trans (congrArg I<|by kernel_rfl)
 f266:=Tryz.func251.trans (congrArg I<|by kernel_rfl)
 f267:=Tryz.func245.trans (congrArg I<|by kernel_rfl)
 f268:=Tryz.func230.trans (congrArg I<|by kernel_rfl)
 f314:=Tryz.func252.trans (congrArg I<|by kernel_rfl)
 t0:=Tryz.underlying0
 a0:=Tryz.isAgg0
 z0:=Tryz.sizeOf0
 v0:=Tryz.zeroValue0
 t3:=Tryz.underlying3
 a3:=Tryz.isAgg3
 z3:=Tryz.sizeOf3
 v3:=Tryz.zeroValue3
 t4:=Tryz.underlying4
 a4:=Tryz.isAgg4
 z4:=Tryz.sizeOf4
 v4:=Tryz.zeroValue4
 t5:=Tryz.underlying5
 a5:=Tryz.isAgg5
 z5:=Tryz.sizeOf5
 v5:=Tryz.zeroValue5
 t9:=Tryz.underlying9
 a9:=Tryz.isAgg9
 z9:=Tryz.sizeOf9
 v9:=Tryz.zeroValue9
 t21:=Tryz.underlying21
 a21:=Tryz.isAgg21
 z21:=Tryz.sizeOf21
 v21:=Tryz.zeroValue21
 t31:=Tryz.underlying88
 a31:=Tryz.isAgg88
 z31:=Tryz.sizeOf88
 v31:=Tryz.zeroValue88
 t46:=Tryz.underlying223
 a46:=Tryz.isAgg223
 z46:=Tryz.sizeOf223
 v46:=Tryz.zeroValue223
 t51:=Tryz.underlying221
 a51:=Tryz.isAgg221
 z51:=Tryz.sizeOf221
 v51:=Tryz.zeroValue221
 t105:=Tryz.underlying226
 a105:=Tryz.isAgg226
 z105:=Tryz.sizeOf226
 v105:=Tryz.zeroValue226
 t119:=Tryz.underlying233
 a119:=Tryz.isAgg233
 z119:=Tryz.sizeOf233
 t138:=Tryz.underlying235
 a138:=Tryz.isAgg235
 z138:=Tryz.sizeOf235
 v138:=Tryz.zeroValue235
 t139:=Tryz.underlying236
 a139:=Tryz.isAgg236
 z139:=Tryz.sizeOf236
 v139:=Tryz.zeroValue236
 t146:=Tryz.underlying229
 a146:=Tryz.isAgg229
 z146:=Tryz.sizeOf229
 v146:=Tryz.zeroValue229
 g1:=by kernel_rfl
 g3:=by kernel_rfl
 g4:=by kernel_rfl }
def Tryz.axo:TV:=⟨fun|147=>203|221=>206|268=>230|138=>231|143=>232|195=>246|197=>247|218=>248|219=>229|260=>253|217=>242|225=>243|224=>244|267=>245|266=>251|314=>252|n=>n,fun|9=>9|3=>3|31=>88|4=>4|0=>0|105=>226|21=>21|5=>5|46=>223|119=>233|139=>236|138=>235|146=>229|51=>221|n=>n,fun|1=>1|3=>4|4=>5|n=>n⟩
def Tryz.ay1:Go.Proofs.Lays.n147 Tryz.prog Tryz.axo:={
 mixed:=by kernel_rfl
 f138:=Tryz.func231.trans (congrArg I<|by kernel_rfl)
 f143:=Tryz.func232.trans (congrArg I<|by kernel_rfl)
 f147:=Tryz.func203.trans (congrArg I<|by kernel_rfl)
 f195:=Tryz.func246.trans (congrArg I<|by kernel_rfl)
 f197:=Tryz.func247.trans (congrArg I<|by kernel_rfl)
 f217:=Tryz.func242.trans (congrArg I<|by kernel_rfl)
 f218:=Tryz.func248.trans (congrArg I<|by kernel_rfl)
 f219:=Tryz.func229.trans (congrArg I<|by kernel_rfl)
 f221:=Tryz.func206.trans (congrArg I<|by kernel_rfl)
 f224:=Tryz.func244.trans (congrArg I<|by kernel_rfl)
 f225:=Tryz.func243.trans (congrArg I<|by kernel_rfl)
 f260:=Tryz.func253.trans (congrArg I<|by kernel_rfl)
 f266:=Tryz.func251.trans (congrArg I<|by kernel_rfl)
 f267:=Tryz.func245.trans (congrArg I<|by kernel_rfl)
 f268:=Tryz.func230.trans (congrArg I<|by kernel_rfl)
 f314:=Tryz.func252.trans (congrArg I<|by kernel_rfl)
 t0:=Tryz.underlying0
 a0:=Tryz.isAgg0
 z0:=Tryz.sizeOf0
 v0:=Tryz.zeroValue0
 t3:=Tryz.underlying3
 a3:=Tryz.isAgg3
 z3:=Tryz.sizeOf3
 v3:=Tryz.zeroValue3
 t4:=Tryz.underlying4
 a4:=Tryz.isAgg4
 z4:=Tryz.sizeOf4
 v4:=Tryz.zeroValue4
 t5:=Tryz.underlying5
 a5:=Tryz.isAgg5
 z5:=Tryz.sizeOf5
 v5:=Tryz.zeroValue5
 t9:=Tryz.underlying9
 a9:=Tryz.isAgg9
 z9:=Tryz.sizeOf9
 v9:=Tryz.zeroValue9
 t21:=Tryz.underlying21
 a21:=Tryz.isAgg21
 z21:=Tryz.sizeOf21
 v21:=Tryz.zeroValue21
 t31:=Tryz.underlying88
 a31:=Tryz.isAgg88
 z31:=Tryz.sizeOf88
 v31:=Tryz.zeroValue88
 t46:=Tryz.underlying223
 a46:=Tryz.isAgg223
 z46:=Tryz.sizeOf223
 v46:=Tryz.zeroValue223
 t51:=Tryz.underlying221
 a51:=Tryz.isAgg221
 z51:=Tryz.sizeOf221
 v51:=Tryz.zeroValue221
 t105:=Tryz.underlying226
 a105:=Tryz.isAgg226
 z105:=Tryz.sizeOf226
 v105:=Tryz.zeroValue226
 t119:=Tryz.underlying233
 a119:=Tryz.isAgg233
 z119:=Tryz.sizeOf233
 t138:=Tryz.underlying235
 a138:=Tryz.isAgg235
 z138:=Tryz.sizeOf235
 v138:=Tryz.zeroValue235
 t139:=Tryz.underlying236
 a139:=Tryz.isAgg236
 z139:=Tryz.sizeOf236
 v139:=Tryz.zeroValue236
 t146:=Tryz.underlying229
 a146:=Tryz.isAgg229
 z146:=Tryz.sizeOf229
 v146:=Tryz.zeroValue229
 g1:=by kernel_rfl
 g3:=by kernel_rfl
 g4:=by kernel_rfl }
open Go.RowKit Go.Sort Go.Lib in
theorem Tryz.strconv_Itoa (n:Int) (h0: -9223372036854775808<=n) (h1:n<=9223372036854775807) (w:World) (Zu:M8 Tryz.prog w "internal/strconv.uint64pow10" .u64 NN):
  Calls Tryz.prog 119 #[.int .i64 n] w λe w'=>e= .returned (.string ⟨(B6 n).toArray⟩)/\ ∃k os,w'=grow (w.drewN k) os:=Any.strconv_Itoa Tryz.axm n h0 h1 w Zu
open Go.RowKit Go.Lib in
theorem Tryz.strings_Cut (s sep:ByteArray) (m:Int) (w:World) (hs:s.size<4294967281) (hm:w.cell? ⟨1,0,U⟩=I (.int .i64 m)):
  Calls Tryz.prog 165 #[.string s,.string sep] w λe w'=>e= .returned (.tuple #[.string ⟨(FH s.data.toList sep.data.toList).1.toArray⟩,.string ⟨(FH s.data.toList sep.data.toList).2.1.toArray⟩,.bool (FH s.data.toList sep.data.toList).2.2])/\ ∃n,w'=w.drewN n:=Any.strings_Cut Tryz.ay3 s sep m w hs hm
open Go.RowKit Go.Lib in
theorem Tryz.strings_Split (s sep:ByteArray) (m:Int) (w:World) (hs:s.size<4294967281) (hm:w.cell? ⟨1,0,U⟩=I (.int .i64 m)) (h1:1<=sep.size):
  Calls Tryz.prog 170 #[.string s,.string sep] w λe w'=>
   e= .returned (.slice (I ⟨w.heap.size,0,U⟩) (NL s sep+1)<|NL s sep+1)/\w'=w.alloc (.cells ((Ih sep 0 (NL s sep) s).map Yq).toArray 9):=Any.strings_Split Tryz.ay2 (by kernel_rfl) s sep m w hs hm h1
open Go.RowKit Go.Lib in
theorem Tryz.strings_SplitN (s sep:ByteArray) (n:Nat) (m:Int) (w:World) (hs:s.size<4294967281) (hm:w.cell? ⟨1,0,U⟩=I (.int .i64 m)) (h1:1<=sep.size) (hn:1<=n) (acB:n<=9223372036854775807):
  Calls Tryz.prog 203 #[.string s,.string sep,.int .i64 n] w λe w'=>
   e= .returned (.slice (I ⟨w.heap.size,0,U⟩) (Ih sep 0 (min n (s.size+1) - 1) s).length<|min n<|s.size+1)/\w'=w.alloc (.cells (Yn (Ih sep 0 (min n (s.size+1) - 1) s)<|min n<|s.size+1) 9):=Any.strings_SplitN Tryz.ay1 (by kernel_rfl) s sep n m w hs hm h1 hn acB
end Go.Proofs
namespace Go.VS
open Go Go.Proofs
set_option linter.unusedVariables false
set_option maxRecDepth 100000
abbrev t1(v:Adv):Adv:= .two .nil v
def sk{P:Program}{C:Cx}{inl:(Ω:Type)->Inl Ω}{f:Nat}{d:Option Nat}{fn:Func}{m:DU}{v:Adv}{ls:List (Code×Loop)}(hC:OKC P C inl)(hl:LpK P fn.ntmps (Dr 0 m.ps) ls)
  (hf:fnB P f fn m=(I fn,A3,A0,A0):=by kernel_rfl)(hb:fn.body=I (Ke fn):=by kernel_rfl)(h:Fc (Ke fn) v=ls:=by kernel_rfl)(hg:∀x,ZT C inl fn v m x=m.g x:=by intro _;kernel_rfl):SQ P (f,d,m):=
 so hC hf hb h hl hg
def sq{P:Program}{C:Cx}{inl:(Ω:Type)->Inl Ω}(hC:OKC P C inl){n:Nat}{pins:List Nat}{body:Code}{v:Adv}{l:Loop}{b:Lv l.sch->Option (Lv l.sch ⊕ (Lv l.KB ⊕ Lv l.K6))}{ls:List (Code×Loop)}
  (hl:LpK P n pins ls)(hb:∀x,evL C inl n pins body v l x=b x:=by intro _;kernel_rfl)(hr:l.run=AR b:=by rfl)(h:Fc body v=ls:=by kernel_rfl):LpK P n pins [(body,l)]:=lk hC hb hr h hl
def kd:TypeId->Option K
 | 2=>I .int
 | 3=>I .int
 | 4=>I .bool
 | 5=>I .u8
 | 9=>I .str
 | 10=>I .str
 | 11=>I .str
 | 35=>I .keep
 | 41=>I .AQ
 | 43=>I .note
 | 46=>I .BK
 | 64=>I .An
 | 85=>I .half
 | 106=>I .frame
 | 122=>I .mixed
 | 168=>I .mark
 | _=>U
abbrev Y0:Type:=List Int×Int×A2
abbrev Z0:Sh:= .box 73 [.fz .u8,.int .i64]
abbrev Y1:Type:=Int×Bool×A4×Int×List AH×A2
abbrev Z1:Sh:= .agg [.int .i64,.bool,.str,.int .i64,.row 85 .half]
abbrev Y2:Type:=Int×List AA×List Bool×List AS×List A6×List A6×A2
abbrev Z2:Sh:= .box 30 [.int .i64,.row 41 .AQ,.row 4 .bool,.row 64 .An,.row 43 .note,.row 43 .note]
abbrev Z3:Sh:= .agg [.int .i64,.row 41 .AQ,.row 4 .bool,.row 64 .An,.row 43 .note,.row 43 .note]
abbrev Y3:Type:=Int×Int×Int×List A6×List Mark×List A6×A2
abbrev Z4:Sh:= .agg [.int .i64,.int .i64,.int .i64,.row 43 .note,.row 168 .mark,.row 43 .note]
abbrev Y4:Type:=Int×Int×Int×Int×A4×A2
abbrev Z5:Sh:= .box 43 [.int .i64,.int .i64,.int .i64,.int .i64,.str]
abbrev Z6:Sh:= .agg [.int .i64,.int .i64,.int .i64,.int .i64,.str]
abbrev Z7:Sh:= .box 35 [.int .i64,.int .i64,.int .i64,.sl .note,.sl .mark,.sl .note]
abbrev Z8:Sh:= .agg [.int .i64,.int .i64,.int .i64,.fz .note,.fz .mark,.fz .note]
abbrev Z9:Sh:= .box 35 [.int .i64,.int .i64,.int .i64,.row 43 .note,.row 168 .mark,.row 43 .note]
abbrev Y5:Type:=Int×Int×Int×A2
abbrev Z10:Sh:= .box 168 [.int .i64,.int .i64,.int .i64]
abbrev Z11:Sh:= .agg [.int .i64,.int .i64,.int .i64]
abbrev Z12:Sh:= .agg [.int .i64,.bool,.str,.int .i64,.fz .half]
abbrev Y6:Type:=Int×Int×Int×Int×Int×Int×Int×Int×Int×A4×A2
abbrev Z13:Sh:= .agg [.int .i64,.int .i64,.int .i64,.int .i64,.int .i64,.int .i64,.int .i64,.int .i64,.int .i64,.str]
abbrev Z14:Sh:= .box 106 [.int .i64,.int .i64,.int .i64,.int .i64,.int .i64,.int .i64,.int .i64,.int .i64,.int .i64,.str]
abbrev Y7:Type:=A4×Int×A2
abbrev Z15:Sh:= .agg [.str,.int .i64]
abbrev Y8:Type:=Int×A4×A2
abbrev Z16:Sh:= .agg [.int .i64,.str]
abbrev Y9:Type:=Int×Int×Int×Int×Int×List AT×A2
abbrev Z17:Sh:= .box 85 [.int .i64,.int .i64,.int .i64,.int .i64,.int .i64,.sl .mixed]
abbrev Z18:Sh:= .agg [.int .i64,.int .i64,.int .i64,.int .i64,.int .i64,.fz .mixed]
abbrev Z19:Sh:= .box 41 [.int .i64,.bool,.str,.int .i64,.sl .half]
abbrev Z20:Sh:= .box 41 [.int .i64,.bool,.str,.int .i64,.row 85 .half]
abbrev Z21:Sh:= .box 38 [.str,.int .i64]
abbrev Y10:Type:=Y0×Int×List AA×List Bool×List AS×List A6×List A6×List Event×A2
abbrev Z22:Sh:= .box 57 [Z0,.int .i64,.row 41 .AQ,.row 4 .bool,.row 64 .An,.row 43 .note,.row 43 .note,.row 46 .BK]
abbrev Z23:Sh:= .box 73 [.sl .u8,.int .i64]
abbrev Z24:Sh:= .box 57 [Z23,.int .i64,.row 41 .AQ,.row 4 .bool,.row 64 .An,.row 43 .note,.row 43 .note,.row 46 .BK]
abbrev Z25:Sh:= .box 46 [.int .i64,.int .i64,.int .i64,.int .i64,.int .i64,.int .i64,.int .i64,.int .i64,.int .i64,.str]
abbrev Y11:Type:=A2×Int×List AA×List Bool×List AS×List A6×List A6×List Event×A2
abbrev Z28:Sh:= .box 57 [.same 0,.int .i64,.row 41 .AQ,.row 4 .bool,.row 64 .An,.row 43 .note,.row 43 .note,.row 46 .BK]
abbrev Z29:Sh:= .box 30 [.int .i64,.sl .AQ,.sl .bool,.sl .An,.sl .note,.sl .note]
abbrev Z30:Sh:= .agg [.int .i64,.fz .AQ,.fz .bool,.fz .An,.fz .note,.fz .note]
abbrev Z31:Sh:= .box 35 [.int .i64,.int .i64,.int .i64,.row 43 .note,.row 168 .mark,.sl .note]
abbrev Z32:Sh:= .box 122 [.int .i64,.str]
abbrev Y12:Type:=Int×Int×A4×Bool×A2
abbrev Z33:Sh:= .box 64 [.int .i64,.int .i64,.str,.bool]
abbrev Z34:Sh:= .box 41 [.int .i64,.bool,.str,.int .i64,.fz .half]
abbrev Rnd(a b c:Type):=Option<|a ⊕ (b ⊕ c)
noncomputable abbrev cX(l:List Ent)(cz sp:List (Nat×Nat)):Cx:=⟨Tryz.prog,kd,gam l,inR cz,inR sp⟩
abbrev LF(fn:Func)(pins path:List Nat)(l:Loop):=LpK Tryz.prog fn.ntmps pins [(PD path<|Ke fn,l)]
def mixed:Tryz.prog.follows .mixedOrders=A0:=by kernel_rfl
def Is:(Int×A2)->Option ((A4×A2)×(A2)):=To
def Rp:Ent:=(119,U,⟨[.int .i64],[.str],Is⟩)
def US:SQ Tryz.prog Rp:=⟨ar4 (OM Tryz.func119 (by kernel_rfl) (by kernel_rfl:Tryz.f119.body=I (Ke Tryz.f119))) (by kernel_rfl) Tryz.strconv_Itoa,by kernel_rfl⟩
def Vr:(A4×A4×A2)->Option ((A4×A4×Bool×A2)×(A2)):=PI
def zP:Ent:=(165,U,⟨[.str,.str],[.str,.str,.bool],Vr⟩)
def agW:SQ Tryz.prog zP:=⟨asX (gm:=1) (OM Tryz.func165 (by kernel_rfl) (by kernel_rfl:Tryz.f165.body=I (Ke Tryz.f165))) (BX<|by kernel_rfl) (λw h=>Tryz.nH.s1_3 w h) Tryz.strings_Cut,by kernel_rfl⟩
def dQ:(A4×A4×A2)->Option ((List A4×A2)×(A2)):=TA
def wA:Ent:=(170,U,⟨[.str,.str],[.row 9 .str],dQ⟩)
def aer:SQ Tryz.prog wA:=⟨apX (gm:=1) (OM Tryz.func170 (by kernel_rfl) (by kernel_rfl:Tryz.f170.body=I (Ke Tryz.f170))) (BX<|by kernel_rfl) (λw h=>Tryz.nH.s1_3 w h) Tryz.strings_Split,by kernel_rfl⟩
def rU:(A4×A4×Int×A2)->Option ((List A4×A2)×(A2)):=Sr
def vE:Ent:=(203,U,⟨[.str,.str,.int .i64],[.row 9 .str],rU⟩)
def ae5:SQ Tryz.prog vE:=⟨apM (gm:=1) (OM Tryz.func203 (by kernel_rfl) (by kernel_rfl:Tryz.f203.body=I (Ke Tryz.f203))) (BX<|by kernel_rfl) (λw h=>Tryz.nH.s1_3 w h) Tryz.strings_SplitN,by kernel_rfl⟩
def amG:Cx:=cX [] [] []
def aox:OKC Tryz.prog amG AF:=okc mixed<|AJ
def eh(x:List Int×A2):Option ((Y0×A2)×A2):=if A1 (2000<(x.1.length:Int)) then if A1 (0<=2000)&&A1 (2000<=(x.1.length:Int)) then let a:=(BH (AL 2000) x.1);I (((a,0,()),()),()) else U else I (((x.1,0,()),()),())
def zQ:Ent:=(20,U,⟨[.fz .u8],[Z0],eh⟩)
def agX:SQ Tryz.prog zQ:=sk (v:= .nil) (fn:=Tryz.f20) aox kN
def ahW:Cx:=cX [] [] [(18,23)]
def ajL:OKC Tryz.prog ahW AF:=okc mixed<|AJ
def CU(x:Y0×Int×A2):Option ((Int×A2)×(Y0×A2)):=if(A1<|x.2.1<1)||(A1<|(x.1.1.length:Int)=0) then I ((0,()),((x.1.1,(w64<|x.1.2.1+1),()),())) else let a:=(w64<|(w64<|x.1.2.1+1) - 1);(if A1 (a<(x.1.1.length:Int)) then if inb a x.1.1.length then if !decide (x.2.1=0) then let c:=(BG (w64<|rd (dfl .u8) x.1.1 a) x.2.1);I ((c,()),((x.1.1,(w64<|x.1.2.1+1),()),())) else U else U else if !decide ((x.1.1.length:Int)=0) then if inb (BG a (x.1.1.length:Int)) x.1.1.length then if !decide ((x.1.1.length:Int)=0) then if inb (BG (w64<|(w64<|a * 7)+3) (x.1.1.length:Int)) x.1.1.length then if !decide ((x.1.1.length:Int)=0) then let b:=(w64<|(w64<|(w64<|(w64<|(w64<|rd (dfl .u8) x.1.1<|BG a (x.1.1.length:Int)) * 131)+(w64<|(w64<|rd (dfl .u8) x.1.1<|BG (w64<|(w64<|a * 7)+3) (x.1.1.length:Int)) * 1117))+(w64<|a * 29))+(w64<|(w64<|Ax a (x.1.1.length:Int)) * 53));let d:=(Dn .i64 b<|w64<|Ax b 64);(if !decide (x.2.1=0) then I (((BG d x.2.1),()),((x.1.1,(w64<|x.1.2.1+1),()),())) else U) else U else U else U else U else U)
def LN:Ent:=(21,U,⟨[Z0,.int .i64],[.int .i64],CU⟩)
def MQ:SQ Tryz.prog LN:=sk (v:= .nil) (fn:=Tryz.f21) ajL kN
def apZ:Cx:=cX [] [] [(11,13)]
def aqU:OKC Tryz.prog apZ AF:=okc mixed<|AJ
def D5(x:Int×Int×Int×A2):Option ((Bool×A2)×A2):=let a:=((A1<|x.2.1<=x.1)&&(A1<|x.1<=x.2.2.1));I ((a,()),())
def Gi:Ent:=(64,U,⟨[.int .i64,.int .i64,.int .i64],[.bool],D5⟩)
def HA:SQ Tryz.prog Gi:=sk (v:= .nil) (fn:=Tryz.f64) aqU kN
def ajV:Cx:=cX [Gi] [] []
def ald:OKC Tryz.prog ajV AF:=okc mixed<|gC HA<|AJ
def FI(x:Int×A2):Option ((Bool×A2)×A2):=(D5 (x.1,0,3,())).bind λa=>I (a.1,())
def IH:Ent:=(63,U,⟨[.int .i64],[.bool],FI⟩)
def Ii:SQ Tryz.prog IH:=sk (v:= .nil) (fn:=Tryz.f63) ald kN
def afQ:Cx:=cX [IH] [] []
def agt:OKC Tryz.prog afQ AF:=okc mixed<|gC Ii<|AJ
def UX(x:Int×A2):Option ((Y1×A2)×A2):=(FI x).bind λa=>if !a.1.1 then I (((0,A3,noB,0,([]:List AH),()),()),()) else I (((x.1,A0,noB,0,([]:List AH),()),()),())
def sO:Ent:=(38,U,⟨[.int .i64],[Z1],UX⟩)
def adw:SQ Tryz.prog sO:=sk (v:= .nil) (fn:=Tryz.f38) agt kN
def agb:Cx:=cX [sO] [] []
def rC:OKC Tryz.prog agb AF:=okc mixed<|gC adw<|AJ
def UU(x:Y2×Y2×Int×A2):Rnd (Y2×Y2×Int×A2) (A2) (Y2×Y2×A2):=if A1 ((w64<|x.2.2.1+1)<4) then if Ac (x.2.1.2.2.1.length+([A0]:List Bool).length) then I (.inl (x.1,(x.2.1.1,x.2.1.2.1,(x.2.1.2.2.1++([A0]:List Bool)),x.2.1.2.2.2),(w64<|x.2.2.1+1),())) else U else I (.inr<|.inr (x.1,x.2.1,()))
def oh:=AR UU
def adC:Loop:=⟨[(0,Z2),(1,Z2),(3,.int .i64)],[(0,Z2),(1,Z2)],2,[],oh⟩
def afk:LF Tryz.f23 [] [1,1,1,0,1,0,0] adC:=sq (v:= .nil) rC (b:=UU) kN
def bZ(x:Y2×Y2×Int×A2):Rnd (Y2×Y2×Int×A2) (A2) (Y2×Y2×A2):=if A1 (x.2.2.1<4) then(UX x.2.2).bind λa=>if Ac (x.2.1.2.1.length+([(AA.mk a.1.1.1 a.1.1.2.1 a.1.1.2.2.1 a.1.1.2.2.2.1 a.1.1.2.2.2.2.1)]:List AA).length) then I (.inl (x.1,(x.2.1.1,(x.2.1.2.1++([(AA.mk a.1.1.1 a.1.1.2.1 a.1.1.2.2.1 a.1.1.2.2.2.1 a.1.1.2.2.2.2.1)]:List AA)),x.2.1.2.2),(w64<|x.2.2.1+1),())) else U else I (.inr<|.inr (x.1,x.2.1,()))
def oo:=AR bZ
def adD:Loop:=⟨[(0,Z2),(1,Z2),(2,.int .i64)],[(0,Z2),(1,Z2)],0,[],oo⟩
def afo:LF Tryz.f23 [] [1,1,0,1,0,0] adD:=sq (v:= .nil) rC (b:=bZ) kN
def RW(x:A2):Option ((Y2×A2)×A2):=(AM (oo ((0,([]:List AA),([]:List Bool),([]:List AS),([]:List A6),([]:List A6),()),(0,([]:List AA),([]:List Bool),([]:List AS),([]:List A6),([]:List A6),()),0,())) (λ_=>U) λa=>(AM (oh (a.1,a.2.1,0,())) (λ_=>U) λb=>I (b.2,())))
def qw:Ent:=(23,U,⟨[],[Z3],RW⟩)
def aca:SQ Tryz.prog qw:=sk (v:=t1<|t1<|.two (t1<|.one<|.loop adD)<|.two (t1<|.one<|.loop adC) .nil) (fn:=Tryz.f23) rC<|kC afo<|kC afk kN
def akT:Cx:=cX [LN] [] []
def amv:OKC Tryz.prog akT AF:=okc mixed<|gC MQ<|AJ
def dh(x:Y0×List A4×A2):Option ((A4×A2)×(Y0×A2)):=(CU (x.1,(x.2.1.length:Int),())).bind λa=>if inb a.1.1 x.2.1.length then let b:=(rd (dfl .str) x.2.1 a.1.1);I ((b,()),a.2) else U
def yN:Ent:=(57,U,⟨[Z0,.fz .str],[.str],dh⟩)
def afX:SQ Tryz.prog yN:=sk (v:= .nil) (fn:=Tryz.f57) amv kN
def GJ(abU:(Int×A2)->Option ((A4×A2)×(A2)))(x:Int×A2):Option ((A4×A2)×A2):=
 if A1 (x.1<(-9223372036854775807)) then
 let v2:=(B [45,57,50,50,51,51,55,50,48,51,54,56,53,52,55,55,53,56,48,56])
 I ((v2,()),())
 else
 if A1 (x.1<0) then
 (abU ((w64<|0 - x.1),())).bind λr4=>
 if A1 ((B [45]).size+r4.1.1.size<=4611686018427387904) then
 I ((((B [45])++r4.1.1),()),())
 else U
 else
 if A1 (x.1<10) then
 let v6:=(BF ([(w8<|w64<|48+x.1)]:List Int))
 I ((v6,()),())
 else
 (abU ((w64<|Ax x.1 10),())).bind λr7=>
 if A1 (r7.1.1.size+(BF ([(w8<|w64<|48+(BG x.1 10))]:List Int)).size<=4611686018427387904) then
 let v8:=(r7.1.1++(BF ([(w8<|w64<|48+(BG x.1 10))]:List Int)))
 I ((v8,()),())
 else U
def DQ:=NS GJ
def anh(g:(Int×A2)->Option ((A4×A2)×(A2))):Cx:=cX [(141,U,⟨[.int .i64],[.str],g⟩)] [] []
def apf(g:(Int×A2)->Option ((A4×A2)×(A2)))(h:SQ Tryz.prog (141,U,⟨[.int .i64],[.str],g⟩)):OKC Tryz.prog (anh g) AF:=okc mixed<|gC h<|AJ
def OC:Ent:=(141,U,⟨[.int .i64],[.str],DQ⟩)
def PY:SQ Tryz.prog OC:=soR (OM (by kernel_rfl:Tryz.prog.funcs[141]? =I Tryz.f141) (by kernel_rfl) (by kernel_rfl:Tryz.f141.body=I (Ke Tryz.f141))) (λ_=>by kernel_rfl) λg h=>so (v:= .nil) (fn:=Tryz.f141) (apf g h) (by kernel_rfl) (by kernel_rfl) (by kernel_rfl) kN λ_=>by kernel_rfl
def aoi:Cx:=cX [OC] [] [(9,11),(24,27)]
def aAN:OKC Tryz.prog aoi AF:=okc mixed<|gC PY<|AJ
def er(x:A4×Int×Int×A2):Rnd (A4×Int×Int×A2) (Int×A2) (A4×Int×A2):=if A1 (x.2.2.1<(x.1.size:Int)) then if inb x.2.2.1 x.1.size then if Ak (!(A1<|(bt x.1 x.2.2.1)<48)) (inb x.2.2.1 x.1.size) then if(A1<|(bt x.1 x.2.2.1)<48)||(A1<|57<(bt x.1 x.2.2.1)) then I (.inr<|.inl ((-1),())) else if inb x.2.2.1 x.1.size then let a:=(w64<|(w64<|x.2.1 * 10)+(w64<|w8<|(bt x.1 x.2.2.1) - 48));I (.inl (x.1,a,(w64<|x.2.2.1+1),())) else U else U else U else I (.inr<|.inr (x.1,x.2.1,()))
def rW:=AR er
def xG:Loop:=⟨[(0,.str),(3,.int .i64),(4,.int .i64)],[(0,.str),(3,.int .i64)],0,[(2,.int .i64)],rW⟩
def anv:LF Tryz.f173 [] [1,1,1,0,1,0,0] xG:=sq (v:= .nil) aAN (b:=er) kN
def Pv(x:A4×A2):Option ((Int×A2)×A2):=if(A1<|(x.1.size:Int)<1)||(A1<|4<(x.1.size:Int)) then I (((-1),()),()) else(AM (rW (x.1,0,0,())) (λa=>I (a,())) λa=>(DQ a.2).bind λb=>if !decide (b.1.1=a.1) then I (((-1),()),()) else I (a.2,()))
def fT:Ent:=(173,U,⟨[.str],[.int .i64],Pv⟩)
def rV:SQ Tryz.prog fT:=sk (v:=t1<|t1<|t1<|.two (t1<|.one<|.loop xG) .nil) (fn:=Tryz.f173) aAN<|kC anv kN
def anD:Cx:=cX [fT] [] [(11,12)]
def z8:OKC Tryz.prog anD AF:=okc mixed<|gC rV<|AJ
def O0(x:A4×Int×A2):Rnd (A4×Int×A2) (A4×Int×A2) (A2):=if(A1<|x.2.1<(x.1.size:Int))&&(A1<|x.2.1<3) then if inb x.2.1 x.1.size then if !decide ((bt x.1 x.2.1)=58) then I (.inl (x.1,(w64<|x.2.1+1),())) else if A1 (0<=x.2.1)&&A1 (x.2.1<=(x.1.size:Int)) then(Pv ((x.1.extract (0)<|AL x.2.1),())).bind λa=>if A1 (a.1.1<1) then I (.inr<|.inl (noB,0,())) else if A1 (60<a.1.1) then I (.inr<|.inl (noB,0,())) else if A1 ((x.1.size:Int)<(w64<|(w64<|x.2.1+2)+a.1.1)) then I (.inr<|.inl (noB,0,())) else if inb (w64<|(w64<|x.2.1+1)+a.1.1) x.1.size then if !decide ((bt x.1<|w64<|(w64<|x.2.1+1)+a.1.1)=59) then I (.inr<|.inl (noB,0,())) else if(A1 (0<=(w64<|(w64<|x.2.1+1)+a.1.1))&&A1 ((w64<|(w64<|x.2.1+1)+a.1.1)<=(x.1.size:Int)))&&(A1 (0<=(w64<|x.2.1+1))&&A1 ((w64<|x.2.1+1)<=(w64<|(w64<|x.2.1+1)+a.1.1))) then let b:=(x.1.extract (AL<|w64<|x.2.1+1)<|AL<|w64<|(w64<|x.2.1+1)+a.1.1);let c:=(w64<|(w64<|x.2.1+2)+a.1.1);I (.inr<|.inl (b,c,())) else U else U else U else U else I (.inr<|.inr ())
def qZ:=AR O0
def wq:Loop:=⟨[(0,.str),(4,.int .i64)],[],0,[(2,.str),(3,.int .i64)],qZ⟩
def am2:LF Tryz.f129 [] [1,0,1,0,0] wq:=sq (v:= .nil) z8 (b:=O0) kN
def fC(x:A4×A2):Option ((A4×Int×A2)×A2):=(AM (qZ (x.1,0,())) (λa=>I (a,())) λa=>I ((noB,0,()),()))
def zc:Ent:=(129,U,⟨[.str],[.str,.int .i64],fC⟩)
def agL:SQ Tryz.prog zc:=sk (v:=t1<|.two (t1<|.one<|.loop wq) .nil) (fn:=Tryz.f129) z8<|kC am2 kN
def ahZ:Cx:=cX [zc] [] []
def vT:OKC Tryz.prog ahZ AF:=okc mixed<|gC agL<|AJ
def RU(x:A4×List A4×Int×A2):Rnd (A4×List A4×Int×A2) (List A4×Int×A2) (List A4×Int×A2):=if A1 (x.2.2.1<(x.1.size:Int)) then if A1 (0<=x.2.2.1)&&A1 (x.2.2.1<=(x.1.size:Int)) then(fC ((x.1.extract (AL x.2.2.1)<|x.1.size),())).bind λa=>if A1 (a.1.2.1=0) then I (.inr<|.inl x.2) else if Ac (x.2.1.length+([a.1.1]:List A4).length) then let b:=(w64<|x.2.2.1+a.1.2.1);I (.inl (x.1,(x.2.1++([a.1.1]:List A4)),b,())) else U else U else I (.inr<|.inr x.2)
def oz:=AR RU
def sv:Loop:=⟨[(0,.str),(4,.row 9 .str),(5,.int .i64)],[(4,.row 9 .str),(5,.int .i64)],0,[(2,.row 9 .str),(3,.int .i64)],oz⟩
def agw:LF Tryz.f93 [] [1,1,1,0,0,0] sv:=sq (v:= .nil) vT (b:=RU) kN
def LJ(x:A4×A2):Option ((List A4×Int×A2)×A2):=(AM (oz (x.1,([]:List A4),0,())) (λa=>I (a,())) λa=>I (a,()))
def V7:Ent:=(93,U,⟨[.str],[.row 9 .str,.int .i64],LJ⟩)
def aN:SQ Tryz.prog V7:=sk (v:=t1<|t1<|t1<|.two (.one<|.loop sv) .nil) (fn:=Tryz.f93) vT<|kC agw kN
def ahQ:Cx:=cX [IH] [] []
def aiy:OKC Tryz.prog ahQ AF:=okc mixed<|gC Ii<|AJ
def cT(x:Int×A2):Option ((Y3×A2)×A2):=(FI x).bind λa=>if !a.1.1 then I (((0,0,0,([]:List A6),([]:List Mark),([]:List A6),()),()),()) else I (((x.1,0,1,([]:List A6),([]:List Mark),([]:List A6),()),()),())
def vJ:Ent:=(130,U,⟨[.int .i64],[Z4],cT⟩)
def adx:SQ Tryz.prog vJ:=sk (v:= .nil) (fn:=Tryz.f130) aiy kN
def ak5:Cx:=cX [] [] [(22,28)]
def yD:OKC Tryz.prog ak5 AF:=okc mixed<|AJ
def db(x:List Mark×Int×Int×Int×A2):Rnd (List Mark×Int×Int×Int×A2) (Int×A2) (A2):=if A1 (x.2.2.2.1<(x.1.length:Int)) then if inb x.2.2.2.1 x.1.length then if Ak (A1<|(rd (dfl .mark) x.1 x.2.2.2.1).mf=x.2.1) (inb x.2.2.2.1 x.1.length) then if(A1<|(rd (dfl .mark) x.1 x.2.2.2.1).mf=x.2.1)&&(A1<|(rd (dfl .mark) x.1 x.2.2.2.1).mn=x.2.2.1) then I (.inr<|.inl x.2.2.2) else I (.inl (x.1,x.2.1,x.2.2.1,(w64<|x.2.2.2.1+1),())) else U else U else I (.inr<|.inr ())
def qG:=AR db
def ui:Loop:=⟨[(0,.sl .mark),(1,.int .i64),(2,.int .i64),(7,.int .i64)],[],0,[(6,.int .i64)],qG⟩
def akr:LF Tryz.f181 [] [1,0,1,0,0] ui:=sq (v:= .nil) yD (b:=db) kN
def KN(x:List Mark×Int×Int×A2):Option ((Int×A2)×A2):=(AM (qG (x.1,x.2.1,x.2.2.1,0,())) (λa=>I (a,())) λa=>I (((-1),()),()))
def Vj:Ent:=(181,U,⟨[.fz .mark,.int .i64,.int .i64],[.int .i64],KN⟩)
def bX:SQ Tryz.prog Vj:=sk (v:=t1<|.two (t1<|.one<|.loop ui) .nil) (fn:=Tryz.f181) yD<|kC akr kN
def anE:Cx:=cX [IH,Gi] [] [(51,55)]
def zA:OKC Tryz.prog anE AF:=okc mixed<|gC Ii<|gC HA<|AJ
def dw(x:Y4×Int×A2):Rnd (Y4×Int×A2) (Bool×A2) (A2):=if A1 (x.2.1<(x.1.2.2.2.2.1.size:Int)) then if inb x.2.1 x.1.2.2.2.2.1.size then if Ak (!(A1<|(bt x.1.2.2.2.2.1 x.2.1)<32)) (inb x.2.1 x.1.2.2.2.2.1.size) then if(A1<|(bt x.1.2.2.2.2.1 x.2.1)<32)||(A1<|126<(bt x.1.2.2.2.2.1 x.2.1)) then I (.inr<|.inl (A3,())) else I (.inl (x.1,(w64<|x.2.1+1),())) else U else U else I (.inr<|.inr ())
def qb:=AR dw
def ww:Loop:=⟨[(1,Z5),(3,.int .i64)],[],0,[(2,.bool)],qb⟩
def am3:LF Tryz.f66 [] [1,1,0,1,0,0] ww:=sq (v:= .nil) zA (b:=dw) kN
def O7(x:Y4×A2):Option ((Bool×A2)×A2):=(FI (x.1.1,())).bind λb=>if !b.1.1 then I ((A3,()),()) else(FI (x.1.2.2.1,())).bind λc=>if !c.1.1 then I ((A3,()),()) else(D5 (x.1.2.1,1,99,())).bind λd=>if !d.1.1 then I ((A3,()),()) else(D5 (x.1.2.2.2.1,1,999,())).bind λe=>if !e.1.1 then I ((A3,()),()) else if A1 ((x.1.2.2.2.2.1.size:Int)<1) then I ((A3,()),()) else if A1 (24<(x.1.2.2.2.2.1.size:Int)) then I ((A3,()),()) else(AM (qb (x.1,0,())) (λa=>I (a,())) λa=>I ((A0,()),()))
def W0:Ent:=(66,U,⟨[Z6],[.bool],O7⟩)
def bq:SQ Tryz.prog W0:=sk (v:=t1<|t1<|.two (t1<|.one<|.loop ww) .nil) (fn:=Tryz.f66) zA<|kC am3 kN
def ak6:Cx:=cX [] [] [(13,20)]
def an0:OKC Tryz.prog ak6 AF:=okc mixed<|AJ
def MT(x:Int×Int×Int×Int×A2):Option ((Bool×A2)×A2):=let a:=((A1<|x.1<x.2.2.1)||((A1<|x.1=x.2.2.1)&&(A1<|x.2.1<x.2.2.2.1)));I ((a,()),())
def Vk:Ent:=(233,U,⟨[.int .i64,.int .i64,.int .i64,.int .i64],[.bool],MT⟩)
def bY:SQ Tryz.prog Vk:=sk (v:= .nil) (fn:=Tryz.f233) an0 kN
def ajb:Cx:=cX [W0,Vk] [] [(23,50)]
def xV:OKC Tryz.prog ajb AF:=okc mixed<|gC bq<|gC bY<|AJ
def cM(x:List A6×Int×A2):Rnd (List A6×Int×A2) (Bool×A2) (A2):=if A1 (x.2.1<(x.1.length:Int)) then if inb x.2.1 x.1.length then(O7 (((rd (dfl .note) x.1 x.2.1).fr,(rd (dfl .note) x.1 x.2.1).nu,(rd (dfl .note) x.1 x.2.1).to,(rd (dfl .note) x.1 x.2.1).un,(rd (dfl .note) x.1 x.2.1).tx,()),())).bind λa=>if Ak ((!(!a.1.1))&&(A1<|0<x.2.1)) (inb (w64<|x.2.1 - 1) x.1.length) then if Ak ((!(!a.1.1))&&(A1<|0<x.2.1)) (inb (w64<|x.2.1 - 1) x.1.length) then if Ak ((!(!a.1.1))&&(A1<|0<x.2.1)) (inb x.2.1 x.1.length) then if Ak ((!(!a.1.1))&&(A1<|0<x.2.1)) (inb x.2.1 x.1.length) then if Ak ((!(!a.1.1))&&(A1<|0<x.2.1)) ((MT ((rd (dfl .note) x.1<|w64<|x.2.1 - 1).fr,(rd (dfl .note) x.1<|w64<|x.2.1 - 1).nu,(rd (dfl .note) x.1 x.2.1).fr,(rd (dfl .note) x.1 x.2.1).nu,())).isSome) then if(!a.1.1)||((A1<|0<x.2.1)&&(!(((MT ((rd (dfl .note) x.1<|w64<|x.2.1 - 1).fr,(rd (dfl .note) x.1<|w64<|x.2.1 - 1).nu,(rd (dfl .note) x.1 x.2.1).fr,(rd (dfl .note) x.1 x.2.1).nu,())).getD ((A3,()),())).1.1))) then I (.inr<|.inl (A3,())) else I (.inl (x.1,(w64<|x.2.1+1),())) else U else U else U else U else U else U else I (.inr<|.inr ())
def pO:=AR cM
def tO:Loop:=⟨[(0,.sl .note),(5,.int .i64)],[],0,[(4,.bool)],pO⟩
def aif:LF Tryz.f209 [] [1,1,0,1,0,0] tO:=sq (v:= .nil) xV (b:=cM) kN
def VH(x:List A6×Int×A2):Option ((Bool×A2)×A2):=if A1 (x.2.1<(x.1.length:Int)) then I ((A3,()),()) else(AM (pO (x.1,0,())) (λa=>I (a,())) λa=>I ((A0,()),()))
def wD:Ent:=(209,U,⟨[.fz .note,.int .i64],[.bool],VH⟩)
def aeu:SQ Tryz.prog wD:=sk (v:=t1<|t1<|.two (t1<|.one<|.loop tO) .nil) (fn:=Tryz.f209) xV<|kC aif kN
def ajc:Cx:=cX [IH,Gi,Vk] [] []
def xW:OKC Tryz.prog ajc AF:=okc mixed<|gC Ii<|gC HA<|gC bY<|AJ
def cN(x:List Mark×Int×A2):Rnd (List Mark×Int×A2) (Bool×A2) (A2):=if A1 (x.2.1<(x.1.length:Int)) then if inb x.2.1 x.1.length then let a:=(rd (dfl .mark) x.1 x.2.1).mf;let b:=(rd (dfl .mark) x.1 x.2.1).mn;let c:=(rd (dfl .mark) x.1 x.2.1).mu;(FI (a,())).bind λd=>if !d.1.1 then I (.inr<|.inl (A3,())) else(D5 (b,1,99,())).bind λe=>if !e.1.1 then I (.inr<|.inl (A3,())) else(D5 (c,1,999,())).bind λf=>if !f.1.1 then I (.inr<|.inl (A3,())) else if A1 (0<x.2.1) then if inb (w64<|x.2.1 - 1) x.1.length then if inb (w64<|x.2.1 - 1) x.1.length then(MT ((rd (dfl .mark) x.1<|w64<|x.2.1 - 1).mf,(rd (dfl .mark) x.1<|w64<|x.2.1 - 1).mn,a,b,())).bind λg=>if !g.1.1 then I (.inr<|.inl (A3,())) else I (.inl (x.1,(w64<|x.2.1+1),())) else U else U else I (.inl (x.1,(w64<|x.2.1+1),())) else U else I (.inr<|.inr ())
def pP:=AR cN
def tP:Loop:=⟨[(0,.sl .mark),(3,.int .i64)],[],0,[(2,.bool)],pP⟩
def aih:LF Tryz.f210 [] [1,1,0,1,0,0] tP:=sq (v:= .nil) xW (b:=cN) kN
def dZ(x:List Mark×A2):Option ((Bool×A2)×A2):=if A1 (12<(x.1.length:Int)) then I ((A3,()),()) else(AM (pP (x.1,0,())) (λa=>I (a,())) λa=>I ((A0,()),()))
def wE:Ent:=(210,U,⟨[.fz .mark],[.bool],dZ⟩)
def aev:SQ Tryz.prog wE:=sk (v:=t1<|t1<|.two (t1<|.one<|.loop tP) .nil) (fn:=Tryz.f210) xW<|kC aih kN
def an8:Cx:=cX [] [] [(16,25)]
def ap1:OKC Tryz.prog an8 AF:=okc mixed<|AJ
def ez(x:Y4×Int×A2):Option ((Bool×A2)×A2):=if A1 (x.1.1<=x.2.1) then let a:=((A1<|x.2.1<x.1.2.2.1)||((A1<|x.1.2.2.1<x.2.1)&&(A1<|x.2.1<=x.1.1)));I ((a,()),()) else let b:=((A1<|x.1.2.2.1<x.2.1)&&(A1<|x.2.1<=x.1.1));I ((b,()),())
def zX:Ent:=(211,U,⟨[Z6,.int .i64],[.bool],ez⟩)
def agH:SQ Tryz.prog zX:=sk (v:= .nil) (fn:=Tryz.f211) ap1 kN
def anG:Cx:=cX [IH,Gi,Vj,wD,wE,zX] [] [(109,120)]
def fR:OKC Tryz.prog anG AF:=okc mixed<|gC Ii<|gC HA<|gC bX<|gC aeu<|gC aev<|gC agH<|AJ
def dk(x:Y3×Int×A2):Rnd (Y3×Int×A2) (Bool×A2) (A2):=if A1 (x.2.1<(x.1.2.2.2.2.2.1.length:Int)) then if inb x.2.1 x.1.2.2.2.2.2.1.length then let a:=(rd (dfl .note) x.1.2.2.2.2.2.1 x.2.1).fr;let b:=(rd (dfl .note) x.1.2.2.2.2.2.1 x.2.1).nu;let azM:=(rd (dfl .note) x.1.2.2.2.2.2.1 x.2.1).to;let c:=(rd (dfl .note) x.1.2.2.2.2.2.1 x.2.1).un;let azx:=(rd (dfl .note) x.1.2.2.2.2.2.1 x.2.1).tx;(if !decide (azM=x.1.1) then I (.inr<|.inl (A3,())) else if A1 (a=x.1.1) then if A1 (x.1.2.2.1<=b) then I (.inr<|.inl (A3,())) else if A1 (x.1.2.1<c) then(KN (x.1.2.2.2.2.1,a,b,())).bind λayn=>if A1 (ayn.1.1<0) then I (.inr<|.inl (A3,())) else I (.inl (x.1,(w64<|x.2.1+1),())) else I (.inl (x.1,(w64<|x.2.1+1),())) else if A1 (x.1.2.1<c) then(KN (x.1.2.2.2.2.1,a,b,())).bind λaym=>if A1 (aym.1.1<0) then I (.inr<|.inl (A3,())) else I (.inl (x.1,(w64<|x.2.1+1),())) else I (.inl (x.1,(w64<|x.2.1+1),()))) else U else I (.inr<|.inr ())
def qT:=AR dk
def x8:Loop:=⟨[(1,Z7),(7,.int .i64)],[],4,[(2,.bool)],qT⟩
def alr:LF Tryz.f174 [] [1,1,1,1,0,1,0,0] x8:=sq (v:= .nil) fR (b:=dk) kN
def dm(x:Y3×Int×A2):Rnd (Y3×Int×A2) (Bool×A2) (Y3×A2):=if A1 (x.2.1<(x.1.2.2.2.2.1.length:Int)) then if inb x.2.1 x.1.2.2.2.2.1.length then let a:=(rd (dfl .mark) x.1.2.2.2.2.1 x.2.1).mf;let b:=(rd (dfl .mark) x.1.2.2.2.2.1 x.2.1).mn;let c:=(rd (dfl .mark) x.1.2.2.2.2.1 x.2.1).mu;if(A1<|c<=x.1.2.1)||((A1<|a=x.1.1)&&(A1<|x.1.2.2.1<=b)) then I (.inr<|.inl (A3,())) else I (.inl (x.1,(w64<|x.2.1+1),())) else U else I (.inr<|.inr (x.1,()))
def qU:=AR dm
def x9:Loop:=⟨[(1,Z7),(5,.int .i64)],[(1,Z7)],2,[(2,.bool)],qU⟩
def alv:LF Tryz.f174 [] [1,1,1,0,1,0,0] x9:=sq (v:= .nil) fR (b:=dm) kN
def dn(x:Y3×Int×A2):Rnd (Y3×Int×A2) (Bool×A2) (Y3×A2):=if A1 (x.2.1<(x.1.2.2.2.1.length:Int)) then if inb x.2.1 x.1.2.2.2.1.length then let a:=(rd (dfl .note) x.1.2.2.2.1 x.2.1).fr;let b:=(rd (dfl .note) x.1.2.2.2.1 x.2.1).nu;let d:=(rd (dfl .note) x.1.2.2.2.1 x.2.1).to;let c:=(rd (dfl .note) x.1.2.2.2.1 x.2.1).un;let e:=(rd (dfl .note) x.1.2.2.2.1 x.2.1).tx;if A1 (c<=x.1.2.1) then I (.inr<|.inl (A3,())) else(ez ((a,b,d,c,e,()),x.1.1,())).bind λf=>if !f.1.1 then I (.inr<|.inl (A3,())) else if A1 (a=x.1.1) then if A1 (x.1.2.2.1<=b) then I (.inr<|.inl (A3,())) else(KN (x.1.2.2.2.2.1,a,b,())).bind λg=>if A1 (0<=g.1.1) then I (.inr<|.inl (A3,())) else I (.inl (x.1,(w64<|x.2.1+1),())) else(KN (x.1.2.2.2.2.1,a,b,())).bind λh=>if A1 (0<=h.1.1) then I (.inr<|.inl (A3,())) else I (.inl (x.1,(w64<|x.2.1+1),())) else U else I (.inr<|.inr (x.1,()))
def qV:=AR dn
def xB:Loop:=⟨[(1,Z7),(3,.int .i64)],[(1,Z7)],0,[(2,.bool)],qV⟩
def amP:LF Tryz.f174 [] [1,1,0,1,0,0] xB:=sq (v:= .nil) fR (b:=dn) kN
def Pp(x:Y3×A2):Option ((Bool×A2)×A2):=(FI (x.1.1,())).bind λc=>if !c.1.1 then I ((A3,()),()) else(D5 (x.1.2.1,0,999,())).bind λd=>if !d.1.1 then I ((A3,()),()) else(D5 (x.1.2.2.1,1,100,())).bind λe=>if !e.1.1 then I ((A3,()),()) else(VH (x.1.2.2.2.1,6,())).bind λf=>if !f.1.1 then I ((A3,()),()) else(dZ (x.1.2.2.2.2.1,())).bind λg=>if !g.1.1 then I ((A3,()),()) else(VH (x.1.2.2.2.2.2.1,6,())).bind λh=>if !h.1.1 then I ((A3,()),()) else(AM (qV (x.1,0,())) (λa=>I (a,())) λa=>(AM (qU (a.1,0,())) (λb=>I (b,())) λb=>(AM (qT (b.1,0,())) (λabv=>I (abv,())) λabv=>I ((A0,()),()))))
def iA:Ent:=(174,U,⟨[Z8],[.bool],Pp⟩)
def tZ:SQ Tryz.prog iA:=sk (v:=t1<|t1<|.two (t1<|.one<|.loop xB)<|.two (t1<|.one<|.loop x9)<|.two (t1<|.one<|.loop x8) .nil) (fn:=Tryz.f174) fR<|kC amP<|kC alv<|kC alr kN
def ak7:Cx:=cX [] [] [(22,28)]
def yE:OKC Tryz.prog ak7 AF:=okc mixed<|AJ
def cm(x:List A6×Int×Int×Int×A2):Rnd (List A6×Int×Int×Int×A2) (Int×A2) (A2):=if A1 (x.2.2.2.1<(x.1.length:Int)) then if inb x.2.2.2.1 x.1.length then if Ak (A1<|(rd (dfl .note) x.1 x.2.2.2.1).fr=x.2.1) (inb x.2.2.2.1 x.1.length) then if(A1<|(rd (dfl .note) x.1 x.2.2.2.1).fr=x.2.1)&&(A1<|(rd (dfl .note) x.1 x.2.2.2.1).nu=x.2.2.1) then I (.inr<|.inl x.2.2.2) else I (.inl (x.1,x.2.1,x.2.2.1,(w64<|x.2.2.2.1+1),())) else U else U else I (.inr<|.inr ())
def qH:=AR cm
def uj:Loop:=⟨[(0,.sl .note),(1,.int .i64),(2,.int .i64),(7,.int .i64)],[],0,[(6,.int .i64)],qH⟩
def aks:LF Tryz.f137 [] [1,0,1,0,0] uj:=sq (v:= .nil) yE (b:=cm) kN
def Fw(x:List A6×Int×Int×A2):Option ((Int×A2)×A2):=(AM (qH (x.1,x.2.1,x.2.2.1,0,())) (λa=>I (a,())) λa=>I (((-1),()),()))
def MW:Ent:=(137,U,⟨[.fz .note,.int .i64,.int .i64],[.int .i64],Fw⟩)
def Nv:SQ Tryz.prog MW:=sk (v:=t1<|.two (t1<|.one<|.loop uj) .nil) (fn:=Tryz.f137) yE<|kC aks kN
def amH:Cx:=cX [] [] []
def yy:OKC Tryz.prog amH AF:=okc mixed<|AJ
def de(x:A4×Int×A2):Rnd (A4×Int×A2) (A4×A4×A2) (A4×A2):=if A1 (x.2.1<(x.1.size:Int)) then if inb x.2.1 x.1.size then if A1 ((bt x.1 x.2.1)=32) then if A1 (0<=x.2.1)&&A1 (x.2.1<=(x.1.size:Int)) then if A1 (0<=(w64<|x.2.1+1))&&A1 ((w64<|x.2.1+1)<=(x.1.size:Int)) then let a:=(x.1.extract (0)<|AL x.2.1);let b:=(x.1.extract (AL<|w64<|x.2.1+1)<|x.1.size);I (.inr<|.inl (a,b,())) else U else U else I (.inl (x.1,(w64<|x.2.1+1),())) else U else I (.inr<|.inr (x.1,()))
def qO:=AR de
def we:Loop:=⟨[(0,.str),(4,.int .i64)],[(0,.str)],0,[(2,.str),(3,.str)],qO⟩
def aly:LF Tryz.f212 [] [1,0,1,0,0] we:=sq (v:= .nil) yy (b:=de) kN
def O5(x:A4×A2):Option ((A4×A4×A2)×A2):=(AM (qO (x.1,0,())) (λa=>I (a,())) λa=>I ((a.1,noB,()),()))
def gy:Ent:=(212,U,⟨[.str],[.str,.str],O5⟩)
def tL:SQ Tryz.prog gy:=sk (v:=t1<|.two (t1<|.one<|.loop we) .nil) (fn:=Tryz.f212) yy<|kC aly kN
def akb:Cx:=cX [] [] []
def gJ:OKC Tryz.prog akb AF:=okc mixed<|AJ
def dX(x:Int×Y3×Y3×List A6×List Mark×Int×A2):Rnd (Int×Y3×Y3×List A6×List Mark×Int×A2) (A2) (Int×Y3×Y3×List A6×List Mark×A2):=if A1 (x.2.2.2.2.2.1<(x.2.1.2.2.2.2.1.length:Int)) then if inb x.2.2.2.2.2.1 x.2.1.2.2.2.2.1.length then if A1 (x.1<(rd (dfl .mark) x.2.1.2.2.2.2.1 x.2.2.2.2.2.1).mu) then if inb x.2.2.2.2.2.1 x.2.1.2.2.2.2.1.length then if Ac (x.2.2.2.2.1.length+([(rd (dfl .mark) x.2.1.2.2.2.2.1 x.2.2.2.2.2.1)]:List Mark).length) then let a:=(w64<|x.2.2.2.2.2.1+1);I (.inl (x.1,x.2.1,x.2.2.1,x.2.2.2.1,(x.2.2.2.2.1++([(rd (dfl .mark) x.2.1.2.2.2.2.1 x.2.2.2.2.2.1)]:List Mark)),a,())) else U else U else let b:=(w64<|x.2.2.2.2.2.1+1);I (.inl (x.1,x.2.1,x.2.2.1,x.2.2.2.1,x.2.2.2.2.1,b,())) else U else I (.inr<|.inr (x.1,x.2.1,x.2.2.1,x.2.2.2.1,x.2.2.2.2.1,()))
def pg:=AR dX
def ug:Loop:=⟨[(1,.int .i64),(2,Z7),(4,Z9),(5,.row 43 .note),(7,.row 168 .mark),(8,.int .i64)],[(1,.int .i64),(2,Z7),(4,Z9),(5,.row 43 .note),(7,.row 168 .mark)],2,[],pg⟩
def akc:LF Tryz.f213 [] [1,1,1,1,0,1,0,0] ug:=sq (v:= .nil) gJ (b:=dX) kN
def dY(x:Int×Y3×Y3×List A6×Int×A2):Rnd (Int×Y3×Y3×List A6×Int×A2) (A2) (Int×Y3×Y3×List A6×A2):=if A1 (x.2.2.2.2.1<(x.2.1.2.2.2.1.length:Int)) then if inb x.2.2.2.2.1 x.2.1.2.2.2.1.length then if A1 (x.1<(rd (dfl .note) x.2.1.2.2.2.1 x.2.2.2.2.1).un) then if inb x.2.2.2.2.1 x.2.1.2.2.2.1.length then if Ac (x.2.2.2.1.length+([(rd (dfl .note) x.2.1.2.2.2.1 x.2.2.2.2.1)]:List A6).length) then I (.inl (x.1,x.2.1,x.2.2.1,(x.2.2.2.1++([(rd (dfl .note) x.2.1.2.2.2.1 x.2.2.2.2.1)]:List A6)),(w64<|x.2.2.2.2.1+1),())) else U else U else I (.inl (x.1,x.2.1,x.2.2.1,x.2.2.2.1,(w64<|x.2.2.2.2.1+1),())) else U else I (.inr<|.inr (x.1,x.2.1,x.2.2.1,x.2.2.2.1,()))
def qF:=AR dY
def uh:Loop:=⟨[(1,.int .i64),(2,Z7),(4,Z9),(5,.row 43 .note),(6,.int .i64)],[(1,.int .i64),(2,Z7),(4,Z9),(5,.row 43 .note)],0,[],qF⟩
def akq:LF Tryz.f213 [] [1,1,0,1,0,0] uh:=sq (v:= .nil) gJ (b:=dY) kN
def du(x:Y3×Int×A2):Option ((Y3×A2)×A2):=(AM (qF (x.2.1,x.1,(0,0,0,([]:List A6),([]:List Mark),([]:List A6),()),([]:List A6),0,())) (λ_=>U) λb=>(AM (pg (b.1,b.2.1,b.2.2.1,b.2.2.2.1,([]:List Mark),0,())) (λ_=>U) λa=>I (((a.2.1.1,a.1,a.2.1.2.2.1,a.2.2.2.1,a.2.2.2.2.1,a.2.1.2.2.2.2.2),()),())))
def yQ:Ent:=(213,U,⟨[Z8,.int .i64],[Z8],du⟩)
def afa:SQ Tryz.prog yQ:=sk (v:=t1<|t1<|.two (t1<|.one<|.loop uh)<|t1<|.two (t1<|.one<|.loop ug) .nil) (fn:=Tryz.f213) gJ<|kC akq<|kC akc kN
def ahL:Cx:=cX [W0,OC] [] []
def ajO:OKC Tryz.prog ahL AF:=okc mixed<|gC bq<|gC PY<|AJ
def MY(x:Y4×A2):Option ((A4×A2)×A2):=(O7 x).bind λe=>if !e.1.1 then I ((noB,()),()) else(DQ (x.1.1,())).bind λa=>if A1 (a.1.1.size+(B [32]).size<=4611686018427387904) then(DQ (x.1.2.1,())).bind λb=>if A1 ((a.1.1++(B [32])).size+b.1.1.size<=4611686018427387904) then if A1 (((a.1.1++(B [32]))++b.1.1).size+(B [32]).size<=4611686018427387904) then(DQ (x.1.2.2.1,())).bind λc=>if A1 ((((a.1.1++(B [32]))++b.1.1)++(B [32])).size+c.1.1.size<=4611686018427387904) then if A1 (((((a.1.1++(B [32]))++b.1.1)++(B [32]))++c.1.1).size+(B [32]).size<=4611686018427387904) then(DQ (x.1.2.2.2.1,())).bind λd=>if A1 ((((((a.1.1++(B [32]))++b.1.1)++(B [32]))++c.1.1)++(B [32])).size+d.1.1.size<=4611686018427387904) then if A1 (((((((a.1.1++(B [32]))++b.1.1)++(B [32]))++c.1.1)++(B [32]))++d.1.1).size+(B [32]).size<=4611686018427387904) then if A1 ((((((((a.1.1++(B [32]))++b.1.1)++(B [32]))++c.1.1)++(B [32]))++d.1.1)++(B [32])).size+x.1.2.2.2.2.1.size<=4611686018427387904) then let f:=((((((((a.1.1++(B [32]))++b.1.1)++(B [32]))++c.1.1)++(B [32]))++d.1.1)++(B [32]))++x.1.2.2.2.2.1);I ((f,()),()) else U else U else U else U else U else U else U else U
def V8:Ent:=(185,U,⟨[Z6],[.str],MY⟩)
def aQ:SQ Tryz.prog V8:=sk (v:= .nil) (fn:=Tryz.f185) ajO kN
def amI:Cx:=cX [fT,gy] [] []
def yz:OKC Tryz.prog amI AF:=okc mixed<|gC rV<|gC tL<|AJ
def dq(x:A4×Int×List Int×Int×A2):Rnd (A4×Int×List Int×Int×A2) (A2) (A4×List Int×A2):=if A1 (x.2.2.2.1<x.2.1) then(O5 (x.1,())).bind λa=>(Pv (a.1.1,())).bind λb=>if Ac (x.2.2.1.length+([b.1.1]:List Int).length) then I (.inl (a.1.2.1,x.2.1,(x.2.2.1++([b.1.1]:List Int)),(w64<|x.2.2.2.1+1),())) else U else I (.inr<|.inr (x.1,x.2.2.1,()))
def qX:=AR dq
def wh:Loop:=⟨[(0,.str),(1,.int .i64),(6,.row 3 .int),(7,.int .i64)],[(0,.str),(6,.row 3 .int)],0,[],qX⟩
def alz:LF Tryz.f217 [] [1,1,0,1,0,0] wh:=sq (v:= .nil) yz (b:=dq) kN
def Pt(x:A4×Int×A2):Option ((List Int×A4×A2)×A2):=(AM (qX (x.1,x.2.1,([]:List Int),0,())) (λ_=>U) λa=>I ((a.2.1,a.1,()),()))
def gz:Ent:=(217,U,⟨[.str,.int .i64],[.row 3 .int,.str],Pt⟩)
def tM:SQ Tryz.prog gz:=sk (v:=t1<|t1<|.two (t1<|.one<|.loop wh) .nil) (fn:=Tryz.f217) yz<|kC alz kN
def ajh:Cx:=cX [V8,gz] [] [(29,32)]
def al7:OKC Tryz.prog ajh AF:=okc mixed<|gC aQ<|gC tM<|AJ
def Ra(x:A4×A2):Option ((Y4×Bool×A2)×A2):=(Pt (x.1,4,())).bind λa=>if inb 0 a.1.1.length then if inb 1 a.1.1.length then if inb 2 a.1.1.length then if inb 3 a.1.1.length then if Ak (!(A1<|x.1=noB)) ((MY (((rd (dfl .int) a.1.1 0),(rd (dfl .int) a.1.1 1),(rd (dfl .int) a.1.1 2),(rd (dfl .int) a.1.1 3),a.1.2),())).isSome) then if(A1<|x.1=noB)||(!decide (((MY (((rd (dfl .int) a.1.1 0),(rd (dfl .int) a.1.1 1),(rd (dfl .int) a.1.1 2),(rd (dfl .int) a.1.1 3),a.1.2),())).getD ((noB,()),())).1.1=x.1)) then I (((0,0,0,0,noB,()),A3,()),()) else I ((((rd (dfl .int) a.1.1 0),(rd (dfl .int) a.1.1 1),(rd (dfl .int) a.1.1 2),(rd (dfl .int) a.1.1 3),a.1.2),A0,()),()) else U else U else U else U else U
def wH:Ent:=(214,U,⟨[.str],[Z6,.bool],Ra⟩)
def aey:SQ Tryz.prog wH:=sk (v:= .nil) (fn:=Tryz.f214) al7 kN
def afi:Cx:=cX [Vk] [] [(18,32)]
def tz:OKC Tryz.prog afi AF:=okc mixed<|gC bY<|AJ
def bV(x:List A6×Y4×List A6×Bool×Int×A2):Rnd (List A6×Y4×List A6×Bool×Int×A2) (A2) (Y4×List A6×Bool×A2):=if A1 (x.2.2.2.2.1<(x.1.length:Int)) then(BS (X:=List A6×Y4×List A6×Bool×Int×A2) (λa=>if inb a.2.2.2.2.1 a.1.length then if Ac (a.2.2.1.length+([(rd (dfl .note) a.1 a.2.2.2.2.1)]:List A6).length) then I (.inl (a.1,a.2.1,(a.2.2.1++([(rd (dfl .note) a.1 a.2.2.2.2.1)]:List A6)),a.2.2.2.1,(w64<|a.2.2.2.2.1+1),())) else U else U)<|(if Ak (!x.2.2.2.1) (inb x.2.2.2.2.1 x.1.length) then if Ak (!x.2.2.2.1) (inb x.2.2.2.2.1 x.1.length) then if Ak (!x.2.2.2.1) ((MT (x.2.1.1,x.2.1.2.1,(rd (dfl .note) x.1 x.2.2.2.2.1).fr,(rd (dfl .note) x.1 x.2.2.2.2.1).nu,())).isSome) then if(!x.2.2.2.1)&&(((MT (x.2.1.1,x.2.1.2.1,(rd (dfl .note) x.1 x.2.2.2.2.1).fr,(rd (dfl .note) x.1 x.2.2.2.2.1).nu,())).getD ((A3,()),())).1.1) then if Ac (x.2.2.1.length+([(A6.mk x.2.1.1 x.2.1.2.1 x.2.1.2.2.1 x.2.1.2.2.2.1 x.2.1.2.2.2.2.1)]:List A6).length) then I (.inr (x.1,x.2.1,(x.2.2.1++([(A6.mk x.2.1.1 x.2.1.2.1 x.2.1.2.2.1 x.2.1.2.2.2.1 x.2.1.2.2.2.2.1)]:List A6)),A0,x.2.2.2.2)) else U else I (.inr x) else U else U else U)) else I (.inr<|.inr (x.2.1,x.2.2.1,x.2.2.2.1,()))
def oZ:=AR bV
def ad9:Loop:=⟨[(0,.sl .note),(3,Z5),(5,.row 43 .note),(6,.bool),(7,.int .i64)],[(3,Z5),(5,.row 43 .note),(6,.bool)],0,[],oZ⟩
def afm:LF Tryz.f216 [] [1,1,1,0,1,0,0] ad9:=sq (v:=t1<|.two (.one<|.join [(0,.sl .note),(3,Z5),(5,.row 43 .note),(6,.bool),(7,.int .i64)] .nil .nil) .nil) tz (b:=bV) kN
def PV(x:List A6×Y4×A2):Option ((List A6×A2)×A2):=(AM (oZ (x.1,x.2.1,([]:List A6),A3,0,())) (λ_=>U) λa=>(if !a.2.2.1 then if Ac (a.2.1.length+([(A6.mk a.1.1 a.1.2.1 a.1.2.2.1 a.1.2.2.2.1 a.1.2.2.2.2.1)]:List A6).length) then I (((a.2.1++([(A6.mk a.1.1 a.1.2.1 a.1.2.2.1 a.1.2.2.2.1 a.1.2.2.2.2.1)]:List A6)),()),()) else U else I ((a.2.1,()),())))
def qv:Ent:=(216,U,⟨[.fz .note,Z6],[.row 43 .note],PV⟩)
def acZ:SQ Tryz.prog qv:=sk (v:=t1<|t1<|t1<|.two (t1<|.one<|.loop ad9) .nil) (fn:=Tryz.f216) tz<|kC afm kN
def agZ:Cx:=cX [Vk] [] [(18,32)]
def u7:OKC Tryz.prog agZ AF:=okc mixed<|gC bY<|AJ
def bW(x:List Mark×Y5×List Mark×Bool×Int×A2):Rnd (List Mark×Y5×List Mark×Bool×Int×A2) (A2) (Y5×List Mark×Bool×A2):=if A1 (x.2.2.2.2.1<(x.1.length:Int)) then(BS (X:=List Mark×Y5×List Mark×Bool×Int×A2) (λa=>if inb a.2.2.2.2.1 a.1.length then if Ac (a.2.2.1.length+([(rd (dfl .mark) a.1 a.2.2.2.2.1)]:List Mark).length) then I (.inl (a.1,a.2.1,(a.2.2.1++([(rd (dfl .mark) a.1 a.2.2.2.2.1)]:List Mark)),a.2.2.2.1,(w64<|a.2.2.2.2.1+1),())) else U else U)<|(if Ak (!x.2.2.2.1) (inb x.2.2.2.2.1 x.1.length) then if Ak (!x.2.2.2.1) (inb x.2.2.2.2.1 x.1.length) then if Ak (!x.2.2.2.1) ((MT (x.2.1.1,x.2.1.2.1,(rd (dfl .mark) x.1 x.2.2.2.2.1).mf,(rd (dfl .mark) x.1 x.2.2.2.2.1).mn,())).isSome) then if(!x.2.2.2.1)&&(((MT (x.2.1.1,x.2.1.2.1,(rd (dfl .mark) x.1 x.2.2.2.2.1).mf,(rd (dfl .mark) x.1 x.2.2.2.2.1).mn,())).getD ((A3,()),())).1.1) then if Ac (x.2.2.1.length+([(Mark.mk x.2.1.1 x.2.1.2.1 x.2.1.2.2.1)]:List Mark).length) then I (.inr (x.1,x.2.1,(x.2.2.1++([(Mark.mk x.2.1.1 x.2.1.2.1 x.2.1.2.2.1)]:List Mark)),A0,x.2.2.2.2)) else U else I (.inr x) else U else U else U)) else I (.inr<|.inr (x.2.1,x.2.2.1,x.2.2.2.1,()))
def oe:=AR bW
def adA:Loop:=⟨[(0,.sl .mark),(3,Z10),(5,.row 168 .mark),(6,.bool),(7,.int .i64)],[(3,Z10),(5,.row 168 .mark),(6,.bool)],0,[],oe⟩
def afn:LF Tryz.f220 [] [1,1,1,0,1,0,0] adA:=sq (v:=t1<|.two (.one<|.join [(0,.sl .mark),(3,Z10),(5,.row 168 .mark),(6,.bool),(7,.int .i64)] .nil .nil) .nil) u7 (b:=bW) kN
def RS(x:List Mark×Y5×A2):Option ((List Mark×A2)×A2):=(AM (oe (x.1,x.2.1,([]:List Mark),A3,0,())) (λ_=>U) λa=>(if !a.2.2.1 then if Ac (a.2.1.length+([(Mark.mk a.1.1 a.1.2.1 a.1.2.2.1)]:List Mark).length) then I (((a.2.1++([(Mark.mk a.1.1 a.1.2.1 a.1.2.2.1)]:List Mark)),()),()) else U else I ((a.2.1,()),())))
def bj:Ent:=(220,U,⟨[.fz .mark,Z11],[.row 168 .mark],RS⟩)
def od:SQ Tryz.prog bj:=sk (v:=t1<|t1<|t1<|.two (t1<|.one<|.loop adA) .nil) (fn:=Tryz.f220) u7<|kC afn kN
def ajd:Cx:=cX [W0,MW,Vj] [] [(35,42)]
def al3:OKC Tryz.prog ajd AF:=okc mixed<|gC bq<|gC Nv<|gC bX<|AJ
def cn(x:Y3×Y4×A2):Option ((Bool×A2)×A2):=(O7 x.2).bind λb=>if b.1.1 then if A1 (x.1.2.1<x.2.1.2.2.2.1) then(Fw (x.1.2.2.2.1,x.2.1.1,x.2.1.2.1,())).bind λc=>if A1 (c.1.1<0) then(KN (x.1.2.2.2.2.1,x.2.1.1,x.2.1.2.1,())).bind λa=>if Ak (A1<|a.1.1<0) ((Fw (x.1.2.2.2.2.2.1,x.2.1.1,x.2.1.2.1,())).isSome) then let d:=((A1<|a.1.1<0)&&(A1<|((Fw (x.1.2.2.2.2.2.1,x.2.1.1,x.2.1.2.1,())).getD ((0,()),())).1.1<0));I ((d,()),()) else U else if Ak A3 ((Fw (x.1.2.2.2.2.2.1,x.2.1.1,x.2.1.2.1,())).isSome) then I ((A3,()),()) else U else if Ak A3 ((Fw (x.1.2.2.2.2.2.1,x.2.1.1,x.2.1.2.1,())).isSome) then I ((A3,()),()) else U else if Ak A3 ((Fw (x.1.2.2.2.2.2.1,x.2.1.1,x.2.1.2.1,())).isSome) then I ((A3,()),()) else U
def wF:Ent:=(234,U,⟨[Z8,Z6],[.bool],cn⟩)
def aew:SQ Tryz.prog wF:=sk (v:= .nil) (fn:=Tryz.f234) al3 kN
def ak4:Cx:=cX [qv,bj,wF] [] []
def amz:OKC Tryz.prog ak4 AF:=okc mixed<|gC acZ<|gC od<|gC aew<|AJ
def Vb(x:Y3×Y4×A2):Option ((Y3×Bool×A2)×A2):=(cn x).bind λc=>if !c.1.1 then I ((x.1,A3,()),()) else if !decide (x.2.1.2.2.1=x.1.1) then(PV (x.1.2.2.2.1,x.2)).bind λa=>let d:=(A1<|(w64<|(a.1.1.length:Int)+(x.1.2.2.2.2.1.length:Int))<=12);I (((x.1.1,x.1.2.1,x.1.2.2.1,a.1.1,x.1.2.2.2.2),d,()),()) else(PV (x.1.2.2.2.2.2.1,x.2)).bind λe=>(RS (x.1.2.2.2.2.1,(x.2.1.1,x.2.1.2.1,x.2.1.2.2.2.1,()),())).bind λb=>let f:=(A1<|(w64<|(x.1.2.2.2.1.length:Int)+(b.1.1.length:Int))<=12);I (((x.1.1,x.1.2.1,x.1.2.2.1,x.1.2.2.2.1,b.1.1,e.1),f,()),())
def yR:Ent:=(215,U,⟨[Z8,Z6],[Z8,.bool],Vb⟩)
def afb:SQ Tryz.prog yR:=sk (v:= .nil) (fn:=Tryz.f215) amz kN
def anA:Cx:=cX [MW,bj] [] []
def aoP:OKC Tryz.prog anA AF:=okc mixed<|gC Nv<|gC od<|AJ
def fA(x:Y3×Int×Int×A2):Option ((Y3×Bool×A2)×A2):=(Fw (x.1.2.2.2.1,x.2)).bind λa=>if A1 (a.1.1<0) then I ((x.1,A3,()),()) else if inb a.1.1 x.1.2.2.2.1.length then let d:=(rd (dfl .note) x.1.2.2.2.1 a.1.1).fr;let e:=(rd (dfl .note) x.1.2.2.2.1 a.1.1).nu;let f:=(rd (dfl .note) x.1.2.2.2.1 a.1.1).to;let b:=(rd (dfl .note) x.1.2.2.2.1 a.1.1).un;let g:=(rd (dfl .note) x.1.2.2.2.1 a.1.1).tx;if A1 (0<=a.1.1)&&A1 (a.1.1<=(x.1.2.2.2.1.length:Int)) then if Ac (([]:List A6).length+(BH (AL a.1.1) x.1.2.2.2.1).length) then if A1 (0<=(w64<|a.1.1+1))&&A1 ((w64<|a.1.1+1)<=(x.1.2.2.2.1.length:Int)) then if Ac ((([]:List A6)++(BH (AL a.1.1) x.1.2.2.2.1)).length+(Bm (AL<|w64<|a.1.1+1) x.1.2.2.2.1).length) then(RS (x.1.2.2.2.2.1,(x.2.1,x.2.2.1,b,()),())).bind λc=>I (((x.1.1,x.1.2.1,x.1.2.2.1,((([]:List A6)++(BH (AL a.1.1) x.1.2.2.2.1))++(Bm (AL<|w64<|a.1.1+1) x.1.2.2.2.1)),c.1.1,x.1.2.2.2.2.2),A0,()),()) else U else U else U else U else U
def zZ:Ent:=(218,U,⟨[Z8,.int .i64,.int .i64],[Z8,.bool],fA⟩)
def agJ:SQ Tryz.prog zZ:=sk (v:= .nil) (fn:=Tryz.f218) aoP kN
def anB:Cx:=cX [MW] [] []
def aoQ:OKC Tryz.prog anB AF:=okc mixed<|gC Nv<|AJ
def fB(x:Y3×Int×Int×A2):Option ((Y3×Bool×A2)×A2):=(Fw (x.1.2.2.2.2.2.1,x.2)).bind λa=>if A1 (a.1.1<0) then I ((x.1,A3,()),()) else if A1 (0<=a.1.1)&&A1 (a.1.1<=(x.1.2.2.2.2.2.1.length:Int)) then if Ac (([]:List A6).length+(BH (AL a.1.1) x.1.2.2.2.2.2.1).length) then if A1 (0<=(w64<|a.1.1+1))&&A1 ((w64<|a.1.1+1)<=(x.1.2.2.2.2.2.1.length:Int)) then if Ac ((([]:List A6)++(BH (AL a.1.1) x.1.2.2.2.2.2.1)).length+(Bm (AL<|w64<|a.1.1+1) x.1.2.2.2.2.2.1).length) then I (((x.1.1,x.1.2.1,x.1.2.2.1,x.1.2.2.2.1,x.1.2.2.2.2.1,((([]:List A6)++(BH (AL a.1.1) x.1.2.2.2.2.2.1))++(Bm (AL<|w64<|a.1.1+1) x.1.2.2.2.2.2.1)),()),A0,()),()) else U else U else U else U
def za:Ent:=(219,U,⟨[Z8,.int .i64,.int .i64],[Z8,.bool],fB⟩)
def agK:SQ Tryz.prog za:=sk (v:= .nil) (fn:=Tryz.f219) aoQ kN
def an9:Cx:=cX [MW,OC,fT,Vj,gy,yQ,wH,yR,qv,gz,zZ,za,bj] [] [(81,85),(157,174),(192,201),(228,237)]
def ap2:OKC Tryz.prog an9 AF:=okc mixed<|gC Nv<|gC PY<|gC rV<|gC bX<|gC tL<|gC afa<|gC aey<|gC afb<|gC acZ<|gC tM<|gC agJ<|gC agK<|gC od<|AJ
def Vs(x:Y3×A4×A2):Option ((Y3×Bool×A2)×A2):=(O5 x.2).bind λc=>let l:=(A1<|c.1.1=(B [116,105,109,101]));(if l then(Pv c.1.2).bind λi=>if A1 (i.1.1<=x.1.2.1) then I ((x.1,A3,()),()) else(du (x.1,i.1)).bind λm=>I ((m.1.1,A0,()),()) else let n:=(A1<|c.1.1=(B [111,119,110]));(if n then(Ra c.1.2).bind λg=>if !g.1.2.1 then I ((x.1,A3,()),()) else if !decide (g.1.1.1=x.1.1) then I ((x.1,A3,()),()) else if !decide (g.1.1.2.1=x.1.2.2.1) then I ((x.1,A3,()),()) else(Vb ((x.1.1,x.1.2.1,(w64<|x.1.2.2.1+1),x.1.2.2.2),g.1.1,())).bind λo=>I (o.1,()) else let p:=(A1<|c.1.1=(B [116,97,107,101]));(if p then(Ra c.1.2).bind λh=>if(!h.1.2.1)||(A1<|h.1.1.1=x.1.1) then I ((x.1,A3,()),()) else(Vb (x.1,h.1.1,())).bind λq=>I (q.1,()) else let r:=(A1<|c.1.1=(B [110,101,120,116]));(if r then(Pv c.1.2).bind λj=>if A1 (j.1.1<=x.1.2.2.1) then I ((x.1,A3,()),()) else I (((x.1.1,x.1.2.1,j.1.1,x.1.2.2.2),A0,()),()) else(BS (X:=Y3×Y3×A4×A4×Bool×A2) (λb=>if b.2.2.2.2.1 then(Ra (b.2.2.2.1,())).bind λd=>if !d.1.2.1 then I ((b.1,A3,()),()) else(Fw (b.1.2.2.2.1,d.1.1.1,d.1.1.2.1,())).bind λs=>if A1 (0<=s.1.1) then I ((b.1,A3,()),()) else(Fw (b.1.2.2.2.2.2.1,d.1.1.1,d.1.1.2.1,())).bind λt=>if A1 (0<=t.1.1) then I ((b.1,A3,()),()) else if A1 (b.2.2.1=(B [104,101,108,100])) then(PV (b.1.2.2.2.1,d.1.1,())).bind λu=>I (((b.1.1,b.1.2.1,b.1.2.2.1,u.1.1,b.1.2.2.2.2),A0,()),()) else(PV (b.1.2.2.2.2.2.1,d.1.1,())).bind λv=>I (((b.1.1,b.1.2.1,b.1.2.2.1,b.1.2.2.2.1,b.1.2.2.2.2.1,v.1),A0,()),()) else(Pt (b.2.2.2.1,3,())).bind λa=>if Ak (!(!decide (a.1.2.1=noB))) (inb 0 a.1.1.length) then if Ak (!(!decide (a.1.2.1=noB))) ((DQ ((rd (dfl .int) a.1.1 0),())).isSome) then if Ak (!(!decide (a.1.2.1=noB))) (A1<|(((DQ ((rd (dfl .int) a.1.1 0),())).getD ((noB,()),())).1.1).size+(B [32]).size<=4611686018427387904) then if Ak (!(!decide (a.1.2.1=noB))) (inb 1 a.1.1.length) then if Ak (!(!decide (a.1.2.1=noB))) ((DQ ((rd (dfl .int) a.1.1 1),())).isSome) then if Ak (!(!decide (a.1.2.1=noB))) (A1<|((((DQ ((rd (dfl .int) a.1.1 0),())).getD ((noB,()),())).1.1)++(B [32])).size+(((DQ ((rd (dfl .int) a.1.1 1),())).getD ((noB,()),())).1.1).size<=4611686018427387904) then if Ak (!(!decide (a.1.2.1=noB))) (A1<|(((((DQ ((rd (dfl .int) a.1.1 0),())).getD ((noB,()),())).1.1)++(B [32]))++(((DQ ((rd (dfl .int) a.1.1 1),())).getD ((noB,()),())).1.1)).size+(B [32]).size<=4611686018427387904) then if Ak (!(!decide (a.1.2.1=noB))) (inb 2 a.1.1.length) then if Ak (!(!decide (a.1.2.1=noB))) ((DQ ((rd (dfl .int) a.1.1 2),())).isSome) then if Ak (!(!decide (a.1.2.1=noB))) (A1<|((((((DQ ((rd (dfl .int) a.1.1 0),())).getD ((noB,()),())).1.1)++(B [32]))++(((DQ ((rd (dfl .int) a.1.1 1),())).getD ((noB,()),())).1.1))++(B [32])).size+(((DQ ((rd (dfl .int) a.1.1 2),())).getD ((noB,()),())).1.1).size<=4611686018427387904) then if(!decide (a.1.2.1=noB))||(!decide (b.2.2.2.1=(((((((DQ ((rd (dfl .int) a.1.1 0),())).getD ((noB,()),())).1.1)++(B [32]))++(((DQ ((rd (dfl .int) a.1.1 1),())).getD ((noB,()),())).1.1))++(B [32]))++(((DQ ((rd (dfl .int) a.1.1 2),())).getD ((noB,()),())).1.1)))) then I ((b.1,A3,()),()) else let w:=(A1<|b.2.2.1=(B [108,101,116]));(if w then if inb 0 a.1.1.length then if inb 1 a.1.1.length then(Fw (b.1.2.2.2.1,(rd (dfl .int) a.1.1 0),(rd (dfl .int) a.1.1 1),())).bind λe=>if Ak (!(A1<|e.1.1<0)) (inb e.1.1 b.1.2.2.2.1.length) then if Ak (!(A1<|e.1.1<0)) (inb 2 a.1.1.length) then if(A1<|e.1.1<0)||(!decide ((rd (dfl .note) b.1.2.2.2.1 e.1.1).un=(rd (dfl .int) a.1.1 2))) then I ((b.1,A3,()),()) else if inb 0 a.1.1.length then if inb 1 a.1.1.length then(fA (b.1,(rd (dfl .int) a.1.1 0),(rd (dfl .int) a.1.1 1),())).bind λy=>I (y.1,()) else U else U else U else U else U else U else let z:=(A1<|b.2.2.1=(B [101,97,116]));(if z then if inb 0 a.1.1.length then if inb 1 a.1.1.length then(Fw (b.1.2.2.2.2.2.1,(rd (dfl .int) a.1.1 0),(rd (dfl .int) a.1.1 1),())).bind λf=>if Ak (!(A1<|f.1.1<0)) (inb f.1.1 b.1.2.2.2.2.2.1.length) then if Ak (!(A1<|f.1.1<0)) (inb 2 a.1.1.length) then if(A1<|f.1.1<0)||(!decide ((rd (dfl .note) b.1.2.2.2.2.2.1 f.1.1).un=(rd (dfl .int) a.1.1 2))) then I ((b.1,A3,()),()) else if inb 0 a.1.1.length then if inb 1 a.1.1.length then(fB (b.1,(rd (dfl .int) a.1.1 0),(rd (dfl .int) a.1.1 1),())).bind λA=>I (A.1,()) else U else U else U else U else U else U else let C:=(A1<|b.2.2.1=(B [109,97,114,107]));(if C then if inb 0 a.1.1.length then if inb 1 a.1.1.length then(KN (b.1.2.2.2.2.1,(rd (dfl .int) a.1.1 0),(rd (dfl .int) a.1.1 1),())).bind λD=>if A1 (0<=D.1.1) then I ((b.1,A3,()),()) else if inb 0 a.1.1.length then if inb 1 a.1.1.length then if inb 2 a.1.1.length then(RS (b.1.2.2.2.2.1,((rd (dfl .int) a.1.1 0),(rd (dfl .int) a.1.1 1),(rd (dfl .int) a.1.1 2),()),())).bind λE=>I (((b.1.1,b.1.2.1,b.1.2.2.1,b.1.2.2.2.1,E.1.1,b.1.2.2.2.2.2),A0,()),()) else U else U else U else U else U else I ((b.1,A3,()),())))) else U else U else U else U else U else U else U else U else U else U) (let k:=(A1<|c.1.1=(B [104,101,108,100]));(if k then I (.inr (x.1,(0,0,0,([]:List A6),([]:List Mark),([]:List A6),()),c.1.1,c.1.2.1,k,())) else let F:=(A1<|c.1.1=(B [105,110,98,111,120]));I (.inr (x.1,(0,0,0,([]:List A6),([]:List Mark),([]:List A6),()),c.1.1,c.1.2.1,F,())))))))))
def zY:Ent:=(175,U,⟨[Z8,.str],[Z8,.bool],Vs⟩)
def agI:SQ Tryz.prog zY:=sk (v:=t1<|t1<|.two (t1<|.one<|t1<|t1<|t1<|t1<|t1<|t1<|t1<|t1<|.join [(2,Z7),(4,Z9),(6,.str),(7,.str),(105,.bool)] .nil .nil) .nil) (fn:=Tryz.f175) ap2 kN
def ak8:Cx:=cX [] [] []
def an1:OKC Tryz.prog ak8 AF:=okc mixed<|AJ
def Rv(x:Y3×A2):Option ((Y3×A2)×A2):=if Ac (([]:List A6).length+x.1.2.2.2.1.length) then if Ac (([]:List Mark).length+x.1.2.2.2.2.1.length) then if Ac (([]:List A6).length+x.1.2.2.2.2.2.1.length) then I (((x.1.1,x.1.2.1,x.1.2.2.1,(([]:List A6)++x.1.2.2.2.1),(([]:List Mark)++x.1.2.2.2.2.1),(([]:List A6)++x.1.2.2.2.2.2.1),()),()),()) else U else U else U
def yS:Ent:=(176,U,⟨[Z8],[Z4],Rv⟩)
def afc:SQ Tryz.prog yS:=sk (v:= .nil) (fn:=Tryz.f176) an1 kN
def anI:Cx:=cX [iA,zY,yS] [] [(22,24)]
def aoS:OKC Tryz.prog anI AF:=okc mixed<|gC tZ<|gC agI<|gC afc<|AJ
def Ry(x:Y3×A4×A2):Option ((Y3×Bool×A2)×A2):=(Pp (x.1,())).bind λb=>if !b.1.1 then I (((0,0,0,([]:List A6),([]:List Mark),([]:List A6),()),A3,()),()) else(Rv (x.1,())).bind λc=>(Vs (c.1.1,x.2)).bind λa=>if Ak (!(!a.1.2.1)) ((Pp (a.1.1,())).isSome) then if(!a.1.2.1)||(!(((Pp (a.1.1,())).getD ((A3,()),())).1.1)) then(Rv (x.1,())).bind λd=>I ((d.1.1,A3,()),()) else(Rv (a.1.1,())).bind λe=>I ((e.1.1,A0,()),()) else U
def iC:Ent:=(131,U,⟨[Z8,.str],[Z4,.bool],Ry⟩)
def tb:SQ Tryz.prog iC:=sk (v:= .nil) (fn:=Tryz.f131) aoS kN
def anH:Cx:=cX [IH,vJ,iC] [] []
def zB:OKC Tryz.prog anH AF:=okc mixed<|gC Ii<|gC adx<|gC tb<|AJ
def Vd(x:List A4×Y3×Y3×Int×A2):Rnd (List A4×Y3×Y3×Int×A2) (Y3×Bool×A2) (Y3×Y3×A2):=if A1 (x.2.2.2.1<(x.1.length:Int)) then if inb x.2.2.2.1 x.1.length then(Ry (x.2.2.1,(rd (dfl .str) x.1 x.2.2.2.1),())).bind λa=>if !a.1.2.1 then I (.inr<|.inl ((0,0,0,([]:List A6),([]:List Mark),([]:List A6),()),A3,())) else I (.inl (x.1,x.2.1,a.1.1,(w64<|x.2.2.2.1+1),())) else U else I (.inr<|.inr (x.2.1,x.2.2.1,()))
def qW:=AR Vd
def wI:Loop:=⟨[(1,.sl .str),(4,Z9),(6,Z9),(7,.int .i64)],[(4,Z9),(6,Z9)],0,[(4,Z9),(5,.bool)],qW⟩
def amQ:LF Tryz.f94 [] [1,1,1,0,1,0,0] wI:=sq (v:= .nil) zB (b:=Vd) kN
def Rx(x:Int×List A4×A2):Option ((Y3×Bool×A2)×A2):=(cT (x.1,())).bind λb=>(FI (x.1,())).bind λc=>if !c.1.1 then I ((b.1.1,A3,()),()) else(AM (qW (x.2.1,(0,0,0,([]:List A6),([]:List Mark),([]:List A6),()),b.1.1,0,())) (λa=>I (a,())) λa=>I ((a.2.1,A0,()),()))
def iB:Ent:=(94,U,⟨[.int .i64,.fz .str],[Z4,.bool],Rx⟩)
def ta:SQ Tryz.prog iB:=sk (v:=t1<|t1<|t1<|.two (t1<|.one<|.loop wI) .nil) (fn:=Tryz.f94) zB<|kC amQ kN
def amL:Cx:=cX [V7,iB] [] []
def aoz:OKC Tryz.prog amL AF:=okc mixed<|gC aN<|gC ta<|AJ
def G0(x:Y1×A2):Option ((Y3×Bool×A2)×A2):=(LJ (x.1.2.2.1,())).bind λa=>(Rx (x.1.1,a.1.1,())).bind λb=>I (b.1,())
def Iq:Ent:=(58,U,⟨[Z12],[Z4,.bool],G0⟩)
def JS:SQ Tryz.prog Iq:=sk (v:= .nil) (fn:=Tryz.f58) aoz kN
def akV:Cx:=cX [] [] []
def amw:OKC Tryz.prog akV AF:=okc mixed<|AJ
def dd(x:Int×Int×A2):Option ((Int×A2)×A2):=if A1 (x.1<x.2.1) then I ((x.1,()),()) else I (x.2,())
def fh:Ent:=(98,U,⟨[.int .i64,.int .i64],[.int .i64],dd⟩)
def adU:SQ Tryz.prog fh:=sk (v:= .nil) (fn:=Tryz.f98) amw kN
def aji:Cx:=cX [IH] [] []
def al8:OKC Tryz.prog aji AF:=okc mixed<|gC Ii<|AJ
def Rb(x:Int×Int×A2):Option ((Int×A2)×A2):=(BS (X:=Int×Int×Bool×A2) (λa=>if a.2.2.1 then I (((-1),()),()) else if A1 (a.1<a.2.1) then I (((w64<|a.1+1),()),()) else I (((w64<|a.1 - 1),()),()))<|(FI (x.1,())).bind λb=>if !b.1.1 then I (.inr (x.1,x.2.1,A0,())) else(FI x.2).bind λc=>if !c.1.1 then I (.inr (x.1,x.2.1,A0,())) else I (.inr (x.1,x.2.1,(A1<|x.1=x.2.1),())))
def rh:Ent:=(142,U,⟨[.int .i64,.int .i64],[.int .i64],Rb⟩)
def adF:SQ Tryz.prog rh:=sk (v:=t1<|.two (.one<|.join [(0,.int .i64),(1,.int .i64),(5,.bool)] .nil .nil) .nil) (fn:=Tryz.f142) al8 kN
def alL:Cx:=cX [IH,Gi,rh] [] [(65,67),(88,91)]
def an4:OKC Tryz.prog alL AF:=okc mixed<|gC Ii<|gC HA<|gC adF<|AJ
def Ve(x:Y6×A2):Option ((Bool×A2)×A2):=(D5 (x.1.1,1,3,())).bind λa=>if !a.1.1 then I ((A3,()),()) else(FI (x.1.2.1,())).bind λb=>if !b.1.1 then I ((A3,()),()) else(FI (x.1.2.2.1,())).bind λc=>if !c.1.1 then I ((A3,()),()) else(FI (x.1.2.2.2.1,())).bind λd=>if !d.1.1 then I ((A3,()),()) else(FI (x.1.2.2.2.2.2.1,())).bind λe=>if !e.1.1 then I ((A3,()),()) else(D5 (x.1.2.2.2.2.1,1,99,())).bind λf=>if !f.1.1 then I ((A3,()),()) else(D5 (x.1.2.2.2.2.2.2.1,1,999,())).bind λg=>if !g.1.1 then I ((A3,()),()) else if !decide (x.1.1=1) then(Rb (x.1.2.2.1,x.1.2.2.2.2.2.1,())).bind λh=>if A1 (h.1.1=x.1.2.1) then if A1 (x.1.2.2.2.2.2.2.2.1=0) then let i:=((A1<|x.1.2.2.2.2.2.2.2.2.1=0)&&(A1<|x.1.2.2.2.2.2.2.2.2.2.1=noB));I ((i,()),()) else I ((A3,()),()) else I ((A3,()),()) else(Rb (x.1.2.1,x.1.2.2.2.2.2.1,())).bind λj=>if A1 (j.1.1=x.1.2.2.1) then(D5 (x.1.2.2.2.2.2.2.2.1,1,24,())).bind λk=>if k.1.1 then(D5 (x.1.2.2.2.2.2.2.2.2.1,0,999,())).bind λl=>let m:=(l.1.1&&(A1<|(x.1.2.2.2.2.2.2.2.2.2.1.size:Int)=4));I ((m,()),()) else I ((A3,()),()) else I ((A3,()),())
def gF:Ent:=(135,U,⟨[Z13],[.bool],Ve⟩)
def tB:SQ Tryz.prog gF:=sk (v:= .nil) (fn:=Tryz.f135) an4 kN
def amN:Cx:=cX [] [] []
def ap0:OKC Tryz.prog amN AF:=okc mixed<|AJ
def O6(x:List Int×Int×A2):Option ((List Int×A2)×A2):=if Ac (x.1.length+([(w8<|w64<|Ax x.2.1 256),(w8<|BG x.2.1 256)]:List Int).length) then I (((x.1++([(w8<|w64<|Ax x.2.1 256),(w8<|BG x.2.1 256)]:List Int)),()),()) else U
def zW:Ent:=(178,U,⟨[.row 5 .u8,.int .i64],[.row 5 .u8],O6⟩)
def agG:SQ Tryz.prog zW:=sk (v:= .nil) (fn:=Tryz.f178) ap0 kN
def aj7:Cx:=cX [] [] []
def xX:OKC Tryz.prog aj7 AF:=okc mixed<|AJ
def cH(x:List Int×Int×Int×A2):Rnd (List Int×Int×Int×A2) (A2) (Int×A2):=if A1 (x.2.2.1<(x.1.length:Int)) then if inb x.2.2.1 x.1.length then let a:=(BG (w64<|x.2.1+(w64<|(w64<|(BG x.2.2.1 1000)+1) * (w64<|rd (dfl .u8) x.1 x.2.2.1))) 65521);I (.inl (x.1,a,(w64<|x.2.2.1+1),())) else U else I (.inr<|.inr (x.2.1,()))
def ah:=AR cH
def tc:Loop:=⟨[(0,.sl .u8),(3,.int .i64),(4,.int .i64)],[(3,.int .i64)],0,[],ah⟩
def aik:LF Tryz.f179 [] [1,1,0,1,0,0] tc:=sq (v:= .nil) xX (b:=cH) kN
def Rc(x:List Int×A2):Option ((Int×A2)×A2):=(AM (ah (x.1,0,0,())) (λ_=>U) λa=>I (a,()))
def xN:Ent:=(179,U,⟨[.fz .u8],[.int .i64],Rc⟩)
def aez:SQ Tryz.prog xN:=sk (v:=t1<|t1<|.two (t1<|.one<|.loop tc) .nil) (fn:=Tryz.f179) xX<|kC aik kN
def ahR:Cx:=cX [gF,zW,xN] [] []
def aiz:OKC Tryz.prog ahR AF:=okc mixed<|gC tB<|gC agG<|gC aez<|AJ
def PZ(x:Y6×A2):Option ((List Int×A2)×A2):=(Ve x).bind λc=>if !c.1.1 then I ((([]:List Int),()),()) else if Ac (([]:List Int).length+([(w8 x.1.1),(w8 x.1.2.1),(w8 x.1.2.2.1),(w8 x.1.2.2.2.1),(w8 x.1.2.2.2.2.1),(w8 x.1.2.2.2.2.2.1)]:List Int).length) then(O6 ((([]:List Int)++([(w8 x.1.1),(w8 x.1.2.1),(w8 x.1.2.2.1),(w8 x.1.2.2.2.1),(w8 x.1.2.2.2.2.1),(w8 x.1.2.2.2.2.2.1)]:List Int)),x.1.2.2.2.2.2.2.1,())).bind λa=>if A1 (x.1.1=1) then if Ac (a.1.1.length+([(w8 x.1.2.2.2.2.2.2.2.1)]:List Int).length) then(O6 ((a.1.1++([(w8 x.1.2.2.2.2.2.2.2.1)]:List Int)),x.1.2.2.2.2.2.2.2.2.1,())).bind λb=>if Ac x.1.2.2.2.2.2.2.2.2.2.1.size then if Ac (b.1.1.length+(BE x.1.2.2.2.2.2.2.2.2.2.1).length) then(Rc ((b.1.1++(BE x.1.2.2.2.2.2.2.2.2.2.1)),())).bind λd=>(O6 ((b.1.1++(BE x.1.2.2.2.2.2.2.2.2.2.1)),d.1)).bind λe=>I (e.1,()) else U else U else U else(Rc a.1).bind λf=>(O6 (a.1.1,f.1)).bind λg=>I (g.1,()) else U
def rM:Ent:=(134,U,⟨[Z13],[.row 5 .u8],PZ⟩)
def acz:SQ Tryz.prog rM:=sk (v:= .nil) (fn:=Tryz.f134) aiz kN
def afS:Cx:=cX [rM] [] [(9,11)]
def agN:OKC Tryz.prog afS AF:=okc mixed<|gC acz<|AJ
def bF(x:List Int×A2):Option ((Y6×Bool×A2)×A2):=if(!decide ((x.1.length:Int)=10))&&(!decide ((x.1.length:Int)=17)) then I (((0,0,0,0,0,0,0,0,0,noB,()),A3,()),()) else if inb 0 x.1.length then if inb 1 x.1.length then if inb 2 x.1.length then if inb 3 x.1.length then if inb 4 x.1.length then if inb 5 x.1.length then if inb 6 x.1.length then if inb 7 x.1.length then let b:=(w64<|rd (dfl .u8) x.1 0);let c:=(w64<|rd (dfl .u8) x.1 1);let d:=(w64<|rd (dfl .u8) x.1 2);let e:=(w64<|rd (dfl .u8) x.1 3);let f:=(w64<|rd (dfl .u8) x.1 4);let g:=(w64<|rd (dfl .u8) x.1 5);let h:=(w64<|(w64<|(w64<|rd (dfl .u8) x.1 6) * 256)+(w64<|rd (dfl .u8) x.1 7));(BS (X:=List Int×Y6×Y6×A2) (λa=>(PZ a.2.2).bind λi=>if !decide ((BF i.1.1)=(BF a.1)) then I (((0,0,0,0,0,0,0,0,0,noB,()),A3,()),()) else I ((a.2.2.1,A0,()),()))<|(if A1 (10<(x.1.length:Int)) then if inb 8 x.1.length then let j:=(w64<|rd (dfl .u8) x.1 8);(if inb 9 x.1.length then if inb 10 x.1.length then let k:=(w64<|(w64<|(w64<|rd (dfl .u8) x.1 9) * 256)+(w64<|rd (dfl .u8) x.1 10));(if(A1 (0<=15)&&A1 (15<=(x.1.length:Int)))&&(A1 (0<=11)&&A1 (11<=15)) then let l:=(BF<|Bm (AL 11)<|BH (AL 15) x.1);I (.inr (x.1,(0,0,0,0,0,0,0,0,0,noB,()),(b,c,d,e,f,g,h,j,k,l,()),())) else U) else U else U) else U else I (.inr (x.1,(0,0,0,0,0,0,0,0,0,noB,()),(b,c,d,e,f,g,h,0,0,noB,()),())))) else U else U else U else U else U else U else U else U
def qD:Ent:=(99,U,⟨[.fz .u8],[Z13,.bool],bF⟩)
def acS:SQ Tryz.prog qD:=sk (v:=t1<|t1<|t1<|.join [(0,.sl .u8),(2,Z14),(4,Z14)] .nil .nil) (fn:=Tryz.f99) agN kN
def ak9:Cx:=cX [Gi,V7] [] [(12,18),(41,44)]
def an2:OKC Tryz.prog ak9 AF:=okc mixed<|gC HA<|gC aN<|AJ
def O1(x:Y7×A2):Option ((Bool×A2)×A2):=if Ak (!(A1<|2400<(x.1.1.size:Int))) ((D5 (x.1.2.1,0,(x.1.1.size:Int),())).isSome) then if(A1<|2400<(x.1.1.size:Int))||(!(((D5 (x.1.2.1,0,(x.1.1.size:Int),())).getD ((A3,()),())).1.1)) then I ((A3,()),()) else(LJ (x.1.1,())).bind λa=>if A1 (0<=x.1.2.1)&&A1 (x.1.2.1<=(x.1.1.size:Int)) then(LJ ((x.1.1.extract (0)<|AL x.1.2.1),())).bind λb=>let c:=((A1<|a.1.2.1=(x.1.1.size:Int))&&(A1<|b.1.2.1=x.1.2.1));I ((c,()),()) else U else U
def Rq:Ent:=(96,U,⟨[Z15],[.bool],O1⟩)
def UT:SQ Tryz.prog Rq:=sk (v:= .nil) (fn:=Tryz.f96) an2 kN
def apa:Cx:=cX [Gi] [] [(8,9)]
def aqV:OKC Tryz.prog apa AF:=okc mixed<|gC HA<|AJ
def Me(x:Int×Int×A2):Option ((Bool×A2)×A2):=(D5 (x.1,1,6,())).bind λa=>if Ak a.1.1 ((D5 (x.2.1,0,999,())).isSome) then let b:=(a.1.1&&(((D5 (x.2.1,0,999,())).getD ((A3,()),())).1.1));I ((b,()),()) else U
def WM:Ent:=(177,U,⟨[.int .i64,.int .i64],[.bool],Me⟩)
def dW:SQ Tryz.prog WM:=sk (v:= .nil) (fn:=Tryz.f177) aqV kN
def akX:Cx:=cX [WM] [] [(10,13)]
def amx:OKC Tryz.prog akX AF:=okc mixed<|gC dW<|AJ
def Rt(x:Int×Y8×A2):Option ((Bool×A2)×A2):=(Me (x.1,x.2.1.1,())).bind λa=>let b:=(a.1.1&&(A1<|(x.2.1.2.1.size:Int)=4));I ((b,()),())
def fj:Ent:=(132,U,⟨[.int .i64,Z16],[.bool],Rt⟩)
def adR:SQ Tryz.prog fj:=sk (v:= .nil) (fn:=Tryz.f132) amx kN
def ajW:Cx:=cX [] [] []
def ale:OKC Tryz.prog ajW AF:=okc mixed<|AJ
def LR(x:Int×A2):Option ((Int×A2)×A2):=let a:=(w64<|Ax (w64<|(w64<|x.1+4) - 1) 4);I ((a,()),())
def VY:Ent:=(133,U,⟨[.int .i64],[.int .i64],LR⟩)
def aY:SQ Tryz.prog VY:=sk (v:= .nil) (fn:=Tryz.f133) ale kN
def ahX:Cx:=cX [IH,Gi,fj,VY] [] []
def rQ:OKC Tryz.prog ahX AF:=okc mixed<|gC Ii<|gC HA<|gC adR<|gC aY<|AJ
def bd(x:Y9×Int×Int×A2):Rnd (Y9×Int×Int×A2) (Bool×A2) (Y9×Int×A2):=if A1 (x.2.2.1<x.2.1) then if inb x.2.2.1 x.1.2.2.2.2.2.1.length then if inb x.2.1 x.1.2.2.2.2.2.1.length then if A1 ((rd (dfl .mixed) x.1.2.2.2.2.2.1 x.2.2.1).nu=(rd (dfl .mixed) x.1.2.2.2.2.2.1 x.2.1).nu) then I (.inr<|.inl (A3,())) else I (.inl (x.1,x.2.1,(w64<|x.2.2.1+1),())) else U else U else I (.inr<|.inr (x.1,x.2.1,()))
def ow:=AR bd
def sn:Loop:=⟨[(1,Z17),(3,.int .i64),(4,.int .i64)],[(1,Z17),(3,.int .i64)],2,[(2,.bool)],ow⟩
def ah9:LF Tryz.f97 [] [1,1,0,1,0,0,1,0,0,1,1,0,0] sn:=sq (v:= .nil) rQ (b:=bd) kN
def bf(x:Y9×Int×A2):Rnd (Y9×Int×A2) (Bool×A2) (A2):=if A1 (x.2.1<(x.1.2.2.2.2.2.1.length:Int)) then(LR (x.1.2.2.2.2.1,())).bind λb=>if inb x.2.1 x.1.2.2.2.2.2.1.length then(Rt (b.1.1,((rd (dfl .mixed) x.1.2.2.2.2.2.1 x.2.1).nu,(rd (dfl .mixed) x.1.2.2.2.2.2.1 x.2.1).da,()),())).bind λc=>if !c.1.1 then I (.inr<|.inl (A3,())) else(AM (ow (x.1,x.2.1,0,())) (λa=>I<|.inr<|.inl a) λa=>I<|.inl (a.1,(w64<|a.2.1+1),())) else U else I (.inr<|.inr ())
def oy:=AR bf
def sr:Loop:=⟨[(1,Z17),(3,.int .i64)],[],0,[(2,.bool)],oy⟩
def agv:LF Tryz.f97 [] [1,1,0,1,0,0] sr:=sq (v:=t1<|.two (.one<|t1<|t1<|.one<|.loop sn) .nil) rQ (b:=bf)<|kC ah9 kN
def cK(x:Y9×A2):Option ((Bool×A2)×A2):=(FI (x.1.1,())).bind λb=>if !b.1.1 then I ((A3,()),()) else(FI (x.1.2.2.1,())).bind λc=>if !c.1.1 then I ((A3,()),()) else(D5 (x.1.2.1,1,99,())).bind λd=>if !d.1.1 then I ((A3,()),()) else(D5 (x.1.2.2.2.1,1,999,())).bind λe=>if !e.1.1 then I ((A3,()),()) else(D5 (x.1.2.2.2.2.1,1,24,())).bind λf=>if !f.1.1 then I ((A3,()),()) else if A1 (14<(x.1.2.2.2.2.2.1.length:Int)) then I ((A3,()),()) else(AM (oy (x.1,0,())) (λa=>I (a,())) λa=>I ((A0,()),()))
def vF:Ent:=(97,U,⟨[Z18],[.bool],cK⟩)
def ae6:SQ Tryz.prog vF:=sk (v:=t1<|t1<|.two (t1<|.one<|.loop sr) .nil) (fn:=Tryz.f97) rQ<|kC agv kN
def aj5:Cx:=cX [Iq,IH,V7,iB,Rq,vF] [] [(64,65),(100,112)]
def rp:OKC Tryz.prog aj5 AF:=okc mixed<|gC JS<|gC Ii<|gC aN<|gC ta<|gC UT<|gC ae6<|AJ
def cR(x:Y1×Int×Int×A2):Rnd (Y1×Int×Int×A2) (Bool×A2) (Y1×Int×A2):=if A1 (x.2.2.1<x.2.1) then if inb x.2.2.1 x.1.2.2.2.2.1.length then if inb x.2.1 x.1.2.2.2.2.1.length then if Ak (A1<|(rd (dfl .half) x.1.2.2.2.2.1 x.2.2.1).fr=(rd (dfl .half) x.1.2.2.2.2.1 x.2.1).fr) (inb x.2.2.1 x.1.2.2.2.2.1.length) then if Ak (A1<|(rd (dfl .half) x.1.2.2.2.2.1 x.2.2.1).fr=(rd (dfl .half) x.1.2.2.2.2.1 x.2.1).fr) (inb x.2.1 x.1.2.2.2.2.1.length) then if(A1<|(rd (dfl .half) x.1.2.2.2.2.1 x.2.2.1).fr=(rd (dfl .half) x.1.2.2.2.2.1 x.2.1).fr)&&(A1<|(rd (dfl .half) x.1.2.2.2.2.1 x.2.2.1).nu=(rd (dfl .half) x.1.2.2.2.2.1 x.2.1).nu) then I (.inr<|.inl (A3,())) else I (.inl (x.1,x.2.1,(w64<|x.2.2.1+1),())) else U else U else U else U else I (.inr<|.inr (x.1,x.2.1,()))
def pQ:=AR cR
def tU:Loop:=⟨[(1,Z19),(9,.int .i64),(10,.int .i64)],[(1,Z19),(9,.int .i64)],2,[(2,.bool)],pQ⟩
def aib:LF Tryz.f65 [] [1,1,1,1,1,1,0,1,0,0,1,0,0,1,1,0,0] tU:=sq (v:= .nil) rp (b:=cR) kN
def cS(x:Y1×Int×A2):Rnd (Y1×Int×A2) (Bool×A2) (A2):=if A1 (x.2.1<(x.1.2.2.2.2.1.length:Int)) then if inb x.2.1 x.1.2.2.2.2.1.length then(cK (((rd (dfl .half) x.1.2.2.2.2.1 x.2.1).fr,(rd (dfl .half) x.1.2.2.2.2.1 x.2.1).nu,(rd (dfl .half) x.1.2.2.2.2.1 x.2.1).to,(rd (dfl .half) x.1.2.2.2.2.1 x.2.1).un,(rd (dfl .half) x.1.2.2.2.2.1 x.2.1).sz,(rd (dfl .half) x.1.2.2.2.2.1 x.2.1).got,()),())).bind λb=>if !b.1.1 then I (.inr<|.inl (A3,())) else(AM (pQ (x.1,x.2.1,0,())) (λa=>I<|.inr<|.inl a) λa=>I<|.inl (a.1,(w64<|a.2.1+1),())) else U else I (.inr<|.inr ())
def aZ:=AR cS
def tV:Loop:=⟨[(1,Z19),(9,.int .i64)],[],0,[(2,.bool)],aZ⟩
def aii:LF Tryz.f65 [] [1,1,1,1,1,1,0,1,0,0] tV:=sq (v:=t1<|.two (.one<|t1<|t1<|.one<|.loop tU) .nil) rp (b:=cS)<|kC aib kN
def Io(x:Y1×A2):Option ((Bool×A2)×A2):=(BS (X:=Y1×A2) (λa=>if A1 (0<=a.1.2.2.2.1)&&A1 (a.1.2.2.2.1<=(a.1.2.2.1.size:Int)) then(LJ ((a.1.2.2.1.extract (0)<|AL a.1.2.2.2.1),())).bind λc=>(Rx (a.1.1,c.1.1,())).bind λd=>(G0 a).bind λe=>if(!e.1.2.1)||(!d.1.2.1) then I ((A3,()),()) else(AM (aZ (a.1,0,())) (λb=>I (b,())) λb=>I ((A0,()),())) else U)<|(FI (x.1.1,())).bind λf=>if !f.1.1 then I (.inl ((A3,()),())) else(O1 ((x.1.2.2.1,x.1.2.2.2.1,()),())).bind λg=>if !g.1.1 then I (.inl ((A3,()),())) else if A1 (3<(x.1.2.2.2.2.1.length:Int)) then I (.inl ((A3,()),())) else if !x.1.2.1 then if A1 (0<(x.1.2.2.2.2.1.length:Int)) then I (.inl ((A3,()),())) else I (.inr x) else I (.inr x))
def KH:Ent:=(65,U,⟨[Z12],[.bool],Io⟩)
def LH:SQ Tryz.prog KH:=sk (v:=t1<|.join [(1,Z19)] .nil<|t1<|t1<|t1<|t1<|.two (t1<|.one<|.loop tV) .nil) (fn:=Tryz.f65) rp<|kC aii kN
def aka:Cx:=cX [] [] []
def yC:OKC Tryz.prog aka AF:=okc mixed<|AJ
def dU(x:Y1×Y1×List AH×Int×A2):Rnd (Y1×Y1×List AH×Int×A2) (A2) (Y1×Y1×List AH×A2):=if A1 (x.2.2.2.1<(x.1.2.2.2.2.1.length:Int)) then if inb x.2.2.2.1 x.1.2.2.2.2.1.length then let b:=(rd (dfl .half) x.1.2.2.2.2.1 x.2.2.2.1).fr;let c:=(rd (dfl .half) x.1.2.2.2.2.1 x.2.2.2.1).nu;let d:=(rd (dfl .half) x.1.2.2.2.2.1 x.2.2.2.1).to;let e:=(rd (dfl .half) x.1.2.2.2.2.1 x.2.2.2.1).un;let f:=(rd (dfl .half) x.1.2.2.2.2.1 x.2.2.2.1).sz;let a:=(rd (dfl .half) x.1.2.2.2.2.1 x.2.2.2.1).got;if Ac (([]:List AT).length+a.length) then if Ac (x.2.2.1.length+([(AH.mk b c d e f<|([]:List AT)++a)]:List AH).length) then I (.inl (x.1,x.2.1,(x.2.2.1++([(AH.mk b c d e f<|([]:List AT)++a)]:List AH)),(w64<|x.2.2.2.1+1),())) else U else U else U else I (.inr<|.inr (x.1,x.2.1,x.2.2.1,()))
def pf:=AR dU
def uf:Loop:=⟨[(1,Z19),(2,Z20),(3,.row 85 .half),(4,.int .i64)],[(1,Z19),(2,Z20),(3,.row 85 .half)],0,[],pf⟩
def akp:LF Tryz.f67 [] [1,1,0,1,0,0] uf:=sq (v:= .nil) yC (b:=dU) kN
def Gh(x:Y1×A2):Option ((Y1×A2)×A2):=(AM (pf (x.1,(0,A3,noB,0,([]:List AH),()),([]:List AH),0,())) (λ_=>U) λa=>I (((a.1.1,a.1.2.1,a.1.2.2.1,a.1.2.2.2.1,a.2.2),()),()))
def MV:Ent:=(67,U,⟨[Z12],[Z1],Gh⟩)
def Nq:SQ Tryz.prog MV:=sk (v:=t1<|t1<|.two (t1<|.one<|.loop uf) .nil) (fn:=Tryz.f67) yC<|kC akp kN
def aje:Cx:=cX [Gi] [] []
def al4:OKC Tryz.prog aje AF:=okc mixed<|gC HA<|AJ
def cq(x:A4×A2):Option ((Bool×A2)×A2):=(D5 ((x.1.size:Int),1,60,())).bind λa=>I (a.1,())
def re:Ent:=(191,U,⟨[.str],[.bool],cq⟩)
def adB:SQ Tryz.prog re:=sk (v:= .nil) (fn:=Tryz.f191) al4 kN
def anC:Cx:=cX [OC] [] []
def aoR:OKC Tryz.prog anC AF:=okc mixed<|gC PY<|AJ
def Po(x:A4×A2):Option ((A4×A2)×A2):=(DQ ((x.1.size:Int),())).bind λa=>if A1 (a.1.1.size+(B [58]).size<=4611686018427387904) then if A1 ((a.1.1++(B [58])).size+x.1.size<=4611686018427387904) then if A1 (((a.1.1++(B [58]))++x.1).size+(B [59]).size<=4611686018427387904) then let b:=(((a.1.1++(B [58]))++x.1)++(B [59]));I ((b,()),()) else U else U else U
def hY:Ent:=(192,U,⟨[.str],[.str],Po⟩)
def tQ:SQ Tryz.prog hY:=sk (v:= .nil) (fn:=Tryz.f192) aoR kN
def aha:Cx:=cX [Rq,re,hY] [] []
def vU:OKC Tryz.prog aha AF:=okc mixed<|gC UT<|gC adB<|gC tQ<|AJ
def RV(x:List A4×Y7×Y7×A4×Int×A2):Rnd (List A4×Y7×Y7×A4×Int×A2) (Y7×Bool×A2) (Y7×Y7×A4×A2):=if A1 (x.2.2.2.2.1<(x.1.length:Int)) then if inb x.2.2.2.2.1 x.1.length then(cq ((rd (dfl .str) x.1 x.2.2.2.2.1),())).bind λb=>if !b.1.1 then I (.inr<|.inl (x.2.1,A3,())) else if inb x.2.2.2.2.1 x.1.length then(Po ((rd (dfl .str) x.1 x.2.2.2.2.1),())).bind λa=>if A1 (x.2.2.2.1.size+a.1.1.size<=4611686018427387904) then I (.inl (x.1,x.2.1,x.2.2.1,(x.2.2.2.1++a.1.1),(w64<|x.2.2.2.2.1+1),())) else U else U else U else I (.inr<|.inr (x.2.1,x.2.2.1,x.2.2.2.1,()))
def aO:=AR RV
def sw:Loop:=⟨[(1,.sl .str),(2,Z21),(4,Z21),(6,.str),(7,.int .i64)],[(2,Z21),(4,Z21),(6,.str)],0,[(4,Z21),(5,.bool)],aO⟩
def agx:LF Tryz.f145 [] [1,1,1,0,1,0,0] sw:=sq (v:= .nil) vU (b:=RV) kN
def RZ(x:Y7×List A4×A2):Option ((Y7×Bool×A2)×A2):=(O1 (x.1,())).bind λb=>if !b.1.1 then I (((noB,0,()),A3,()),()) else(AM (aO (x.2.1,x.1,(noB,0,()),noB,0,())) (λa=>I (a,())) λa=>(if A1 (2400<(a.2.2.1.size:Int)) then I ((a.1,A3,()),()) else I (((a.2.2.1,(a.2.2.1.size:Int),()),A0,()),())))
def rI:Ent:=(145,U,⟨[Z15,.fz .str],[Z15,.bool],RZ⟩)
def acv:SQ Tryz.prog rI:=sk (v:=t1<|t1<|t1<|.two (t1<|.one<|.loop sw) .nil) (fn:=Tryz.f145) vU<|kC agx kN
def aj6:Cx:=cX [OC,iA,V8] [] []
def dO:OKC Tryz.prog aj6 AF:=okc mixed<|gC PY<|gC tZ<|gC aQ<|AJ
def cU(x:Y3×List A4×Int×A2):Rnd (Y3×List A4×Int×A2) (A2) (List A4×A2):=if A1 (x.2.2.1<(x.1.2.2.2.2.2.1.length:Int)) then if inb x.2.2.1 x.1.2.2.2.2.2.1.length then(MY (((rd (dfl .note) x.1.2.2.2.2.2.1 x.2.2.1).fr,(rd (dfl .note) x.1.2.2.2.2.2.1 x.2.2.1).nu,(rd (dfl .note) x.1.2.2.2.2.2.1 x.2.2.1).to,(rd (dfl .note) x.1.2.2.2.2.2.1 x.2.2.1).un,(rd (dfl .note) x.1.2.2.2.2.2.1 x.2.2.1).tx,()),())).bind λa=>if A1 ((B [105,110,98,111,120,32]).size+a.1.1.size<=4611686018427387904) then if Ac (x.2.1.length+([((B [105,110,98,111,120,32])++a.1.1)]:List A4).length) then I (.inl (x.1,(x.2.1++([((B [105,110,98,111,120,32])++a.1.1)]:List A4)),(w64<|x.2.2.1+1),())) else U else U else U else I (.inr<|.inr (x.2.1,()))
def ab:=AR cU
def tW:Loop:=⟨[(1,Z7),(3,.row 9 .str),(7,.int .i64)],[(3,.row 9 .str)],4,[],ab⟩
def aiZ:LF Tryz.f146 [] [1,1,1,1,1,1,1,0,1,0,0] tW:=sq (v:= .nil) dO (b:=cU) kN
def cV(x:Y3×List A4×Int×A2):Rnd (Y3×List A4×Int×A2) (A2) (Y3×List A4×A2):=if A1 (x.2.2.1<(x.1.2.2.2.1.length:Int)) then if inb x.2.2.1 x.1.2.2.2.1.length then(MY (((rd (dfl .note) x.1.2.2.2.1 x.2.2.1).fr,(rd (dfl .note) x.1.2.2.2.1 x.2.2.1).nu,(rd (dfl .note) x.1.2.2.2.1 x.2.2.1).to,(rd (dfl .note) x.1.2.2.2.1 x.2.2.1).un,(rd (dfl .note) x.1.2.2.2.1 x.2.2.1).tx,()),())).bind λa=>if A1 ((B [104,101,108,100,32]).size+a.1.1.size<=4611686018427387904) then if Ac (x.2.1.length+([((B [104,101,108,100,32])++a.1.1)]:List A4).length) then I (.inl (x.1,(x.2.1++([((B [104,101,108,100,32])++a.1.1)]:List A4)),(w64<|x.2.2.1+1),())) else U else U else U else I (.inr<|.inr (x.1,x.2.1,()))
def ae:=AR cV
def tX:Loop:=⟨[(1,Z7),(3,.row 9 .str),(6,.int .i64)],[(1,Z7),(3,.row 9 .str)],2,[],ae⟩
def aic:LF Tryz.f146 [] [1,1,1,1,1,1,0,1,0,0] tX:=sq (v:= .nil) dO (b:=cV) kN
def cG(x:Y3×List A4×Int×A2):Rnd (Y3×List A4×Int×A2) (A2) (Y3×List A4×A2):=if A1 (x.2.2.1<(x.1.2.2.2.2.1.length:Int)) then if inb x.2.2.1 x.1.2.2.2.2.1.length then let d:=(rd (dfl .mark) x.1.2.2.2.2.1 x.2.2.1).mf;let e:=(rd (dfl .mark) x.1.2.2.2.2.1 x.2.2.1).mn;let f:=(rd (dfl .mark) x.1.2.2.2.2.1 x.2.2.1).mu;(DQ (d,())).bind λa=>if A1 ((B [109,97,114,107,32]).size+a.1.1.size<=4611686018427387904) then if A1 (((B [109,97,114,107,32])++a.1.1).size+(B [32]).size<=4611686018427387904) then(DQ (e,())).bind λb=>if A1 ((((B [109,97,114,107,32])++a.1.1)++(B [32])).size+b.1.1.size<=4611686018427387904) then if A1 (((((B [109,97,114,107,32])++a.1.1)++(B [32]))++b.1.1).size+(B [32]).size<=4611686018427387904) then(DQ (f,())).bind λc=>if A1 ((((((B [109,97,114,107,32])++a.1.1)++(B [32]))++b.1.1)++(B [32])).size+c.1.1.size<=4611686018427387904) then if Ac (x.2.1.length+([((((((B [109,97,114,107,32])++a.1.1)++(B [32]))++b.1.1)++(B [32]))++c.1.1)]:List A4).length) then I (.inl (x.1,(x.2.1++([((((((B [109,97,114,107,32])++a.1.1)++(B [32]))++b.1.1)++(B [32]))++c.1.1)]:List A4)),(w64<|x.2.2.1+1),())) else U else U else U else U else U else U else U else I (.inr<|.inr (x.1,x.2.1,()))
def af:=AR cG
def tY:Loop:=⟨[(1,Z7),(3,.row 9 .str),(4,.int .i64)],[(1,Z7),(3,.row 9 .str)],0,[],af⟩
def aij:LF Tryz.f146 [] [1,1,1,1,1,0,1,0,0] tY:=sq (v:= .nil) dO (b:=cG) kN
def VJ(x:Y3×A2):Option ((List A4×A2)×A2):=(Pp x).bind λg=>if !g.1.1 then I ((([]:List A4),()),()) else(BS (X:=Y3×List A4×A2) (λa=>(BS (X:=Y3×List A4×A2) (λd=>(AM (af (d.1,d.2.1,0,())) (λ_=>U) λe=>(AM (ae (e.1,e.2.1,0,())) (λ_=>U) λf=>(AM (ab (f.1,f.2.1,0,())) (λ_=>U) λh=>I (h,())))))<|(if A1 (1<a.1.2.2.1) then(DQ (a.1.2.2.1,())).bind λb=>if A1 ((B [110,101,120,116,32]).size+b.1.1.size<=4611686018427387904) then if Ac (a.2.1.length+([((B [110,101,120,116,32])++b.1.1)]:List A4).length) then I (.inr (a.1,(a.2.1++([((B [110,101,120,116,32])++b.1.1)]:List A4)),())) else U else U else I (.inr a))))<|(if A1 (0<x.1.2.1) then(DQ (x.1.2.1,())).bind λc=>if A1 ((B [116,105,109,101,32]).size+c.1.1.size<=4611686018427387904) then if Ac (([]:List A4).length+([((B [116,105,109,101,32])++c.1.1)]:List A4).length) then I (.inr (x.1,(([]:List A4)++([((B [116,105,109,101,32])++c.1.1)]:List A4)),())) else U else U else I (.inr (x.1,([]:List A4),()))))
def rj:Ent:=(146,U,⟨[Z8],[.row 9 .str],VJ⟩)
def adG:SQ Tryz.prog rj:=sk (v:=t1<|t1<|t1<|.join [(1,Z7),(3,.row 9 .str)] .nil<|.join [(1,Z7),(3,.row 9 .str)] .nil<|.two (t1<|.one<|.loop tY)<|.two (t1<|.one<|.loop tX)<|.two (t1<|.one<|.loop tW) .nil) (fn:=Tryz.f146) dO<|kC aij<|kC aic<|kC aiZ kN
def aga:Cx:=cX [Rq] [] []
def ahx:OKC Tryz.prog aga AF:=okc mixed<|gC UT<|AJ
def PW(x:Y7×A2):Option ((Y7×A2)×A2):=(O1 x).bind λa=>if !a.1.1 then I (((noB,0,()),()),()) else I (((x.1.1,(x.1.1.size:Int),()),()),())
def bk:Ent:=(147,U,⟨[Z15],[Z15],PW⟩)
def og:SQ Tryz.prog bk:=sk (v:= .nil) (fn:=Tryz.f147) ahx kN
def ajf:Cx:=cX [Rq,re,hY] [] [(14,21)]
def al5:OKC Tryz.prog ajf AF:=okc mixed<|gC UT<|gC adB<|gC tQ<|AJ
def Rj(x:Y7×A4×A2):Option ((Y7×Bool×A2)×A2):=(O1 (x.1,())).bind λc=>if !c.1.1 then I (((noB,0,()),A3,()),()) else(cq x.2).bind λa=>if Ak (!(!a.1.1)) ((Po x.2).isSome) then if(!a.1.1)||(A1<|2400<(w64<|(x.1.1.size:Int)+((((Po x.2).getD ((noB,()),())).1.1).size:Int))) then I ((x.1,A3,()),()) else(Po x.2).bind λb=>if A1 (x.1.1.size+b.1.1.size<=4611686018427387904) then I ((((x.1.1++b.1.1),x.1.2),A0,()),()) else U else U
def wG:Ent:=(186,U,⟨[Z15,.str],[Z15,.bool],Rj⟩)
def aex:SQ Tryz.prog wG:=sk (v:= .nil) (fn:=Tryz.f186) al5 kN
def ajX:Cx:=cX [Iq,iC,rI,rj,bk,wG] [] []
def alf:OKC Tryz.prog ajX AF:=okc mixed<|gC JS<|gC tb<|gC acv<|gC adG<|gC og<|gC aex<|AJ
def KE(x:Y1×A4×Bool×A2):Option ((Y1×Bool×A2)×A2):=(G0 (x.1,())).bind λb=>(Ry (b.1.1,x.2.1,())).bind λe=>if !e.1.2.1 then I ((x.1,A3,()),()) else(Rj ((x.1.2.2.1,x.1.2.2.2.1,()),x.2.1,())).bind λc=>(BS (X:=Bool×Y1×Y1×Y7×Bool×A2) (λa=>if !a.2.2.2.2.1 then I ((a.2.1,A3,()),()) else if a.1 then(PW (a.2.2.2.1,())).bind λd=>I (((a.2.1.1,a.2.1.2.1,d.1.1.1,d.1.1.2.1,a.2.1.2.2.2.2),A0,()),()) else I (((a.2.1.1,a.2.1.2.1,a.2.2.2.1.1,a.2.2.2.1.2.1,a.2.1.2.2.2.2),A0,()),()))<|(if !c.1.2.1 then(VJ (b.1.1,())).bind λf=>(RZ ((x.1.2.2.1,x.1.2.2.2.1,()),f.1)).bind λg=>(Rj (g.1.1,x.2.1,())).bind λh=>I (.inr (x.2.2.1,x.1,(0,A3,noB,0,([]:List AH),()),h.1)) else I (.inr (x.2.2.1,x.1,(0,A3,noB,0,([]:List AH),()),c.1))))
def Ri:Ent:=(138,U,⟨[Z12,.str,.bool],[Z12,.bool],KE⟩)
def UL:SQ Tryz.prog Ri:=sk (v:=t1<|t1<|t1<|t1<|t1<|.join [(2,.bool),(3,Z19),(6,Z20),(12,Z21),(13,.bool)] .nil .nil) (fn:=Tryz.f138) alf kN
def ahY:Cx:=cX [] [] []
def ajM:OKC Tryz.prog ahY AF:=okc mixed<|AJ
def cL(x:Int×Y6×A2):Option ((Y6×A2)×A2):=I (((x.1,x.2.1.2.2.1,x.2.1.2.1,x.2.1.2.2.2.1,x.2.1.2.2.2.2.1,x.2.1.2.2.2.2.2.1,x.2.1.2.2.2.2.2.2.1,0,0,noB,()),()),())
def vG:Ent:=(180,U,⟨[.int .i64,Z13],[Z13],cL⟩)
def ae7:SQ Tryz.prog vG:=sk (v:= .nil) (fn:=Tryz.f180) ajM kN
def akZ:Cx:=cX [] [] []
def amy:OKC Tryz.prog akZ AF:=okc mixed<|AJ
def Pl(x:List AH×Int×A2):Option ((List AH×A2)×A2):=if A1 (0<=x.2.1)&&A1 (x.2.1<=(x.1.length:Int)) then if Ac (([]:List AH).length+(BH (AL x.2.1) x.1).length) then if A1 (0<=(w64<|x.2.1+1))&&A1 ((w64<|x.2.1+1)<=(x.1.length:Int)) then if Ac ((([]:List AH)++(BH (AL x.2.1) x.1)).length+(Bm (AL<|w64<|x.2.1+1) x.1).length) then I ((((([]:List AH)++(BH (AL x.2.1) x.1))++(Bm (AL<|w64<|x.2.1+1) x.1)),()),()) else U else U else U else U
def fl:Ent:=(184,U,⟨[.fz .half,.int .i64],[.row 85 .half],Pl⟩)
def su:SQ Tryz.prog fl:=sk (v:= .nil) (fn:=Tryz.f184) amy kN
def akY:Cx:=cX [] [] [(22,28)]
def yB:OKC Tryz.prog akY AF:=okc mixed<|AJ
def dT(x:List AH×Int×Int×Int×A2):Rnd (List AH×Int×Int×Int×A2) (Int×A2) (A2):=if A1 (x.2.2.2.1<(x.1.length:Int)) then if inb x.2.2.2.1 x.1.length then if Ak (A1<|(rd (dfl .half) x.1 x.2.2.2.1).fr=x.2.1) (inb x.2.2.2.1 x.1.length) then if(A1<|(rd (dfl .half) x.1 x.2.2.2.1).fr=x.2.1)&&(A1<|(rd (dfl .half) x.1 x.2.2.2.1).nu=x.2.2.1) then I (.inr<|.inl x.2.2.2) else I (.inl (x.1,x.2.1,x.2.2.1,(w64<|x.2.2.2.1+1),())) else U else U else I (.inr<|.inr ())
def pe:=AR dT
def ue:Loop:=⟨[(0,.sl .half),(1,.int .i64),(2,.int .i64),(7,.int .i64)],[],0,[(6,.int .i64)],pe⟩
def ako:LF Tryz.f221 [] [1,0,1,0,0] ue:=sq (v:= .nil) yB (b:=dT) kN
def dr(x:List AH×Int×Int×A2):Option ((Int×A2)×A2):=(AM (pe (x.1,x.2.1,x.2.2.1,0,())) (λa=>I (a,())) λa=>I (((-1),()),()))
def yP:Ent:=(221,U,⟨[.fz .half,.int .i64,.int .i64],[.int .i64],dr⟩)
def afZ:SQ Tryz.prog yP:=sk (v:=t1<|.two (t1<|.one<|.loop ue) .nil) (fn:=Tryz.f221) yB<|kC ako kN
def amM:Cx:=cX [fl,yP] [] []
def z7:OKC Tryz.prog amM AF:=okc mixed<|gC su<|gC afZ<|AJ
def dt(x:Y1×Y6×Y1×Int×Y9×List AT×Int×A2):Rnd (Y1×Y6×Y1×Int×Y9×List AT×Int×A2) (A2) (Y1×Y6×Y1×Int×Y9×List AT×A2):=if A1 (x.2.2.2.2.2.2.1<(x.2.2.2.2.1.2.2.2.2.2.1.length:Int)) then if inb x.2.2.2.2.2.2.1 x.2.2.2.2.1.2.2.2.2.2.1.length then if !decide ((rd (dfl .mixed) x.2.2.2.2.1.2.2.2.2.2.1 x.2.2.2.2.2.2.1).nu=x.2.1.2.2.2.2.2.2.2.2.1) then if inb x.2.2.2.2.2.2.1 x.2.2.2.2.1.2.2.2.2.2.1.length then if Ac (x.2.2.2.2.2.1.length+([(rd (dfl .mixed) x.2.2.2.2.1.2.2.2.2.2.1 x.2.2.2.2.2.2.1)]:List AT).length) then let a:=(w64<|x.2.2.2.2.2.2.1+1);I (.inl (x.1,x.2.1,x.2.2.1,x.2.2.2.1,x.2.2.2.2.1,(x.2.2.2.2.2.1++([(rd (dfl .mixed) x.2.2.2.2.1.2.2.2.2.2.1 x.2.2.2.2.2.2.1)]:List AT)),a,())) else U else U else let b:=(w64<|x.2.2.2.2.2.2.1+1);I (.inl (x.1,x.2.1,x.2.2.1,x.2.2.2.1,x.2.2.2.2.1,x.2.2.2.2.2.1,b,())) else U else I (.inr<|.inr (x.1,x.2.1,x.2.2.1,x.2.2.2.1,x.2.2.2.2.1,x.2.2.2.2.2.1,()))
def bg:=AR dt
def wj:Loop:=⟨[(2,Z20),(3,Z14),(4,Z20),(6,.int .i64),(7,Z17),(8,.row 122 .mixed),(9,.int .i64)],[(2,Z20),(3,Z14),(4,Z20),(6,.int .i64),(7,Z17),(8,.row 122 .mixed)],0,[],bg⟩
def am1:LF Tryz.f182 [] [1,1,1,1,1,1,0,1,0,0] wj:=sq (v:= .nil) z7 (b:=dt) kN
def ey(x:Y1×Y6×A2):Option ((Y1×Int×A2)×A2):=(dr (x.1.2.2.2.2.1,x.2.1.2.2.2.1,x.2.1.2.2.2.2.1,())).bind λe=>(BS (X:=Y1×Y6×Y1×Int×A2) (λa=>if inb a.2.2.2.1 a.1.2.2.2.2.1.length then let i:=(rd (dfl .half) a.1.2.2.2.2.1 a.2.2.2.1).fr;let j:=(rd (dfl .half) a.1.2.2.2.2.1 a.2.2.2.1).nu;let f:=(rd (dfl .half) a.1.2.2.2.2.1 a.2.2.2.1).to;let g:=(rd (dfl .half) a.1.2.2.2.2.1 a.2.2.2.1).un;let h:=(rd (dfl .half) a.1.2.2.2.2.1 a.2.2.2.1).sz;let k:=(rd (dfl .half) a.1.2.2.2.2.1 a.2.2.2.1).got;if !decide (f=a.2.1.2.2.2.2.2.1) then I ((a.1,(-1),()),()) else if !decide (g=a.2.1.2.2.2.2.2.2.1) then I ((a.1,(-1),()),()) else if !decide (h=a.2.1.2.2.2.2.2.2.2.1) then I ((a.1,(-1),()),()) else(AM (bg (a.1,a.2.1,a.2.2.1,a.2.2.2.1,(i,j,f,g,h,k,()),([]:List AT),0,())) (λ_=>U) λd=>(BS (X:=Y1×Y6×Y1×Int×Y9×List AT×A2) (λc=>if Ac (c.2.2.2.2.2.1.length+([(AT.mk c.2.1.2.2.2.2.2.2.2.2.1 c.2.1.2.2.2.2.2.2.2.2.2.1)]:List AT).length) then if inb c.2.2.2.1 c.1.2.2.2.2.1.length then I (((c.1.1,c.1.2.1,c.1.2.2.1,c.1.2.2.2.1,(Bn c.1.2.2.2.2.1 (AL c.2.2.2.1)<|AH.mk c.2.2.2.2.1.1 c.2.2.2.2.1.2.1 c.2.2.2.2.1.2.2.1 c.2.2.2.2.1.2.2.2.1 c.2.2.2.2.1.2.2.2.2.1<|c.2.2.2.2.2.1++([(AT.mk c.2.1.2.2.2.2.2.2.2.2.1 c.2.1.2.2.2.2.2.2.2.2.2.1)]:List AT)),()),c.2.2.2.1,()),()) else U else U)<|(if A1 (14<=(d.2.2.2.2.2.1.length:Int)) then if A1 (0<=1)&&A1 (1<=(d.2.2.2.2.2.1.length:Int)) then if Ac (([]:List AT).length+(Bm (AL 1) d.2.2.2.2.2.1).length) then I (.inr (d.1,d.2.1,d.2.2.1,d.2.2.2.1,d.2.2.2.2.1,(([]:List AT)++(Bm (AL 1) d.2.2.2.2.2.1)),())) else U else U else I (.inr d)))) else U)<|(if A1 (e.1.1<0) then(BS (X:=Y1×Y6×Y1×A2) (λb=>if Ac (b.1.2.2.2.2.1.length+([(AH.mk b.2.1.2.2.2.1 b.2.1.2.2.2.2.1 b.2.1.2.2.2.2.2.1 b.2.1.2.2.2.2.2.2.1 b.2.1.2.2.2.2.2.2.2.1 ([]:List AT))]:List AH).length) then let l:=(w64<|((b.1.2.2.2.2.1++([(AH.mk b.2.1.2.2.2.1 b.2.1.2.2.2.2.1 b.2.1.2.2.2.2.2.1 b.2.1.2.2.2.2.2.2.1 b.2.1.2.2.2.2.2.2.2.1 ([]:List AT))]:List AH)).length:Int) - 1);I (.inr ((b.1.1,b.1.2.1,b.1.2.2.1,b.1.2.2.2.1,(b.1.2.2.2.2.1++([(AH.mk b.2.1.2.2.2.1 b.2.1.2.2.2.2.1 b.2.1.2.2.2.2.2.1 b.2.1.2.2.2.2.2.2.1 b.2.1.2.2.2.2.2.2.2.1 ([]:List AT))]:List AH)),()),b.2.1,b.2.2.1,l,())) else U)<|(if A1 (3<=(x.1.2.2.2.2.1.length:Int)) then(Pl (x.1.2.2.2.2.1,0,())).bind λm=>I (.inr ((x.1.1,x.1.2.1,x.1.2.2.1,x.1.2.2.2.1,m.1),x.2.1,(0,A3,noB,0,([]:List AH),()),())) else I (.inr (x.1,x.2.1,(0,A3,noB,0,([]:List AH),()),())))) else I (.inr (x.1,x.2.1,(0,A3,noB,0,([]:List AH),()),e.1))))
def zV:Ent:=(182,U,⟨[Z1,Z13],[Z1,.int .i64],ey⟩)
def agF:SQ Tryz.prog zV:=sk (v:=t1<|t1<|.join [(2,Z20),(3,Z14),(4,Z20),(6,.int .i64)] (t1<|.two (.join [(2,Z20),(3,Z14),(4,Z20)] .nil .nil) .nil)<|t1<|t1<|t1<|.two (t1<|.one<|.loop wj)<|.join [(2,Z20),(3,Z14),(4,Z20),(6,.int .i64),(7,Z17),(8,.row 122 .mixed)] .nil .nil) (fn:=Tryz.f182) z7<|kC am1 kN
def ajg:Cx:=cX [Gi] [] []
def al6:OKC Tryz.prog ajg AF:=okc mixed<|gC HA<|AJ
def Pe(x:Int×A2):Option ((Int×A2)×A2):=(D5 (x.1,0,65535,())).bind λa=>if !a.1.1 then I ((0,()),()) else let b:=(BG (w64<|(w64<|x.1 * 25173)+13849) 65536);I ((b,()),())
def rf:Ent:=(223,U,⟨[.int .i64],[.int .i64],Pe⟩)
def adE:SQ Tryz.prog rf:=sk (v:= .nil) (fn:=Tryz.f223) al6 kN
def aja:Cx:=cX [] [] []
def al2:OKC Tryz.prog aja AF:=okc mixed<|AJ
def dV(x:Int×Int×A2):Option ((Int×A2)×A2):=if A1 (x.2.1=1) then if !decide (x.1=0) then let a:=(w64<|(w64<|Ax 60 x.1)+10);I ((a,()),()) else U else if !decide ((w64<|x.2.1 * (w64<|x.2.1 - 1))=0) then let b:=(w64<|Ax 60<|w64<|x.2.1 * (w64<|x.2.1 - 1));I ((b,()),()) else U
def wC:Ent:=(236,U,⟨[.int .i64,.int .i64],[.int .i64],dV⟩)
def aet:SQ Tryz.prog wC:=sk (v:= .nil) (fn:=Tryz.f236) al2 kN
def ahM:Cx:=cX [WM,rf,wC] [] []
def rR:OKC Tryz.prog ahM AF:=okc mixed<|gC dW<|gC adE<|gC aet<|AJ
def Uk(x:Int×Int×Int×A2):Rnd (Int×Int×Int×A2) (Int×A2) (Int×A2):=if A1 (x.2.2.1<x.1) then(dV (x.1,x.2.2)).bind λa=>if A1 ((w64<|x.2.1 - a.1.1)<0) then I (.inr<|.inl x.2.2) else I (.inl (x.1,(w64<|x.2.1 - a.1.1),(w64<|x.2.2.1+1),())) else I (.inr<|.inr (x.1,()))
def aR:=AR Uk
def sy:Loop:=⟨[(0,.int .i64),(7,.int .i64),(8,.int .i64)],[(0,.int .i64)],2,[(4,.int .i64)],aR⟩
def ahA:LF Tryz.f224 [] [1,1,1,1,1,1,0,1,0,0] sy:=sq (v:= .nil) rR (b:=Uk) kN
def tT(x:Int×Int×Int×Int×A2):Rnd (Int×Int×Int×Int×A2) (A2) (Int×Int×Int×A2):=if A1 (x.2.2.2.1<=x.1) then(dV (x.1,x.2.2.2)).bind λa=>I (.inl (x.1,x.2.1,(w64<|x.2.2.1+a.1.1),(w64<|x.2.2.2.1+1),())) else I (.inr<|.inr (x.1,x.2.1,x.2.2.1,()))
def aS:=AR tT
def tA:Loop:=⟨[(0,.int .i64),(1,.int .i64),(5,.int .i64),(6,.int .i64)],[(0,.int .i64),(1,.int .i64),(5,.int .i64)],0,[],aS⟩
def agz:LF Tryz.f224 [] [1,1,1,1,0,1,0,0] tA:=sq (v:= .nil) rR (b:=tT) kN
def cQ(x:Int×Int×A2):Option ((Int×A2)×A2):=(Me x).bind λc=>if !c.1.1 then I ((0,()),()) else if A1 (x.2.1<x.1) then I ((1,()),()) else(AM (aS (x.1,x.2.1,0,1,())) (λ_=>U) (λa=>(Pe ((w64<|(w64<|a.2.1 * 31)+a.1),())).bind λd=>(Pe d.1).bind λe=>if !decide (a.2.2.1=0) then let f:=(BG (w64<|Ax e.1.1 16) a.2.2.1);(AM (aR (a.1,f,1,())) (λb=>I (b,())) λb=>I (b,())) else U))
def vI:Ent:=(224,U,⟨[.int .i64,.int .i64],[.int .i64],cQ⟩)
def ae9:SQ Tryz.prog vI:=sk (v:=t1<|t1<|t1<|t1<|.two (t1<|.one<|.loop tA)<|t1<|.two (t1<|.one<|.loop sy) .nil) (fn:=Tryz.f224) rR<|kC agz<|kC ahA kN
def aok:Cx:=cX [WM,rf,vI] [] []
def fU:OKC Tryz.prog aok AF:=okc mixed<|gC dW<|gC adE<|gC ae9<|AJ
def Vu(x:Int×List Int×List Bool×Int×Int×Int×A2):Rnd (Int×List Int×List Bool×Int×Int×Int×A2) (A2) (Int×List Int×List Bool×Int×Int×Int×A2):=if inb x.2.2.2.2.2.1 x.2.2.1.length then if rd (dfl .bool) x.2.2.1 x.2.2.2.2.2.1 then if !decide (x.1=0) then let a:=(BG (w64<|x.2.2.2.2.2.1+1) x.1);I (.inl (x.1,x.2.1,x.2.2.1,x.2.2.2.1,x.2.2.2.2.1,a,())) else U else I (.inr<|.inr x) else U
def cP:=AR Vu
def xL:Loop:=⟨[(0,.int .i64),(5,.row 3 .int),(6,.row 4 .bool),(7,.int .i64),(8,.int .i64),(9,.int .i64)],[(0,.int .i64),(5,.row 3 .int),(6,.row 4 .bool),(7,.int .i64),(8,.int .i64),(9,.int .i64)],2,[],cP⟩
def ant:LF Tryz.f188 [] [1,1,1,1,1,1,0,1,0,0,1,0,0,1,1,0,0,0] xL:=sq (v:= .nil) fU (b:=Vu) kN
def fD(x:Int×List Int×List Bool×Int×A2):Rnd (Int×List Int×List Bool×Int×A2) (A2) (List Int×A2):=if A1 (x.2.2.2.1<x.1) then if inb x.2.2.2.1 x.2.2.1.length then if rd (dfl .bool) x.2.2.1 x.2.2.2.1 then if Ac (x.2.1.length+([x.2.2.2.1]:List Int).length) then I (.inl (x.1,(x.2.1++([x.2.2.2.1]:List Int)),x.2.2.1,(w64<|x.2.2.2.1+1),())) else U else I (.inl (x.1,x.2.1,x.2.2.1,(w64<|x.2.2.2.1+1),())) else U else I (.inr<|.inr (x.2.1,()))
def rY:=AR fD
def xK:Loop:=⟨[(0,.int .i64),(5,.row 3 .int),(6,.row 4 .bool),(10,.int .i64)],[(5,.row 3 .int)],4,[],rY⟩
def anr:LF Tryz.f188 [] [1,1,1,1,1,1,1,0,1,0,0] xK:=sq (v:= .nil) fU (b:=fD) kN
def ga(x:Int×List Int×List Bool×Int×Int×A2):Rnd (Int×List Int×List Bool×Int×Int×A2) (A2) (Int×List Int×List Bool×A2):=if A1 (0<x.2.2.2.2.1) then(Pe (x.2.2.2.1,())).bind λb=>if !decide (x.1=0) then let c:=(BG (w64<|Ax b.1.1 16) x.1);(AM (cP (x.1,x.2.1,x.2.2.1,b.1.1,x.2.2.2.2.1,c,())) (λ_=>I<|.inr<|.inl ()) λa=>(if inb a.2.2.2.2.2.1 a.2.2.1.length then let d:=(w64<|a.2.2.2.2.1 - 1);I (.inl (a.1,a.2.1,(Bn a.2.2.1 (AL a.2.2.2.2.2.1) A0),a.2.2.2.1,d,())) else U)) else U else I (.inr<|.inr (x.1,x.2.1,x.2.2.1,()))
def rZ:=AR ga
def xM:Loop:=⟨[(0,.int .i64),(5,.row 3 .int),(6,.row 4 .bool),(7,.int .i64),(8,.int .i64)],[(0,.int .i64),(5,.row 3 .int),(6,.row 4 .bool)],0,[],rZ⟩
def anx:LF Tryz.f188 [] [1,1,1,1,1,1,0,1,0,0] xM:=sq (v:=t1<|.two (.one<|t1<|t1<|.two (.one<|.loop xL) .nil) .nil) fU (b:=ga)<|kC ant kN
def W5(x:Int×Int×A2):Option ((List Int×A2)×A2):=(Me x).bind λb=>if !b.1.1 then I ((([]:List Int),()),()) else if A1 (x.2.1<x.1) then if Ac (([]:List Int).length+([x.2.1]:List Int).length) then I (((([]:List Int)++([x.2.1]:List Int)),()),()) else U else if A1 (0<=x.1)&&A1 (x.1<=4294967296) then(Pe ((w64<|(w64<|x.2.1 * 7)+1),())).bind λc=>(cQ x).bind λd=>(AM (rZ (x.1,([]:List Int),(BT (AL x.1)<|dfl .bool),c.1.1,d.1)) (λ_=>U) λa=>(AM (rY (a.1,a.2.1,a.2.2.1,0,())) (λ_=>U) λe=>I (e,()))) else U
def iN:Ent:=(188,U,⟨[.int .i64,.int .i64],[.row 3 .int],W5⟩)
def uy:SQ Tryz.prog iN:=sk (v:=t1<|t1<|t1<|t1<|t1<|t1<|.two (t1<|.one<|.loop xM)<|.two (t1<|.one<|.loop xK) .nil) (fn:=Tryz.f188) fU<|kC anx<|kC anr kN
def aoj:Cx:=cX [] [] []
def aAO:OKC Tryz.prog aoj AF:=okc mixed<|AJ
def yn(x:A4×A4×List Int×Int×A2):Rnd (A4×A4×List Int×Int×A2) (A2) (List Int×A2):=if A1 (x.2.2.2.1<4) then if inb x.2.2.2.1 x.1.size then if inb x.2.2.2.1 x.2.1.size then if Ac (x.2.2.1.length+([(Dn .u8 (bt x.1 x.2.2.2.1)<|bt x.2.1 x.2.2.2.1)]:List Int).length) then I (.inl (x.1,x.2.1,(x.2.2.1++([(Dn .u8 (bt x.1 x.2.2.2.1)<|bt x.2.1 x.2.2.2.1)]:List Int)),(w64<|x.2.2.2.1+1),())) else U else U else U else I (.inr<|.inr (x.2.2.1,()))
def rX:=AR yn
def xH:Loop:=⟨[(0,.str),(1,.str),(5,.row 5 .u8),(6,.int .i64)],[(5,.row 5 .u8)],0,[],rX⟩
def anw:LF Tryz.f190 [] [1,1,0,1,0,0] xH:=sq (v:= .nil) aAO (b:=yn) kN
def W4(x:A4×A4×A2):Option ((A4×A2)×A2):=(AM (rX (x.1,x.2.1,([]:List Int),0,())) (λ_=>U) λa=>I (((BF a.1),()),()))
def iM:Ent:=(190,U,⟨[.str,.str],[.str],W4⟩)
def ub:SQ Tryz.prog iM:=sk (v:=t1<|t1<|.two (t1<|.one<|.loop xH) .nil) (fn:=Tryz.f190) aAO<|kC anw kN
def amK:Cx:=cX [iN,iM] [] []
def z6:OKC Tryz.prog amK AF:=okc mixed<|gC uy<|gC ub<|AJ
def Va(x:List A4×List Int×A4×List Int×Int×A2):Rnd (List A4×List Int×A4×List Int×Int×A2) (A2) (List Int×A4×A2):=if A1 (x.2.2.2.2.1<(x.2.2.2.1.length:Int)) then if inb x.2.2.2.2.1 x.2.2.2.1.length then if inb (rd (dfl .int) x.2.2.2.1 x.2.2.2.2.1) x.1.length then if A1 ((rd (dfl .str) x.1<|rd (dfl .int) x.2.2.2.1 x.2.2.2.2.1)=noB) then if inb x.2.2.2.2.1 x.2.2.2.1.length then if Ac (x.2.1.length+([(rd (dfl .int) x.2.2.2.1 x.2.2.2.2.1)]:List Int).length) then I (.inl (x.1,(x.2.1++([(rd (dfl .int) x.2.2.2.1 x.2.2.2.2.1)]:List Int)),x.2.2.1,x.2.2.2.1,(w64<|x.2.2.2.2.1+1),())) else U else U else if inb x.2.2.2.2.1 x.2.2.2.1.length then if inb (rd (dfl .int) x.2.2.2.1 x.2.2.2.2.1) x.1.length then(W4 (x.2.2.1,(rd (dfl .str) x.1<|rd (dfl .int) x.2.2.2.1 x.2.2.2.2.1),())).bind λa=>I (.inl (x.1,x.2.1,a.1.1,x.2.2.2.1,(w64<|x.2.2.2.2.1+1),())) else U else U else U else U else I (.inr<|.inr (x.2.1,x.2.2.1,()))
def ba:=AR Va
def wi:Loop:=⟨[(2,.sl .str),(8,.row 3 .int),(9,.str),(10,.row 3 .int),(11,.int .i64)],[(8,.row 3 .int),(9,.str)],0,[],ba⟩
def am0:LF Tryz.f235 [] [1,1,1,1,0,1,0,0] wi:=sq (v:= .nil) z6 (b:=Va) kN
def eu(x:Int×Y8×List A4×A2):Option ((List Int×A4×A2)×A2):=(W5 (x.1,x.2.1.1,())).bind λa=>(AM (ba (x.2.2.1,([]:List Int),x.2.1.2.1,a.1.1,0,())) (λ_=>U) λb=>I (b,()))
def zU:Ent:=(235,U,⟨[.int .i64,Z16,.fz .str],[.row 3 .int,.str],eu⟩)
def agE:SQ Tryz.prog zU:=sk (v:=t1<|t1<|t1<|t1<|.two (t1<|.one<|.loop wi) .nil) (fn:=Tryz.f235) z6<|kC am0 kN
def akD:Cx:=cX [Gi,fj,zU] [] []
def gL:OKC Tryz.prog akD AF:=okc mixed<|gC HA<|gC adR<|gC agE<|AJ
def Pf(x:Int×List AT×List A4×Bool×Int×A2):Rnd (Int×List AT×List A4×Bool×Int×A2) (A2) (Int×List AT×List A4×Bool×A2):=if A1 (x.2.2.2.2.1<(x.2.1.length:Int)) then if inb x.2.2.2.2.1 x.2.1.length then(Rt (x.1,((rd (dfl .mixed) x.2.1 x.2.2.2.2.1).nu,(rd (dfl .mixed) x.2.1 x.2.2.2.2.1).da,()),())).bind λb=>if !b.1.1 then I (.inl (x.1,x.2.1,x.2.2.1,x.2.2.2.1,(w64<|x.2.2.2.2.1+1),())) else if inb x.2.2.2.2.1 x.2.1.length then(eu (x.1,((rd (dfl .mixed) x.2.1 x.2.2.2.2.1).nu,(rd (dfl .mixed) x.2.1 x.2.2.2.2.1).da,()),x.2.2.1,())).bind λa=>if A1 ((a.1.1.length:Int)=1) then if inb 0 a.1.1.length then if inb (rd (dfl .int) a.1.1 0) x.2.2.1.length then I (.inl (x.1,x.2.1,(Bn x.2.2.1 (AL<|rd (dfl .int) a.1.1 0) a.1.2.1),A0,(w64<|x.2.2.2.2.1+1),())) else U else U else I (.inl (x.1,x.2.1,x.2.2.1,x.2.2.2.1,(w64<|x.2.2.2.2.1+1),())) else U else U else I (.inr<|.inr (x.1,x.2.1,x.2.2.1,x.2.2.2.1,()))
def UW:=AR Pf
def uw:Loop:=⟨[(0,.int .i64),(1,.sl .mixed),(5,.row 9 .str),(6,.bool),(7,.int .i64)],[(0,.int .i64),(1,.sl .mixed),(5,.row 9 .str),(6,.bool)],2,[],UW⟩
def akf:LF Tryz.f222 [] [1,1,1,1,0,0,0,1,0,1,1,0,0] uw:=sq (v:= .nil) gL (b:=Pf) kN
def ry(x:Int×List AT×List A4×Bool×A2):Rnd (Int×List AT×List A4×Bool×A2) (A2) (List A4×A2):=if x.2.2.2.1 then(AM (UW (x.1,x.2.1,x.2.2.1,A3,0,())) (λ_=>I<|.inr<|.inl ()) λa=>I<|.inl a) else I (.inr<|.inr (x.2.2.1,()))
def qN:=AR ry
def ux:Loop:=⟨[(0,.int .i64),(1,.sl .mixed),(5,.row 9 .str),(6,.bool)],[(5,.row 9 .str)],0,[],qN⟩
def akv:LF Tryz.f222 [] [1,1,1,1,0,0,0] ux:=sq (v:=t1<|.one<|t1<|t1<|.one<|.loop uw) gL (b:=ry)<|kC akf kN
def dy(x:Int×List AT×A2):Option ((List A4×A2)×A2):=(D5 (x.1,1,6,())).bind λa=>if !a.1.1 then I ((([]:List A4),()),()) else if A1 (0<=x.1)&&A1 (x.1<=4294967296) then(AM (qN (x.1,x.2.1,(BT (AL x.1)<|dfl .str),A0,())) (λ_=>U) λb=>I (b,())) else U
def yW:Ent:=(222,U,⟨[.int .i64,.fz .mixed],[.row 9 .str],dy⟩)
def ag9:SQ Tryz.prog yW:=sk (v:=t1<|t1<|t1<|t1<|.two (.one<|.loop ux) .nil) (fn:=Tryz.f222) gL<|kC akv kN
def akC:Cx:=cX [Gi,VY,yW] [] []
def gK:OKC Tryz.prog akC AF:=okc mixed<|gC HA<|gC aY<|gC ag9<|AJ
def dA(x:Int×A4×Int×A2):Rnd (Int×A4×Int×A2) (A4×Bool×A2) (Int×A4×A2):=if A1 (x.2.2.1<(x.2.1.size:Int)) then if inb x.2.2.1 x.2.1.size then if !decide ((bt x.2.1 x.2.2.1)=0) then I (.inr<|.inl (noB,A3,())) else I (.inl (x.1,x.2.1,(w64<|x.2.2.1+1),())) else U else I (.inr<|.inr (x.1,x.2.1,()))
def qM:=AR dA
def uu:Loop:=⟨[(0,.int .i64),(7,.str),(9,.int .i64)],[(0,.int .i64),(7,.str)],2,[(4,.str),(5,.bool)],qM⟩
def ake:LF Tryz.f183 [] [1,1,1,1,1,0,1,0,0] uu:=sq (v:= .nil) gK (b:=dA) kN
def VI(x:Int×List A4×A4×Int×A2):Rnd (Int×List A4×A4×Int×A2) (A4×Bool×A2) (Int×A4×A2):=if A1 (x.2.2.2.1<(x.2.1.length:Int)) then if inb x.2.2.2.1 x.2.1.length then if A1 ((rd (dfl .str) x.2.1 x.2.2.2.1)=noB) then I (.inr<|.inl (noB,A3,())) else if inb x.2.2.2.1 x.2.1.length then if A1 (x.2.2.1.size+(rd (dfl .str) x.2.1 x.2.2.2.1).size<=4611686018427387904) then let a:=(x.2.2.1++(rd (dfl .str) x.2.1 x.2.2.2.1));I (.inl (x.1,x.2.1,a,(w64<|x.2.2.2.1+1),())) else U else U else U else I (.inr<|.inr (x.1,x.2.2.1,()))
def bD:=AR VI
def uv:Loop:=⟨[(0,.int .i64),(6,.row 9 .str),(7,.str),(8,.int .i64)],[(0,.int .i64),(7,.str)],0,[(4,.str),(5,.bool)],bD⟩
def aku:LF Tryz.f183 [] [1,1,1,1,0,1,0,0] uv:=sq (v:= .nil) gK (b:=VI) kN
def dx(x:Int×List AT×A2):Option ((A4×Bool×A2)×A2):=(D5 (x.1,1,24,())).bind λc=>if !c.1.1 then I ((noB,A3,()),()) else(LR (x.1,())).bind λd=>(dy (d.1.1,x.2)).bind λe=>(AM (bD (x.1,e.1.1,noB,0,())) (λb=>I (b,())) λb=>(AM (qM (b.1,b.2.1,b.1,())) (λa=>I (a,())) λa=>(if A1 (0<=a.1)&&A1 (a.1<=(a.2.1.size:Int)) then let f:=(a.2.1.extract (0)<|AL a.1);I ((f,A0,()),()) else U)))
def yV:Ent:=(183,U,⟨[.int .i64,.fz .mixed],[.str,.bool],dx⟩)
def ag8:SQ Tryz.prog yV:=sk (v:=t1<|t1<|t1<|t1<|.two (t1<|.one<|.loop uv)<|.two (t1<|.one<|.loop uu) .nil) (fn:=Tryz.f183) gK<|kC aku<|kC ake kN
def ajZ:Cx:=cX [Iq,VY,MW,Ri,bk,WM,vG,Vj,zV,yV,fl,V8] [] [(39,46),(62,68)]
def al1:OKC Tryz.prog ajZ AF:=okc mixed<|gC JS<|gC aY<|gC Nv<|gC UL<|gC og<|gC dW<|gC ae7<|gC bX<|gC agF<|gC ag8<|gC su<|gC aQ<|AJ
def VG(x:Y1×Y6×A2):Option ((Y1×List Frame×A2)×A2):=(G0 (x.1,())).bind λe=>if A1 (x.2.1.2.2.2.2.2.2.1<=e.1.1.2.1) then(cL (3,x.2)).bind λb=>I ((x.1,([(Frame.mk b.1.1.1 b.1.1.2.1 b.1.1.2.2.1 b.1.1.2.2.2.1 b.1.1.2.2.2.2.1 b.1.1.2.2.2.2.2.1 b.1.1.2.2.2.2.2.2.1 b.1.1.2.2.2.2.2.2.2.1 b.1.1.2.2.2.2.2.2.2.2.1 b.1.1.2.2.2.2.2.2.2.2.2.1)]:List Frame),()),()) else(Fw (e.1.1.2.2.2.1,x.2.1.2.2.2.1,x.2.1.2.2.2.2.1,())).bind λh=>if Ak (!(A1<|0<=h.1.1)) ((KN (e.1.1.2.2.2.2.1,x.2.1.2.2.2.1,x.2.1.2.2.2.2.1,())).isSome) then if(A1<|0<=h.1.1)||(A1<|0<=((KN (e.1.1.2.2.2.2.1,x.2.1.2.2.2.1,x.2.1.2.2.2.2.1,())).getD ((0,()),())).1.1) then(PW ((x.1.2.2.1,x.1.2.2.2.1,()),())).bind λi=>(cL (2,x.2)).bind λc=>I (((x.1.1,x.1.2.1,i.1.1.1,i.1.1.2.1,x.1.2.2.2.2),([(Frame.mk c.1.1.1 c.1.1.2.1 c.1.1.2.2.1 c.1.1.2.2.2.1 c.1.1.2.2.2.2.1 c.1.1.2.2.2.2.2.1 c.1.1.2.2.2.2.2.2.1 c.1.1.2.2.2.2.2.2.2.1 c.1.1.2.2.2.2.2.2.2.2.1 c.1.1.2.2.2.2.2.2.2.2.2.1)]:List Frame),()),()) else if Ak (!(A1<|x.2.1.2.2.2.1=x.1.1)) ((LR (x.2.1.2.2.2.2.2.2.2.1,())).isSome) then if Ak (!(A1<|x.2.1.2.2.2.1=x.1.1)) ((Me (((LR (x.2.1.2.2.2.2.2.2.2.1,())).getD ((0,()),())).1.1,x.2.1.2.2.2.2.2.2.2.2.1,())).isSome) then if(A1<|x.2.1.2.2.2.1=x.1.1)||(!(((Me (((LR (x.2.1.2.2.2.2.2.2.2.1,())).getD ((0,()),())).1.1,x.2.1.2.2.2.2.2.2.2.2.1,())).getD ((A3,()),())).1.1)) then I ((x.1,([]:List Frame),()),()) else(ey x).bind λa=>if A1 (a.1.2.1<0) then I ((a.1.1,([]:List Frame),()),()) else if inb a.1.2.1 a.1.1.2.2.2.2.1.length then(dx (x.2.1.2.2.2.2.2.2.2.1,(rd (dfl .half) a.1.1.2.2.2.2.1 a.1.2.1).got,())).bind λj=>if !j.1.2.1 then I ((a.1.1,([]:List Frame),()),()) else(Pl (a.1.1.2.2.2.2.1,a.1.2)).bind λk=>(MY ((x.2.1.2.2.2.1,x.2.1.2.2.2.2.1,x.2.1.2.2.2.2.2.1,x.2.1.2.2.2.2.2.2.1,j.1.1,()),())).bind λf=>if A1 (f.1.1=noB) then I (((a.1.1.1,a.1.1.2.1,a.1.1.2.2.1,a.1.1.2.2.2.1,k.1),([]:List Frame),()),()) else if A1 ((B [116,97,107,101,32]).size+f.1.1.size<=4611686018427387904) then(KE ((a.1.1.1,a.1.1.2.1,a.1.1.2.2.1,a.1.1.2.2.2.1,k.1),((B [116,97,107,101,32])++f.1.1),A0,())).bind λg=>if !g.1.2.1 then I ((g.1.1,([]:List Frame),()),()) else(cL (2,x.2)).bind λd=>I ((g.1.1,([(Frame.mk d.1.1.1 d.1.1.2.1 d.1.1.2.2.1 d.1.1.2.2.2.1 d.1.1.2.2.2.2.1 d.1.1.2.2.2.2.2.1 d.1.1.2.2.2.2.2.2.1 d.1.1.2.2.2.2.2.2.2.1 d.1.1.2.2.2.2.2.2.2.2.1 d.1.1.2.2.2.2.2.2.2.2.2.1)]:List Frame),()),()) else U else U else U else U else U
def wB:Ent:=(136,U,⟨[Z1,Z13],[Z12,.fz .frame],VG⟩)
def aes:SQ Tryz.prog wB:=sk (v:= .nil) (fn:=Tryz.f136) al1 kN
def ajY:Cx:=cX [OC] [] []
def al0:OKC Tryz.prog ajY AF:=okc mixed<|gC PY<|AJ
def VM(x:Int×Int×Int×A2):Option ((A4×A2)×A2):=(DQ (x.1,())).bind λa=>if A1 (a.1.1.size+(B [32]).size<=4611686018427387904) then(DQ (x.2.1,())).bind λb=>if A1 ((a.1.1++(B [32])).size+b.1.1.size<=4611686018427387904) then if A1 (((a.1.1++(B [32]))++b.1.1).size+(B [32]).size<=4611686018427387904) then(DQ x.2.2).bind λc=>if A1 ((((a.1.1++(B [32]))++b.1.1)++(B [32])).size+c.1.1.size<=4611686018427387904) then let d:=((((a.1.1++(B [32]))++b.1.1)++(B [32]))++c.1.1);I ((d,()),()) else U else U else U else U
def sC:Ent:=(139,U,⟨[.int .i64,.int .i64,.int .i64],[.str],VM⟩)
def ad8:SQ Tryz.prog sC:=sk (v:= .nil) (fn:=Tryz.f139) al0 kN
def agf:Cx:=cX [Iq,KH,MV,gF,wB,MW,Ri,sC] [] []
def ai1:OKC Tryz.prog agf AF:=okc mixed<|gC JS<|gC LH<|gC Nq<|gC tB<|gC aes<|gC Nv<|gC UL<|gC ad8<|AJ
def Uo(x:Y1×Y6×A2):Option ((Y1×List Frame×A2)×A2):=(Io (x.1,())).bind λf=>if !f.1.1 then I (((0,A3,noB,0,([]:List AH),()),([]:List Frame),()),()) else(Gh (x.1,())).bind λa=>if !x.1.2.1 then I ((a.1.1,([]:List Frame),()),()) else(Ve x.2).bind λg=>if !g.1.1 then I ((a.1.1,([]:List Frame),()),()) else if !decide (x.2.1.2.2.1=x.1.1) then I ((a.1.1,([]:List Frame),()),()) else if A1 (x.2.1.1=1) then(VG (a.1.1,x.2)).bind λd=>(Gh (d.1.1,())).bind λh=>I ((h.1.1,d.1.2),()) else(G0 (x.1,())).bind λb=>(Fw (b.1.1.2.2.2.1,x.2.1.2.2.2.1,x.2.1.2.2.2.2.1,())).bind λc=>if !decide (x.2.1.1=2) then I ((a.1.1,([]:List Frame),()),()) else if A1 (c.1.1<0) then I ((a.1.1,([]:List Frame),()),()) else if inb c.1.1 b.1.1.2.2.2.1.length then if !decide ((rd (dfl .note) b.1.1.2.2.2.1 c.1.1).un=x.2.1.2.2.2.2.2.2.1) then I ((a.1.1,([]:List Frame),()),()) else if inb c.1.1 b.1.1.2.2.2.1.length then if !decide ((rd (dfl .note) b.1.1.2.2.2.1 c.1.1).to=x.2.1.2.2.2.2.2.1) then I ((a.1.1,([]:List Frame),()),()) else(VM (x.2.1.2.2.2.1,x.2.1.2.2.2.2.1,x.2.1.2.2.2.2.2.2.1,())).bind λe=>if A1 ((B [108,101,116,32]).size+e.1.1.size<=4611686018427387904) then(KE (a.1.1,((B [108,101,116,32])++e.1.1),A3,())).bind λi=>I ((i.1.1,([]:List Frame),()),()) else U else U else U
def rA:Ent:=(100,U,⟨[Z12,Z13],[Z12,.fz .frame],Uo⟩)
def acf:SQ Tryz.prog rA:=sk (v:= .nil) (fn:=Tryz.f100) ai1 kN
def akU:Cx:=cX [rM] [] [(11,13)]
def y6:OKC Tryz.prog akU AF:=okc mixed<|gC acz<|AJ
def VK(x:List AS×List Frame×Int×A2):Rnd (List AS×List Frame×Int×A2) (A2) (List AS×A2):=if(A1<|x.2.2.1<(x.2.1.length:Int))&&(A1<|(x.1.length:Int)<30) then if inb x.2.2.1 x.2.1.length then if inb x.2.2.1 x.2.1.length then if inb x.2.2.1 x.2.1.length then(PZ (((rd (dfl .frame) x.2.1 x.2.2.1).ki,(rd (dfl .frame) x.2.1 x.2.2.1).src,(rd (dfl .frame) x.2.1 x.2.2.1).dst,(rd (dfl .frame) x.2.1 x.2.2.1).fr,(rd (dfl .frame) x.2.1 x.2.2.1).nu,(rd (dfl .frame) x.2.1 x.2.2.1).to,(rd (dfl .frame) x.2.1 x.2.2.1).un,(rd (dfl .frame) x.2.1 x.2.2.1).sz,(rd (dfl .frame) x.2.1 x.2.2.1).mix,(rd (dfl .frame) x.2.1 x.2.2.1).da,()),())).bind λa=>if Ac (x.1.length+([(AS.mk ((rd (dfl .frame) x.2.1 x.2.2.1).src) ((rd (dfl .frame) x.2.1 x.2.2.1).dst) (BF a.1.1) A3)]:List AS).length) then I (.inl ((x.1++([(AS.mk ((rd (dfl .frame) x.2.1 x.2.2.1).src) ((rd (dfl .frame) x.2.1 x.2.2.1).dst) (BF a.1.1) A3)]:List AS)),x.2.1,(w64<|x.2.2.1+1),())) else U else U else U else U else I (.inr<|.inr (x.1,()))
def pd:=AR VK
def vC:Loop:=⟨[(0,.row 64 .An),(1,.sl .frame),(5,.int .i64)],[(0,.row 64 .An)],0,[],pd⟩
def akm:LF Tryz.f101 [] [1,0,1,0,0] vC:=sq (v:= .nil) y6 (b:=VK) kN
def Rs(x:List AS×List Frame×A2):Option ((List AS×A2)×A2):=(AM (pd (x.1,x.2.1,0,())) (λ_=>U) λa=>I (a,()))
def fg:Ent:=(101,U,⟨[.row 64 .An,.fz .frame],[.row 64 .An],Rs⟩)
def adT:SQ Tryz.prog fg:=sk (v:=t1<|.two (t1<|.one<|.loop vC) .nil) (fn:=Tryz.f101) y6<|kC akm kN
def ahN:Cx:=cX [Iq,KH,MV,Ri,V8] [] [(37,38)]
def ajP:OKC Tryz.prog ahN AF:=okc mixed<|gC JS<|gC LH<|gC Nq<|gC UL<|gC aQ<|AJ
def VC(x:Y1×Int×Int×A4×A2):Option ((Y1×Int×A2)×A2):=(Io (x.1,())).bind λd=>if !d.1.1 then I (((0,A3,noB,0,([]:List AH),()),0,()),()) else(G0 (x.1,())).bind λb=>(MY ((x.1.1,b.1.1.2.2.1,x.2),())).bind λa=>if(!x.1.2.1)||(A1<|a.1.1=noB) then(Gh (x.1,())).bind λe=>I ((e.1.1,0,()),()) else(Gh (x.1,())).bind λf=>if A1 ((B [111,119,110,32]).size+a.1.1.size<=4611686018427387904) then(KE (f.1.1,((B [111,119,110,32])++a.1.1),A0,())).bind λc=>if !c.1.2.1 then(Gh (x.1,())).bind λg=>I ((g.1.1,0,()),()) else I ((c.1.1,b.1.1.2.2.1,()),()) else U
def rJ:Ent:=(140,U,⟨[Z12,.int .i64,.int .i64,.str],[Z12,.int .i64],VC⟩)
def acw:SQ Tryz.prog rJ:=sk (v:= .nil) (fn:=Tryz.f140) ajP kN
def agc:Cx:=cX [Iq,KH,MV,Ri,OC] [] [(19,21)]
def ahy:OKC Tryz.prog agc AF:=okc mixed<|gC JS<|gC LH<|gC Nq<|gC UL<|gC PY<|AJ
def Ul(x:Y1×A2):Option ((Y1×Bool×A2)×A2):=(Io x).bind λc=>if !c.1.1 then I (((0,A3,noB,0,([]:List AH),()),A3,()),()) else(G0 x).bind λa=>if(!x.1.2.1)||(A1<|999<=a.1.1.2.1) then(Gh x).bind λd=>I ((d.1.1,A3,()),()) else(Gh x).bind λe=>(DQ ((w64<|a.1.1.2.1+1),())).bind λb=>if A1 ((B [116,105,109,101,32]).size+b.1.1.size<=4611686018427387904) then(KE (e.1.1,((B [116,105,109,101,32])++b.1.1),A0,())).bind λf=>I (f.1,()) else U
def qx:Ent:=(103,U,⟨[Z12],[Z12,.bool],Ul⟩)
def acb:SQ Tryz.prog qx:=sk (v:= .nil) (fn:=Tryz.f103) ahy kN
def anF:Cx:=cX [VY] [] [(12,14)]
def iJ:OKC Tryz.prog anF AF:=okc mixed<|gC aY<|AJ
def di(x:A4×List A4×Int×List Int×Int×A2):Rnd (A4×List A4×Int×List Int×Int×A2) (A2) (A4×List A4×Int×List Int×A2):=if A1 (x.2.2.2.2.1<(w64<|(w64<|x.2.2.1+1) * 4)) then if A1 (x.2.2.2.2.1<(x.1.size:Int)) then if inb x.2.2.2.2.1 x.1.size then if Ac (x.2.2.2.1.length+([(bt x.1 x.2.2.2.2.1)]:List Int).length) then I (.inl (x.1,x.2.1,x.2.2.1,(x.2.2.2.1++([(bt x.1 x.2.2.2.2.1)]:List Int)),(w64<|x.2.2.2.2.1+1),())) else U else U else if Ac (x.2.2.2.1.length+([0]:List Int).length) then I (.inl (x.1,x.2.1,x.2.2.1,(x.2.2.2.1++([0]:List Int)),(w64<|x.2.2.2.2.1+1),())) else U else I (.inr<|.inr (x.1,x.2.1,x.2.2.1,x.2.2.2.1,()))
def qR:=AR di
def wx:Loop:=⟨[(0,.str),(3,.row 9 .str),(4,.int .i64),(5,.row 5 .u8),(6,.int .i64)],[(0,.str),(3,.row 9 .str),(4,.int .i64),(5,.row 5 .u8)],2,[],qR⟩
def alu:LF Tryz.f187 [] [1,1,1,0,1,0,0,1,0,0,1,0,1,0,0] wx:=sq (v:= .nil) iJ (b:=di) kN
def dj(x:A4×List A4×Int×A2):Rnd (A4×List A4×Int×A2) (A2) (List A4×A2):=(LR ((x.1.size:Int),())).bind λb=>if A1 (x.2.2.1<b.1.1) then(AM (qR (x.1,x.2.1,x.2.2.1,([]:List Int),(w64<|x.2.2.1 * 4),())) (λ_=>I<|.inr<|.inl ()) λa=>(if Ac (a.2.1.length+([(BF a.2.2.2.1)]:List A4).length) then I (.inl (a.1,(a.2.1++([(BF a.2.2.2.1)]:List A4)),(w64<|a.2.2.1+1),())) else U)) else I (.inr<|.inr (x.2.1,()))
def qS:=AR dj
def wy:Loop:=⟨[(0,.str),(3,.row 9 .str),(4,.int .i64)],[(3,.row 9 .str)],0,[],qS⟩
def amO:LF Tryz.f187 [] [1,1,1,0,1,0,0] wy:=sq (v:=t1<|.two (.one<|t1<|.two (t1<|.one<|.loop wx) .nil) .nil) iJ (b:=dj)<|kC alu kN
def fE(x:A4×A2):Option ((List A4×A2)×A2):=if(A1<|(x.1.size:Int)<1)||(A1<|24<(x.1.size:Int)) then I ((([]:List A4),()),()) else(AM (qS (x.1,([]:List A4),0,())) (λ_=>U) λa=>I (a,()))
def zd:Ent:=(187,U,⟨[.str],[.row 9 .str],fE⟩)
def ahE:SQ Tryz.prog zd:=sk (v:=t1<|t1<|t1<|.two (t1<|.one<|.loop wy) .nil) (fn:=Tryz.f187) iJ<|kC amO kN
def amJ:Cx:=cX [] [] []
def aoy:OKC Tryz.prog amJ AF:=okc mixed<|AJ
def gX(x:A2):Option ((A4×A2)×A2):=if A1 (0<=4)&&A1 (4<=4294967296) then let a:=(BF<|BT (AL 4)<|dfl .u8);I ((a,()),()) else U
def zT:Ent:=(189,U,⟨[],[.str],gX⟩)
def agY:SQ Tryz.prog zT:=sk (v:= .nil) (fn:=Tryz.f189) aoy kN
def alK:Cx:=cX [zd,iN,zT,iM] [] [(19,21)]
def yF:OKC Tryz.prog alK AF:=okc mixed<|gC ahE<|gC uy<|gC agY<|gC ub<|AJ
def dB(x:List A4×List Int×A4×Int×A2):Rnd (List A4×List Int×A4×Int×A2) (A2) (A4×A2):=if A1 (x.2.2.2.1<(x.2.1.length:Int)) then if inb x.2.2.2.1 x.2.1.length then if inb (rd (dfl .int) x.2.1 x.2.2.2.1) x.1.length then(W4 (x.2.2.1,(rd (dfl .str) x.1<|rd (dfl .int) x.2.1 x.2.2.2.1),())).bind λa=>I (.inl (x.1,x.2.1,a.1.1,(w64<|x.2.2.2.1+1),())) else U else U else I (.inr<|.inr (x.2.2.1,()))
def bE:=AR dB
def uz:Loop:=⟨[(5,.row 9 .str),(6,.row 3 .int),(7,.str),(8,.int .i64)],[(7,.str)],0,[],bE⟩
def akw:LF Tryz.f143 [] [1,1,1,1,1,0,1,0,0] uz:=sq (v:= .nil) yF (b:=dB) kN
def dz(x:A4×Int×A2):Option ((A4×A2)×A2):=(fE (x.1,())).bind λa=>(W5 ((a.1.1.length:Int),x.2)).bind λb=>if(A1<|(a.1.1.length:Int)=0)||(A1<|(b.1.1.length:Int)=0) then I ((noB,()),()) else(gX ()).bind λc=>(AM (bE (a.1.1,b.1.1,c.1.1,0,())) (λ_=>U) λd=>I (d,()))
def yX:Ent:=(143,U,⟨[.str,.int .i64],[.str],dz⟩)
def agA:SQ Tryz.prog yX:=sk (v:=t1<|t1<|t1<|t1<|t1<|.two (t1<|.one<|.loop uz) .nil) (fn:=Tryz.f143) yF<|kC akw kN
def ahO:Cx:=cX [Iq,Gi,KH,MW,rh,yX] [] [(18,20),(36,38)]
def ajQ:OKC Tryz.prog ahO AF:=okc mixed<|gC JS<|gC HA<|gC LH<|gC Nv<|gC adF<|gC agA<|AJ
def VD(x:Y1×Int×Int×Int×A2):Option ((Y6×Bool×A2)×A2):=(Io (x.1,())).bind λe=>if(!e.1.1)||(!x.1.2.1) then I (((0,0,0,0,0,0,0,0,0,noB,()),A3,()),()) else(G0 (x.1,())).bind λb=>(Fw (b.1.1.2.2.2.1,x.2.1,x.2.2.1,())).bind λa=>if Ak (!(A1<|a.1.1<0)) ((D5 (x.2.2.2.1,0,999,())).isSome) then if(A1<|a.1.1<0)||(!(((D5 (x.2.2.2.1,0,999,())).getD ((A3,()),())).1.1)) then I (((0,0,0,0,0,0,0,0,0,noB,()),A3,()),()) else if inb a.1.1 b.1.1.2.2.2.1.length then let f:=(rd (dfl .note) b.1.1.2.2.2.1 a.1.1).fr;let g:=(rd (dfl .note) b.1.1.2.2.2.1 a.1.1).nu;let c:=(rd (dfl .note) b.1.1.2.2.2.1 a.1.1).to;let h:=(rd (dfl .note) b.1.1.2.2.2.1 a.1.1).un;let d:=(rd (dfl .note) b.1.1.2.2.2.1 a.1.1).tx;(Rb (x.1.1,c,())).bind λi=>(dz (d,x.2.2.2)).bind λj=>I (((1,x.1.1,i.1.1,f,g,c,h,(d.size:Int),x.2.2.2.1,j.1),A0,()),()) else U else U
def rK:Ent:=(104,U,⟨[Z12,.int .i64,.int .i64,.int .i64],[Z13,.bool],VD⟩)
def acx:SQ Tryz.prog rK:=sk (v:= .nil) (fn:=Tryz.f104) ajQ kN
def ahb:Cx:=cX [V7,Rq] [] []
def ajN:OKC Tryz.prog ahb AF:=okc mixed<|gC aN<|gC UT<|AJ
def cO(x:Y7×Int×A2):Option ((Y7×A2)×A2):=(O1 (x.1,())).bind λd=>if !d.1.1 then I (((noB,0,()),()),()) else(BS (X:=Int×Y7×Y7×Int×A2) (λb=>(BS (X:=Y7×Y7×Int×A2) (λa=>if A1 (0<=a.2.2.1)&&A1 (a.2.2.1<=(a.1.1.size:Int)) then(LJ ((a.1.1.extract (0)<|AL a.2.2.1),())).bind λc=>if A1 (0<=c.1.2.1)&&A1 (c.1.2.1<=(a.1.1.size:Int)) then let e:=(a.1.1.extract (0)<|AL c.1.2.1);I (((e,c.1.2),()),()) else U else U)<|(if A1 (0<b.1) then let f:=(w64<|b.2.2.2.1+b.1);I (.inr (b.2.1,b.2.2.1,f,())) else I (.inr b.2))))<|(if A1 ((w64<|(x.1.1.size:Int) - x.1.2.1)<x.2.1) then let g:=(w64<|(x.1.1.size:Int) - x.1.2.1);I (.inr (g,x.1,(noB,0,()),x.1.2)) else I (.inr (x.2.1,x.1,(noB,0,()),x.1.2))))
def vH:Ent:=(144,U,⟨[Z15,.int .i64],[Z15],cO⟩)
def ae8:SQ Tryz.prog vH:=sk (v:=t1<|t1<|t1<|.join [(1,.int .i64),(2,Z21),(4,Z21),(5,.int .i64)] .nil<|.join [(2,Z21),(4,Z21),(5,.int .i64)] .nil .nil) (fn:=Tryz.f144) ajN kN
def agh:Cx:=cX [KH,vH] [] []
def ai2:OKC Tryz.prog agh AF:=okc mixed<|gC LH<|gC ae8<|AJ
def Up(x:Y1×Int×A2):Option ((Y1×A2)×A2):=(Io (x.1,())).bind λb=>if !b.1.1 then I (((0,A3,noB,0,([]:List AH),()),()),()) else(cO ((x.1.2.2.1,x.1.2.2.2.1,()),x.2)).bind λa=>I (((x.1.1,A3,a.1.1.1,a.1.1.2.1,([]:List AH),()),()),())
def rB:Ent:=(105,U,⟨[Z12,.int .i64],[Z1],Up⟩)
def acg:SQ Tryz.prog rB:=sk (v:= .nil) (fn:=Tryz.f105) ai2 kN
def agd:Cx:=cX [KH,MV] [] []
def ahz:OKC Tryz.prog agd AF:=okc mixed<|gC LH<|gC Nq<|AJ
def Um(x:Y1×A2):Option ((Y1×A2)×A2):=(Io x).bind λa=>if !a.1.1 then I (((0,A3,noB,0,([]:List AH),()),()),()) else if x.1.2.1 then(Gh x).bind λb=>I (b.1,()) else I (((x.1.1,A0,x.1.2.2.1,x.1.2.2.2.1,([]:List AH),()),()),())
def qy:Ent:=(106,U,⟨[Z12],[Z1],Um⟩)
def acd:SQ Tryz.prog qy:=sk (v:= .nil) (fn:=Tryz.f106) ahz kN
def ahP:Cx:=cX [Iq,KH,MV,MW,Ri,sC] [] [(33,34)]
def ajR:OKC Tryz.prog ahP AF:=okc mixed<|gC JS<|gC LH<|gC Nq<|gC Nv<|gC UL<|gC ad8<|AJ
def VE(x:Y1×Int×Int×A2):Option ((Y1×Y4×Bool×A2)×A2):=(Io (x.1,())).bind λe=>if !e.1.1 then I (((0,A3,noB,0,([]:List AH),()),(0,0,0,0,noB,()),A3,()),()) else(G0 (x.1,())).bind λa=>(Fw (a.1.1.2.2.2.2.2.1,x.2)).bind λb=>if(!x.1.2.1)||(A1<|b.1.1<0) then(Gh (x.1,())).bind λf=>I ((f.1.1,(0,0,0,0,noB,()),A3,()),()) else(Gh (x.1,())).bind λg=>if inb b.1.1 a.1.1.2.2.2.2.2.1.length then(VM (x.2.1,x.2.2.1,(rd (dfl .note) a.1.1.2.2.2.2.2.1 b.1.1).un,())).bind λc=>if A1 ((B [101,97,116,32]).size+c.1.1.size<=4611686018427387904) then(KE (g.1.1,((B [101,97,116,32])++c.1.1),A0,())).bind λd=>if !d.1.2.1 then(Gh (x.1,())).bind λh=>I ((h.1.1,(0,0,0,0,noB,()),A3,()),()) else if inb b.1.1 a.1.1.2.2.2.2.2.1.length then let i:=(rd (dfl .note) a.1.1.2.2.2.2.2.1 b.1.1).fr;let j:=(rd (dfl .note) a.1.1.2.2.2.2.2.1 b.1.1).nu;let k:=(rd (dfl .note) a.1.1.2.2.2.2.2.1 b.1.1).to;let l:=(rd (dfl .note) a.1.1.2.2.2.2.2.1 b.1.1).un;let m:=(rd (dfl .note) a.1.1.2.2.2.2.2.1 b.1.1).tx;I ((d.1.1,(i,j,k,l,m,()),A0,()),()) else U else U else U
def rL:Ent:=(107,U,⟨[Z12,.int .i64,.int .i64],[Z12,Z6,.bool],VE⟩)
def acy:SQ Tryz.prog rL:=sk (v:= .nil) (fn:=Tryz.f107) ajR kN
def age:Cx:=cX [Iq,KH,MV,rI,rj] [] [(32,33)]
def ai0:OKC Tryz.prog age AF:=okc mixed<|gC JS<|gC LH<|gC Nq<|gC acv<|gC adG<|AJ
def Un(x:Y1×A2):Option ((Y1×Bool×A2)×A2):=(Io x).bind λc=>if !c.1.1 then I (((0,A3,noB,0,([]:List AH),()),A3,()),()) else(Gh x).bind λa=>(G0 x).bind λd=>(VJ (d.1.1,())).bind λe=>(RZ ((x.1.2.2.1,x.1.2.2.2.1,()),e.1)).bind λb=>if(!x.1.2.1)||(!b.1.2.1) then I ((a.1.1,A3,()),()) else I (((a.1.1.1,a.1.1.2.1,b.1.1.1,b.1.1.2.1,a.1.1.2.2.2.2),A0,()),())
def qz:Ent:=(108,U,⟨[Z12],[Z12,.bool],Un⟩)
def ace:SQ Tryz.prog qz:=sk (v:= .nil) (fn:=Tryz.f108) ai0 kN
def afR:Cx:=cX [KH,MV,bk] [] [(15,22)]
def agu:OKC Tryz.prog afR AF:=okc mixed<|gC LH<|gC Nq<|gC og<|AJ
def UY(x:Y1×A2):Option ((Y1×Bool×A2)×A2):=(Io x).bind λc=>if !c.1.1 then I (((0,A3,noB,0,([]:List AH),()),A3,()),()) else(Gh x).bind λa=>if(!x.1.2.1)||(A1<|x.1.2.2.2.1=(x.1.2.2.1.size:Int)) then I ((a.1.1,A3,()),()) else(PW ((x.1.2.2.1,x.1.2.2.2.1,()),())).bind λb=>I (((a.1.1.1,a.1.1.2.1,b.1.1.1,b.1.1.2.1,a.1.1.2.2.2.2),A0,()),())
def qC:Ent:=(109,U,⟨[Z12],[Z12,.bool],UY⟩)
def acR:SQ Tryz.prog qC:=sk (v:= .nil) (fn:=Tryz.f109) agu kN
def zr:Cx:=cX [IH,Gi,fh,qD,rA,fg,qx,rK,rB,qy,rL,qz,qC,rJ] [] []
def apg:OKC Tryz.prog zr (NT zr 2):=abP 2 mixed<|gC Ii<|gC HA<|gC adU<|gC acS<|gC acf<|gC adT<|gC acb<|gC acx<|gC acg<|gC acd<|gC acy<|gC ace<|gC acR<|gC acw<|AJ
abbrev ZE:Type:=Int×Int×Int×Int×Int×Int×Int×Int×Int×A4×A2
def Qy{Ω:Type}(a:List AA)(c:List AS)(e:ZE)(p:AS)(K:List AA->List AS->Option Ω):Option Ω:=
 if(A1<|e.1=5) then
 K a c
 else
 if Ac p.data.size then
 (bF ((BE p.data),())).bind λr=>
 if(!r.1.2.1) then
 K a c
 else
 if(!decide (r.1.1.2.1=p.src)) then
 K a c
 else
 if(!decide (r.1.1.2.2.1=p.dst)) then
 K a c
 else
 if inb p.dst a.length then
 (Uo (((rd (dfl .AQ) a p.dst).id,(rd (dfl .AQ) a p.dst).up,(rd (dfl .AQ) a p.dst).log,(rd (dfl .AQ) a p.dst).fo,(rd (dfl .AQ) a p.dst).AN,()),r.1.1,())).bind λq=>
 if inb p.dst a.length then
 (Rs (c,q.1.2)).bind λs=>
 K (Bn a (AL p.dst)<|AA.mk q.1.1.1 q.1.1.2.1 q.1.1.2.2.1 q.1.1.2.2.2.1 q.1.1.2.2.2.2.1) s.1.1
 else U
 else U
 else U
def ZZ{Ω:Type}(a:List AA)(c:List AS)(e:ZE)(p:AS)(K:List AA->List AS->Option Ω):Option Ω:=
 if(A1 (0<=e.2.2.2.2.1)&&A1 (e.2.2.2.2.1<=(c.length:Int))) then
 if Ac (([]:List AS).length+(BH (AL e.2.2.2.2.1) c).length) then
 if(A1 (0<=(w64<|e.2.2.2.2.1+1))&&A1 ((w64<|e.2.2.2.2.1+1)<=(c.length:Int))) then
 if Ac ((([]:List AS)++(BH (AL e.2.2.2.2.1) c)).length+(Bm (AL<|w64<|e.2.2.2.2.1+1) c).length) then
 Qy a ((([]:List AS)++(BH (AL e.2.2.2.2.1) c))++(Bm (AL<|w64<|e.2.2.2.2.1+1) c)) e p K
 else U
 else U
 else U
 else U
def ZY{Ω:Type}(a:List AA)(c:List AS)(e:ZE)(p:AS)(K:List AA->List AS->Option Ω):Option Ω:=
 if(A1<|e.1=5) then
 ZZ a c e p K
 else
 if(A1<|e.2.2.2.2.2.2.1=0) then
 ZZ a c e p K
 else
 Qy a c e p K
def Qz{Ω:Type}(a:List AA)(b:List Bool)(c:List AS)(e:ZE)(K:List AA->List AS->Option Ω)(F:Option Ω):Option Ω:=
 (D5 (e.2.2.2.2.1,0,(w64<|(c.length:Int) - 1),())).bind λr=>
 if(!r.1.1) then
 F
 else
 if inb e.2.2.2.2.1 c.length then
 if(A1<|e.1=6) then
 if(rd (dfl .An) c e.2.2.2.2.1).sp then
 F
 else
 (D5 (e.2.2.2.2.2.1,0,(w64<|((rd (dfl .An) c e.2.2.2.2.1).data.size:Int) - 1),())).bind λr=>
 if(!r.1.1) then
 F
 else
 (D5 (e.2.2.2.2.2.2.1,1,255,())).bind λr=>
 if(!r.1.1) then
 F
 else
 if Ac (rd (dfl .An) c e.2.2.2.2.1).data.size then
 if inb e.2.2.2.2.2.1 ((BE (rd (dfl .An) c e.2.2.2.2.1).data).length) then
 if inb e.2.2.2.2.2.1 ((BE (rd (dfl .An) c e.2.2.2.2.1).data).length) then
 if inb e.2.2.2.2.1 c.length then
 if inb e.2.2.2.2.1 ((Bn c (AL e.2.2.2.2.1)<|AS.mk ((rd (dfl .An) c e.2.2.2.2.1).src) ((rd (dfl .An) c e.2.2.2.2.1).dst) (BF<|Bn (BE (rd (dfl .An) c e.2.2.2.2.1).data) (AL e.2.2.2.2.2.1)<|Dn .u8 (rd (dfl .u8) (BE (rd (dfl .An) c e.2.2.2.2.1).data) e.2.2.2.2.2.1)<|w8 e.2.2.2.2.2.2.1)<|(rd (dfl .An) c e.2.2.2.2.1).sp).length) then
 K a (Bn (Bn c (AL e.2.2.2.2.1)<|AS.mk ((rd (dfl .An) c e.2.2.2.2.1).src) ((rd (dfl .An) c e.2.2.2.2.1).dst) (BF<|Bn (BE (rd (dfl .An) c e.2.2.2.2.1).data) (AL e.2.2.2.2.2.1)<|Dn .u8 (rd (dfl .u8) (BE (rd (dfl .An) c e.2.2.2.2.1).data) e.2.2.2.2.2.1)<|w8 e.2.2.2.2.2.2.1)<|(rd (dfl .An) c e.2.2.2.2.1).sp) (AL e.2.2.2.2.1)<|AS.mk ((rd (dfl .An) (Bn c (AL e.2.2.2.2.1)<|AS.mk ((rd (dfl .An) c e.2.2.2.2.1).src) ((rd (dfl .An) c e.2.2.2.2.1).dst) (BF<|Bn (BE (rd (dfl .An) c e.2.2.2.2.1).data) (AL e.2.2.2.2.2.1)<|Dn .u8 (rd (dfl .u8) (BE (rd (dfl .An) c e.2.2.2.2.1).data) e.2.2.2.2.2.1)<|w8 e.2.2.2.2.2.2.1)<|(rd (dfl .An) c e.2.2.2.2.1).sp) e.2.2.2.2.1).src) ((rd (dfl .An) (Bn c (AL e.2.2.2.2.1)<|AS.mk ((rd (dfl .An) c e.2.2.2.2.1).src) ((rd (dfl .An) c e.2.2.2.2.1).dst) (BF<|Bn (BE (rd (dfl .An) c e.2.2.2.2.1).data) (AL e.2.2.2.2.2.1)<|Dn .u8 (rd (dfl .u8) (BE (rd (dfl .An) c e.2.2.2.2.1).data) e.2.2.2.2.2.1)<|w8 e.2.2.2.2.2.2.1)<|(rd (dfl .An) c e.2.2.2.2.1).sp) e.2.2.2.2.1).dst) ((rd (dfl .An) (Bn c (AL e.2.2.2.2.1)<|AS.mk ((rd (dfl .An) c e.2.2.2.2.1).src) ((rd (dfl .An) c e.2.2.2.2.1).dst) (BF<|Bn (BE (rd (dfl .An) c e.2.2.2.2.1).data) (AL e.2.2.2.2.2.1)<|Dn .u8 (rd (dfl .u8) (BE (rd (dfl .An) c e.2.2.2.2.1).data) e.2.2.2.2.2.1)<|w8 e.2.2.2.2.2.2.1)<|(rd (dfl .An) c e.2.2.2.2.1).sp) e.2.2.2.2.1).data) A0)
 else U
 else U
 else U
 else U
 else U
 else
 if(A1<|e.1=4) then
 (dd ((rd (dfl .An) c e.2.2.2.2.1).src,(rd (dfl .An) c e.2.2.2.2.1).dst,())).bind λr=>
 if inb r.1.1 b.length then
 if(!(rd (dfl .bool) b r.1.1)) then
 F
 else
 ZY a c e (rd (dfl .An) c e.2.2.2.2.1) K
 else U
 else
 ZY a c e (rd (dfl .An) c e.2.2.2.2.1) K
 else U
def U0{Ω:Type}(b:List Bool)(e:ZE)(K:List Bool->Option Ω)(F:Option Ω):Option Ω:=
 (D5 (e.2.1,0,(w64<|(b.length:Int) - 1),())).bind λr=>
 if(!r.1.1) then
 F
 else
 if inb e.2.1 b.length then
 if(A1<|(rd (dfl .bool) b e.2.1)=(A1<|e.1=9)) then
 F
 else
 if inb e.2.1 b.length then
 K (Bn b (AL e.2.1)<|A1<|e.1=9)
 else U
 else U
def nE{Ω:Type}(a:List AA)(c:List AS)(d g:List A6)(e:ZE)(K:List AA->List A6->List A6->Option Ω)(F:Option Ω)(Kv:List AA->Bool->Option Ω)(Km:List AS->Bool->Option Ω)(Kz:Bool->Option Ω):Option Ω:=
 (FI (e.2.1,())).bind λr=>
 if(!r.1.1) then
 F
 else
 if inb e.2.1 a.length then
 if(A1<|e.1=1) then
 if(A1<|6<=(d.length:Int)) then
 F
 else
 if inb e.2.1 a.length then
 (VC (((rd (dfl .AQ) a e.2.1).id,(rd (dfl .AQ) a e.2.1).up,(rd (dfl .AQ) a e.2.1).log,(rd (dfl .AQ) a e.2.1).fo,(rd (dfl .AQ) a e.2.1).AN,()),e.2.2.2.2.2.2.2)).bind λr=>
 if(A1<|r.1.2.1=0) then
 F
 else
 if inb e.2.1 a.length then
 if Ac (d.length+([(A6.mk e.2.1 r.1.2.1 e.2.2.2.2.2.2.2.1 e.2.2.2.2.2.2.2.2.1 e.2.2.2.2.2.2.2.2.2.1)]:List A6).length) then
 K (Bn a (AL e.2.1)<|AA.mk r.1.1.1 r.1.1.2.1 r.1.1.2.2.1 r.1.1.2.2.2.1 r.1.1.2.2.2.2.1) (d++([(A6.mk e.2.1 r.1.2.1 e.2.2.2.2.2.2.2.1 e.2.2.2.2.2.2.2.2.1 e.2.2.2.2.2.2.2.2.2.1)]:List A6)) g
 else U
 else U
 else U
 else
 if(A1<|e.1=2) then
 (Ul (((rd (dfl .AQ) a e.2.1).id,(rd (dfl .AQ) a e.2.1).up,(rd (dfl .AQ) a e.2.1).log,(rd (dfl .AQ) a e.2.1).fo,(rd (dfl .AQ) a e.2.1).AN,()),())).bind λr=>
 if inb e.2.1 a.length then
 Kv (Bn a (AL e.2.1)<|AA.mk r.1.1.1 r.1.1.2.1 r.1.1.2.2.1 r.1.1.2.2.2.1 r.1.1.2.2.2.2.1) r.1.2.1
 else U
 else
 if(A1<|e.1=3) then
 (VD (((rd (dfl .AQ) a e.2.1).id,(rd (dfl .AQ) a e.2.1).up,(rd (dfl .AQ) a e.2.1).log,(rd (dfl .AQ) a e.2.1).fo,(rd (dfl .AQ) a e.2.1).AN,()),e.2.2.1,e.2.2.2.1,e.2.2.2.2.2.1,())).bind λr=>
 if r.1.2.1 then
 (Rs (c,([(Frame.mk r.1.1.1 r.1.1.2.1 r.1.1.2.2.1 r.1.1.2.2.2.1 r.1.1.2.2.2.2.1 r.1.1.2.2.2.2.2.1 r.1.1.2.2.2.2.2.2.1 r.1.1.2.2.2.2.2.2.2.1 r.1.1.2.2.2.2.2.2.2.2.1 r.1.1.2.2.2.2.2.2.2.2.2.1)]:List Frame),())).bind λs=>
 Km s.1.1 r.1.2.1
 else
 Kz r.1.2.1
 else
 if(A1<|e.1=7) then
 (Up (((rd (dfl .AQ) a e.2.1).id,(rd (dfl .AQ) a e.2.1).up,(rd (dfl .AQ) a e.2.1).log,(rd (dfl .AQ) a e.2.1).fo,(rd (dfl .AQ) a e.2.1).AN,()),e.2.2.2.2.2.2.1,())).bind λr=>
 if inb e.2.1 a.length then
 Kv (Bn a (AL e.2.1)<|AA.mk r.1.1.1 r.1.1.2.1 r.1.1.2.2.1 r.1.1.2.2.2.1 r.1.1.2.2.2.2.1) (rd (dfl .AQ) a e.2.1).up
 else U
 else
 if(A1<|e.1=8) then
 (Um (((rd (dfl .AQ) a e.2.1).id,(rd (dfl .AQ) a e.2.1).up,(rd (dfl .AQ) a e.2.1).log,(rd (dfl .AQ) a e.2.1).fo,(rd (dfl .AQ) a e.2.1).AN,()),())).bind λr=>
 if inb e.2.1 a.length then
 Kv (Bn a (AL e.2.1)<|AA.mk r.1.1.1 r.1.1.2.1 r.1.1.2.2.1 r.1.1.2.2.2.1 r.1.1.2.2.2.2.1) (!(rd (dfl .AQ) a e.2.1).up)
 else U
 else
 if(A1<|e.1=11) then
 (VE (((rd (dfl .AQ) a e.2.1).id,(rd (dfl .AQ) a e.2.1).up,(rd (dfl .AQ) a e.2.1).log,(rd (dfl .AQ) a e.2.1).fo,(rd (dfl .AQ) a e.2.1).AN,()),e.2.2.1,e.2.2.2.1,())).bind λr=>
 if r.1.2.2.1 then
 if(A1<|(g.length:Int)<6) then
 if inb e.2.1 a.length then
 if Ac (g.length+([(A6.mk r.1.2.1.1 r.1.2.1.2.1 r.1.2.1.2.2.1 r.1.2.1.2.2.2.1 r.1.2.1.2.2.2.2.1)]:List A6).length) then
 K (Bn a (AL e.2.1)<|AA.mk r.1.1.1 r.1.1.2.1 r.1.1.2.2.1 r.1.1.2.2.2.1 r.1.1.2.2.2.2.1) d (g++([(A6.mk r.1.2.1.1 r.1.2.1.2.1 r.1.2.1.2.2.1 r.1.2.1.2.2.2.1 r.1.2.1.2.2.2.2.1)]:List A6))
 else U
 else U
 else
 F
 else
 F
 else
 if(A1<|e.1=12) then
 (Un (((rd (dfl .AQ) a e.2.1).id,(rd (dfl .AQ) a e.2.1).up,(rd (dfl .AQ) a e.2.1).log,(rd (dfl .AQ) a e.2.1).fo,(rd (dfl .AQ) a e.2.1).AN,()),())).bind λr=>
 if inb e.2.1 a.length then
 Kv (Bn a (AL e.2.1)<|AA.mk r.1.1.1 r.1.1.2.1 r.1.1.2.2.1 r.1.1.2.2.2.1 r.1.1.2.2.2.2.1) r.1.2.1
 else U
 else
 if(A1<|e.1=13) then
 (UY (((rd (dfl .AQ) a e.2.1).id,(rd (dfl .AQ) a e.2.1).up,(rd (dfl .AQ) a e.2.1).log,(rd (dfl .AQ) a e.2.1).fo,(rd (dfl .AQ) a e.2.1).AN,()),())).bind λr=>
 if inb e.2.1 a.length then
 Kv (Bn a (AL e.2.1)<|AA.mk r.1.1.1 r.1.1.2.1 r.1.1.2.2.1 r.1.1.2.2.2.1 r.1.1.2.2.2.2.1) r.1.2.1
 else U
 else
 F
 else U
def doK{Ω:Type}(a:List AA)(b:List Bool)(c:List AS)(d g:List A6)(e:ZE)(K:List AA->List Bool->List AS->List A6->List A6->Option Ω)(F:Option Ω)(Kv:List AA->Bool->Option Ω)(Km:List AS->Bool->Option Ω)(Kz:Bool->Option Ω):Option Ω:=
 if(A1<|e.1=4) then
 Qz a b c e (λx y=>K x b y d g) F
 else
 if(A1<|e.1=5) then
 Qz a b c e (λx y=>K x b y d g) F
 else
 if(A1<|e.1=6) then
 Qz a b c e (λx y=>K x b y d g) F
 else
 if(A1<|e.1=9) then
 U0 b e (λy=>K a y c d g) F
 else
 if(A1<|e.1=10) then
 U0 b e (λy=>K a y c d g) F
 else
 nE a c d g e (λx y z=>K x b c y z) F Kv Km Kz
def W3(x:Y2×Y6×A2):Option ((Y2×Bool×A2)×A2):=(doK x.1.2.1 x.1.2.2.1 x.1.2.2.2.1 x.1.2.2.2.2.1 x.1.2.2.2.2.2.1 x.2.1 (λk l r s g=>I ((((w64<|x.1.1+1),k,l,r,s,g,()),A0,()),())) (I ((((w64<|x.1.1+1),x.1.2),A3,()),())) (λk b=>I ((((w64<|x.1.1+1),k,x.1.2.2.1,x.1.2.2.2.1,x.1.2.2.2.2.1,x.1.2.2.2.2.2.1,()),b,()),())) (λr b=>I ((((w64<|x.1.1+1),x.1.2.1,x.1.2.2.1,r,x.1.2.2.2.2.1,x.1.2.2.2.2.2.1,()),b,()),())) λb=>I ((((w64<|x.1.1+1),x.1.2.1,x.1.2.2.1,x.1.2.2.2.1,x.1.2.2.2.2.1,x.1.2.2.2.2.2.1,()),b,()),()))
def aA4:Ent:=(41,U,⟨[Z3,Z13],[Z3,.bool],W3⟩)
def ahv:SQ Tryz.prog aA4:=sk (v:= .nil) (fn:=Tryz.f41) apg kN
def RR:Cx:=cX [IH,Gi,fh,qD,rA,fg,qx,rK,rB,qy,rL,qz,qC,rJ] [] []
def ajK:OKC Tryz.prog RR (NT RR 3):=abP 3 mixed<|gC Ii<|gC HA<|gC adU<|gC acS<|gC acf<|gC adT<|gC acb<|gC acx<|gC acg<|gC acd<|gC acy<|gC ace<|gC acR<|gC acw<|AJ
def FW(x:Y10×Y6×A2):Option ((Bool×A2)×(Y10×A2)):=(doK x.1.2.2.1 x.1.2.2.2.1 x.1.2.2.2.2.1 x.1.2.2.2.2.2.1 x.1.2.2.2.2.2.2.1 x.2.1 (λk l r s g=>if Ac (x.1.2.2.2.2.2.2.2.1.length+([(Event.mk x.2.1.1 x.2.1.2.1 x.2.1.2.2.1 x.2.1.2.2.2.1 x.2.1.2.2.2.2.1 x.2.1.2.2.2.2.2.1 x.2.1.2.2.2.2.2.2.1 x.2.1.2.2.2.2.2.2.2.1 x.2.1.2.2.2.2.2.2.2.2.1 x.2.1.2.2.2.2.2.2.2.2.2.1)]:List Event).length) then I ((A0,()),((x.1.1,(w64<|x.1.2.1+1),k,l,r,s,g,(x.1.2.2.2.2.2.2.2.1++([(Event.mk x.2.1.1 x.2.1.2.1 x.2.1.2.2.1 x.2.1.2.2.2.1 x.2.1.2.2.2.2.1 x.2.1.2.2.2.2.2.1 x.2.1.2.2.2.2.2.2.1 x.2.1.2.2.2.2.2.2.2.1 x.2.1.2.2.2.2.2.2.2.2.1 x.2.1.2.2.2.2.2.2.2.2.2.1)]:List Event)),()),())) else U) (I ((A3,()),(x.1,()))) (λk b=>if b then if Ac (x.1.2.2.2.2.2.2.2.1.length+([(Event.mk x.2.1.1 x.2.1.2.1 x.2.1.2.2.1 x.2.1.2.2.2.1 x.2.1.2.2.2.2.1 x.2.1.2.2.2.2.2.1 x.2.1.2.2.2.2.2.2.1 x.2.1.2.2.2.2.2.2.2.1 x.2.1.2.2.2.2.2.2.2.2.1 x.2.1.2.2.2.2.2.2.2.2.2.1)]:List Event).length) then I ((b,()),((x.1.1,(w64<|x.1.2.1+1),k,x.1.2.2.2.1,x.1.2.2.2.2.1,x.1.2.2.2.2.2.1,x.1.2.2.2.2.2.2.1,(x.1.2.2.2.2.2.2.2.1++([(Event.mk x.2.1.1 x.2.1.2.1 x.2.1.2.2.1 x.2.1.2.2.2.1 x.2.1.2.2.2.2.1 x.2.1.2.2.2.2.2.1 x.2.1.2.2.2.2.2.2.1 x.2.1.2.2.2.2.2.2.2.1 x.2.1.2.2.2.2.2.2.2.2.1 x.2.1.2.2.2.2.2.2.2.2.2.1)]:List Event)),()),())) else U else I ((b,()),((x.1.1,x.1.2.1,k,x.1.2.2.2),()))) (λr b=>if b then if Ac (x.1.2.2.2.2.2.2.2.1.length+([(Event.mk x.2.1.1 x.2.1.2.1 x.2.1.2.2.1 x.2.1.2.2.2.1 x.2.1.2.2.2.2.1 x.2.1.2.2.2.2.2.1 x.2.1.2.2.2.2.2.2.1 x.2.1.2.2.2.2.2.2.2.1 x.2.1.2.2.2.2.2.2.2.2.1 x.2.1.2.2.2.2.2.2.2.2.2.1)]:List Event).length) then I ((b,()),((x.1.1,(w64<|x.1.2.1+1),x.1.2.2.1,x.1.2.2.2.1,r,x.1.2.2.2.2.2.1,x.1.2.2.2.2.2.2.1,(x.1.2.2.2.2.2.2.2.1++([(Event.mk x.2.1.1 x.2.1.2.1 x.2.1.2.2.1 x.2.1.2.2.2.1 x.2.1.2.2.2.2.1 x.2.1.2.2.2.2.2.1 x.2.1.2.2.2.2.2.2.1 x.2.1.2.2.2.2.2.2.2.1 x.2.1.2.2.2.2.2.2.2.2.1 x.2.1.2.2.2.2.2.2.2.2.2.1)]:List Event)),()),())) else U else U) λb=>if b then if Ac (x.1.2.2.2.2.2.2.2.1.length+([(Event.mk x.2.1.1 x.2.1.2.1 x.2.1.2.2.1 x.2.1.2.2.2.1 x.2.1.2.2.2.2.1 x.2.1.2.2.2.2.2.1 x.2.1.2.2.2.2.2.2.1 x.2.1.2.2.2.2.2.2.2.1 x.2.1.2.2.2.2.2.2.2.2.1 x.2.1.2.2.2.2.2.2.2.2.2.1)]:List Event).length) then I ((b,()),((x.1.1,(w64<|x.1.2.1+1),x.1.2.2.1,x.1.2.2.2.1,x.1.2.2.2.2.1,x.1.2.2.2.2.2.1,x.1.2.2.2.2.2.2.1,(x.1.2.2.2.2.2.2.2.1++([(Event.mk x.2.1.1 x.2.1.2.1 x.2.1.2.2.1 x.2.1.2.2.2.1 x.2.1.2.2.2.2.1 x.2.1.2.2.2.2.2.1 x.2.1.2.2.2.2.2.2.1 x.2.1.2.2.2.2.2.2.2.1 x.2.1.2.2.2.2.2.2.2.2.1 x.2.1.2.2.2.2.2.2.2.2.2.1)]:List Event)),()),())) else U else I ((b,()),(x.1,())))
def LM:Ent:=(59,U,⟨[Z22,Z13],[.bool],FW⟩)
end Go.VS
end
