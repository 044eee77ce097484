/- Part 4. -/
import Derived.Shelf.Utf8.RuneCount
import Derived.Shelf.Strconv.Itoa0
import Derived.Shelf.Strconv.Itoa1
import Derived.Shelf.LaysM
import Derived.Shelf.Strconv.Itoa2
import Derived.Shelf.Strconv.Itoa3
import Derived.Shelf.Strings.Search1
import Derived.Shelf.Strings.Search2
import Derived.Shelf.Strings.Search3
import Derived.Shelf.Strings.Cut
import Derived.Shelf.Strings.Count
import Derived.Shelf.Strings.Shaped
import Derived.Shelf.Strings.Split
import Derived.Shelf.Strings.SplitShaped
import Derived.Shelf.Unicode.Decode
import Derived.Shelf.Strings.RuneCount
import Derived.Shelf.Strings.Explode
import Derived.Shelf.Unicode.DecodeSlow
import Derived.Shelf.Unicode.DecodeAny
import Derived.Test.YtgjljlpdfceilaaGreatDoorProg
import Derived.Test.YtgjljlpdfceilaaGreatDoorQAI
open Bool renaming false->A0,true->Y
open Decidable renaming decide->U
open Go.Lib renaming TabIs->Mv,cellsOf->bQ,countB->Nn,cut->Fm,itoa->B7,pow10Tab->Nv,splitB->JD
open Go.Shelf renaming Ren->Uz
open Go.Value renaming string->bS
open Int renaming tdiv->B2,tmod->BM,toNat->AO
open List renaming drop->Bt,length->j8,replicate->BT,set->Bu,take->BQ
open Option renaming none->G,some->I
set_option linter.all false
noncomputable section
namespace Go.Proofs
open Go.Shelf
def Tryz.azZ:Uz:=⟨fun|171=>152|243=>189|246=>231|283=>252|284=>253|285=>254|286=>255|129=>263|317=>262|318=>264|319=>265|320=>266|337=>274|338=>275|n=>n,fun|3=>3|9=>9|2=>2|4=>4|171=>226|0=>0|53=>227|37=>22|5=>5|173=>230|212=>236|51=>237|20=>20|213=>238|46=>239|232=>247|233=>248|n=>n,fun|17=>0|18=>2|19=>3|n=>n⟩
def Tryz.azm:Go.Proofs.LaysM.n171 prog Tryz.azZ:={
 mixed:=by kernel_rfl
 f129:=func263.trans (congrArg I VS.aJU)
 f171:=func152.trans (congrArg I VS.aJU)
 f243:=func189.trans (congrArg I VS.aJU)
 f246:=func231.trans (congrArg I VS.aJU)
 f283:=func252.trans (congrArg I VS.aJU)
 f284:=func253.trans (congrArg I VS.aJU)
 f285:=func254.trans (congrArg I VS.aJU)
 f286:=func255.trans (congrArg I VS.aJU)
 f317:=func262.trans (congrArg I VS.aJU)
 f318:=func264.trans (congrArg I VS.aJU)
 f319:=func265.trans (congrArg I VS.aJU)
 f320:=func266.trans (congrArg I VS.aJU)
 f337:=func274.trans (congrArg I VS.aJU)
 f338:=func275.trans (congrArg I VS.aJU)
 t0:=Tryz.underlying0
 a0:=Tryz.isAgg0
 z0:=Tryz.sizeOf0
 v0:=Tryz.zeroValue0
 t2:=Tryz.underlying2
 a2:=Tryz.isAgg2
 z2:=Tryz.sizeOf2
 v2:=Tryz.zeroValue2
 t3:=Tryz.underlying3
 a3:=Tryz.isAgg3
 z3:=Tryz.sizeOf3
 v3:=Tryz.zeroValue3
 t4:=Tryz.underlying4
 a4:=Tryz.isAgg4
 z4:=Tryz.sizeOf4
 v4:=Tryz.zeroValue4
 t5:=Tryz.underlying5
 a5:=Tryz.isAgg5
 z5:=Tryz.sizeOf5
 v5:=Tryz.zeroValue5
 t9:=Tryz.underlying9
 a9:=Tryz.isAgg9
 z9:=Tryz.sizeOf9
 v9:=Tryz.zeroValue9
 t20:=Tryz.underlying20
 a20:=Tryz.isAgg20
 z20:=Tryz.sizeOf20
 v20:=Tryz.zeroValue20
 t37:=Tryz.underlying22
 a37:=Tryz.isAgg22
 z37:=Tryz.sizeOf22
 v37:=Tryz.zeroValue22
 t46:=Tryz.underlying239
 a46:=Tryz.isAgg239
 z46:=Tryz.sizeOf239
 v46:=Tryz.zeroValue239
 t51:=Tryz.underlying237
 a51:=Tryz.isAgg237
 z51:=Tryz.sizeOf237
 v51:=Tryz.zeroValue237
 t53:=Tryz.underlying227
 a53:=Tryz.isAgg227
 z53:=Tryz.sizeOf227
 v53:=Tryz.zeroValue227
 t171:=Tryz.underlying226
 a171:=Tryz.isAgg226
 z171:=Tryz.sizeOf226
 v171:=Tryz.zeroValue226
 t173:=Tryz.underlying230
 a173:=Tryz.isAgg230
 z173:=Tryz.sizeOf230
 v173:=Tryz.zeroValue230
 t212:=Tryz.underlying236
 a212:=Tryz.isAgg236
 z212:=Tryz.sizeOf236
 v212:=Tryz.zeroValue236
 t213:=Tryz.underlying238
 a213:=Tryz.isAgg238
 z213:=Tryz.sizeOf238
 t232:=Tryz.underlying247
 a232:=Tryz.isAgg247
 z232:=Tryz.sizeOf247
 v232:=Tryz.zeroValue247
 t233:=Tryz.underlying248
 a233:=Tryz.isAgg248
 z233:=Tryz.sizeOf248
 v233:=Tryz.zeroValue248
 g17:=by kernel_rfl
 g18:=by kernel_rfl
 g19:=by kernel_rfl
 i0:=by kernel_rfl
 i2:=by kernel_rfl
 i3:=by kernel_rfl
 i4:=by kernel_rfl
 i5:=by kernel_rfl
 i9:=by kernel_rfl
 i20:=by kernel_rfl
 i37:=by kernel_rfl
 i46:=by kernel_rfl
 i51:=by kernel_rfl
 i53:=by kernel_rfl
 i171:=by kernel_rfl
 i173:=by kernel_rfl
 i212:=by kernel_rfl
 i232:=by kernel_rfl
 i233:=by kernel_rfl
 m17:=by kernel_rfl
 m18:=by kernel_rfl
 m19:=by kernel_rfl }
def Tryz.azd:Uz:=⟨fun|145=>198|220=>238|219=>256|217=>267|225=>268|224=>269|267=>270|266=>276|314=>277|n=>n,fun|9=>9|4=>4|59=>189|3=>3|5=>5|46=>239|146=>245|51=>237|n=>n,fun|1=>1|n=>n⟩
def Tryz.azj:Go.Proofs.Lays.n145 prog Tryz.azd:={
 mixed:=by kernel_rfl
 f145:=func198.trans (congrArg I VS.aJU)
 f217:=func267.trans (congrArg I VS.aJU)
 f219:=func256.trans (congrArg I VS.aJU)
 f220:=func238.trans (congrArg I VS.aJU)
 f224:=func269.trans (congrArg I VS.aJU)
 f225:=func268.trans (congrArg I VS.aJU)
 f266:=func276.trans (congrArg I VS.aJU)
 f267:=func270.trans (congrArg I VS.aJU)
 f314:=func277.trans (congrArg I VS.aJU)
 t3:=Tryz.underlying3
 a3:=Tryz.isAgg3
 z3:=Tryz.sizeOf3
 v3:=Tryz.zeroValue3
 t4:=Tryz.underlying4
 a4:=Tryz.isAgg4
 z4:=Tryz.sizeOf4
 v4:=Tryz.zeroValue4
 t5:=Tryz.underlying5
 a5:=Tryz.isAgg5
 z5:=Tryz.sizeOf5
 v5:=Tryz.zeroValue5
 t9:=Tryz.underlying9
 a9:=Tryz.isAgg9
 z9:=Tryz.sizeOf9
 v9:=Tryz.zeroValue9
 t46:=Tryz.underlying239
 a46:=Tryz.isAgg239
 z46:=Tryz.sizeOf239
 v46:=Tryz.zeroValue239
 t51:=Tryz.underlying237
 a51:=Tryz.isAgg237
 z51:=Tryz.sizeOf237
 v51:=Tryz.zeroValue237
 t59:=Tryz.underlying189
 a59:=Tryz.isAgg189
 z59:=Tryz.sizeOf189
 v59:=Tryz.zeroValue189
 t146:=Tryz.underlying245
 a146:=Tryz.isAgg245
 z146:=Tryz.sizeOf245
 v146:=Tryz.zeroValue245
 g1:=by kernel_rfl }
def Tryz.aza:Uz:=⟨fun|145=>198|220=>238|219=>256|217=>267|225=>268|224=>269|267=>270|266=>276|314=>277|n=>n,fun|9=>9|4=>4|59=>189|3=>3|5=>5|46=>239|146=>245|51=>237|n=>n,fun|1=>1|n=>n⟩
def Tryz.sR:Go.Proofs.LaysM.n145 prog Tryz.aza:={
 mixed:=by kernel_rfl
 f145:=func198.trans (congrArg I VS.aJU)
 f217:=func267.trans (congrArg I VS.aJU)
 f219:=func256.trans (congrArg I VS.aJU)
 f220:=func238.trans (congrArg I VS.aJU)
 f224:=func269.trans (congrArg I VS.aJU)
 f225:=func268.trans (congrArg I VS.aJU)
 f266:=func276.trans (congrArg I VS.aJU)
 f267:=func270.trans (congrArg I VS.aJU)
 f314:=func277.trans (congrArg I VS.aJU)
 t3:=Tryz.underlying3
 a3:=Tryz.isAgg3
 z3:=Tryz.sizeOf3
 v3:=Tryz.zeroValue3
 t4:=Tryz.underlying4
 a4:=Tryz.isAgg4
 z4:=Tryz.sizeOf4
 v4:=Tryz.zeroValue4
 t5:=Tryz.underlying5
 a5:=Tryz.isAgg5
 z5:=Tryz.sizeOf5
 v5:=Tryz.zeroValue5
 t9:=Tryz.underlying9
 a9:=Tryz.isAgg9
 z9:=Tryz.sizeOf9
 v9:=Tryz.zeroValue9
 t46:=Tryz.underlying239
 a46:=Tryz.isAgg239
 z46:=Tryz.sizeOf239
 v46:=Tryz.zeroValue239
 t51:=Tryz.underlying237
 a51:=Tryz.isAgg237
 z51:=Tryz.sizeOf237
 v51:=Tryz.zeroValue237
 t59:=Tryz.underlying189
 a59:=Tryz.isAgg189
 z59:=Tryz.sizeOf189
 v59:=Tryz.zeroValue189
 t146:=Tryz.underlying245
 a146:=Tryz.isAgg245
 z146:=Tryz.sizeOf245
 v146:=Tryz.zeroValue245
 g1:=by kernel_rfl
 i3:=by kernel_rfl
 i4:=by kernel_rfl
 i5:=by kernel_rfl
 i9:=by kernel_rfl
 i46:=by kernel_rfl
 i51:=by kernel_rfl
 i59:=by kernel_rfl
 i146:=by kernel_rfl
 m1:=by kernel_rfl
 s1_3:=λw h=>Go.Proofs.cell_of_shapedOpen_int (zero:= #[.int .i64 0]) (t:=3) h (of_decide_eq_true VS.aJU) VS.aJU rfl VS.aJU VS.aJU Tryz.underlying3 }
def Tryz.azc:Uz:=⟨fun|146=>203|221=>243|268=>257|138=>258|143=>259|195=>271|197=>272|218=>273|219=>256|260=>278|217=>267|225=>268|224=>269|267=>270|266=>276|314=>277|n=>n,fun|9=>9|31=>101|3=>3|4=>4|0=>0|105=>242|21=>21|5=>5|46=>239|119=>249|139=>252|138=>251|146=>245|51=>237|n=>n,fun|1=>1|3=>4|4=>5|n=>n⟩
def Tryz.azi:Go.Proofs.Lays.n146 prog Tryz.azc:={
 mixed:=by kernel_rfl
 f138:=func258.trans (congrArg I VS.aJU)
 f143:=func259.trans (congrArg I VS.aJU)
 f146:=func203.trans (congrArg I VS.aJU)
 f195:=func271.trans (congrArg I VS.aJU)
 f197:=func272.trans (congrArg I VS.aJU)
 f217:=func267.trans (congrArg I VS.aJU)
 f218:=func273.trans (congrArg I VS.aJU)
 f219:=func256.trans (congrArg I VS.aJU)
 f221:=func243.trans (congrArg I VS.aJU)
 f224:=func269.trans (congrArg I VS.aJU)
 f225:=func268.trans (congrArg I VS.aJU)
 f260:=func278.trans (congrArg I VS.aJU)
 f266:=func276.trans (congrArg I VS.aJU)
 f267:=func270.trans (congrArg I VS.aJU)
 f268:=func257.trans (congrArg I VS.aJU)
 f314:=func277.trans (congrArg I VS.aJU)
 t0:=Tryz.underlying0
 a0:=Tryz.isAgg0
 z0:=Tryz.sizeOf0
 v0:=Tryz.zeroValue0
 t3:=Tryz.underlying3
 a3:=Tryz.isAgg3
 z3:=Tryz.sizeOf3
 v3:=Tryz.zeroValue3
 t4:=Tryz.underlying4
 a4:=Tryz.isAgg4
 z4:=Tryz.sizeOf4
 v4:=Tryz.zeroValue4
 t5:=Tryz.underlying5
 a5:=Tryz.isAgg5
 z5:=Tryz.sizeOf5
 v5:=Tryz.zeroValue5
 t9:=Tryz.underlying9
 a9:=Tryz.isAgg9
 z9:=Tryz.sizeOf9
 v9:=Tryz.zeroValue9
 t21:=Tryz.underlying21
 a21:=Tryz.isAgg21
 z21:=Tryz.sizeOf21
 v21:=Tryz.zeroValue21
 t31:=Tryz.underlying101
 a31:=Tryz.isAgg101
 z31:=Tryz.sizeOf101
 v31:=Tryz.zeroValue101
 t46:=Tryz.underlying239
 a46:=Tryz.isAgg239
 z46:=Tryz.sizeOf239
 v46:=Tryz.zeroValue239
 t51:=Tryz.underlying237
 a51:=Tryz.isAgg237
 z51:=Tryz.sizeOf237
 v51:=Tryz.zeroValue237
 t105:=Tryz.underlying242
 a105:=Tryz.isAgg242
 z105:=Tryz.sizeOf242
 v105:=Tryz.zeroValue242
 t119:=Tryz.underlying249
 a119:=Tryz.isAgg249
 z119:=Tryz.sizeOf249
 t138:=Tryz.underlying251
 a138:=Tryz.isAgg251
 z138:=Tryz.sizeOf251
 v138:=Tryz.zeroValue251
 t139:=Tryz.underlying252
 a139:=Tryz.isAgg252
 z139:=Tryz.sizeOf252
 v139:=Tryz.zeroValue252
 t146:=Tryz.underlying245
 a146:=Tryz.isAgg245
 z146:=Tryz.sizeOf245
 v146:=Tryz.zeroValue245
 g1:=by kernel_rfl
 g3:=by kernel_rfl
 g4:=by kernel_rfl }
def Tryz.azb:Uz:=⟨fun|147=>240|221=>243|268=>257|138=>258|143=>259|195=>271|197=>272|218=>273|219=>256|260=>278|217=>267|225=>268|224=>269|267=>270|266=>276|314=>277|n=>n,fun|9=>9|3=>3|31=>101|4=>4|0=>0|105=>242|21=>21|5=>5|46=>239|119=>249|139=>252|138=>251|146=>245|51=>237|n=>n,fun|1=>1|3=>4|4=>5|n=>n⟩
def Tryz.azh:Go.Proofs.Lays.n147 prog Tryz.azb:={
 mixed:=by kernel_rfl
 f138:=func258.trans (congrArg I VS.aJU)
 f143:=func259.trans (congrArg I VS.aJU)
 f147:=func240.trans (congrArg I VS.aJU)
 f195:=func271.trans (congrArg I VS.aJU)
 f197:=func272.trans (congrArg I VS.aJU)
 f217:=func267.trans (congrArg I VS.aJU)
 f218:=func273.trans (congrArg I VS.aJU)
 f219:=func256.trans (congrArg I VS.aJU)
 f221:=func243.trans (congrArg I VS.aJU)
 f224:=func269.trans (congrArg I VS.aJU)
 f225:=func268.trans (congrArg I VS.aJU)
 f260:=func278.trans (congrArg I VS.aJU)
 f266:=func276.trans (congrArg I VS.aJU)
 f267:=func270.trans (congrArg I VS.aJU)
 f268:=func257.trans (congrArg I VS.aJU)
 f314:=func277.trans (congrArg I VS.aJU)
 t0:=Tryz.underlying0
 a0:=Tryz.isAgg0
 z0:=Tryz.sizeOf0
 v0:=Tryz.zeroValue0
 t3:=Tryz.underlying3
 a3:=Tryz.isAgg3
 z3:=Tryz.sizeOf3
 v3:=Tryz.zeroValue3
 t4:=Tryz.underlying4
 a4:=Tryz.isAgg4
 z4:=Tryz.sizeOf4
 v4:=Tryz.zeroValue4
 t5:=Tryz.underlying5
 a5:=Tryz.isAgg5
 z5:=Tryz.sizeOf5
 v5:=Tryz.zeroValue5
 t9:=Tryz.underlying9
 a9:=Tryz.isAgg9
 z9:=Tryz.sizeOf9
 v9:=Tryz.zeroValue9
 t21:=Tryz.underlying21
 a21:=Tryz.isAgg21
 z21:=Tryz.sizeOf21
 v21:=Tryz.zeroValue21
 t31:=Tryz.underlying101
 a31:=Tryz.isAgg101
 z31:=Tryz.sizeOf101
 v31:=Tryz.zeroValue101
 t46:=Tryz.underlying239
 a46:=Tryz.isAgg239
 z46:=Tryz.sizeOf239
 v46:=Tryz.zeroValue239
 t51:=Tryz.underlying237
 a51:=Tryz.isAgg237
 z51:=Tryz.sizeOf237
 v51:=Tryz.zeroValue237
 t105:=Tryz.underlying242
 a105:=Tryz.isAgg242
 z105:=Tryz.sizeOf242
 v105:=Tryz.zeroValue242
 t119:=Tryz.underlying249
 a119:=Tryz.isAgg249
 z119:=Tryz.sizeOf249
 t138:=Tryz.underlying251
 a138:=Tryz.isAgg251
 z138:=Tryz.sizeOf251
 v138:=Tryz.zeroValue251
 t139:=Tryz.underlying252
 a139:=Tryz.isAgg252
 z139:=Tryz.sizeOf252
 v139:=Tryz.zeroValue252
 t146:=Tryz.underlying245
 a146:=Tryz.isAgg245
 z146:=Tryz.sizeOf245
 v146:=Tryz.zeroValue245
 g1:=by kernel_rfl
 g3:=by kernel_rfl
 g4:=by kernel_rfl }
open Go.RowKit Go.Sort Go.Lib in
theorem Tryz.strconv_Itoa (n:Int) (h0: -9223372036854775808<=n) (h1:n<=9223372036854775807) (w:World) (ak:Mv prog w "internal/strconv.uint64pow10" .u64 Nv):
  Calls prog 152 #[.int .i64 n] w λe w'=>e= .returned (.string ⟨(B7 n).toArray⟩)/\ ∃k os,w'=grow (w.drewN k) os:=Any.strconv_Itoa Tryz.azm n h0 h1 w ak
open Go.RowKit Go.Lib in
theorem Tryz.strings_Cut (s sep:ByteArray) (m:Int) (w:World) (hs:s.size<4294967281) (hm:w.cell? ⟨1,0,G⟩=I (.int .i64 m)):
  Calls prog 198 #[.string s,.string sep] w λe w'=>e= .returned (.tuple #[.string ⟨(Fm s.data.toList sep.data.toList).1.toArray⟩,.string ⟨(Fm s.data.toList sep.data.toList).2.1.toArray⟩,.bool (Fm s.data.toList sep.data.toList).2.2])/\ ∃n,w'=w.drewN n:=Any.strings_Cut Tryz.azj s sep m w hs hm
open Go.RowKit Go.Lib in
theorem Tryz.strings_Split (s sep:ByteArray) (m:Int) (w:World) (hs:s.size<4294967281) (hm:w.cell? ⟨1,0,G⟩=I (.int .i64 m)) (h1:1<=sep.size):
  Calls prog 203 #[.string s,.string sep] w λe w'=>
   e= .returned (.slice (I ⟨w.heap.size,0,G⟩) (Nn s sep+1)<|Nn s sep+1)/\w'=w.alloc (.cells ((JD sep 0 (Nn s sep) s).map bS).toArray 9):=Any.strings_Split Tryz.azi VS.aJU s sep m w hs hm h1
open Go.RowKit Go.Lib in
theorem Tryz.strings_SplitN (s sep:ByteArray) (n:Nat) (m:Int) (w:World) (hs:s.size<4294967281) (hm:w.cell? ⟨1,0,G⟩=I (.int .i64 m)) (h1:1<=sep.size) (hn:1<=n) (aF7:n<=9223372036854775807):
  Calls prog 240 #[.string s,.string sep,.int .i64 n] w λe w'=>
   e= .returned (.slice (I ⟨w.heap.size,0,G⟩) (JD sep 0 (min n (s.size+1) - 1) s).length<|min n<|s.size+1)/\w'=w.alloc (.cells (bQ (JD sep 0 (min n (s.size+1) - 1) s)<|min n<|s.size+1) 9):=Any.strings_SplitN Tryz.azh VS.aJU s sep n m w hs hm h1 hn aF7
end Go.Proofs
namespace Go.VS
open Go Go.Proofs Tryz
set_option linter.unusedVariables false
set_option maxRecDepth 100000
abbrev aJN:=dfl .AK
abbrev aJS:=dfl .Ah
abbrev aJ1:=dfl .CM
abbrev aJ3:=dfl .bool
abbrev aJZ:=dfl .frame
abbrev aJP:=dfl .half
abbrev aJR:=dfl .int
abbrev aJV:=dfl .mark
abbrev aJ0:=dfl .mixed
abbrev y5:=dfl .note
abbrev aJY:=dfl .str
abbrev aJW:=dfl .u8
abbrev j6:Sh:=.int .i64
abbrev y7(e:Ent):Prop:=SQ Tryz.prog e
abbrev v7:=Int×D
abbrev aJM:=Int×v7
abbrev aJQ:=Int×aJM
abbrev t1(v:Adv):Adv:= .two .nil v
def sk{P:Program}{C:Cx}{inl:(Ω:Type)->Inl Ω}{f:Nat}{d:Option Nat}{fn:Func}{m:Db}{v:Adv}{ls:List (Code×Loop)}(hC:OKC P C inl)(hl:LpK P fn.ntmps (EA 0 m.ps) ls)
  (hf:fnB P f fn m=(I fn,A0,Y,Y):=by kernel_rfl)(hb:fn.body=I (LZ fn):=by kernel_rfl)(h:G9 (LZ fn) v=ls:=by kernel_rfl)(hg:∀x,cw C inl fn v m x=m.g x:=by intro _;kernel_rfl):SQ P (f,d,m):=
 so hC hf hb h hl hg
def sq{P:Program}{C:Cx}{inl:(Ω:Type)->Inl Ω}(hC:OKC P C inl){n:Nat}{pins:List Nat}{body:Code}{v:Adv}{l:Loop}{b:Lv l.sch->Option (Lv l.sch ⊕ (Lv l.L4 ⊕ Lv l.L5))}{ls:List (Code×Loop)}
  (hl:LpK P n pins ls)(hb:∀x,evL C inl n pins body v l x=b x:=by intro _;kernel_rfl)(hr:l.run=AS b:=by rfl)(h:G9 body v=ls:=by kernel_rfl):LpK P n pins [(body,l)]:=lk hC hb hr h hl
def kd:TypeId->Option K
 | 2=>I .int
 | 3=>I .int
 | 4=>I .bool
 | 5=>I .u8
 | 9=>I .str
 | 10=>I .str
 | 11=>I .str
 | 36=>I .note
 | 39=>I .keep
 | 45=>I .AK
 | 51=>I .CM
 | 59=>I .Ah
 | 61=>I .mark
 | 107=>I .half
 | 124=>I .frame
 | 142=>I .mixed
 | _=>G
abbrev Y0:Type:=List Int×v7
abbrev Z0:Sh:= .box 92 [.fz .u8,j6]
abbrev Y1:Type:=Int×Bool×A1×Int×List AG×D
abbrev Z1:Sh:= .agg [j6,.bool,.str,j6,.row 107 .half]
abbrev Y2:Type:=Int×List A7×List Bool×List AL×List A3×List A3×D
abbrev Z2:Sh:= .box 31 [j6,.row 45 .AK,.row 4 .bool,.row 59 .Ah,.row 36 .note,.row 36 .note]
abbrev Z3:Sh:= .agg [j6,.row 45 .AK,.row 4 .bool,.row 59 .Ah,.row 36 .note,.row 36 .note]
abbrev Y3:Type:=Int×Int×Int×List A3×List Mark×List A3×D
abbrev Z4:Sh:= .agg [j6,j6,j6,.row 36 .note,.row 61 .mark,.row 36 .note]
abbrev Y4:Type:=Int×Int×Int×Int×A1×D
abbrev Z5:Sh:= .box 36 [j6,j6,j6,j6,.str]
abbrev Z6:Sh:= .agg [j6,j6,j6,j6,.str]
abbrev Z7:Sh:= .box 39 [j6,j6,j6,.sl .note,.sl .mark,.sl .note]
abbrev Z8:Sh:= .agg [j6,j6,j6,.fz .note,.fz .mark,.fz .note]
abbrev Z9:Sh:= .box 39 [j6,j6,j6,.row 36 .note,.row 61 .mark,.row 36 .note]
abbrev Y5:Type:=aJQ
abbrev Z10:Sh:= .box 61 [j6,j6,j6]
abbrev Z11:Sh:= .agg [j6,j6,j6]
abbrev Z12:Sh:= .agg [j6,.bool,.str,j6,.fz .half]
abbrev Y6:Type:=Int×Int×Int×Int×Int×Int×Int×Int×Int×A1×D
abbrev Z13:Sh:= .agg [j6,j6,j6,j6,j6,j6,j6,j6,j6,.str]
abbrev Z14:Sh:= .box 124 [j6,j6,j6,j6,j6,j6,j6,j6,j6,.str]
abbrev Y7:Type:=A1×v7
abbrev Z15:Sh:= .agg [.str,j6]
abbrev Y8:Type:=Int×A1×D
abbrev Z16:Sh:= .agg [j6,.str]
abbrev Y9:Type:=Int×Int×Int×Int×Int×List AT×D
abbrev Z17:Sh:= .box 107 [j6,j6,j6,j6,j6,.sl .mixed]
abbrev Z18:Sh:= .agg [j6,j6,j6,j6,j6,.fz .mixed]
abbrev Z19:Sh:= .box 45 [j6,.bool,.str,j6,.sl .half]
abbrev Z20:Sh:= .box 45 [j6,.bool,.str,j6,.row 107 .half]
abbrev Z21:Sh:= .box 42 [.str,j6]
abbrev Y10:Type:=Y0×Int×List A7×List Bool×List AL×List A3×List A3×List Event×D
abbrev Z22:Sh:= .box 69 [Z0,j6,.row 45 .AK,.row 4 .bool,.row 59 .Ah,.row 36 .note,.row 36 .note,.row 51 .CM]
abbrev Z23:Sh:= .box 92 [.sl .u8,j6]
abbrev Z24:Sh:= .box 69 [Z23,j6,.row 45 .AK,.row 4 .bool,.row 59 .Ah,.row 36 .note,.row 36 .note,.row 51 .CM]
abbrev Z25:Sh:= .box 51 [j6,j6,j6,j6,j6,j6,j6,j6,j6,.str]
abbrev Y11:Type:=D×Int×List A7×List Bool×List AL×List A3×List A3×List Event×D
abbrev Z28:Sh:= .box 69 [.same 0,j6,.row 45 .AK,.row 4 .bool,.row 59 .Ah,.row 36 .note,.row 36 .note,.row 51 .CM]
abbrev Z29:Sh:= .box 31 [j6,.sl .AK,.sl .bool,.sl .Ah,.sl .note,.sl .note]
abbrev Z30:Sh:= .agg [j6,.fz .AK,.fz .bool,.fz .Ah,.fz .note,.fz .note]
abbrev Z31:Sh:= .box 39 [j6,j6,j6,.row 36 .note,.row 61 .mark,.sl .note]
abbrev Z32:Sh:= .box 142 [j6,.str]
abbrev Y12:Type:=Int×Int×A1×Bool×D
abbrev Z33:Sh:= .box 59 [j6,j6,.str,.bool]
abbrev Z34:Sh:= .box 45 [j6,.bool,.str,j6,.fz .half]
abbrev Z35:Sh:= .box 31 [j6,.fz .AK,.fz .bool,.fz .Ah,.fz .note,.fz .note]
abbrev Rnd(a b c:Type):=Option<|a ⊕ (b ⊕ c)
noncomputable abbrev cX(l:List Ent)(cz sp:List (Nat×Nat)):Cx:=⟨prog,kd,gam l,inR cz,inR sp⟩
abbrev LF(fn:Func)(pins path:List Nat)(l:Loop):=LpK prog fn.ntmps pins [(Pt path<|LZ fn,l)]
def mixed:prog.follows .mixedOrders=Y:=by kernel_rfl
def JH:(v7)->Option ((A1×D)×D):=VK
def T7:Ent:=(152,G,⟨[j6],[.str],JH⟩)
def Vz:y7 T7:=⟨arm (Ow func152 aJU (by kernel_rfl:f152.body=I (LZ f152))) aJU Tryz.strconv_Itoa,by kernel_rfl⟩
def XS:(A1×A1×D)->Option ((A1×A1×Bool×D)×D):=Q2
def aDM:Ent:=(198,G,⟨[.str,.str],[.str,.str,.bool],XS⟩)
def aeu:y7 aDM:=⟨atu (gm:=1) (Ow func198 aJU (by kernel_rfl:f198.body=I (LZ f198))) (BV aJU) (λw h=>Tryz.sR.s1_3 w h) Tryz.strings_Cut,by kernel_rfl⟩
def iD:(A1×A1×D)->Option ((List A1×D)×D):=V4
def aBA:Ent:=(203,G,⟨[.str,.str],[.row 9 .str],iD⟩)
def adO:y7 aBA:=⟨ar8 (gm:=1) (Ow func203 aJU (by kernel_rfl:f203.body=I (LZ f203))) (BV aJU) (λw h=>Tryz.sR.s1_3 w h) Tryz.strings_Split,by kernel_rfl⟩
def vj:(A1×A1×v7)->Option ((List A1×D)×D):=UB
def zm:Ent:=(240,G,⟨[.str,.str,j6],[.row 9 .str],vj⟩)
def ad0:y7 zm:=⟨aqb (gm:=1) (Ow func240 aJU (by kernel_rfl:f240.body=I (LZ f240))) (BV aJU) (λw h=>Tryz.sR.s1_3 w h) Tryz.strings_SplitN,by kernel_rfl⟩
def anY:Cx:=cX [] [] []
abbrev y8(C:Cx):Prop:=OKC prog C AF
def y9{kd:TypeId->Option K}{l:List Ent}{cz sp:Nat->Bool}(h:SF prog l):OKC prog ⟨prog,kd,gam l,cz,sp⟩ AF:=okc mixed h
def aqC:y8 anY:=y9<|AI
def jU(x:List Int×D):Option ((Y0×D)×D):=if U (2000<(j8 x.1:Int)) then if U (0<=2000)&&U (2000<=(j8 x.1:Int)) then let a:=(BQ (AO 2000) x.1);I (((a,0,()),()),()) else G else I (((x.1,0,()),()),())
def aDN:Ent:=(32,G,⟨[.fz .u8],[Z0],jU⟩)
def aev:y7 aDN:=sk (v:= .nil) (fn:=f32) aqC kN
def agu:Cx:=cX [] [] [(18,23)]
def aij:y8 agu:=y9<|AI
def Cl(x:Y0×v7):Option ((v7)×Y0×D):=if(U<|x.2.1<1)||(U<|(j8 x.1.1:Int)=0) then I ((0,()),((x.1.1,(w64<|x.1.2.1+1),()),())) else let a:=(w64<|(w64<|x.1.2.1+1) - 1);(if U (a<(j8 x.1.1:Int)) then if inb a x.1.1.length then if !decide (x.2.1=0) then let c:=(BM (w64<|rd aJW x.1.1 a) x.2.1);I ((c,()),((x.1.1,(w64<|x.1.2.1+1),()),())) else G else G else if !decide ((j8 x.1.1:Int)=0) then if inb (BM a (j8 x.1.1:Int)) x.1.1.length then if !decide ((j8 x.1.1:Int)=0) then if inb (BM (w64<|(w64<|a * 7)+3) (j8 x.1.1:Int)) x.1.1.length then if !decide ((j8 x.1.1:Int)=0) then let b:=(w64<|(w64<|(w64<|(w64<|(w64<|rd aJW x.1.1<|BM a (j8 x.1.1:Int)) * 131)+(w64<|(w64<|rd aJW x.1.1<|BM (w64<|(w64<|a * 7)+3) (j8 x.1.1:Int)) * 1117))+(w64<|a * 29))+(w64<|(w64<|B2 a (j8 x.1.1:Int)) * 53));let d:=(E0 .i64 b<|w64<|B2 b 64);(if !decide (x.2.1=0) then I (((BM d x.2.1),()),((x.1.1,(w64<|x.1.2.1+1),()),())) else G) else G else G else G else G else G)
def M3:Ent:=(33,G,⟨[Z0,j6],[j6],Cl⟩)
def N8:y7 M3:=sk (v:= .nil) (fn:=f33) aij kN
def aqw:Cx:=cX [] [] [(11,13)]
def arK:y8 aqw:=y9<|AI
def DJ(x:aJQ):Option ((Bool×D)×D):=let a:=((U<|x.2.1<=x.1)&&(U<|x.1<=x.2.2.1));I ((a,()),())
def HJ:Ent:=(56,G,⟨[j6,j6,j6],[.bool],DJ⟩)
def Hk:y7 HJ:=sk (v:= .nil) (fn:=f56) arK kN
def ahl:Cx:=cX [HJ] [] []
def akU:y8 ahl:=y9<|gC Hk<|AI
def Fo(x:v7):Option ((Bool×D)×D):=(DJ (x.1,0,3,())).bind λa=>I (a.1,())
def Il:Ent:=(58,G,⟨[j6],[.bool],Fo⟩)
def JF:y7 Il:=sk (v:= .nil) (fn:=f58) akU kN
def adp:Cx:=cX [Il] [] []
def af4:y8 adp:=y9<|gC JF<|AI
def W3(x:v7):Option ((Y1×D)×D):=(Fo x).bind λa=>if !a.1.1 then I (((0,A0,noB,0,([]:List AG),()),()),()) else I (((x.1,Y,noB,0,([]:List AG),()),()),())
def xk:Ent:=(64,G,⟨[j6],[Z1],W3⟩)
def ach:y7 xk:=sk (v:= .nil) (fn:=f64) af4 kN
def afS:Cx:=cX [xk] [] []
def vi:y8 afS:=y9<|gC ach<|AI
def W1(x:Y2×Y2×v7):Rnd (Y2×Y2×v7) D (Y2×Y2×D):=if U ((w64<|x.2.2.1+1)<4) then if Ac (x.2.1.2.2.1.length+([Y]:List Bool).length) then I (.inl (x.1,(x.2.1.1,x.2.1.2.1,(x.2.1.2.2.1++([Y]:List Bool)),x.2.1.2.2.2),(w64<|x.2.2.1+1),())) else G else I (.inr<|.inr (x.1,x.2.1,()))
def tM:=AS W1
def wq:Loop:=⟨[(0,Z2),(1,Z2),(3,j6)],[(0,Z2),(1,Z2)],2,[],tM⟩
def aea:LF f35 [] [1,1,1,0,1,0,0] wq:=sq (v:= .nil) vi (b:=W1) kN
def eJ(x:Y2×Y2×v7):Rnd (Y2×Y2×v7) D (Y2×Y2×D):=if U (x.2.2.1<4) then(W3 x.2.2).bind λa=>if Ac (x.2.1.2.1.length+([(A7.mk a.1.1.1 a.1.1.2.1 a.1.1.2.2.1 a.1.1.2.2.2.1 a.1.1.2.2.2.2.1)]:List A7).length) then I (.inl (x.1,(x.2.1.1,(x.2.1.2.1++([(A7.mk a.1.1.1 a.1.1.2.1 a.1.1.2.2.1 a.1.1.2.2.2.1 a.1.1.2.2.2.2.1)]:List A7)),x.2.1.2.2),(w64<|x.2.2.1+1),())) else G else I (.inr<|.inr (x.1,x.2.1,()))
def tD:=AS eJ
def wu:Loop:=⟨[(0,Z2),(1,Z2),(2,j6)],[(0,Z2),(1,Z2)],0,[],tD⟩
def aee:LF f35 [] [1,1,0,1,0,0] wu:=sq (v:= .nil) vi (b:=eJ) kN
def Si(x:D):Option ((Y2×D)×D):=(AM (tD ((0,([]:List A7),([]:List Bool),([]:List AL),([]:List A3),([]:List A3),()),(0,([]:List A7),([]:List Bool),([]:List AL),([]:List A3),([]:List A3),()),0,())) (λ_=>G) λa=>(AM (tM (a.1,a.2.1,0,())) (λ_=>G) λb=>I (b.2,())))
def vr:Ent:=(35,G,⟨[],[Z3],Si⟩)
def abr:y7 vr:=sk (v:=t1<|t1<|.two (t1<|.one<|.loop wu)<|.two (t1<|.one<|.loop wq) .nil) (fn:=f35) vi<|kC aee<|kC aea kN
def Gs(abV:(v7)->Option ((A1×D)×D))(x:v7):Option ((A1×D)×D):=
 if U (x.1<(-9223372036854775807)) then
 let v2:=(B [45,57,50,50,51,51,55,50,48,51,54,56,53,52,55,55,53,56,48,56])
 I ((v2,()),())
 else
 if U (x.1<0) then
 (abV ((w64<|0 - x.1),())).bind λr4=>
 if U ((B [45]).size+r4.1.1.size<=4611686018427387904) then
 I ((((B [45])++r4.1.1),()),())
 else G
 else
 if U (x.1<10) then
 let v6:=(BI ([(w8<|w64<|48+x.1)]:List Int))
 I ((v6,()),())
 else
 (abV ((w64<|B2 x.1 10),())).bind λr7=>
 if U (r7.1.1.size+(BI ([(w8<|w64<|48+(BM x.1 10))]:List Int)).size<=4611686018427387904) then
 let v8:=(r7.1.1++(BI ([(w8<|w64<|48+(BM x.1 10))]:List Int)))
 I ((v8,()),())
 else G
def Da:=OA Gs
def apv(g:(v7)->Option ((A1×D)×D)):Cx:=cX [(168,G,⟨[j6],[.str],g⟩)] [] []
def aqk(g:(v7)->Option ((A1×D)×D))(h:SQ prog (168,G,⟨[j6],[.str],g⟩)):OKC prog (apv g) AF:=okc mixed<|gC h<|AI
def Oh:Ent:=(168,G,⟨[j6],[.str],Da⟩)
def QN:y7 Oh:=soR (Ow (by kernel_rfl:prog.funcs[168]? =I f168) aJU (by kernel_rfl:f168.body=I (LZ f168))) (λ_=>by kernel_rfl) λg h=>so (v:= .nil) (fn:=f168) (aqk g h) aJU aJU aJU kN λ_=>by kernel_rfl
def apw:Cx:=cX [Oh] [] [(9,11),(24,27)]
def aDh:y8 apw:=y9<|gC QN<|AI
def jV(x:A1×aJM):Rnd (A1×aJM) (v7) (A1×v7):=if U (x.2.2.1<(x.1.size:Int)) then if inb x.2.2.1 x.1.size then if Ae (!(U<|(bt x.1 x.2.2.1)<48)) (inb x.2.2.1 x.1.size) then if(U<|(bt x.1 x.2.2.1)<48)||(U<|57<(bt x.1 x.2.2.1)) then I (.inr<|.inl ((-1),())) else if inb x.2.2.1 x.1.size then let a:=(w64<|(w64<|x.2.1 * 10)+(w64<|w8<|(bt x.1 x.2.2.1) - 48));I (.inl (x.1,a,(w64<|x.2.2.1+1),())) else G else G else G else I (.inr<|.inr (x.1,x.2.1,()))
def vh:=AS jV
def aB3:Loop:=⟨[(0,.str),(3,j6),(4,j6)],[(0,.str),(3,j6)],0,[(2,j6)],vh⟩
def ap4:LF f161 [] [1,1,1,0,1,0,0] aB3:=sq (v:= .nil) aDh (b:=jV) kN
def Qh(x:A1×D):Option ((v7)×D):=if(U<|(x.1.size:Int)<1)||(U<|4<(x.1.size:Int)) then I (((-1),()),()) else(AM (vh (x.1,0,0,())) (λa=>I (a,())) λa=>(Da a.2).bind λb=>if !decide (b.1.1=a.1) then I (((-1),()),()) else I (a.2,()))
def YM:Ent:=(161,G,⟨[.str],[j6],Qh⟩)
def vg:y7 YM:=sk (v:=t1<|t1<|t1<|.two (t1<|.one<|.loop aB3) .nil) (fn:=f161) aDh<|kC ap4 kN
def anT:Cx:=cX [YM] [] [(11,12)]
def aD3:y8 anT:=y9<|gC vg<|AI
def OU(x:A1×v7):Rnd (A1×v7) (A1×v7) D:=if(U<|x.2.1<(x.1.size:Int))&&(U<|x.2.1<3) then if inb x.2.1 x.1.size then if !decide ((bt x.1 x.2.1)=58) then I (.inl (x.1,(w64<|x.2.1+1),())) else if U (0<=x.2.1)&&U (x.2.1<=(x.1.size:Int)) then(Qh ((x.1.extract (0)<|AO x.2.1),())).bind λa=>if U (a.1.1<1) then I (.inr<|.inl (noB,0,())) else if U (60<a.1.1) then I (.inr<|.inl (noB,0,())) else if U ((x.1.size:Int)<(w64<|(w64<|x.2.1+2)+a.1.1)) then I (.inr<|.inl (noB,0,())) else if inb (w64<|(w64<|x.2.1+1)+a.1.1) x.1.size then if !decide ((bt x.1<|w64<|(w64<|x.2.1+1)+a.1.1)=59) then I (.inr<|.inl (noB,0,())) else if(U (0<=(w64<|(w64<|x.2.1+1)+a.1.1))&&U ((w64<|(w64<|x.2.1+1)+a.1.1)<=(x.1.size:Int)))&&(U (0<=(w64<|x.2.1+1))&&U ((w64<|x.2.1+1)<=(w64<|(w64<|x.2.1+1)+a.1.1))) then let b:=(x.1.extract (AO<|w64<|x.2.1+1)<|AO<|w64<|(w64<|x.2.1+1)+a.1.1);let c:=(w64<|(w64<|x.2.1+2)+a.1.1);I (.inr<|.inl (b,c,())) else G else G else G else G else I (.inr<|.inr ())
def vQ:=AS OU
def aAa:Loop:=⟨[(0,.str),(4,j6)],[],0,[(2,.str),(3,j6)],vQ⟩
def an6:LF f123 [] [1,0,1,0,0] aAa:=sq (v:= .nil) aD3 (b:=OU) kN
def jb(x:A1×D):Option ((A1×v7)×D):=(AM (vQ (x.1,0,())) (λa=>I (a,())) λa=>I ((noB,0,()),()))
def aCl:Ent:=(123,G,⟨[.str],[.str,j6],jb⟩)
def afj:y7 aCl:=sk (v:=t1<|.two (t1<|.one<|.loop aAa) .nil) (fn:=f123) aD3<|kC an6 kN
def agx:Cx:=cX [aCl] [] []
def zX:y8 agx:=y9<|gC afj<|AI
def Sf(x:A1×List A1×v7):Rnd (A1×List A1×v7) (List A1×v7) (List A1×v7):=if U (x.2.2.1<(x.1.size:Int)) then if U (0<=x.2.2.1)&&U (x.2.2.1<=(x.1.size:Int)) then(jb ((x.1.extract (AO x.2.2.1)<|x.1.size),())).bind λa=>if U (a.1.2.1=0) then I (.inr<|.inl x.2) else if Ac (x.2.1.length+([a.1.1]:List A1).length) then let b:=(w64<|x.2.2.1+a.1.2.1);I (.inl (x.1,(x.2.1++([a.1.1]:List A1)),b,())) else G else G else I (.inr<|.inr x.2)
def u7:=AS Sf
def xM:Loop:=⟨[(0,.str),(4,.row 9 .str),(5,j6)],[(4,.row 9 .str),(5,j6)],0,[(2,.row 9 .str),(3,j6)],u7⟩
def agK:LF f87 [] [1,1,1,0,0,0] xM:=sq (v:= .nil) zX (b:=Sf) kN
def Lz(x:A1×D):Option ((List A1×v7)×D):=(AM (u7 (x.1,([]:List A1),0,())) (λa=>I (a,())) λa=>I (a,()))
def Wg:Ent:=(87,G,⟨[.str],[.row 9 .str,j6],Lz⟩)
def dW:y7 Wg:=sk (v:=t1<|t1<|t1<|.two (.one<|.loop xM) .nil) (fn:=f87) zX<|kC agK kN
def agY:Cx:=cX [Il] [] []
def aiD:y8 agY:=y9<|gC JF<|AI
def gR(x:v7):Option ((Y3×D)×D):=(Fo x).bind λa=>if !a.1.1 then I (((0,0,0,([]:List A3),([]:List Mark),([]:List A3),()),()),()) else I (((x.1,0,1,([]:List A3),([]:List Mark),([]:List A3),()),()),())
def zt:Ent:=(124,G,⟨[j6],[Z4],gR⟩)
def acm:y7 zt:=sk (v:= .nil) (fn:=f124) aiD kN
def anU:Cx:=cX [HJ,Il] [] [(51,55)]
def aD4:y8 anU:=y9<|gC Hk<|gC JF<|AI
def ie(x:Y4×v7):Rnd (Y4×v7) (Bool×D) D:=if U (x.2.1<(x.1.2.2.2.2.1.size:Int)) then if inb x.2.1 x.1.2.2.2.2.1.size then if Ae (!(U<|(bt x.1.2.2.2.2.1 x.2.1)<32)) (inb x.2.1 x.1.2.2.2.2.1.size) then if(U<|(bt x.1.2.2.2.2.1 x.2.1)<32)||(U<|126<(bt x.1.2.2.2.2.1 x.2.1)) then I (.inr<|.inl (A0,())) else I (.inl (x.1,(w64<|x.2.1+1),())) else G else G else I (.inr<|.inr ())
def vS:=AS ie
def aAd:Loop:=⟨[(1,Z5),(3,j6)],[],0,[(2,.bool)],vS⟩
def an7:LF f59 [] [1,1,0,1,0,0] aAd:=sq (v:= .nil) aD4 (b:=ie) kN
def Od(x:Y4×D):Option ((Bool×D)×D):=(Fo (x.1.1,())).bind λb=>if !b.1.1 then I ((A0,()),()) else(Fo (x.1.2.2.1,())).bind λc=>if !c.1.1 then I ((A0,()),()) else(DJ (x.1.2.1,1,99,())).bind λd=>if !d.1.1 then I ((A0,()),()) else(DJ (x.1.2.2.2.1,1,999,())).bind λe=>if !e.1.1 then I ((A0,()),()) else if U ((x.1.2.2.2.2.1.size:Int)<1) then I ((A0,()),()) else if U (24<(x.1.2.2.2.2.1.size:Int)) then I ((A0,()),()) else(AM (vS (x.1,0,())) (λa=>I (a,())) λa=>I ((Y,()),()))
def Xh:Ent:=(59,G,⟨[Z6],[.bool],Od⟩)
def fJ:y7 Xh:=sk (v:=t1<|t1<|.two (t1<|.one<|.loop aAd) .nil) (fn:=f59) aD4<|kC an7 kN
def ajR:Cx:=cX [] [] [(13,20)]
def aoB:y8 ajR:=y9<|AI
def NE(x:Int×aJQ):Option ((Bool×D)×D):=let a:=((U<|x.1<x.2.2.1)||((U<|x.1=x.2.2.1)&&(U<|x.2.1<x.2.2.2.1)));I ((a,()),())
def XL:Ent:=(246,G,⟨[j6,j6,j6,j6],[.bool],NE⟩)
def fE:y7 XL:=sk (v:= .nil) (fn:=f246) aoB kN
def ahT:Cx:=cX [Xh,XL] [] [(23,50)]
def aBQ:y8 ahT:=y9<|gC fJ<|gC fE<|AI
def gK(x:List A3×v7):Rnd (List A3×v7) (Bool×D) D:=if U (x.2.1<(j8 x.1:Int)) then if inb x.2.1 x.1.length then(Od (((rd y5 x.1 x.2.1).fr,(rd y5 x.1 x.2.1).nu,(rd y5 x.1 x.2.1).to,(rd y5 x.1 x.2.1).un,(rd y5 x.1 x.2.1).tx,()),())).bind λa=>if Ae ((!(!a.1.1))&&(U<|0<x.2.1)) (inb (w64<|x.2.1 - 1) x.1.length) then if Ae ((!(!a.1.1))&&(U<|0<x.2.1)) (inb (w64<|x.2.1 - 1) x.1.length) then if Ae ((!(!a.1.1))&&(U<|0<x.2.1)) (inb x.2.1 x.1.length) then if Ae ((!(!a.1.1))&&(U<|0<x.2.1)) (inb x.2.1 x.1.length) then if Ae ((!(!a.1.1))&&(U<|0<x.2.1)) ((NE ((rd y5 x.1<|w64<|x.2.1 - 1).fr,(rd y5 x.1<|w64<|x.2.1 - 1).nu,(rd y5 x.1 x.2.1).fr,(rd y5 x.1 x.2.1).nu,())).isSome) then if(!a.1.1)||((U<|0<x.2.1)&&(!(((NE ((rd y5 x.1<|w64<|x.2.1 - 1).fr,(rd y5 x.1<|w64<|x.2.1 - 1).nu,(rd y5 x.1 x.2.1).fr,(rd y5 x.1 x.2.1).nu,())).getD ((A0,()),())).1.1))) then I (.inr<|.inl (A0,())) else I (.inl (x.1,(w64<|x.2.1+1),())) else G else G else G else G else G else G else I (.inr<|.inr ())
def uC:=AS gK
def yG:Loop:=⟨[(0,.sl .note),(5,j6)],[],0,[(4,.bool)],uC⟩
def ahu:LF f206 [] [1,1,0,1,0,0] yG:=sq (v:= .nil) aBQ (b:=gK) kN
def X2(x:List A3×v7):Option ((Bool×D)×D):=if U (x.2.1<(j8 x.1:Int)) then I ((A0,()),()) else(AM (uC (x.1,0,())) (λa=>I (a,())) λa=>I ((Y,()),()))
def aBD:Ent:=(206,G,⟨[.fz .note,j6],[.bool],X2⟩)
def adR:y7 aBD:=sk (v:=t1<|t1<|.two (t1<|.one<|.loop yG) .nil) (fn:=f206) aBQ<|kC ahu kN
def ahU:Cx:=cX [HJ,Il,XL] [] []
def aBR:y8 ahU:=y9<|gC Hk<|gC JF<|gC fE<|AI
def gL(x:List Mark×v7):Rnd (List Mark×v7) (Bool×D) D:=if U (x.2.1<(j8 x.1:Int)) then if inb x.2.1 x.1.length then let a:=(rd aJV x.1 x.2.1).mf;let b:=(rd aJV x.1 x.2.1).mn;let c:=(rd aJV x.1 x.2.1).mu;(Fo (a,())).bind λd=>if !d.1.1 then I (.inr<|.inl (A0,())) else(DJ (b,1,99,())).bind λe=>if !e.1.1 then I (.inr<|.inl (A0,())) else(DJ (c,1,999,())).bind λf=>if !f.1.1 then I (.inr<|.inl (A0,())) else if U (0<x.2.1) then if inb (w64<|x.2.1 - 1) x.1.length then if inb (w64<|x.2.1 - 1) x.1.length then(NE ((rd aJV x.1<|w64<|x.2.1 - 1).mf,(rd aJV x.1<|w64<|x.2.1 - 1).mn,a,b,())).bind λg=>if !g.1.1 then I (.inr<|.inl (A0,())) else I (.inl (x.1,(w64<|x.2.1+1),())) else G else G else I (.inl (x.1,(w64<|x.2.1+1),())) else G else I (.inr<|.inr ())
def uD:=AS gL
def yH:Loop:=⟨[(0,.sl .mark),(3,j6)],[],0,[(2,.bool)],uD⟩
def ahv:LF f207 [] [1,1,0,1,0,0] yH:=sq (v:= .nil) aBR (b:=gL) kN
def iM(x:List Mark×D):Option ((Bool×D)×D):=if U (12<(j8 x.1:Int)) then I ((A0,()),()) else(AM (uD (x.1,0,())) (λa=>I (a,())) λa=>I ((Y,()),()))
def aBE:Ent:=(207,G,⟨[.fz .mark],[.bool],iM⟩)
def adS:y7 aBE:=sk (v:=t1<|t1<|.two (t1<|.one<|.loop yH) .nil) (fn:=f207) aBR<|kC ahv kN
def anO:Cx:=cX [] [] [(16,25)]
def aqG:y8 anO:=y9<|AI
def jY(x:Y4×v7):Option ((Bool×D)×D):=if U (x.1.1<=x.2.1) then let a:=((U<|x.2.1<x.1.2.2.1)||((U<|x.1.2.2.1<x.2.1)&&(U<|x.2.1<=x.1.1)));I ((a,()),()) else let b:=((U<|x.1.2.2.1<x.2.1)&&(U<|x.2.1<=x.1.1));I ((b,()),())
def aDS:Ent:=(208,G,⟨[Z6,j6],[.bool],jY⟩)
def aff:y7 aDS:=sk (v:= .nil) (fn:=f208) aqG kN
def ajQ:Cx:=cX [] [] [(22,28)]
def aBu:y8 ajQ:=y9<|AI
def iN(x:List Mark×aJQ):Rnd (List Mark×aJQ) (v7) D:=if U (x.2.2.2.1<(j8 x.1:Int)) then if inb x.2.2.2.1 x.1.length then if Ae (U<|(rd aJV x.1 x.2.2.2.1).mf=x.2.1) (inb x.2.2.2.1 x.1.length) then if(U<|(rd aJV x.1 x.2.2.2.1).mf=x.2.1)&&(U<|(rd aJV x.1 x.2.2.2.1).mn=x.2.2.1) then I (.inr<|.inl x.2.2.2) else I (.inl (x.1,x.2.1,x.2.2.1,(w64<|x.2.2.2.1+1),())) else G else G else I (.inr<|.inr ())
def uo:=AS iN
def z7:Loop:=⟨[(0,.sl .mark),(1,j6),(2,j6),(7,j6)],[],0,[(6,j6)],uo⟩
def air:LF f209 [] [1,0,1,0,0] z7:=sq (v:= .nil) aBu (b:=iN) kN
def LD(x:List Mark×aJM):Option ((v7)×D):=(AM (uo (x.1,x.2.1,x.2.2.1,0,())) (λa=>I (a,())) λa=>I (((-1),()),()))
def XK:Ent:=(209,G,⟨[.fz .mark,j6,j6],[j6],LD⟩)
def fD:y7 XK:=sk (v:=t1<|.two (t1<|.one<|.loop z7) .nil) (fn:=f209) aBu<|kC air kN
def aoL:Cx:=cX [HJ,Il,aBD,aBE,aDS,XK] [] [(109,120)]
def jq:y8 aoL:=y9<|gC Hk<|gC JF<|gC adR<|gC adS<|gC aff<|gC fD<|AI
def iT(x:Y3×v7):Rnd (Y3×v7) (Bool×D) D:=if U (x.2.1<(j8 x.1.2.2.2.2.2.1:Int)) then if inb x.2.1 x.1.2.2.2.2.2.1.length then let oo:=(rd y5 x.1.2.2.2.2.2.1 x.2.1).fr;let a:=(rd y5 x.1.2.2.2.2.2.1 x.2.1).nu;let alG:=(rd y5 x.1.2.2.2.2.2.1 x.2.1).to;let b:=(rd y5 x.1.2.2.2.2.2.1 x.2.1).un;let azv:=(rd y5 x.1.2.2.2.2.2.1 x.2.1).tx;(if !decide (alG=x.1.1) then I (.inr<|.inl (A0,())) else if U (oo=x.1.1) then if U (x.1.2.2.1<=a) then I (.inr<|.inl (A0,())) else if U (x.1.2.1<b) then(LD (x.1.2.2.2.2.1,oo,a,())).bind λae=>if U (ae.1.1<0) then I (.inr<|.inl (A0,())) else I (.inl (x.1,(w64<|x.2.1+1),())) else I (.inl (x.1,(w64<|x.2.1+1),())) else if U (x.1.2.1<b) then(LD (x.1.2.2.2.2.1,oo,a,())).bind λamW=>if U (amW.1.1<0) then I (.inr<|.inl (A0,())) else I (.inl (x.1,(w64<|x.2.1+1),())) else I (.inl (x.1,(w64<|x.2.1+1),()))) else G else I (.inr<|.inr ())
def vK:=AS iT
def aAh:Loop:=⟨[(1,Z7),(7,j6)],[],4,[(2,.bool)],vK⟩
def anB:LF f162 [] [1,1,1,1,0,1,0,0] aAh:=sq (v:= .nil) jq (b:=iT) kN
def iU(x:Y3×v7):Rnd (Y3×v7) (Bool×D) (Y3×D):=if U (x.2.1<(j8 x.1.2.2.2.2.1:Int)) then if inb x.2.1 x.1.2.2.2.2.1.length then let a:=(rd aJV x.1.2.2.2.2.1 x.2.1).mf;let b:=(rd aJV x.1.2.2.2.2.1 x.2.1).mn;let c:=(rd aJV x.1.2.2.2.2.1 x.2.1).mu;if(U<|c<=x.1.2.1)||((U<|a=x.1.1)&&(U<|x.1.2.2.1<=b)) then I (.inr<|.inl (A0,())) else I (.inl (x.1,(w64<|x.2.1+1),())) else G else I (.inr<|.inr (x.1,()))
def vL:=AS iU
def aAi:Loop:=⟨[(1,Z7),(5,j6)],[(1,Z7)],2,[(2,.bool)],vL⟩
def amz:LF f162 [] [1,1,1,0,1,0,0] aAi:=sq (v:= .nil) jq (b:=iU) kN
def iV(x:Y3×v7):Rnd (Y3×v7) (Bool×D) (Y3×D):=if U (x.2.1<(j8 x.1.2.2.2.1:Int)) then if inb x.2.1 x.1.2.2.2.1.length then let a:=(rd y5 x.1.2.2.2.1 x.2.1).fr;let b:=(rd y5 x.1.2.2.2.1 x.2.1).nu;let d:=(rd y5 x.1.2.2.2.1 x.2.1).to;let c:=(rd y5 x.1.2.2.2.1 x.2.1).un;let e:=(rd y5 x.1.2.2.2.1 x.2.1).tx;if U (c<=x.1.2.1) then I (.inr<|.inl (A0,())) else(jY ((a,b,d,c,e,()),x.1.1,())).bind λf=>if !f.1.1 then I (.inr<|.inl (A0,())) else if U (a=x.1.1) then if U (x.1.2.2.1<=b) then I (.inr<|.inl (A0,())) else(LD (x.1.2.2.2.2.1,a,b,())).bind λg=>if U (0<=g.1.1) then I (.inr<|.inl (A0,())) else I (.inl (x.1,(w64<|x.2.1+1),())) else(LD (x.1.2.2.2.2.1,a,b,())).bind λh=>if U (0<=h.1.1) then I (.inr<|.inl (A0,())) else I (.inl (x.1,(w64<|x.2.1+1),())) else G else I (.inr<|.inr (x.1,()))
def vM:=AS iV
def aAj:Loop:=⟨[(1,Z7),(3,j6)],[(1,Z7)],0,[(2,.bool)],vM⟩
def ang:LF f162 [] [1,1,0,1,0,0] aAj:=sq (v:= .nil) jq (b:=iV) kN
def Qd(x:Y3×D):Option ((Bool×D)×D):=(Fo (x.1.1,())).bind λc=>if !c.1.1 then I ((A0,()),()) else(DJ (x.1.2.1,0,999,())).bind λd=>if !d.1.1 then I ((A0,()),()) else(DJ (x.1.2.2.1,1,100,())).bind λe=>if !e.1.1 then I ((A0,()),()) else(X2 (x.1.2.2.2.1,6,())).bind λf=>if !f.1.1 then I ((A0,()),()) else(iM (x.1.2.2.2.2.1,())).bind λg=>if !g.1.1 then I ((A0,()),()) else(X2 (x.1.2.2.2.2.2.1,6,())).bind λh=>if !h.1.1 then I ((A0,()),()) else(AM (vM (x.1,0,())) (λa=>I (a,())) λa=>(AM (vL (a.1,0,())) (λb=>I (b,())) λb=>(AM (vK (b.1,0,())) (λaEf=>I (aEf,())) λaEf=>I ((Y,()),()))))
def lc:Ent:=(162,G,⟨[Z8],[.bool],Qd⟩)
def yP:y7 lc:=sk (v:=t1<|t1<|.two (t1<|.one<|.loop aAj)<|.two (t1<|.one<|.loop aAi)<|.two (t1<|.one<|.loop aAh) .nil) (fn:=f162) jq<|kC ang<|kC amz<|kC anB kN
def ajS:Cx:=cX [] [] [(22,28)]
def aBv:y8 ajS:=y9<|AI
def iO(x:List A3×aJQ):Rnd (List A3×aJQ) (v7) D:=if U (x.2.2.2.1<(j8 x.1:Int)) then if inb x.2.2.2.1 x.1.length then if Ae (U<|(rd y5 x.1 x.2.2.2.1).fr=x.2.1) (inb x.2.2.2.1 x.1.length) then if(U<|(rd y5 x.1 x.2.2.2.1).fr=x.2.1)&&(U<|(rd y5 x.1 x.2.2.2.1).nu=x.2.2.1) then I (.inr<|.inl x.2.2.2) else I (.inl (x.1,x.2.1,x.2.2.1,(w64<|x.2.2.2.1+1),())) else G else G else I (.inr<|.inr ())
def uq:=AS iO
def z8:Loop:=⟨[(0,.sl .note),(1,j6),(2,j6),(7,j6)],[],0,[(6,j6)],uq⟩
def ais:LF f175 [] [1,0,1,0,0] z8:=sq (v:= .nil) aBv (b:=iO) kN
def GM(x:List A3×aJM):Option ((v7)×D):=(AM (uq (x.1,x.2.1,x.2.2.1,0,())) (λa=>I (a,())) λa=>I (((-1),()),()))
def NJ:Ent:=(175,G,⟨[.fz .note,j6,j6],[j6],GM⟩)
def OR:y7 NJ:=sk (v:=t1<|.two (t1<|.one<|.loop z8) .nil) (fn:=f175) aBv<|kC ais kN
def anZ:Cx:=cX [] [] []
def aCz:y8 anZ:=y9<|AI
def iY(x:A1×v7):Rnd (A1×v7) (A1×A1×D) (A1×D):=if U (x.2.1<(x.1.size:Int)) then if inb x.2.1 x.1.size then if U ((bt x.1 x.2.1)=32) then if U (0<=x.2.1)&&U (x.2.1<=(x.1.size:Int)) then if U (0<=(w64<|x.2.1+1))&&U ((w64<|x.2.1+1)<=(x.1.size:Int)) then let a:=(x.1.extract (0)<|AO x.2.1);let b:=(x.1.extract (AO<|w64<|x.2.1+1)<|x.1.size);I (.inr<|.inl (a,b,())) else G else G else I (.inl (x.1,(w64<|x.2.1+1),())) else G else I (.inr<|.inr (x.1,()))
def uz:=AS iY
def aAu:Loop:=⟨[(0,.str),(4,j6)],[(0,.str)],0,[(2,.str),(3,.str)],uz⟩
def an2:LF f210 [] [1,0,1,0,0] aAu:=sq (v:= .nil) aCz (b:=iY) kN
def Oa(x:A1×D):Option ((A1×A1×D)×D):=(AM (uz (x.1,0,())) (λa=>I (a,())) λa=>I ((a.1,noB,()),()))
def lB:Ent:=(210,G,⟨[.str],[.str,.str],Oa⟩)
def yc:y7 lB:=sk (v:=t1<|.two (t1<|.one<|.loop aAu) .nil) (fn:=f210) aCz<|kC an2 kN
def ajO:Cx:=cX [] [] []
def kt:y8 ajO:=y9<|AI
def iK(x:Int×Y3×Y3×List A3×List Mark×v7):Rnd (Int×Y3×Y3×List A3×List Mark×v7) D (Int×Y3×Y3×List A3×List Mark×D):=if U (x.2.2.2.2.2.1<(j8 x.2.1.2.2.2.2.1:Int)) then if inb x.2.2.2.2.2.1 x.2.1.2.2.2.2.1.length then if U (x.1<(rd aJV x.2.1.2.2.2.2.1 x.2.2.2.2.2.1).mu) then if inb x.2.2.2.2.2.1 x.2.1.2.2.2.2.1.length then if Ac (x.2.2.2.2.1.length+([(rd aJV x.2.1.2.2.2.2.1 x.2.2.2.2.2.1)]:List Mark).length) then let a:=(w64<|x.2.2.2.2.2.1+1);I (.inl (x.1,x.2.1,x.2.2.1,x.2.2.2.1,(x.2.2.2.2.1++([(rd aJV x.2.1.2.2.2.2.1 x.2.2.2.2.2.1)]:List Mark)),a,())) else G else G else let b:=(w64<|x.2.2.2.2.2.1+1);I (.inl (x.1,x.2.1,x.2.2.1,x.2.2.2.1,x.2.2.2.2.1,b,())) else G else I (.inr<|.inr (x.1,x.2.1,x.2.2.1,x.2.2.2.1,x.2.2.2.2.1,()))
def uk:=AS iK
def yz:Loop:=⟨[(1,j6),(2,Z7),(4,Z9),(5,.row 36 .note),(7,.row 61 .mark),(8,j6)],[(1,j6),(2,Z7),(4,Z9),(5,.row 36 .note),(7,.row 61 .mark)],2,[],uk⟩
def aj8:LF f211 [] [1,1,1,1,0,1,0,0] yz:=sq (v:= .nil) kt (b:=iK) kN
def iL(x:Int×Y3×Y3×List A3×v7):Rnd (Int×Y3×Y3×List A3×v7) D (Int×Y3×Y3×List A3×D):=if U (x.2.2.2.2.1<(j8 x.2.1.2.2.2.1:Int)) then if inb x.2.2.2.2.1 x.2.1.2.2.2.1.length then if U (x.1<(rd y5 x.2.1.2.2.2.1 x.2.2.2.2.1).un) then if inb x.2.2.2.2.1 x.2.1.2.2.2.1.length then if Ac (x.2.2.2.1.length+([(rd y5 x.2.1.2.2.2.1 x.2.2.2.2.1)]:List A3).length) then I (.inl (x.1,x.2.1,x.2.2.1,(x.2.2.2.1++([(rd y5 x.2.1.2.2.2.1 x.2.2.2.2.1)]:List A3)),(w64<|x.2.2.2.2.1+1),())) else G else G else I (.inl (x.1,x.2.1,x.2.2.1,x.2.2.2.1,(w64<|x.2.2.2.2.1+1),())) else G else I (.inr<|.inr (x.1,x.2.1,x.2.2.1,x.2.2.2.1,()))
def um:=AS iL
def z6:Loop:=⟨[(1,j6),(2,Z7),(4,Z9),(5,.row 36 .note),(6,j6)],[(1,j6),(2,Z7),(4,Z9),(5,.row 36 .note)],0,[],um⟩
def aiq:LF f211 [] [1,1,0,1,0,0] z6:=sq (v:= .nil) kt (b:=iL) kN
def ic(x:Y3×v7):Option ((Y3×D)×D):=(AM (um (x.2.1,x.1,(0,0,0,([]:List A3),([]:List Mark),([]:List A3),()),([]:List A3),0,())) (λ_=>G) λb=>(AM (uk (b.1,b.2.1,b.2.2.1,b.2.2.2.1,([]:List Mark),0,())) (λ_=>G) λa=>I (((a.2.1.1,a.1,a.2.1.2.2.1,a.2.2.2.1,a.2.2.2.2.1,a.2.1.2.2.2.2.2),()),())))
def aCJ:Ent:=(211,G,⟨[Z8,j6],[Z8],ic⟩)
def aek:y7 aCJ:=sk (v:=t1<|t1<|.two (t1<|.one<|.loop z6)<|t1<|.two (t1<|.one<|.loop yz) .nil) (fn:=f211) kt<|kC aiq<|kC aj8 kN
def ah1:Cx:=cX [Xh,Oh] [] []
def ai9:y8 ah1:=y9<|gC fJ<|gC QN<|AI
def NA(x:Y4×D):Option ((A1×D)×D):=(Od x).bind λe=>if !e.1.1 then I ((noB,()),()) else(Da (x.1.1,())).bind λa=>if U (a.1.1.size+(B [32]).size<=4611686018427387904) then(Da (x.1.2.1,())).bind λb=>if U ((a.1.1++(B [32])).size+b.1.1.size<=4611686018427387904) then if U (((a.1.1++(B [32]))++b.1.1).size+(B [32]).size<=4611686018427387904) then(Da (x.1.2.2.1,())).bind λc=>if U ((((a.1.1++(B [32]))++b.1.1)++(B [32])).size+c.1.1.size<=4611686018427387904) then if U (((((a.1.1++(B [32]))++b.1.1)++(B [32]))++c.1.1).size+(B [32]).size<=4611686018427387904) then(Da (x.1.2.2.2.1,())).bind λd=>if U ((((((a.1.1++(B [32]))++b.1.1)++(B [32]))++c.1.1)++(B [32])).size+d.1.1.size<=4611686018427387904) then if U (((((((a.1.1++(B [32]))++b.1.1)++(B [32]))++c.1.1)++(B [32]))++d.1.1).size+(B [32]).size<=4611686018427387904) then if U ((((((((a.1.1++(B [32]))++b.1.1)++(B [32]))++c.1.1)++(B [32]))++d.1.1)++(B [32])).size+x.1.2.2.2.2.1.size<=4611686018427387904) then let f:=((((((((a.1.1++(B [32]))++b.1.1)++(B [32]))++c.1.1)++(B [32]))++d.1.1)++(B [32]))++x.1.2.2.2.2.1);I ((f,()),()) else G else G else G else G else G else G else G else G
def Wh:Ent:=(170,G,⟨[Z6],[.str],NA⟩)
def dZ:y7 Wh:=sk (v:= .nil) (fn:=f170) ai9 kN
def ana:Cx:=cX [YM,lB] [] []
def aD0:y8 ana:=y9<|gC vg<|gC yc<|AI
def iZ(x:A1×Int×List Int×v7):Rnd (A1×Int×List Int×v7) D (A1×List Int×D):=if U (x.2.2.2.1<x.2.1) then(Oa (x.1,())).bind λa=>(Qh (a.1.1,())).bind λb=>if Ac (x.2.2.1.length+([b.1.1]:List Int).length) then I (.inl (a.1.2.1,x.2.1,(x.2.2.1++([b.1.1]:List Int)),(w64<|x.2.2.2.1+1),())) else G else I (.inr<|.inr (x.1,x.2.2.1,()))
def vO:=AS iZ
def aAv:Loop:=⟨[(0,.str),(1,j6),(6,.row 3 .int),(7,j6)],[(0,.str),(6,.row 3 .int)],0,[],vO⟩
def an3:LF f215 [] [1,1,0,1,0,0] aAv:=sq (v:= .nil) aD0 (b:=iZ) kN
def Qb(x:A1×v7):Option ((List Int×A1×D)×D):=(AM (vO (x.1,x.2.1,([]:List Int),0,())) (λ_=>G) λa=>I ((a.2.1,a.1,()),()))
def lC:Ent:=(215,G,⟨[.str,j6],[.row 3 .int,.str],Qb⟩)
def yF:y7 lC:=sk (v:=t1<|t1<|.two (t1<|.one<|.loop aAv) .nil) (fn:=f215) aD0<|kC an3 kN
def aiQ:Cx:=cX [Wh,lC] [] [(29,32)]
def ake:y8 aiQ:=y9<|gC dZ<|gC yF<|AI
def T3(x:A1×D):Option ((Y4×Bool×D)×D):=(Qb (x.1,4,())).bind λa=>if inb 0 a.1.1.length then if inb 1 a.1.1.length then if inb 2 a.1.1.length then if inb 3 a.1.1.length then if Ae (!(U<|x.1=noB)) ((NA (((rd aJR a.1.1 0),(rd aJR a.1.1 1),(rd aJR a.1.1 2),(rd aJR a.1.1 3),a.1.2),())).isSome) then if(U<|x.1=noB)||(!decide (((NA (((rd aJR a.1.1 0),(rd aJR a.1.1 1),(rd aJR a.1.1 2),(rd aJR a.1.1 3),a.1.2),())).getD ((noB,()),())).1.1=x.1)) then I (((0,0,0,0,noB,()),A0,()),()) else I ((((rd aJR a.1.1 0),(rd aJR a.1.1 1),(rd aJR a.1.1 2),(rd aJR a.1.1 3),a.1.2),Y,()),()) else G else G else G else G else G
def aBH:Ent:=(212,G,⟨[.str],[Z6,.bool],T3⟩)
def ae2:y7 aBH:=sk (v:= .nil) (fn:=f212) ake kN
def afP:Cx:=cX [XL] [] [(18,32)]
def yp:y8 afP:=y9<|gC fE<|AI
def fB(x:List A3×Y4×List A3×Bool×v7):Rnd (List A3×Y4×List A3×Bool×v7) D (Y4×List A3×Bool×D):=if U (x.2.2.2.2.1<(j8 x.1:Int)) then(BU (X:=List A3×Y4×List A3×Bool×v7) (λa=>if inb a.2.2.2.2.1 a.1.length then if Ac (a.2.2.1.length+([(rd y5 a.1 a.2.2.2.2.1)]:List A3).length) then I (.inl (a.1,a.2.1,(a.2.2.1++([(rd y5 a.1 a.2.2.2.2.1)]:List A3)),a.2.2.2.1,(w64<|a.2.2.2.2.1+1),())) else G else G)<|(if Ae (!x.2.2.2.1) (inb x.2.2.2.2.1 x.1.length) then if Ae (!x.2.2.2.1) (inb x.2.2.2.2.1 x.1.length) then if Ae (!x.2.2.2.1) ((NE (x.2.1.1,x.2.1.2.1,(rd y5 x.1 x.2.2.2.2.1).fr,(rd y5 x.1 x.2.2.2.2.1).nu,())).isSome) then if(!x.2.2.2.1)&&(((NE (x.2.1.1,x.2.1.2.1,(rd y5 x.1 x.2.2.2.2.1).fr,(rd y5 x.1 x.2.2.2.2.1).nu,())).getD ((A0,()),())).1.1) then if Ac (x.2.2.1.length+([(A3.mk x.2.1.1 x.2.1.2.1 x.2.1.2.2.1 x.2.1.2.2.2.1 x.2.1.2.2.2.2.1)]:List A3).length) then I (.inr (x.1,x.2.1,(x.2.2.1++([(A3.mk x.2.1.1 x.2.1.2.1 x.2.1.2.2.1 x.2.1.2.2.2.1 x.2.1.2.2.2.2.1)]:List A3)),Y,x.2.2.2.2)) else G else I (.inr x) else G else G else G)) else I (.inr<|.inr (x.2.1,x.2.2.1,x.2.2.2.1,()))
def tH:=AS fB
def wi:Loop:=⟨[(0,.sl .note),(3,Z5),(5,.row 36 .note),(6,.bool),(7,j6)],[(3,Z5),(5,.row 36 .note),(6,.bool)],0,[],tH⟩
def aec:LF f214 [] [1,1,1,0,1,0,0] wi:=sq (v:=t1<|.two (.one<|.join [(0,.sl .note),(3,Z5),(5,.row 36 .note),(6,.bool),(7,j6)] .nil .nil) .nil) yp (b:=fB) kN
def QE(x:List A3×Y4×D):Option ((List A3×D)×D):=(AM (tH (x.1,x.2.1,([]:List A3),A0,0,())) (λ_=>G) λa=>(if !a.2.2.1 then if Ac (a.2.1.length+([(A3.mk a.1.1 a.1.2.1 a.1.2.2.1 a.1.2.2.2.1 a.1.2.2.2.2.1)]:List A3).length) then I (((a.2.1++([(A3.mk a.1.1 a.1.2.1 a.1.2.2.1 a.1.2.2.2.1 a.1.2.2.2.2.1)]:List A3)),()),()) else G else I ((a.2.1,()),())))
def vq:Ent:=(214,G,⟨[.fz .note,Z6],[.row 36 .note],QE⟩)
def abq:y7 vq:=sk (v:=t1<|t1<|t1<|.two (t1<|.one<|.loop wi) .nil) (fn:=f214) yp<|kC aec kN
def afQ:Cx:=cX [XL] [] [(18,32)]
def yq:y8 afQ:=y9<|gC fE<|AI
def fC(x:List Mark×Y5×List Mark×Bool×v7):Rnd (List Mark×Y5×List Mark×Bool×v7) D (Y5×List Mark×Bool×D):=if U (x.2.2.2.2.1<(j8 x.1:Int)) then(BU (X:=List Mark×Y5×List Mark×Bool×v7) (λa=>if inb a.2.2.2.2.1 a.1.length then if Ac (a.2.2.1.length+([(rd aJV a.1 a.2.2.2.2.1)]:List Mark).length) then I (.inl (a.1,a.2.1,(a.2.2.1++([(rd aJV a.1 a.2.2.2.2.1)]:List Mark)),a.2.2.2.1,(w64<|a.2.2.2.2.1+1),())) else G else G)<|(if Ae (!x.2.2.2.1) (inb x.2.2.2.2.1 x.1.length) then if Ae (!x.2.2.2.1) (inb x.2.2.2.2.1 x.1.length) then if Ae (!x.2.2.2.1) ((NE (x.2.1.1,x.2.1.2.1,(rd aJV x.1 x.2.2.2.2.1).mf,(rd aJV x.1 x.2.2.2.2.1).mn,())).isSome) then if(!x.2.2.2.1)&&(((NE (x.2.1.1,x.2.1.2.1,(rd aJV x.1 x.2.2.2.2.1).mf,(rd aJV x.1 x.2.2.2.2.1).mn,())).getD ((A0,()),())).1.1) then if Ac (x.2.2.1.length+([(Mark.mk x.2.1.1 x.2.1.2.1 x.2.1.2.2.1)]:List Mark).length) then I (.inr (x.1,x.2.1,(x.2.2.1++([(Mark.mk x.2.1.1 x.2.1.2.1 x.2.1.2.2.1)]:List Mark)),Y,x.2.2.2.2)) else G else I (.inr x) else G else G else G)) else I (.inr<|.inr (x.2.1,x.2.2.1,x.2.2.2.1,()))
def tJ:=AS fC
def wj:Loop:=⟨[(0,.sl .mark),(3,Z10),(5,.row 61 .mark),(6,.bool),(7,j6)],[(3,Z10),(5,.row 61 .mark),(6,.bool)],0,[],tJ⟩
def aed:LF f218 [] [1,1,1,0,1,0,0] wj:=sq (v:=t1<|.two (.one<|.join [(0,.sl .mark),(3,Z10),(5,.row 61 .mark),(6,.bool),(7,j6)] .nil .nil) .nil) yq (b:=fC) kN
def Se(x:List Mark×Y5×D):Option ((List Mark×D)×D):=(AM (tJ (x.1,x.2.1,([]:List Mark),A0,0,())) (λ_=>G) λa=>(if !a.2.2.1 then if Ac (a.2.1.length+([(Mark.mk a.1.1 a.1.2.1 a.1.2.2.1)]:List Mark).length) then I (((a.2.1++([(Mark.mk a.1.1 a.1.2.1 a.1.2.2.1)]:List Mark)),()),()) else G else I ((a.2.1,()),())))
def fW:Ent:=(218,G,⟨[.fz .mark,Z11],[.row 61 .mark],Se⟩)
def tI:y7 fW:=sk (v:=t1<|t1<|t1<|.two (t1<|.one<|.loop wj) .nil) (fn:=f218) yq<|kC aed kN
def ahV:Cx:=cX [Xh,NJ,XK] [] [(35,42)]
def aka:y8 ahV:=y9<|gC fJ<|gC OR<|gC fD<|AI
def iP(x:Y3×Y4×D):Option ((Bool×D)×D):=(Od x.2).bind λb=>if b.1.1 then if U (x.1.2.1<x.2.1.2.2.2.1) then(GM (x.1.2.2.2.1,x.2.1.1,x.2.1.2.1,())).bind λc=>if U (c.1.1<0) then(LD (x.1.2.2.2.2.1,x.2.1.1,x.2.1.2.1,())).bind λa=>if Ae (U<|a.1.1<0) ((GM (x.1.2.2.2.2.2.1,x.2.1.1,x.2.1.2.1,())).isSome) then let d:=((U<|a.1.1<0)&&(U<|((GM (x.1.2.2.2.2.2.1,x.2.1.1,x.2.1.2.1,())).getD ((0,()),())).1.1<0));I ((d,()),()) else G else if Ae A0 ((GM (x.1.2.2.2.2.2.1,x.2.1.1,x.2.1.2.1,())).isSome) then I ((A0,()),()) else G else if Ae A0 ((GM (x.1.2.2.2.2.2.1,x.2.1.1,x.2.1.2.1,())).isSome) then I ((A0,()),()) else G else if Ae A0 ((GM (x.1.2.2.2.2.2.1,x.2.1.1,x.2.1.2.1,())).isSome) then I ((A0,()),()) else G
def aBF:Ent:=(247,G,⟨[Z8,Z6],[.bool],iP⟩)
def adT:y7 aBF:=sk (v:= .nil) (fn:=f247) aka kN
def ajP:Cx:=cX [vq,fW,aBF] [] []
def aoA:y8 ajP:=y9<|gC abq<|gC tI<|gC adT<|AI
def XO(x:Y3×Y4×D):Option ((Y3×Bool×D)×D):=(iP x).bind λc=>if !c.1.1 then I ((x.1,A0,()),()) else if !decide (x.2.1.2.2.1=x.1.1) then(QE (x.1.2.2.2.1,x.2)).bind λa=>let d:=(U<|(w64<|(j8 a.1.1:Int)+(j8 x.1.2.2.2.2.1:Int))<=12);I (((x.1.1,x.1.2.1,x.1.2.2.1,a.1.1,x.1.2.2.2.2),d,()),()) else(QE (x.1.2.2.2.2.2.1,x.2)).bind λe=>(Se (x.1.2.2.2.2.1,(x.2.1.1,x.2.1.2.1,x.2.1.2.2.2.1,()),())).bind λb=>let f:=(U<|(w64<|(j8 x.1.2.2.2.1:Int)+(j8 b.1.1:Int))<=12);I (((x.1.1,x.1.2.1,x.1.2.2.1,x.1.2.2.2.1,b.1.1,e.1),f,()),())
def aCK:Ent:=(213,G,⟨[Z8,Z6],[Z8,.bool],XO⟩)
def ael:y7 aCK:=sk (v:= .nil) (fn:=f213) aoA kN
def anQ:Cx:=cX [NJ,fW] [] []
def apa:y8 anQ:=y9<|gC OR<|gC tI<|AI
def jZ(x:Y3×aJM):Option ((Y3×Bool×D)×D):=(GM (x.1.2.2.2.1,x.2)).bind λa=>if U (a.1.1<0) then I ((x.1,A0,()),()) else if inb a.1.1 x.1.2.2.2.1.length then let d:=(rd y5 x.1.2.2.2.1 a.1.1).fr;let e:=(rd y5 x.1.2.2.2.1 a.1.1).nu;let f:=(rd y5 x.1.2.2.2.1 a.1.1).to;let b:=(rd y5 x.1.2.2.2.1 a.1.1).un;let g:=(rd y5 x.1.2.2.2.1 a.1.1).tx;if U (0<=a.1.1)&&U (a.1.1<=(j8 x.1.2.2.2.1:Int)) then if Ac (([]:List A3).length+(BQ (AO a.1.1) x.1.2.2.2.1).length) then if U (0<=(w64<|a.1.1+1))&&U ((w64<|a.1.1+1)<=(j8 x.1.2.2.2.1:Int)) then if Ac ((([]:List A3)++(BQ (AO a.1.1) x.1.2.2.2.1)).length+(Bt (AO<|w64<|a.1.1+1) x.1.2.2.2.1).length) then(Se (x.1.2.2.2.2.1,(x.2.1,x.2.2.1,b,()),())).bind λc=>I (((x.1.1,x.1.2.1,x.1.2.2.1,((([]:List A3)++(BQ (AO a.1.1) x.1.2.2.2.1))++(Bt (AO<|w64<|a.1.1+1) x.1.2.2.2.1)),c.1.1,x.1.2.2.2.2.2),Y,()),()) else G else G else G else G else G
def aCj:Ent:=(216,G,⟨[Z8,j6,j6],[Z8,.bool],jZ⟩)
def afh:y7 aCj:=sk (v:= .nil) (fn:=f216) apa kN
def anR:Cx:=cX [NJ] [] []
def apb:y8 anR:=y9<|gC OR<|AI
def ja(x:Y3×aJM):Option ((Y3×Bool×D)×D):=(GM (x.1.2.2.2.2.2.1,x.2)).bind λa=>if U (a.1.1<0) then I ((x.1,A0,()),()) else if U (0<=a.1.1)&&U (a.1.1<=(j8 x.1.2.2.2.2.2.1:Int)) then if Ac (([]:List A3).length+(BQ (AO a.1.1) x.1.2.2.2.2.2.1).length) then if U (0<=(w64<|a.1.1+1))&&U ((w64<|a.1.1+1)<=(j8 x.1.2.2.2.2.2.1:Int)) then if Ac ((([]:List A3)++(BQ (AO a.1.1) x.1.2.2.2.2.2.1)).length+(Bt (AO<|w64<|a.1.1+1) x.1.2.2.2.2.2.1).length) then I (((x.1.1,x.1.2.1,x.1.2.2.1,x.1.2.2.2.1,x.1.2.2.2.2.1,((([]:List A3)++(BQ (AO a.1.1) x.1.2.2.2.2.2.1))++(Bt (AO<|w64<|a.1.1+1) x.1.2.2.2.2.2.1)),()),Y,()),()) else G else G else G else G
def aCk:Ent:=(217,G,⟨[Z8,j6,j6],[Z8,.bool],ja⟩)
def afi:y7 aCk:=sk (v:= .nil) (fn:=f217) apb kN
def anP:Cx:=cX [YM,Oh,NJ,XK,lB,aCJ,aBH,aCK,vq,lC,aCj,aCk,fW] [] [(81,85),(157,174),(192,201),(228,237)]
def aqH:y8 anP:=y9<|gC vg<|gC QN<|gC OR<|gC fD<|gC yc<|gC aek<|gC ae2<|gC ael<|gC abq<|gC yF<|gC afh<|gC afi<|gC tI<|AI
def XT(x:Y3×A1×D):Option ((Y3×Bool×D)×D):=(Oa x.2).bind λc=>let l:=(U<|c.1.1=(B [116,105,109,101]));(if l then(Qh c.1.2).bind λi=>if U (i.1.1<=x.1.2.1) then I ((x.1,A0,()),()) else(ic (x.1,i.1)).bind λm=>I ((m.1.1,Y,()),()) else let n:=(U<|c.1.1=(B [111,119,110]));(if n then(T3 c.1.2).bind λg=>if !g.1.2.1 then I ((x.1,A0,()),()) else if !decide (g.1.1.1=x.1.1) then I ((x.1,A0,()),()) else if !decide (g.1.1.2.1=x.1.2.2.1) then I ((x.1,A0,()),()) else(XO ((x.1.1,x.1.2.1,(w64<|x.1.2.2.1+1),x.1.2.2.2),g.1.1,())).bind λo=>I (o.1,()) else let p:=(U<|c.1.1=(B [116,97,107,101]));(if p then(T3 c.1.2).bind λh=>if(!h.1.2.1)||(U<|h.1.1.1=x.1.1) then I ((x.1,A0,()),()) else(XO (x.1,h.1.1,())).bind λq=>I (q.1,()) else let r:=(U<|c.1.1=(B [110,101,120,116]));(if r then(Qh c.1.2).bind λj=>if U (j.1.1<=x.1.2.2.1) then I ((x.1,A0,()),()) else I (((x.1.1,x.1.2.1,j.1.1,x.1.2.2.2),Y,()),()) else(BU (X:=Y3×Y3×A1×A1×Bool×D) (λb=>if b.2.2.2.2.1 then(T3 (b.2.2.2.1,())).bind λd=>if !d.1.2.1 then I ((b.1,A0,()),()) else(GM (b.1.2.2.2.1,d.1.1.1,d.1.1.2.1,())).bind λs=>if U (0<=s.1.1) then I ((b.1,A0,()),()) else(GM (b.1.2.2.2.2.2.1,d.1.1.1,d.1.1.2.1,())).bind λt=>if U (0<=t.1.1) then I ((b.1,A0,()),()) else if U (b.2.2.1=(B [104,101,108,100])) then(QE (b.1.2.2.2.1,d.1.1,())).bind λu=>I (((b.1.1,b.1.2.1,b.1.2.2.1,u.1.1,b.1.2.2.2.2),Y,()),()) else(QE (b.1.2.2.2.2.2.1,d.1.1,())).bind λv=>I (((b.1.1,b.1.2.1,b.1.2.2.1,b.1.2.2.2.1,b.1.2.2.2.2.1,v.1),Y,()),()) else(Qb (b.2.2.2.1,3,())).bind λa=>if Ae (!(!decide (a.1.2.1=noB))) (inb 0 a.1.1.length) then if Ae (!(!decide (a.1.2.1=noB))) ((Da ((rd aJR a.1.1 0),())).isSome) then if Ae (!(!decide (a.1.2.1=noB))) (U<|(((Da ((rd aJR a.1.1 0),())).getD ((noB,()),())).1.1).size+(B [32]).size<=4611686018427387904) then if Ae (!(!decide (a.1.2.1=noB))) (inb 1 a.1.1.length) then if Ae (!(!decide (a.1.2.1=noB))) ((Da ((rd aJR a.1.1 1),())).isSome) then if Ae (!(!decide (a.1.2.1=noB))) (U<|((((Da ((rd aJR a.1.1 0),())).getD ((noB,()),())).1.1)++(B [32])).size+(((Da ((rd aJR a.1.1 1),())).getD ((noB,()),())).1.1).size<=4611686018427387904) then if Ae (!(!decide (a.1.2.1=noB))) (U<|(((((Da ((rd aJR a.1.1 0),())).getD ((noB,()),())).1.1)++(B [32]))++(((Da ((rd aJR a.1.1 1),())).getD ((noB,()),())).1.1)).size+(B [32]).size<=4611686018427387904) then if Ae (!(!decide (a.1.2.1=noB))) (inb 2 a.1.1.length) then if Ae (!(!decide (a.1.2.1=noB))) ((Da ((rd aJR a.1.1 2),())).isSome) then if Ae (!(!decide (a.1.2.1=noB))) (U<|((((((Da ((rd aJR a.1.1 0),())).getD ((noB,()),())).1.1)++(B [32]))++(((Da ((rd aJR a.1.1 1),())).getD ((noB,()),())).1.1))++(B [32])).size+(((Da ((rd aJR a.1.1 2),())).getD ((noB,()),())).1.1).size<=4611686018427387904) then if(!decide (a.1.2.1=noB))||(!decide (b.2.2.2.1=(((((((Da ((rd aJR a.1.1 0),())).getD ((noB,()),())).1.1)++(B [32]))++(((Da ((rd aJR a.1.1 1),())).getD ((noB,()),())).1.1))++(B [32]))++(((Da ((rd aJR a.1.1 2),())).getD ((noB,()),())).1.1)))) then I ((b.1,A0,()),()) else let w:=(U<|b.2.2.1=(B [108,101,116]));(if w then if inb 0 a.1.1.length then if inb 1 a.1.1.length then(GM (b.1.2.2.2.1,(rd aJR a.1.1 0),(rd aJR a.1.1 1),())).bind λe=>if Ae (!(U<|e.1.1<0)) (inb e.1.1 b.1.2.2.2.1.length) then if Ae (!(U<|e.1.1<0)) (inb 2 a.1.1.length) then if(U<|e.1.1<0)||(!decide ((rd y5 b.1.2.2.2.1 e.1.1).un=(rd aJR a.1.1 2))) then I ((b.1,A0,()),()) else if inb 0 a.1.1.length then if inb 1 a.1.1.length then(jZ (b.1,(rd aJR a.1.1 0),(rd aJR a.1.1 1),())).bind λy=>I (y.1,()) else G else G else G else G else G else G else let z:=(U<|b.2.2.1=(B [101,97,116]));(if z then if inb 0 a.1.1.length then if inb 1 a.1.1.length then(GM (b.1.2.2.2.2.2.1,(rd aJR a.1.1 0),(rd aJR a.1.1 1),())).bind λf=>if Ae (!(U<|f.1.1<0)) (inb f.1.1 b.1.2.2.2.2.2.1.length) then if Ae (!(U<|f.1.1<0)) (inb 2 a.1.1.length) then if(U<|f.1.1<0)||(!decide ((rd y5 b.1.2.2.2.2.2.1 f.1.1).un=(rd aJR a.1.1 2))) then I ((b.1,A0,()),()) else if inb 0 a.1.1.length then if inb 1 a.1.1.length then(ja (b.1,(rd aJR a.1.1 0),(rd aJR a.1.1 1),())).bind λA=>I (A.1,()) else G else G else G else G else G else G else let C:=(U<|b.2.2.1=(B [109,97,114,107]));(if C then if inb 0 a.1.1.length then if inb 1 a.1.1.length then(LD (b.1.2.2.2.2.1,(rd aJR a.1.1 0),(rd aJR a.1.1 1),())).bind λE=>if U (0<=E.1.1) then I ((b.1,A0,()),()) else if inb 0 a.1.1.length then if inb 1 a.1.1.length then if inb 2 a.1.1.length then(Se (b.1.2.2.2.2.1,((rd aJR a.1.1 0),(rd aJR a.1.1 1),(rd aJR a.1.1 2),()),())).bind λF=>I (((b.1.1,b.1.2.1,b.1.2.2.1,b.1.2.2.2.1,F.1.1,b.1.2.2.2.2.2),Y,()),()) else G else G else G else G else G else I ((b.1,A0,()),())))) else G else G else G else G else G else G else G else G else G else G) (let k:=(U<|c.1.1=(B [104,101,108,100]));(if k then I (.inr (x.1,(0,0,0,([]:List A3),([]:List Mark),([]:List A3),()),c.1.1,c.1.2.1,k,())) else let H:=(U<|c.1.1=(B [105,110,98,111,120]));I (.inr (x.1,(0,0,0,([]:List A3),([]:List Mark),([]:List A3),()),c.1.1,c.1.2.1,H,())))))))))
def aCi:Ent:=(163,G,⟨[Z8,.str],[Z8,.bool],XT⟩)
def afg:y7 aCi:=sk (v:=t1<|t1<|.two (t1<|.one<|t1<|t1<|t1<|t1<|t1<|t1<|t1<|t1<|.join [(2,Z7),(4,Z9),(6,.str),(7,.str),(105,.bool)] .nil .nil) .nil) (fn:=f163) aqH kN
def ajT:Cx:=cX [] [] []
def aoC:y8 ajT:=y9<|AI
def TD(x:Y3×D):Option ((Y3×D)×D):=if Ac (([]:List A3).length+x.1.2.2.2.1.length) then if Ac (([]:List Mark).length+x.1.2.2.2.2.1.length) then if Ac (([]:List A3).length+x.1.2.2.2.2.2.1.length) then I (((x.1.1,x.1.2.1,x.1.2.2.1,(([]:List A3)++x.1.2.2.2.1),(([]:List Mark)++x.1.2.2.2.2.1),(([]:List A3)++x.1.2.2.2.2.2.1),()),()),()) else G else G else G
def aCL:Ent:=(164,G,⟨[Z8],[Z4],TD⟩)
def aem:y7 aCL:=sk (v:= .nil) (fn:=f164) aoC kN
def aoN:Cx:=cX [lc,aCi,aCL] [] [(22,24)]
def apd:y8 aoN:=y9<|gC yP<|gC afg<|gC aem<|AI
def TF(x:Y3×A1×D):Option ((Y3×Bool×D)×D):=(Qd (x.1,())).bind λb=>if !b.1.1 then I (((0,0,0,([]:List A3),([]:List Mark),([]:List A3),()),A0,()),()) else(TD (x.1,())).bind λc=>(XT (c.1.1,x.2)).bind λa=>if Ae (!(!a.1.2.1)) ((Qd (a.1.1,())).isSome) then if(!a.1.2.1)||(!(((Qd (a.1.1,())).getD ((A0,()),())).1.1)) then(TD (x.1,())).bind λd=>I ((d.1.1,A0,()),()) else(TD (a.1.1,())).bind λe=>I ((e.1.1,Y,()),()) else G
def lh:Ent:=(125,G,⟨[Z8,.str],[Z4,.bool],TF⟩)
def yR:y7 lh:=sk (v:= .nil) (fn:=f125) apd kN
def aoM:Cx:=cX [Il,zt,lh] [] []
def aD5:y8 aoM:=y9<|gC JF<|gC acm<|gC yR<|AI
def XQ(x:List A1×Y3×Y3×v7):Rnd (List A1×Y3×Y3×v7) (Y3×Bool×D) (Y3×Y3×D):=if U (x.2.2.2.1<(j8 x.1:Int)) then if inb x.2.2.2.1 x.1.length then(TF (x.2.2.1,(rd aJY x.1 x.2.2.2.1),())).bind λa=>if !a.1.2.1 then I (.inr<|.inl ((0,0,0,([]:List A3),([]:List Mark),([]:List A3),()),A0,())) else I (.inl (x.1,x.2.1,a.1.1,(w64<|x.2.2.2.1+1),())) else G else I (.inr<|.inr (x.2.1,x.2.2.1,()))
def vN:=AS XQ
def aAk:Loop:=⟨[(1,.sl .str),(4,Z9),(6,Z9),(7,j6)],[(4,Z9),(6,Z9)],0,[(4,Z9),(5,.bool)],vN⟩
def anh:LF f88 [] [1,1,1,0,1,0,0] aAk:=sq (v:= .nil) aD5 (b:=XQ) kN
def TE(x:Int×List A1×D):Option ((Y3×Bool×D)×D):=(gR (x.1,())).bind λb=>(Fo (x.1,())).bind λc=>if !c.1.1 then I ((b.1.1,A0,()),()) else(AM (vN (x.2.1,(0,0,0,([]:List A3),([]:List Mark),([]:List A3),()),b.1.1,0,())) (λa=>I (a,())) λa=>I ((a.2.1,Y,()),()))
def ld:Ent:=(88,G,⟨[j6,.fz .str],[Z4,.bool],TE⟩)
def yQ:y7 ld:=sk (v:=t1<|t1<|t1<|.two (t1<|.one<|.loop aAk) .nil) (fn:=f88) aD5<|kC anh kN
def anL:Cx:=cX [Wg,ld] [] []
def aqE:y8 anL:=y9<|gC dW<|gC yQ<|AI
def GO(x:Y1×D):Option ((Y3×Bool×D)×D):=(Lz (x.1.2.2.1,())).bind λa=>(TE (x.1.1,a.1.1,())).bind λb=>I (b.1,())
def JI:Ent:=(46,G,⟨[Z12],[Z4,.bool],GO⟩)
def Jy:y7 JI:=sk (v:= .nil) (fn:=f46) aqE kN
def ak6:Cx:=cX [] [] []
def ao7:y8 ak6:=y9<|AI
def iS(x:aJM):Option ((v7)×D):=if U (x.1<x.2.1) then I ((x.1,()),()) else I (x.2,())
def kY:Ent:=(133,G,⟨[j6,j6],[j6],iS⟩)
def xH:y7 kY:=sk (v:= .nil) (fn:=f133) ao7 kN
def aiR:Cx:=cX [Il] [] []
def akf:y8 aiR:=y9<|gC JF<|AI
def T4(x:aJM):Option ((v7)×D):=(BU (X:=Int×Int×Bool×D) (λa=>if a.2.2.1 then I (((-1),()),()) else if U (a.1<a.2.1) then I (((w64<|a.1+1),()),()) else I (((w64<|a.1 - 1),()),()))<|(Fo (x.1,())).bind λb=>if !b.1.1 then I (.inr (x.1,x.2.1,Y,())) else(Fo x.2).bind λc=>if !c.1.1 then I (.inr (x.1,x.2.1,Y,())) else I (.inr (x.1,x.2.1,(U<|x.1=x.2.1),())))
def jt:Ent:=(89,G,⟨[j6,j6],[j6],T4⟩)
def ww:y7 jt:=sk (v:=t1<|.two (.one<|.join [(0,j6),(1,j6),(5,.bool)] .nil .nil) .nil) (fn:=f89) akf kN
def aja:Cx:=cX [HJ,Il,jt] [] [(65,67),(88,91)]
def aoF:y8 aja:=y9<|gC Hk<|gC JF<|gC ww<|AI
def XR(x:Y6×D):Option ((Bool×D)×D):=(DJ (x.1.1,1,3,())).bind λa=>if !a.1.1 then I ((A0,()),()) else(Fo (x.1.2.1,())).bind λb=>if !b.1.1 then I ((A0,()),()) else(Fo (x.1.2.2.1,())).bind λc=>if !c.1.1 then I ((A0,()),()) else(Fo (x.1.2.2.2.1,())).bind λd=>if !d.1.1 then I ((A0,()),()) else(Fo (x.1.2.2.2.2.2.1,())).bind λe=>if !e.1.1 then I ((A0,()),()) else(DJ (x.1.2.2.2.2.1,1,99,())).bind λf=>if !f.1.1 then I ((A0,()),()) else(DJ (x.1.2.2.2.2.2.2.1,1,999,())).bind λg=>if !g.1.1 then I ((A0,()),()) else if !decide (x.1.1=1) then(T4 (x.1.2.2.1,x.1.2.2.2.2.2.1,())).bind λh=>if U (h.1.1=x.1.2.1) then if U (x.1.2.2.2.2.2.2.2.1=0) then let i:=((U<|x.1.2.2.2.2.2.2.2.2.1=0)&&(U<|x.1.2.2.2.2.2.2.2.2.2.1=noB));I ((i,()),()) else I ((A0,()),()) else I ((A0,()),()) else(T4 (x.1.2.1,x.1.2.2.2.2.2.1,())).bind λj=>if U (j.1.1=x.1.2.2.1) then(DJ (x.1.2.2.2.2.2.2.2.1,1,24,())).bind λk=>if k.1.1 then(DJ (x.1.2.2.2.2.2.2.2.2.1,0,999,())).bind λl=>let m:=(l.1.1&&(U<|(x.1.2.2.2.2.2.2.2.2.2.1.size:Int)=4));I ((m,()),()) else I ((A0,()),()) else I ((A0,()),())
def kb:Ent:=(173,G,⟨[Z13],[.bool],XR⟩)
def xE:y7 kb:=sk (v:= .nil) (fn:=f173) aoF kN
def anN:Cx:=cX [] [] []
def aqF:y8 anN:=y9<|AI
def Oc(x:List Int×v7):Option ((List Int×D)×D):=if Ac (x.1.length+([(w8<|w64<|B2 x.2.1 256),(w8<|BM x.2.1 256)]:List Int).length) then I (((x.1++([(w8<|w64<|B2 x.2.1 256),(w8<|BM x.2.1 256)]:List Int)),()),()) else G
def aDR:Ent:=(220,G,⟨[.row 5 .u8,j6],[.row 5 .u8],Oc⟩)
def afe:y7 aDR:=sk (v:= .nil) (fn:=f220) aqF kN
def aiU:Cx:=cX [] [] []
def aBS:y8 aiU:=y9<|AI
def gV(x:List Int×aJM):Rnd (List Int×aJM) D (v7):=if U (x.2.2.1<(j8 x.1:Int)) then if inb x.2.2.1 x.1.length then let a:=(BM (w64<|x.2.1+(w64<|(w64<|(BM x.2.2.1 1000)+1) * (w64<|rd aJW x.1 x.2.2.1))) 65521);I (.inl (x.1,a,(w64<|x.2.2.1+1),())) else G else I (.inr<|.inr (x.2.1,()))
def dt:=AS gV
def yS:Loop:=⟨[(0,.sl .u8),(3,j6),(4,j6)],[(3,j6)],0,[],dt⟩
def ahy:LF f221 [] [1,1,0,1,0,0] yS:=sq (v:= .nil) aBS (b:=gV) kN
def T5(x:List Int×D):Option ((v7)×D):=(AM (dt (x.1,0,0,())) (λ_=>G) λa=>I (a,()))
def aBI:Ent:=(221,G,⟨[.fz .u8],[j6],T5⟩)
def ae3:y7 aBI:=sk (v:=t1<|t1<|.two (t1<|.one<|.loop yS) .nil) (fn:=f221) aBS<|kC ahy kN
def agZ:Cx:=cX [kb,aDR,aBI] [] []
def aiE:y8 agZ:=y9<|gC xE<|gC afe<|gC ae3<|AI
def QO(x:Y6×D):Option ((List Int×D)×D):=(XR x).bind λc=>if !c.1.1 then I ((([]:List Int),()),()) else if Ac (([]:List Int).length+([(w8 x.1.1),(w8 x.1.2.1),(w8 x.1.2.2.1),(w8 x.1.2.2.2.1),(w8 x.1.2.2.2.2.1),(w8 x.1.2.2.2.2.2.1)]:List Int).length) then(Oc ((([]:List Int)++([(w8 x.1.1),(w8 x.1.2.1),(w8 x.1.2.2.1),(w8 x.1.2.2.2.1),(w8 x.1.2.2.2.2.1),(w8 x.1.2.2.2.2.2.1)]:List Int)),x.1.2.2.2.2.2.2.1,())).bind λa=>if U (x.1.1=1) then if Ac (a.1.1.length+([(w8 x.1.2.2.2.2.2.2.2.1)]:List Int).length) then(Oc ((a.1.1++([(w8 x.1.2.2.2.2.2.2.2.1)]:List Int)),x.1.2.2.2.2.2.2.2.2.1,())).bind λb=>if Ac x.1.2.2.2.2.2.2.2.2.2.1.size then if Ac (b.1.1.length+(BD x.1.2.2.2.2.2.2.2.2.2.1).length) then(T5 ((b.1.1++(BD x.1.2.2.2.2.2.2.2.2.2.1)),())).bind λd=>(Oc ((b.1.1++(BD x.1.2.2.2.2.2.2.2.2.2.1)),d.1)).bind λe=>I (e.1,()) else G else G else G else(T5 a.1).bind λf=>(Oc (a.1.1,f.1)).bind λg=>I (g.1,()) else G
def wD:Ent:=(172,G,⟨[Z13],[.row 5 .u8],QO⟩)
def ac2:y7 wD:=sk (v:= .nil) (fn:=f172) aiE kN
def ads:Cx:=cX [wD] [] [(9,11)]
def af6:y8 ads:=y9<|gC ac2<|AI
def eO(x:List Int×D):Option ((Y6×Bool×D)×D):=if(!decide ((j8 x.1:Int)=10))&&(!decide ((j8 x.1:Int)=17)) then I (((0,0,0,0,0,0,0,0,0,noB,()),A0,()),()) else if inb 0 x.1.length then if inb 1 x.1.length then if inb 2 x.1.length then if inb 3 x.1.length then if inb 4 x.1.length then if inb 5 x.1.length then if inb 6 x.1.length then if inb 7 x.1.length then let b:=(w64<|rd aJW x.1 0);let c:=(w64<|rd aJW x.1 1);let d:=(w64<|rd aJW x.1 2);let e:=(w64<|rd aJW x.1 3);let f:=(w64<|rd aJW x.1 4);let g:=(w64<|rd aJW x.1 5);let h:=(w64<|(w64<|(w64<|rd aJW x.1 6) * 256)+(w64<|rd aJW x.1 7));(BU (X:=List Int×Y6×Y6×D) (λa=>(QO a.2.2).bind λi=>if !decide ((BI i.1.1)=(BI a.1)) then I (((0,0,0,0,0,0,0,0,0,noB,()),A0,()),()) else I ((a.2.2.1,Y,()),()))<|(if U (10<(j8 x.1:Int)) then if inb 8 x.1.length then let j:=(w64<|rd aJW x.1 8);(if inb 9 x.1.length then if inb 10 x.1.length then let k:=(w64<|(w64<|(w64<|rd aJW x.1 9) * 256)+(w64<|rd aJW x.1 10));(if(U (0<=15)&&U (15<=(j8 x.1:Int)))&&(U (0<=11)&&U (11<=15)) then let l:=(BI<|Bt (AO 11)<|BQ (AO 15) x.1);I (.inr (x.1,(0,0,0,0,0,0,0,0,0,noB,()),(b,c,d,e,f,g,h,j,k,l,()),())) else G) else G else G) else G else I (.inr (x.1,(0,0,0,0,0,0,0,0,0,noB,()),(b,c,d,e,f,g,h,0,0,noB,()),())))) else G else G else G else G else G else G else G else G
def vI:Ent:=(134,G,⟨[.fz .u8],[Z13,.bool],eO⟩)
def abj:y7 vI:=sk (v:=t1<|t1<|t1<|.join [(0,.sl .u8),(2,Z14),(4,Z14)] .nil .nil) (fn:=f134) af6 kN
def ajU:Cx:=cX [HJ,Wg] [] [(12,18),(41,44)]
def aoD:y8 ajU:=y9<|gC Hk<|gC dW<|AI
def OV(x:Y7×D):Option ((Bool×D)×D):=if Ae (!(U<|2400<(x.1.1.size:Int))) ((DJ (x.1.2.1,0,(x.1.1.size:Int),())).isSome) then if(U<|2400<(x.1.1.size:Int))||(!(((DJ (x.1.2.1,0,(x.1.1.size:Int),())).getD ((A0,()),())).1.1)) then I ((A0,()),()) else(Lz (x.1.1,())).bind λa=>if U (0<=x.1.2.1)&&U (x.1.2.1<=(x.1.1.size:Int)) then(Lz ((x.1.1.extract (0)<|AO x.1.2.1),())).bind λb=>let c:=((U<|a.1.2.1=(x.1.1.size:Int))&&(U<|b.1.2.1=x.1.2.1));I ((c,()),()) else G else G
def T8:Ent:=(98,G,⟨[Z15],[.bool],OV⟩)
def W0:y7 T8:=sk (v:= .nil) (fn:=f98) aoD kN
def ahm:Cx:=cX [] [] []
def akV:y8 ahm:=y9<|AI
def M6(x:v7):Option ((v7)×D):=let a:=(w64<|B2 (w64<|(w64<|x.1+4) - 1) 4);I ((a,()),())
def Ww:Ent:=(130,G,⟨[j6],[j6],M6⟩)
def dk:y7 Ww:=sk (v:= .nil) (fn:=f130) akV kN
def aqx:Cx:=cX [HJ] [] [(8,9)]
def arL:y8 aqx:=y9<|gC Hk<|AI
def NK(x:aJM):Option ((Bool×D)×D):=(DJ (x.1,1,6,())).bind λa=>if Ae a.1.1 ((DJ (x.2.1,0,999,())).isSome) then let b:=(a.1.1&&(((DJ (x.2.1,0,999,())).getD ((A0,()),())).1.1));I ((b,()),()) else G
def Te:Ent:=(171,G,⟨[j6,j6],[.bool],NK⟩)
def iJ:y7 Te:=sk (v:= .nil) (fn:=f171) arL kN
def ajK:Cx:=cX [Te] [] [(10,13)]
def ao8:y8 ajK:=y9<|gC iJ<|AI
def TB(x:Int×Y8×D):Option ((Bool×D)×D):=(NK (x.1,x.2.1.1,())).bind λa=>let b:=(a.1.1&&(U<|(x.2.1.2.1.size:Int)=4));I ((b,()),())
def kZ:Ent:=(131,G,⟨[j6,Z16],[.bool],TB⟩)
def xI:y7 kZ:=sk (v:= .nil) (fn:=f131) ao8 kN
def agv:Cx:=cX [HJ,Il,Ww,kZ] [] []
def wG:y8 agv:=y9<|gC Hk<|gC JF<|gC dk<|gC xI<|AI
def fb(x:Y9×aJM):Rnd (Y9×aJM) (Bool×D) (Y9×v7):=if U (x.2.2.1<x.2.1) then if inb x.2.2.1 x.1.2.2.2.2.2.1.length then if inb x.2.1 x.1.2.2.2.2.2.1.length then if U ((rd aJ0 x.1.2.2.2.2.2.1 x.2.2.1).nu=(rd aJ0 x.1.2.2.2.2.2.1 x.2.1).nu) then I (.inr<|.inl (A0,())) else I (.inl (x.1,x.2.1,(w64<|x.2.2.1+1),())) else G else G else I (.inr<|.inr (x.1,x.2.1,()))
def tu:=AS fb
def xJ:Loop:=⟨[(1,Z17),(3,j6),(4,j6)],[(1,Z17),(3,j6)],2,[(2,.bool)],tu⟩
def agE:LF f99 [] [1,1,0,1,0,0,1,0,0,1,1,0,0] xJ:=sq (v:= .nil) wG (b:=fb) kN
def fc(x:Y9×v7):Rnd (Y9×v7) (Bool×D) D:=if U (x.2.1<(j8 x.1.2.2.2.2.2.1:Int)) then(M6 (x.1.2.2.2.2.1,())).bind λb=>if inb x.2.1 x.1.2.2.2.2.2.1.length then(TB (b.1.1,((rd aJ0 x.1.2.2.2.2.2.1 x.2.1).nu,(rd aJ0 x.1.2.2.2.2.2.1 x.2.1).da,()),())).bind λc=>if !c.1.1 then I (.inr<|.inl (A0,())) else(AM (tu (x.1,x.2.1,0,())) (λa=>I<|.inr<|.inl a) λa=>I<|.inl (a.1,(w64<|a.2.1+1),())) else G else I (.inr<|.inr ())
def tv:=AS fc
def xK:Loop:=⟨[(1,Z17),(3,j6)],[],0,[(2,.bool)],tv⟩
def agJ:LF f99 [] [1,1,0,1,0,0] xK:=sq (v:=t1<|.two (.one<|t1<|t1<|.one<|.loop xJ) .nil) wG (b:=fc)<|kC agE kN
def gI(x:Y9×D):Option ((Bool×D)×D):=(Fo (x.1.1,())).bind λb=>if !b.1.1 then I ((A0,()),()) else(Fo (x.1.2.2.1,())).bind λc=>if !c.1.1 then I ((A0,()),()) else(DJ (x.1.2.1,1,99,())).bind λd=>if !d.1.1 then I ((A0,()),()) else(DJ (x.1.2.2.2.1,1,999,())).bind λe=>if !e.1.1 then I ((A0,()),()) else(DJ (x.1.2.2.2.2.1,1,24,())).bind λf=>if !f.1.1 then I ((A0,()),()) else if U (14<(j8 x.1.2.2.2.2.2.1:Int)) then I ((A0,()),()) else(AM (tv (x.1,0,())) (λa=>I (a,())) λa=>I ((Y,()),()))
def zo:Ent:=(99,G,⟨[Z18],[.bool],gI⟩)
def ad1:y7 zo:=sk (v:=t1<|t1<|.two (t1<|.one<|.loop xK) .nil) (fn:=f99) wG<|kC agJ kN
def aiS:Cx:=cX [JI,Il,Wg,ld,T8,zo] [] [(64,65),(100,112)]
def jz:y8 aiS:=y9<|gC Jy<|gC JF<|gC dW<|gC yQ<|gC W0<|gC ad1<|AI
def gP(x:Y1×aJM):Rnd (Y1×aJM) (Bool×D) (Y1×v7):=if U (x.2.2.1<x.2.1) then if inb x.2.2.1 x.1.2.2.2.2.1.length then if inb x.2.1 x.1.2.2.2.2.1.length then if Ae (U<|(rd aJP x.1.2.2.2.2.1 x.2.2.1).fr=(rd aJP x.1.2.2.2.2.1 x.2.1).fr) (inb x.2.2.1 x.1.2.2.2.2.1.length) then if Ae (U<|(rd aJP x.1.2.2.2.2.1 x.2.2.1).fr=(rd aJP x.1.2.2.2.2.1 x.2.1).fr) (inb x.2.1 x.1.2.2.2.2.1.length) then if(U<|(rd aJP x.1.2.2.2.2.1 x.2.2.1).fr=(rd aJP x.1.2.2.2.2.1 x.2.1).fr)&&(U<|(rd aJP x.1.2.2.2.2.1 x.2.2.1).nu=(rd aJP x.1.2.2.2.2.1 x.2.1).nu) then I (.inr<|.inl (A0,())) else I (.inl (x.1,x.2.1,(w64<|x.2.2.1+1),())) else G else G else G else G else I (.inr<|.inr (x.1,x.2.1,()))
def uH:=AS gP
def yK:Loop:=⟨[(1,Z19),(9,j6),(10,j6)],[(1,Z19),(9,j6)],2,[(2,.bool)],uH⟩
def ahq:LF f57 [] [1,1,1,1,1,1,0,1,0,0,1,0,0,1,1,0,0] yK:=sq (v:= .nil) jz (b:=gP) kN
def gQ(x:Y1×v7):Rnd (Y1×v7) (Bool×D) D:=if U (x.2.1<(j8 x.1.2.2.2.2.1:Int)) then if inb x.2.1 x.1.2.2.2.2.1.length then(gI (((rd aJP x.1.2.2.2.2.1 x.2.1).fr,(rd aJP x.1.2.2.2.2.1 x.2.1).nu,(rd aJP x.1.2.2.2.2.1 x.2.1).to,(rd aJP x.1.2.2.2.2.1 x.2.1).un,(rd aJP x.1.2.2.2.2.1 x.2.1).sz,(rd aJP x.1.2.2.2.2.1 x.2.1).got,()),())).bind λb=>if !b.1.1 then I (.inr<|.inl (A0,())) else(AM (uH (x.1,x.2.1,0,())) (λa=>I<|.inr<|.inl a) λa=>I<|.inl (a.1,(w64<|a.2.1+1),())) else G else I (.inr<|.inr ())
def dm:=AS gQ
def yL:Loop:=⟨[(1,Z19),(9,j6)],[],0,[(2,.bool)],dm⟩
def ahw:LF f57 [] [1,1,1,1,1,1,0,1,0,0] yL:=sq (v:=t1<|.two (.one<|t1<|t1<|.one<|.loop yK) .nil) jz (b:=gQ)<|kC ahq kN
def JJ(x:Y1×D):Option ((Bool×D)×D):=(BU (X:=Y1×D) (λa=>if U (0<=a.1.2.2.2.1)&&U (a.1.2.2.2.1<=(a.1.2.2.1.size:Int)) then(Lz ((a.1.2.2.1.extract (0)<|AO a.1.2.2.2.1),())).bind λc=>(TE (a.1.1,c.1.1,())).bind λd=>(GO a).bind λe=>if(!e.1.2.1)||(!d.1.2.1) then I ((A0,()),()) else(AM (dm (a.1,0,())) (λb=>I (b,())) λb=>I ((Y,()),())) else G)<|(Fo (x.1.1,())).bind λf=>if !f.1.1 then I (.inl ((A0,()),())) else(OV ((x.1.2.2.1,x.1.2.2.2.1,()),())).bind λg=>if !g.1.1 then I (.inl ((A0,()),())) else if U (3<(j8 x.1.2.2.2.2.1:Int)) then I (.inl ((A0,()),())) else if !x.1.2.1 then if U (0<(j8 x.1.2.2.2.2.1:Int)) then I (.inl ((A0,()),())) else I (.inr x) else I (.inr x))
def LA:Ent:=(57,G,⟨[Z12],[.bool],JJ⟩)
def M4:y7 LA:=sk (v:=t1<|.join [(1,Z19)] .nil<|t1<|t1<|t1<|t1<|.two (t1<|.one<|.loop yL) .nil) (fn:=f57) jz<|kC ahw kN
def ajN:Cx:=cX [] [] []
def aBt:y8 ajN:=y9<|AI
def iH(x:Y1×Y1×List AG×v7):Rnd (Y1×Y1×List AG×v7) D (Y1×Y1×List AG×D):=if U (x.2.2.2.1<(j8 x.1.2.2.2.2.1:Int)) then if inb x.2.2.2.1 x.1.2.2.2.2.1.length then let b:=(rd aJP x.1.2.2.2.2.1 x.2.2.2.1).fr;let c:=(rd aJP x.1.2.2.2.2.1 x.2.2.2.1).nu;let d:=(rd aJP x.1.2.2.2.2.1 x.2.2.2.1).to;let e:=(rd aJP x.1.2.2.2.2.1 x.2.2.2.1).un;let f:=(rd aJP x.1.2.2.2.2.1 x.2.2.2.1).sz;let a:=(rd aJP x.1.2.2.2.2.1 x.2.2.2.1).got;if Ac (([]:List AT).length+a.length) then if Ac (x.2.2.1.length+([(AG.mk b c d e f<|([]:List AT)++a)]:List AG).length) then I (.inl (x.1,x.2.1,(x.2.2.1++([(AG.mk b c d e f<|([]:List AT)++a)]:List AG)),(w64<|x.2.2.2.1+1),())) else G else G else G else I (.inr<|.inr (x.1,x.2.1,x.2.2.1,()))
def uj:=AS iH
def yy:Loop:=⟨[(1,Z19),(2,Z20),(3,.row 107 .half),(4,j6)],[(1,Z19),(2,Z20),(3,.row 107 .half)],0,[],uj⟩
def aip:LF f94 [] [1,1,0,1,0,0] yy:=sq (v:= .nil) aBt (b:=iH) kN
def HH(x:Y1×D):Option ((Y1×D)×D):=(AM (uj (x.1,(0,A0,noB,0,([]:List AG),()),([]:List AG),0,())) (λ_=>G) λa=>I (((a.1.1,a.1.2.1,a.1.2.2.1,a.1.2.2.2.1,a.2.2),()),()))
def NI:Ent:=(94,G,⟨[Z12],[Z1],HH⟩)
def OQ:y7 NI:=sk (v:=t1<|t1<|.two (t1<|.one<|.loop yy) .nil) (fn:=f94) aBt<|kC aip kN
def ahQ:Cx:=cX [Oh] [] []
def akX:y8 ahQ:=y9<|gC QN<|AI
def X0(x:aJQ):Option ((A1×D)×D):=(Da (x.1,())).bind λa=>if U (a.1.1.size+(B [32]).size<=4611686018427387904) then(Da (x.2.1,())).bind λb=>if U ((a.1.1++(B [32])).size+b.1.1.size<=4611686018427387904) then if U (((a.1.1++(B [32]))++b.1.1).size+(B [32]).size<=4611686018427387904) then(Da x.2.2).bind λc=>if U ((((a.1.1++(B [32]))++b.1.1)++(B [32])).size+c.1.1.size<=4611686018427387904) then let d:=((((a.1.1++(B [32]))++b.1.1)++(B [32]))++c.1.1);I ((d,()),()) else G else G else G else G
def kM:Ent:=(169,G,⟨[j6,j6,j6],[.str],X0⟩)
def wh:y7 kM:=sk (v:= .nil) (fn:=f169) akX kN
def afR:Cx:=cX [T8] [] []
def agX:y8 afR:=y9<|gC W0<|AI
def QF(x:Y7×D):Option ((Y7×D)×D):=(OV x).bind λa=>if !a.1.1 then I (((noB,0,()),()),()) else I (((x.1.1,(x.1.1.size:Int),()),()),())
def fX:Ent:=(166,G,⟨[Z15],[Z15],QF⟩)
def tL:y7 fX:=sk (v:= .nil) (fn:=f166) agX kN
def anS:Cx:=cX [Oh] [] []
def apc:y8 anS:=y9<|gC QN<|AI
def Qc(x:A1×D):Option ((A1×D)×D):=(Da ((x.1.size:Int),())).bind λa=>if U (a.1.1.size+(B [58]).size<=4611686018427387904) then if U ((a.1.1++(B [58])).size+x.1.size<=4611686018427387904) then if U (((a.1.1++(B [58]))++x.1).size+(B [59]).size<=4611686018427387904) then let b:=(((a.1.1++(B [58]))++x.1)++(B [59]));I ((b,()),()) else G else G else G
def lD:Ent:=(127,G,⟨[.str],[.str],Qc⟩)
def yI:y7 lD:=sk (v:= .nil) (fn:=f127) apc kN
def ahW:Cx:=cX [HJ] [] []
def akb:y8 ahW:=y9<|gC Hk<|AI
def ga(x:A1×D):Option ((Bool×D)×D):=(DJ ((x.1.size:Int),1,60,())).bind λa=>I (a.1,())
def kO:Ent:=(219,G,⟨[.str],[.bool],ga⟩)
def wm:y7 kO:=sk (v:= .nil) (fn:=f219) akb kN
def ahX:Cx:=cX [T8,lD,kO] [] [(14,21)]
def akc:y8 ahX:=y9<|gC W0<|gC yI<|gC wm<|AI
def Sy(x:Y7×A1×D):Option ((Y7×Bool×D)×D):=(OV (x.1,())).bind λc=>if !c.1.1 then I (((noB,0,()),A0,()),()) else(ga x.2).bind λa=>if Ae (!(!a.1.1)) ((Qc x.2).isSome) then if(!a.1.1)||(U<|2400<(w64<|(x.1.1.size:Int)+((((Qc x.2).getD ((noB,()),())).1.1).size:Int))) then I ((x.1,A0,()),()) else(Qc x.2).bind λb=>if U (x.1.1.size+b.1.1.size<=4611686018427387904) then I ((((x.1.1++b.1.1),x.1.2),Y,()),()) else G else G
def aBG:Ent:=(165,G,⟨[Z15,.str],[Z15,.bool],Sy⟩)
def adU:y7 aBG:=sk (v:= .nil) (fn:=f165) akc kN
def agy:Cx:=cX [T8,lD,kO] [] []
def zY:y8 agy:=y9<|gC W0<|gC yI<|gC wm<|AI
def Sg(x:List A1×Y7×Y7×A1×v7):Rnd (List A1×Y7×Y7×A1×v7) (Y7×Bool×D) (Y7×Y7×A1×D):=if U (x.2.2.2.2.1<(j8 x.1:Int)) then if inb x.2.2.2.2.1 x.1.length then(ga ((rd aJY x.1 x.2.2.2.2.1),())).bind λb=>if !b.1.1 then I (.inr<|.inl (x.2.1,A0,())) else if inb x.2.2.2.2.1 x.1.length then(Qc ((rd aJY x.1 x.2.2.2.2.1),())).bind λa=>if U (x.2.2.2.1.size+a.1.1.size<=4611686018427387904) then I (.inl (x.1,x.2.1,x.2.2.1,(x.2.2.2.1++a.1.1),(w64<|x.2.2.2.2.1+1),())) else G else G else G else I (.inr<|.inr (x.2.1,x.2.2.1,x.2.2.2.1,()))
def dX:=AS Sg
def xN:Loop:=⟨[(1,.sl .str),(2,Z21),(4,Z21),(6,.str),(7,j6)],[(2,Z21),(4,Z21),(6,.str)],0,[(4,Z21),(5,.bool)],dX⟩
def agL:LF f180 [] [1,1,1,0,1,0,0] xN:=sq (v:= .nil) zY (b:=Sg) kN
def Sm(x:Y7×List A1×D):Option ((Y7×Bool×D)×D):=(OV (x.1,())).bind λb=>if !b.1.1 then I (((noB,0,()),A0,()),()) else(AM (dX (x.2.1,x.1,(noB,0,()),noB,0,())) (λa=>I (a,())) λa=>(if U (2400<(a.2.2.1.size:Int)) then I ((a.1,A0,()),()) else I (((a.2.2.1,(a.2.2.1.size:Int),()),Y,()),())))
def wU:Ent:=(180,G,⟨[Z15,.fz .str],[Z15,.bool],Sm⟩)
def acK:y7 wU:=sk (v:=t1<|t1<|t1<|.two (t1<|.one<|.loop xN) .nil) (fn:=f180) zY<|kC agL kN
def aiT:Cx:=cX [lc,Oh,Wh] [] []
def iC:y8 aiT:=y9<|gC yP<|gC QN<|gC dZ<|AI
def gS(x:Y3×List A1×v7):Rnd (Y3×List A1×v7) D (List A1×D):=if U (x.2.2.1<(j8 x.1.2.2.2.2.2.1:Int)) then if inb x.2.2.1 x.1.2.2.2.2.2.1.length then(NA (((rd y5 x.1.2.2.2.2.2.1 x.2.2.1).fr,(rd y5 x.1.2.2.2.2.2.1 x.2.2.1).nu,(rd y5 x.1.2.2.2.2.2.1 x.2.2.1).to,(rd y5 x.1.2.2.2.2.2.1 x.2.2.1).un,(rd y5 x.1.2.2.2.2.2.1 x.2.2.1).tx,()),())).bind λa=>if U ((B [105,110,98,111,120,32]).size+a.1.1.size<=4611686018427387904) then if Ac (x.2.1.length+([((B [105,110,98,111,120,32])++a.1.1)]:List A1).length) then I (.inl (x.1,(x.2.1++([((B [105,110,98,111,120,32])++a.1.1)]:List A1)),(w64<|x.2.2.1+1),())) else G else G else G else I (.inr<|.inr (x.2.1,()))
def dp:=AS gS
def yM:Loop:=⟨[(1,Z7),(3,.row 9 .str),(7,j6)],[(3,.row 9 .str)],4,[],dp⟩
def aho:LF f181 [] [1,1,1,1,1,1,1,0,1,0,0] yM:=sq (v:= .nil) iC (b:=gS) kN
def gT(x:Y3×List A1×v7):Rnd (Y3×List A1×v7) D (Y3×List A1×D):=if U (x.2.2.1<(j8 x.1.2.2.2.1:Int)) then if inb x.2.2.1 x.1.2.2.2.1.length then(NA (((rd y5 x.1.2.2.2.1 x.2.2.1).fr,(rd y5 x.1.2.2.2.1 x.2.2.1).nu,(rd y5 x.1.2.2.2.1 x.2.2.1).to,(rd y5 x.1.2.2.2.1 x.2.2.1).un,(rd y5 x.1.2.2.2.1 x.2.2.1).tx,()),())).bind λa=>if U ((B [104,101,108,100,32]).size+a.1.1.size<=4611686018427387904) then if Ac (x.2.1.length+([((B [104,101,108,100,32])++a.1.1)]:List A1).length) then I (.inl (x.1,(x.2.1++([((B [104,101,108,100,32])++a.1.1)]:List A1)),(w64<|x.2.2.1+1),())) else G else G else G else I (.inr<|.inr (x.1,x.2.1,()))
def dq:=AS gT
def yN:Loop:=⟨[(1,Z7),(3,.row 9 .str),(6,j6)],[(1,Z7),(3,.row 9 .str)],2,[],dq⟩
def ahr:LF f181 [] [1,1,1,1,1,1,0,1,0,0] yN:=sq (v:= .nil) iC (b:=gT) kN
def gU(x:Y3×List A1×v7):Rnd (Y3×List A1×v7) D (Y3×List A1×D):=if U (x.2.2.1<(j8 x.1.2.2.2.2.1:Int)) then if inb x.2.2.1 x.1.2.2.2.2.1.length then let d:=(rd aJV x.1.2.2.2.2.1 x.2.2.1).mf;let e:=(rd aJV x.1.2.2.2.2.1 x.2.2.1).mn;let f:=(rd aJV x.1.2.2.2.2.1 x.2.2.1).mu;(Da (d,())).bind λa=>if U ((B [109,97,114,107,32]).size+a.1.1.size<=4611686018427387904) then if U (((B [109,97,114,107,32])++a.1.1).size+(B [32]).size<=4611686018427387904) then(Da (e,())).bind λb=>if U ((((B [109,97,114,107,32])++a.1.1)++(B [32])).size+b.1.1.size<=4611686018427387904) then if U (((((B [109,97,114,107,32])++a.1.1)++(B [32]))++b.1.1).size+(B [32]).size<=4611686018427387904) then(Da (f,())).bind λc=>if U ((((((B [109,97,114,107,32])++a.1.1)++(B [32]))++b.1.1)++(B [32])).size+c.1.1.size<=4611686018427387904) then if Ac (x.2.1.length+([((((((B [109,97,114,107,32])++a.1.1)++(B [32]))++b.1.1)++(B [32]))++c.1.1)]:List A1).length) then I (.inl (x.1,(x.2.1++([((((((B [109,97,114,107,32])++a.1.1)++(B [32]))++b.1.1)++(B [32]))++c.1.1)]:List A1)),(w64<|x.2.2.1+1),())) else G else G else G else G else G else G else G else I (.inr<|.inr (x.1,x.2.1,()))
def dr:=AS gU
def yO:Loop:=⟨[(1,Z7),(3,.row 9 .str),(4,j6)],[(1,Z7),(3,.row 9 .str)],0,[],dr⟩
def ahx:LF f181 [] [1,1,1,1,1,0,1,0,0] yO:=sq (v:= .nil) iC (b:=gU) kN
def X4(x:Y3×D):Option ((List A1×D)×D):=(Qd x).bind λg=>if !g.1.1 then I ((([]:List A1),()),()) else(BU (X:=Y3×List A1×D) (λa=>(BU (X:=Y3×List A1×D) (λd=>(AM (dr (d.1,d.2.1,0,())) (λ_=>G) λe=>(AM (dq (e.1,e.2.1,0,())) (λ_=>G) λf=>(AM (dp (f.1,f.2.1,0,())) (λ_=>G) λh=>I (h,())))))<|(if U (1<a.1.2.2.1) then(Da (a.1.2.2.1,())).bind λb=>if U ((B [110,101,120,116,32]).size+b.1.1.size<=4611686018427387904) then if Ac (a.2.1.length+([((B [110,101,120,116,32])++b.1.1)]:List A1).length) then I (.inr (a.1,(a.2.1++([((B [110,101,120,116,32])++b.1.1)]:List A1)),())) else G else G else I (.inr a))))<|(if U (0<x.1.2.1) then(Da (x.1.2.1,())).bind λc=>if U ((B [116,105,109,101,32]).size+c.1.1.size<=4611686018427387904) then if Ac (([]:List A1).length+([((B [116,105,109,101,32])++c.1.1)]:List A1).length) then I (.inr (x.1,(([]:List A1)++([((B [116,105,109,101,32])++c.1.1)]:List A1)),())) else G else G else I (.inr (x.1,([]:List A1),()))))
def ju:Ent:=(181,G,⟨[Z8],[.row 9 .str],X4⟩)
def wx:y7 ju:=sk (v:=t1<|t1<|t1<|.join [(1,Z7),(3,.row 9 .str)] .nil<|.join [(1,Z7),(3,.row 9 .str)] .nil<|.two (t1<|.one<|.loop yO)<|.two (t1<|.one<|.loop yN)<|.two (t1<|.one<|.loop yM) .nil) (fn:=f181) iC<|kC ahx<|kC ahr<|kC aho kN
def ahP:Cx:=cX [JI,lh,aBG,fX,wU,ju] [] []
def akW:y8 ahP:=y9<|gC Jy<|gC yR<|gC adU<|gC tL<|gC acK<|gC wx<|AI
def L9(x:Y1×A1×Bool×D):Option ((Y1×Bool×D)×D):=(GO (x.1,())).bind λb=>(TF (b.1.1,x.2.1,())).bind λe=>if !e.1.2.1 then I ((x.1,A0,()),()) else(Sy ((x.1.2.2.1,x.1.2.2.2.1,()),x.2.1,())).bind λc=>(BU (X:=Bool×Y1×Y1×Y7×Bool×D) (λa=>if !a.2.2.2.2.1 then I ((a.2.1,A0,()),()) else if a.1 then(QF (a.2.2.2.1,())).bind λd=>I (((a.2.1.1,a.2.1.2.1,d.1.1.1,d.1.1.2.1,a.2.1.2.2.2.2),Y,()),()) else I (((a.2.1.1,a.2.1.2.1,a.2.2.2.1.1,a.2.2.2.1.2.1,a.2.1.2.2.2.2),Y,()),()))<|(if !c.1.2.1 then(X4 (b.1.1,())).bind λf=>(Sm ((x.1.2.2.1,x.1.2.2.2.1,()),f.1)).bind λg=>(Sy (g.1.1,x.2.1,())).bind λh=>I (.inr (x.2.2.1,x.1,(0,A0,noB,0,([]:List AG),()),h.1)) else I (.inr (x.2.2.1,x.1,(0,A0,noB,0,([]:List AG),()),c.1))))
def Sw:Ent:=(176,G,⟨[Z12,.str,.bool],[Z12,.bool],L9⟩)
def Vp:y7 Sw:=sk (v:=t1<|t1<|t1<|t1<|t1<|.join [(2,.bool),(3,Z19),(6,Z20),(12,Z21),(13,.bool)] .nil .nil) (fn:=f176) akW kN
def agw:Cx:=cX [] [] []
def aik:y8 agw:=y9<|AI
def gJ(x:Int×Y6×D):Option ((Y6×D)×D):=I (((x.1,x.2.1.2.2.1,x.2.1.2.1,x.2.1.2.2.2.1,x.2.1.2.2.2.2.1,x.2.1.2.2.2.2.2.1,x.2.1.2.2.2.2.2.2.1,0,0,noB,()),()),())
def zp:Ent:=(222,G,⟨[j6,Z13],[Z13],gJ⟩)
def ad2:y7 zp:=sk (v:= .nil) (fn:=f222) aik kN
def ajM:Cx:=cX [] [] []
def ao9:y8 ajM:=y9<|AI
def QW(x:List AG×v7):Option ((List AG×D)×D):=if U (0<=x.2.1)&&U (x.2.1<=(j8 x.1:Int)) then if Ac (([]:List AG).length+(BQ (AO x.2.1) x.1).length) then if U (0<=(w64<|x.2.1+1))&&U ((w64<|x.2.1+1)<=(j8 x.1:Int)) then if Ac ((([]:List AG)++(BQ (AO x.2.1) x.1)).length+(Bt (AO<|w64<|x.2.1+1) x.1).length) then I ((((([]:List AG)++(BQ (AO x.2.1) x.1))++(Bt (AO<|w64<|x.2.1+1) x.1)),()),()) else G else G else G else G
def ka:Ent:=(225,G,⟨[.fz .half,j6],[.row 107 .half],QW⟩)
def xL:y7 ka:=sk (v:= .nil) (fn:=f225) ao9 kN
def ajL:Cx:=cX [] [] [(22,28)]
def aBs:y8 ajL:=y9<|AI
def iG(x:List AG×aJQ):Rnd (List AG×aJQ) (v7) D:=if U (x.2.2.2.1<(j8 x.1:Int)) then if inb x.2.2.2.1 x.1.length then if Ae (U<|(rd aJP x.1 x.2.2.2.1).fr=x.2.1) (inb x.2.2.2.1 x.1.length) then if(U<|(rd aJP x.1 x.2.2.2.1).fr=x.2.1)&&(U<|(rd aJP x.1 x.2.2.2.1).nu=x.2.2.1) then I (.inr<|.inl x.2.2.2) else I (.inl (x.1,x.2.1,x.2.2.1,(w64<|x.2.2.2.1+1),())) else G else G else I (.inr<|.inr ())
def uS:=AS iG
def yx:Loop:=⟨[(0,.sl .half),(1,j6),(2,j6),(7,j6)],[],0,[(6,j6)],uS⟩
def aio:LF f248 [] [1,0,1,0,0] yx:=sq (v:= .nil) aBs (b:=iG) kN
def ia(x:List AG×aJM):Option ((v7)×D):=(AM (uS (x.1,x.2.1,x.2.2.1,0,())) (λa=>I (a,())) λa=>I (((-1),()),()))
def aCI:Ent:=(248,G,⟨[.fz .half,j6,j6],[j6],ia⟩)
def aej:y7 aCI:=sk (v:=t1<|.two (t1<|.one<|.loop yx) .nil) (fn:=f248) aBs<|kC aio kN
def anM:Cx:=cX [ka,aCI] [] []
def aD2:y8 anM:=y9<|gC xL<|gC aej<|AI
def ib(x:Y1×Y6×Y1×Int×Y9×List AT×v7):Rnd (Y1×Y6×Y1×Int×Y9×List AT×v7) D (Y1×Y6×Y1×Int×Y9×List AT×D):=if U (x.2.2.2.2.2.2.1<(j8 x.2.2.2.2.1.2.2.2.2.2.1:Int)) then if inb x.2.2.2.2.2.2.1 x.2.2.2.2.1.2.2.2.2.2.1.length then if !decide ((rd aJ0 x.2.2.2.2.1.2.2.2.2.2.1 x.2.2.2.2.2.2.1).nu=x.2.1.2.2.2.2.2.2.2.2.1) then if inb x.2.2.2.2.2.2.1 x.2.2.2.2.1.2.2.2.2.2.1.length then if Ac (x.2.2.2.2.2.1.length+([(rd aJ0 x.2.2.2.2.1.2.2.2.2.2.1 x.2.2.2.2.2.2.1)]:List AT).length) then let a:=(w64<|x.2.2.2.2.2.2.1+1);I (.inl (x.1,x.2.1,x.2.2.1,x.2.2.2.1,x.2.2.2.2.1,(x.2.2.2.2.2.1++([(rd aJ0 x.2.2.2.2.1.2.2.2.2.2.1 x.2.2.2.2.2.2.1)]:List AT)),a,())) else G else G else let b:=(w64<|x.2.2.2.2.2.2.1+1);I (.inl (x.1,x.2.1,x.2.2.1,x.2.2.2.1,x.2.2.2.2.1,x.2.2.2.2.2.1,b,())) else G else I (.inr<|.inr (x.1,x.2.1,x.2.2.1,x.2.2.2.1,x.2.2.2.2.1,x.2.2.2.2.2.1,()))
def fe:=AS ib
def aAY:Loop:=⟨[(2,Z20),(3,Z14),(4,Z20),(6,j6),(7,Z17),(8,.row 142 .mixed),(9,j6)],[(2,Z20),(3,Z14),(4,Z20),(6,j6),(7,Z17),(8,.row 142 .mixed)],0,[],fe⟩
def an5:LF f223 [] [1,1,1,1,1,1,0,1,0,0] aAY:=sq (v:= .nil) aD2 (b:=ib) kN
def jX(x:Y1×Y6×D):Option ((Y1×v7)×D):=(ia (x.1.2.2.2.2.1,x.2.1.2.2.2.1,x.2.1.2.2.2.2.1,())).bind λe=>(BU (X:=Y1×Y6×Y1×v7) (λa=>if inb a.2.2.2.1 a.1.2.2.2.2.1.length then let i:=(rd aJP a.1.2.2.2.2.1 a.2.2.2.1).fr;let j:=(rd aJP a.1.2.2.2.2.1 a.2.2.2.1).nu;let f:=(rd aJP a.1.2.2.2.2.1 a.2.2.2.1).to;let g:=(rd aJP a.1.2.2.2.2.1 a.2.2.2.1).un;let h:=(rd aJP a.1.2.2.2.2.1 a.2.2.2.1).sz;let k:=(rd aJP a.1.2.2.2.2.1 a.2.2.2.1).got;if !decide (f=a.2.1.2.2.2.2.2.1) then I ((a.1,(-1),()),()) else if !decide (g=a.2.1.2.2.2.2.2.2.1) then I ((a.1,(-1),()),()) else if !decide (h=a.2.1.2.2.2.2.2.2.2.1) then I ((a.1,(-1),()),()) else(AM (fe (a.1,a.2.1,a.2.2.1,a.2.2.2.1,(i,j,f,g,h,k,()),([]:List AT),0,())) (λ_=>G) λd=>(BU (X:=Y1×Y6×Y1×Int×Y9×List AT×D) (λc=>if Ac (c.2.2.2.2.2.1.length+([(AT.mk c.2.1.2.2.2.2.2.2.2.2.1 c.2.1.2.2.2.2.2.2.2.2.2.1)]:List AT).length) then if inb c.2.2.2.1 c.1.2.2.2.2.1.length then I (((c.1.1,c.1.2.1,c.1.2.2.1,c.1.2.2.2.1,(Bu c.1.2.2.2.2.1 (AO c.2.2.2.1)<|AG.mk c.2.2.2.2.1.1 c.2.2.2.2.1.2.1 c.2.2.2.2.1.2.2.1 c.2.2.2.2.1.2.2.2.1 c.2.2.2.2.1.2.2.2.2.1<|c.2.2.2.2.2.1++([(AT.mk c.2.1.2.2.2.2.2.2.2.2.1 c.2.1.2.2.2.2.2.2.2.2.2.1)]:List AT)),()),c.2.2.2.1,()),()) else G else G)<|(if U (14<=(j8 d.2.2.2.2.2.1:Int)) then if U (0<=1)&&U (1<=(j8 d.2.2.2.2.2.1:Int)) then if Ac (([]:List AT).length+(Bt (AO 1) d.2.2.2.2.2.1).length) then I (.inr (d.1,d.2.1,d.2.2.1,d.2.2.2.1,d.2.2.2.2.1,(([]:List AT)++(Bt (AO 1) d.2.2.2.2.2.1)),())) else G else G else I (.inr d)))) else G)<|(if U (e.1.1<0) then(BU (X:=Y1×Y6×Y1×D) (λb=>if Ac (b.1.2.2.2.2.1.length+([(AG.mk b.2.1.2.2.2.1 b.2.1.2.2.2.2.1 b.2.1.2.2.2.2.2.1 b.2.1.2.2.2.2.2.2.1 b.2.1.2.2.2.2.2.2.2.1 ([]:List AT))]:List AG).length) then let l:=(w64<|((b.1.2.2.2.2.1++([(AG.mk b.2.1.2.2.2.1 b.2.1.2.2.2.2.1 b.2.1.2.2.2.2.2.1 b.2.1.2.2.2.2.2.2.1 b.2.1.2.2.2.2.2.2.2.1 ([]:List AT))]:List AG)).length:Int) - 1);I (.inr ((b.1.1,b.1.2.1,b.1.2.2.1,b.1.2.2.2.1,(b.1.2.2.2.2.1++([(AG.mk b.2.1.2.2.2.1 b.2.1.2.2.2.2.1 b.2.1.2.2.2.2.2.1 b.2.1.2.2.2.2.2.2.1 b.2.1.2.2.2.2.2.2.2.1 ([]:List AT))]:List AG)),()),b.2.1,b.2.2.1,l,())) else G)<|(if U (3<=(j8 x.1.2.2.2.2.1:Int)) then(QW (x.1.2.2.2.2.1,0,())).bind λm=>I (.inr ((x.1.1,x.1.2.1,x.1.2.2.1,x.1.2.2.2.1,m.1),x.2.1,(0,A0,noB,0,([]:List AG),()),())) else I (.inr (x.1,x.2.1,(0,A0,noB,0,([]:List AG),()),())))) else I (.inr (x.1,x.2.1,(0,A0,noB,0,([]:List AG),()),e.1))))
def aDQ:Ent:=(223,G,⟨[Z1,Z13],[Z1,j6],jX⟩)
def afd:y7 aDQ:=sk (v:=t1<|t1<|.join [(2,Z20),(3,Z14),(4,Z20),(6,j6)] (t1<|.two (.join [(2,Z20),(3,Z14),(4,Z20)] .nil .nil) .nil)<|t1<|t1<|t1<|.two (t1<|.one<|.loop aAY)<|.join [(2,Z20),(3,Z14),(4,Z20),(6,j6),(7,Z17),(8,.row 142 .mixed)] .nil .nil) (fn:=f223) aD2<|kC an5 kN
def ahY:Cx:=cX [HJ] [] []
def akd:y8 ahY:=y9<|gC Hk<|AI
def QR(x:v7):Option ((v7)×D):=(DJ (x.1,0,65535,())).bind λa=>if !a.1.1 then I ((0,()),()) else let b:=(BM (w64<|(w64<|x.1 * 25173)+13849) 65536);I ((b,()),())
def js:Ent:=(250,G,⟨[j6],[j6],QR⟩)
def wv:y7 js:=sk (v:= .nil) (fn:=f250) akd kN
def ahS:Cx:=cX [] [] []
def akZ:y8 ahS:=y9<|AI
def iI(x:aJM):Option ((v7)×D):=if U (x.2.1=1) then if !decide (x.1=0) then let a:=(w64<|(w64<|B2 60 x.1)+10);I ((a,()),()) else G else if !decide ((w64<|x.2.1 * (w64<|x.2.1 - 1))=0) then let b:=(w64<|B2 60<|w64<|x.2.1 * (w64<|x.2.1 - 1));I ((b,()),()) else G
def aBC:Ent:=(261,G,⟨[j6,j6],[j6],iI⟩)
def adQ:y7 aBC:=sk (v:= .nil) (fn:=f261) akZ kN
def ah2:Cx:=cX [Te,js,aBC] [] []
def wH:y8 ah2:=y9<|gC iJ<|gC wv<|gC adQ<|AI
def WA(x:aJQ):Rnd (aJQ) (v7) (v7):=if U (x.2.2.1<x.1) then(iI (x.1,x.2.2)).bind λa=>if U ((w64<|x.2.1 - a.1.1)<0) then I (.inr<|.inl x.2.2) else I (.inl (x.1,(w64<|x.2.1 - a.1.1),(w64<|x.2.2.1+1),())) else I (.inr<|.inr (x.1,()))
def db:=AS WA
def xP:Loop:=⟨[(0,j6),(7,j6),(8,j6)],[(0,j6)],2,[(4,j6)],db⟩
def agF:LF f251 [] [1,1,1,1,1,1,0,1,0,0] xP:=sq (v:= .nil) wH (b:=WA) kN
def yJ(x:Int×aJQ):Rnd (Int×aJQ) D (aJQ):=if U (x.2.2.2.1<=x.1) then(iI (x.1,x.2.2.2)).bind λa=>I (.inl (x.1,x.2.1,(w64<|x.2.2.1+a.1.1),(w64<|x.2.2.2.1+1),())) else I (.inr<|.inr (x.1,x.2.1,x.2.2.1,()))
def dd:=AS yJ
def xQ:Loop:=⟨[(0,j6),(1,j6),(5,j6),(6,j6)],[(0,j6),(1,j6),(5,j6)],0,[],dd⟩
def agN:LF f251 [] [1,1,1,1,0,1,0,0] xQ:=sq (v:= .nil) wH (b:=yJ) kN
def gO(x:aJM):Option ((v7)×D):=(NK x).bind λc=>if !c.1.1 then I ((0,()),()) else if U (x.2.1<x.1) then I ((1,()),()) else(AM (dd (x.1,x.2.1,0,1,())) (λ_=>G) (λa=>(QR ((w64<|(w64<|a.2.1 * 31)+a.1),())).bind λd=>(QR d.1).bind λe=>if !decide (a.2.2.1=0) then let f:=(BM (w64<|B2 e.1.1 16) a.2.2.1);(AM (db (a.1,f,1,())) (λb=>I (b,())) λb=>I (b,())) else G))
def zr:Ent:=(251,G,⟨[j6,j6],[j6],gO⟩)
def ack:y7 zr:=sk (v:=t1<|t1<|t1<|t1<|.two (t1<|.one<|.loop xQ)<|t1<|.two (t1<|.one<|.loop xP) .nil) (fn:=f251) wH<|kC agN<|kC agF kN
def apy:Cx:=cX [Te,js,zr] [] []
def YO:y8 apy:=y9<|gC iJ<|gC wv<|gC ack<|AI
def XV(x:Int×List Int×List Bool×aJQ):Rnd (Int×List Int×List Bool×aJQ) D (Int×List Int×List Bool×aJQ):=if inb x.2.2.2.2.2.1 x.2.2.1.length then if rd aJ3 x.2.2.1 x.2.2.2.2.2.1 then if !decide (x.1=0) then let a:=(BM (w64<|x.2.2.2.2.2.1+1) x.1);I (.inl (x.1,x.2.1,x.2.2.1,x.2.2.2.1,x.2.2.2.2.1,a,())) else G else I (.inr<|.inr x) else G
def gN:=AS XV
def aAx:Loop:=⟨[(0,j6),(5,.row 3 .int),(6,.row 4 .bool),(7,j6),(8,j6),(9,j6)],[(0,j6),(5,.row 3 .int),(6,.row 4 .bool),(7,j6),(8,j6),(9,j6)],2,[],gN⟩
def ap1:LF f227 [] [1,1,1,1,1,1,0,1,0,0,1,0,0,1,1,0,0,0] aAx:=sq (v:= .nil) YO (b:=XV) kN
def jc(x:Int×List Int×List Bool×v7):Rnd (Int×List Int×List Bool×v7) D (List Int×D):=if U (x.2.2.2.1<x.1) then if inb x.2.2.2.1 x.2.2.1.length then if rd aJ3 x.2.2.1 x.2.2.2.1 then if Ac (x.2.1.length+([x.2.2.2.1]:List Int).length) then I (.inl (x.1,(x.2.1++([x.2.2.2.1]:List Int)),x.2.2.1,(w64<|x.2.2.2.1+1),())) else G else I (.inl (x.1,x.2.1,x.2.2.1,(w64<|x.2.2.2.1+1),())) else G else I (.inr<|.inr (x.2.1,()))
def wL:=AS jc
def aAw:Loop:=⟨[(0,j6),(5,.row 3 .int),(6,.row 4 .bool),(10,j6)],[(5,.row 3 .int)],4,[],wL⟩
def aoy:LF f227 [] [1,1,1,1,1,1,1,0,1,0,0] aAw:=sq (v:= .nil) YO (b:=jc) kN
def lH(x:Int×List Int×List Bool×aJM):Rnd (Int×List Int×List Bool×aJM) D (Int×List Int×List Bool×D):=if U (0<x.2.2.2.2.1) then(QR (x.2.2.2.1,())).bind λb=>if !decide (x.1=0) then let c:=(BM (w64<|B2 b.1.1 16) x.1);(AM (gN (x.1,x.2.1,x.2.2.1,b.1.1,x.2.2.2.2.1,c,())) (λ_=>I<|.inr<|.inl ()) λa=>(if inb a.2.2.2.2.2.1 a.2.2.1.length then let d:=(w64<|a.2.2.2.2.1 - 1);I (.inl (a.1,a.2.1,(Bu a.2.2.1 (AO a.2.2.2.2.2.1) Y),a.2.2.2.1,d,())) else G)) else G else I (.inr<|.inr (x.1,x.2.1,x.2.2.1,()))
def wM:=AS lH
def aAy:Loop:=⟨[(0,j6),(5,.row 3 .int),(6,.row 4 .bool),(7,j6),(8,j6)],[(0,j6),(5,.row 3 .int),(6,.row 4 .bool)],0,[],wM⟩
def ap6:LF f227 [] [1,1,1,1,1,1,0,1,0,0] aAy:=sq (v:=t1<|.two (.one<|t1<|t1<|.two (.one<|.loop aAx) .nil) .nil) YO (b:=lH)<|kC ap1 kN
def Xn(x:aJM):Option ((List Int×D)×D):=(NK x).bind λb=>if !b.1.1 then I ((([]:List Int),()),()) else if U (x.2.1<x.1) then if Ac (([]:List Int).length+([x.2.1]:List Int).length) then I (((([]:List Int)++([x.2.1]:List Int)),()),()) else G else if U (0<=x.1)&&U (x.1<=4294967296) then(QR ((w64<|(w64<|x.2.1 * 7)+1),())).bind λc=>(gO x).bind λd=>(AM (wM (x.1,([]:List Int),(BT (AO x.1)<|dfl .bool),c.1.1,d.1)) (λ_=>G) λa=>(AM (wL (a.1,a.2.1,a.2.2.1,0,())) (λ_=>G) λe=>I (e,()))) else G
def mN:Ent:=(227,G,⟨[j6,j6],[.row 3 .int],Xn⟩)
def zL:y7 mN:=sk (v:=t1<|t1<|t1<|t1<|t1<|t1<|.two (t1<|.one<|.loop aAy)<|.two (t1<|.one<|.loop aAw) .nil) (fn:=f227) YO<|kC ap6<|kC aoy kN
def apx:Cx:=cX [] [] []
def aDi:y8 apx:=y9<|AI
def aCW(x:A1×A1×List Int×v7):Rnd (A1×A1×List Int×v7) D (List Int×D):=if U (x.2.2.2.1<4) then if inb x.2.2.2.1 x.1.size then if inb x.2.2.2.1 x.2.1.size then if Ac (x.2.2.1.length+([(E0 .u8 (bt x.1 x.2.2.2.1)<|bt x.2.1 x.2.2.2.1)]:List Int).length) then I (.inl (x.1,x.2.1,(x.2.2.1++([(E0 .u8 (bt x.1 x.2.2.2.1)<|bt x.2.1 x.2.2.2.1)]:List Int)),(w64<|x.2.2.2.1+1),())) else G else G else G else I (.inr<|.inr (x.2.2.1,()))
def wK:=AS aCW
def aB4:Loop:=⟨[(0,.str),(1,.str),(5,.row 5 .u8),(6,j6)],[(5,.row 5 .u8)],0,[],wK⟩
def ap5:LF f229 [] [1,1,0,1,0,0] aB4:=sq (v:= .nil) aDi (b:=aCW) kN
def Xm(x:A1×A1×D):Option ((A1×D)×D):=(AM (wK (x.1,x.2.1,([]:List Int),0,())) (λ_=>G) λa=>I (((BI a.1),()),()))
def mM:Ent:=(229,G,⟨[.str,.str],[.str],Xm⟩)
def zU:y7 mM:=sk (v:=t1<|t1<|.two (t1<|.one<|.loop aB4) .nil) (fn:=f229) aDi<|kC ap5 kN
def ane:Cx:=cX [mN,mM] [] []
def aD1:y8 ane:=y9<|gC zL<|gC zU<|AI
def XN(x:List A1×List Int×A1×List Int×v7):Rnd (List A1×List Int×A1×List Int×v7) D (List Int×A1×D):=if U (x.2.2.2.2.1<(j8 x.2.2.2.1:Int)) then if inb x.2.2.2.2.1 x.2.2.2.1.length then if inb (rd aJR x.2.2.2.1 x.2.2.2.2.1) x.1.length then if U ((rd aJY x.1<|rd aJR x.2.2.2.1 x.2.2.2.2.1)=noB) then if inb x.2.2.2.2.1 x.2.2.2.1.length then if Ac (x.2.1.length+([(rd aJR x.2.2.2.1 x.2.2.2.2.1)]:List Int).length) then I (.inl (x.1,(x.2.1++([(rd aJR x.2.2.2.1 x.2.2.2.2.1)]:List Int)),x.2.2.1,x.2.2.2.1,(w64<|x.2.2.2.2.1+1),())) else G else G else if inb x.2.2.2.2.1 x.2.2.2.1.length then if inb (rd aJR x.2.2.2.1 x.2.2.2.2.1) x.1.length then(Xm (x.2.2.1,(rd aJY x.1<|rd aJR x.2.2.2.1 x.2.2.2.2.1),())).bind λa=>I (.inl (x.1,x.2.1,a.1.1,x.2.2.2.1,(w64<|x.2.2.2.2.1+1),())) else G else G else G else G else I (.inr<|.inr (x.2.1,x.2.2.1,()))
def fa:=AS XN
def aAX:Loop:=⟨[(2,.sl .str),(8,.row 3 .int),(9,.str),(10,.row 3 .int),(11,j6)],[(8,.row 3 .int),(9,.str)],0,[],fa⟩
def an4:LF f260 [] [1,1,1,1,0,1,0,0] aAX:=sq (v:= .nil) aD1 (b:=XN) kN
def jW(x:Int×Y8×List A1×D):Option ((List Int×A1×D)×D):=(Xn (x.1,x.2.1.1,())).bind λa=>(AM (fa (x.2.2.1,([]:List Int),x.2.1.2.1,a.1.1,0,())) (λ_=>G) λb=>I (b,()))
def aDP:Ent:=(260,G,⟨[j6,Z16,.fz .str],[.row 3 .int,.str],jW⟩)
def afc:y7 aDP:=sk (v:=t1<|t1<|t1<|t1<|.two (t1<|.one<|.loop aAX) .nil) (fn:=f260) aD1<|kC an4 kN
def ajY:Cx:=cX [HJ,kZ,aDP] [] []
def kv:y8 ajY:=y9<|gC Hk<|gC xI<|gC afc<|AI
def QS(x:Int×List AT×List A1×Bool×v7):Rnd (Int×List AT×List A1×Bool×v7) D (Int×List AT×List A1×Bool×D):=if U (x.2.2.2.2.1<(j8 x.2.1:Int)) then if inb x.2.2.2.2.1 x.2.1.length then(TB (x.1,((rd aJ0 x.2.1 x.2.2.2.2.1).nu,(rd aJ0 x.2.1 x.2.2.2.2.1).da,()),())).bind λb=>if !b.1.1 then I (.inl (x.1,x.2.1,x.2.2.1,x.2.2.2.1,(w64<|x.2.2.2.2.1+1),())) else if inb x.2.2.2.2.1 x.2.1.length then(jW (x.1,((rd aJ0 x.2.1 x.2.2.2.2.1).nu,(rd aJ0 x.2.1 x.2.2.2.2.1).da,()),x.2.2.1,())).bind λa=>if U ((j8 a.1.1:Int)=1) then if inb 0 a.1.1.length then if inb (rd aJR a.1.1 0) x.2.2.1.length then I (.inl (x.1,x.2.1,(Bu x.2.2.1 (AO<|rd aJR a.1.1 0) a.1.2.1),Y,(w64<|x.2.2.2.2.1+1),())) else G else G else I (.inl (x.1,x.2.1,x.2.2.1,x.2.2.2.1,(w64<|x.2.2.2.2.1+1),())) else G else G else I (.inr<|.inr (x.1,x.2.1,x.2.2.1,x.2.2.2.1,()))
def W2:=AS QS
def zI:Loop:=⟨[(0,j6),(1,.sl .mixed),(5,.row 9 .str),(6,.bool),(7,j6)],[(0,j6),(1,.sl .mixed),(5,.row 9 .str),(6,.bool)],2,[],W2⟩
def ajB:LF f249 [] [1,1,1,1,0,0,0,1,0,1,1,0,0] zI:=sq (v:= .nil) kv (b:=QS) kN
def kE(x:Int×List AT×List A1×Bool×D):Rnd (Int×List AT×List A1×Bool×D) D (List A1×D):=if x.2.2.2.1 then(AM (W2 (x.1,x.2.1,x.2.2.1,A0,0,())) (λ_=>I<|.inr<|.inl ()) λa=>I<|.inl a) else I (.inr<|.inr (x.2.2.1,()))
def uy:=AS kE
def zJ:Loop:=⟨[(0,j6),(1,.sl .mixed),(5,.row 9 .str),(6,.bool)],[(5,.row 9 .str)],0,[],uy⟩
def aji:LF f249 [] [1,1,1,1,0,0,0] zJ:=sq (v:=t1<|.one<|t1<|t1<|.one<|.loop zI) kv (b:=kE)<|kC ajB kN
def ij(x:Int×List AT×D):Option ((List A1×D)×D):=(DJ (x.1,1,6,())).bind λa=>if !a.1.1 then I ((([]:List A1),()),()) else if U (0<=x.1)&&U (x.1<=4294967296) then(AM (uy (x.1,x.2.1,(BT (AO x.1)<|dfl .str),Y,())) (λ_=>G) λb=>I (b,())) else G
def aCP:Ent:=(249,G,⟨[j6,.fz .mixed],[.row 9 .str],ij⟩)
def aeq:y7 aCP:=sk (v:=t1<|t1<|t1<|t1<|.two (.one<|.loop zJ) .nil) (fn:=f249) kv<|kC aji kN
def ajX:Cx:=cX [HJ,Ww,aCP] [] []
def ku:y8 ajX:=y9<|gC Hk<|gC dk<|gC aeq<|AI
def gj(x:Int×A1×v7):Rnd (Int×A1×v7) (A1×Bool×D) (Int×A1×D):=if U (x.2.2.1<(x.2.1.size:Int)) then if inb x.2.2.1 x.2.1.size then if !decide ((bt x.2.1 x.2.2.1)=0) then I (.inr<|.inl (noB,A0,())) else I (.inl (x.1,x.2.1,(w64<|x.2.2.1+1),())) else G else I (.inr<|.inr (x.1,x.2.1,()))
def ux:=AS gj
def zG:Loop:=⟨[(0,j6),(7,.str),(9,j6)],[(0,j6),(7,.str)],2,[(4,.str),(5,.bool)],ux⟩
def ajA:LF f224 [] [1,1,1,1,1,0,1,0,0] zG:=sq (v:= .nil) ku (b:=gj) kN
def X3(x:Int×List A1×A1×v7):Rnd (Int×List A1×A1×v7) (A1×Bool×D) (Int×A1×D):=if U (x.2.2.2.1<(j8 x.2.1:Int)) then if inb x.2.2.2.1 x.2.1.length then if U ((rd aJY x.2.1 x.2.2.2.1)=noB) then I (.inr<|.inl (noB,A0,())) else if inb x.2.2.2.1 x.2.1.length then if U (x.2.2.1.size+(rd aJY x.2.1 x.2.2.2.1).size<=4611686018427387904) then let a:=(x.2.2.1++(rd aJY x.2.1 x.2.2.2.1));I (.inl (x.1,x.2.1,a,(w64<|x.2.2.2.1+1),())) else G else G else G else I (.inr<|.inr (x.1,x.2.2.1,()))
def eK:=AS X3
def zH:Loop:=⟨[(0,j6),(6,.row 9 .str),(7,.str),(8,j6)],[(0,j6),(7,.str)],0,[(4,.str),(5,.bool)],eK⟩
def aiu:LF f224 [] [1,1,1,1,0,1,0,0] zH:=sq (v:= .nil) ku (b:=X3) kN
def ig(x:Int×List AT×D):Option ((A1×Bool×D)×D):=(DJ (x.1,1,24,())).bind λc=>if !c.1.1 then I ((noB,A0,()),()) else(M6 (x.1,())).bind λd=>(ij (d.1.1,x.2)).bind λe=>(AM (eK (x.1,e.1.1,noB,0,())) (λb=>I (b,())) λb=>(AM (ux (b.1,b.2.1,b.1,())) (λa=>I (a,())) λa=>(if U (0<=a.1)&&U (a.1<=(a.2.1.size:Int)) then let f:=(a.2.1.extract (0)<|AO a.1);I ((f,Y,()),()) else G)))
def aCO:Ent:=(224,G,⟨[j6,.fz .mixed],[.str,.bool],ig⟩)
def aep:y7 aCO:=sk (v:=t1<|t1<|t1<|t1<|.two (t1<|.one<|.loop zH)<|.two (t1<|.one<|.loop zG) .nil) (fn:=f224) ku<|kC aiu<|kC ajA kN
def ahR:Cx:=cX [JI,Ww,fX,Wh,Te,NJ,Sw,XK,zp,aDQ,aCO,ka] [] [(39,46),(62,68)]
def akY:y8 ahR:=y9<|gC Jy<|gC dk<|gC tL<|gC dZ<|gC iJ<|gC OR<|gC Vp<|gC fD<|gC ad2<|gC afd<|gC aep<|gC xL<|AI
def X1(x:Y1×Y6×D):Option ((Y1×List Frame×D)×D):=(GO (x.1,())).bind λe=>if U (x.2.1.2.2.2.2.2.2.1<=e.1.1.2.1) then(gJ (3,x.2)).bind λb=>I ((x.1,([(Frame.mk b.1.1.1 b.1.1.2.1 b.1.1.2.2.1 b.1.1.2.2.2.1 b.1.1.2.2.2.2.1 b.1.1.2.2.2.2.2.1 b.1.1.2.2.2.2.2.2.1 b.1.1.2.2.2.2.2.2.2.1 b.1.1.2.2.2.2.2.2.2.2.1 b.1.1.2.2.2.2.2.2.2.2.2.1)]:List Frame),()),()) else(GM (e.1.1.2.2.2.1,x.2.1.2.2.2.1,x.2.1.2.2.2.2.1,())).bind λh=>if Ae (!(U<|0<=h.1.1)) ((LD (e.1.1.2.2.2.2.1,x.2.1.2.2.2.1,x.2.1.2.2.2.2.1,())).isSome) then if(U<|0<=h.1.1)||(U<|0<=((LD (e.1.1.2.2.2.2.1,x.2.1.2.2.2.1,x.2.1.2.2.2.2.1,())).getD ((0,()),())).1.1) then(QF ((x.1.2.2.1,x.1.2.2.2.1,()),())).bind λi=>(gJ (2,x.2)).bind λc=>I (((x.1.1,x.1.2.1,i.1.1.1,i.1.1.2.1,x.1.2.2.2.2),([(Frame.mk c.1.1.1 c.1.1.2.1 c.1.1.2.2.1 c.1.1.2.2.2.1 c.1.1.2.2.2.2.1 c.1.1.2.2.2.2.2.1 c.1.1.2.2.2.2.2.2.1 c.1.1.2.2.2.2.2.2.2.1 c.1.1.2.2.2.2.2.2.2.2.1 c.1.1.2.2.2.2.2.2.2.2.2.1)]:List Frame),()),()) else if Ae (!(U<|x.2.1.2.2.2.1=x.1.1)) ((M6 (x.2.1.2.2.2.2.2.2.2.1,())).isSome) then if Ae (!(U<|x.2.1.2.2.2.1=x.1.1)) ((NK (((M6 (x.2.1.2.2.2.2.2.2.2.1,())).getD ((0,()),())).1.1,x.2.1.2.2.2.2.2.2.2.2.1,())).isSome) then if(U<|x.2.1.2.2.2.1=x.1.1)||(!(((NK (((M6 (x.2.1.2.2.2.2.2.2.2.1,())).getD ((0,()),())).1.1,x.2.1.2.2.2.2.2.2.2.2.1,())).getD ((A0,()),())).1.1)) then I ((x.1,([]:List Frame),()),()) else(jX x).bind λa=>if U (a.1.2.1<0) then I ((a.1.1,([]:List Frame),()),()) else if inb a.1.2.1 a.1.1.2.2.2.2.1.length then(ig (x.2.1.2.2.2.2.2.2.2.1,(rd aJP a.1.1.2.2.2.2.1 a.1.2.1).got,())).bind λj=>if !j.1.2.1 then I ((a.1.1,([]:List Frame),()),()) else(QW (a.1.1.2.2.2.2.1,a.1.2)).bind λk=>(NA ((x.2.1.2.2.2.1,x.2.1.2.2.2.2.1,x.2.1.2.2.2.2.2.1,x.2.1.2.2.2.2.2.2.1,j.1.1,()),())).bind λf=>if U (f.1.1=noB) then I (((a.1.1.1,a.1.1.2.1,a.1.1.2.2.1,a.1.1.2.2.2.1,k.1),([]:List Frame),()),()) else if U ((B [116,97,107,101,32]).size+f.1.1.size<=4611686018427387904) then(L9 ((a.1.1.1,a.1.1.2.1,a.1.1.2.2.1,a.1.1.2.2.2.1,k.1),((B [116,97,107,101,32])++f.1.1),Y,())).bind λg=>if !g.1.2.1 then I ((g.1.1,([]:List Frame),()),()) else(gJ (2,x.2)).bind λd=>I ((g.1.1,([(Frame.mk d.1.1.1 d.1.1.2.1 d.1.1.2.2.1 d.1.1.2.2.2.1 d.1.1.2.2.2.2.1 d.1.1.2.2.2.2.2.1 d.1.1.2.2.2.2.2.2.1 d.1.1.2.2.2.2.2.2.2.1 d.1.1.2.2.2.2.2.2.2.2.1 d.1.1.2.2.2.2.2.2.2.2.2.1)]:List Frame),()),()) else G else G else G else G else G
def aBB:Ent:=(174,G,⟨[Z1,Z13],[Z12,.fz .frame],X1⟩)
def adP:y7 aBB:=sk (v:= .nil) (fn:=f174) akY kN
def afW:Cx:=cX [JI,LA,NI,kM,kb,aBB,NJ,Sw] [] []
def ahG:y8 afW:=y9<|gC Jy<|gC M4<|gC OQ<|gC wh<|gC xE<|gC adP<|gC OR<|gC Vp<|AI
def WE(x:Y1×Y6×D):Option ((Y1×List Frame×D)×D):=(JJ (x.1,())).bind λf=>if !f.1.1 then I (((0,A0,noB,0,([]:List AG),()),([]:List Frame),()),()) else(HH (x.1,())).bind λa=>if !x.1.2.1 then I ((a.1.1,([]:List Frame),()),()) else(XR x.2).bind λg=>if !g.1.1 then I ((a.1.1,([]:List Frame),()),()) else if !decide (x.2.1.2.2.1=x.1.1) then I ((a.1.1,([]:List Frame),()),()) else if U (x.2.1.1=1) then(X1 (a.1.1,x.2)).bind λd=>(HH (d.1.1,())).bind λh=>I ((h.1.1,d.1.2),()) else(GO (x.1,())).bind λb=>(GM (b.1.1.2.2.2.1,x.2.1.2.2.2.1,x.2.1.2.2.2.2.1,())).bind λc=>if !decide (x.2.1.1=2) then I ((a.1.1,([]:List Frame),()),()) else if U (c.1.1<0) then I ((a.1.1,([]:List Frame),()),()) else if inb c.1.1 b.1.1.2.2.2.1.length then if !decide ((rd y5 b.1.1.2.2.2.1 c.1.1).un=x.2.1.2.2.2.2.2.2.1) then I ((a.1.1,([]:List Frame),()),()) else if inb c.1.1 b.1.1.2.2.2.1.length then if !decide ((rd y5 b.1.1.2.2.2.1 c.1.1).to=x.2.1.2.2.2.2.2.1) then I ((a.1.1,([]:List Frame),()),()) else(X0 (x.2.1.2.2.2.1,x.2.1.2.2.2.2.1,x.2.1.2.2.2.2.2.2.1,())).bind λe=>if U ((B [108,101,116,32]).size+e.1.1.size<=4611686018427387904) then(L9 (a.1.1,((B [108,101,116,32])++e.1.1),A0,())).bind λi=>I ((i.1.1,([]:List Frame),()),()) else G else G else G
def wA:Ent:=(135,G,⟨[Z12,Z13],[Z12,.fz .frame],WE⟩)
def abw:y7 wA:=sk (v:= .nil) (fn:=f135) ahG kN
def ak5:Cx:=cX [wD] [] [(11,13)]
def aC9:y8 ak5:=y9<|gC ac2<|AI
def Wy(x:List AL×List Frame×v7):Rnd (List AL×List Frame×v7) D (List AL×D):=if(U<|x.2.2.1<(j8 x.2.1:Int))&&(U<|(j8 x.1:Int)<30) then if inb x.2.2.1 x.2.1.length then if inb x.2.2.1 x.2.1.length then if inb x.2.2.1 x.2.1.length then(QO (((rd aJZ x.2.1 x.2.2.1).ki,(rd aJZ x.2.1 x.2.2.1).src,(rd aJZ x.2.1 x.2.2.1).dst,(rd aJZ x.2.1 x.2.2.1).fr,(rd aJZ x.2.1 x.2.2.1).nu,(rd aJZ x.2.1 x.2.2.1).to,(rd aJZ x.2.1 x.2.2.1).un,(rd aJZ x.2.1 x.2.2.1).sz,(rd aJZ x.2.1 x.2.2.1).mix,(rd aJZ x.2.1 x.2.2.1).da,()),())).bind λa=>if Ac (x.1.length+([(AL.mk ((rd aJZ x.2.1 x.2.2.1).src) ((rd aJZ x.2.1 x.2.2.1).dst) (BI a.1.1) A0)]:List AL).length) then I (.inl ((x.1++([(AL.mk ((rd aJZ x.2.1 x.2.2.1).src) ((rd aJZ x.2.1 x.2.2.1).dst) (BI a.1.1) A0)]:List AL)),x.2.1,(w64<|x.2.2.1+1),())) else G else G else G else G else I (.inr<|.inr (x.1,()))
def uR:=AS Wy
def zQ:Loop:=⟨[(0,.row 59 .Ah),(1,.sl .frame),(5,j6)],[(0,.row 59 .Ah)],0,[],uR⟩
def aim:LF f136 [] [1,0,1,0,0] zQ:=sq (v:= .nil) aC9 (b:=Wy) kN
def TA(x:List AL×List Frame×D):Option ((List AL×D)×D):=(AM (uR (x.1,x.2.1,0,())) (λ_=>G) λa=>I (a,()))
def kX:Ent:=(136,G,⟨[.row 59 .Ah,.fz .frame],[.row 59 .Ah],TA⟩)
def xG:y7 kX:=sk (v:=t1<|.two (t1<|.one<|.loop zQ) .nil) (fn:=f136) aC9<|kC aim kN
def ah3:Cx:=cX [JI,LA,NI,Wh,Sw] [] [(37,38)]
def aiA:y8 ah3:=y9<|gC Jy<|gC M4<|gC OQ<|gC dZ<|gC Vp<|AI
def Wn(x:Y1×Int×Int×A1×D):Option ((Y1×v7)×D):=(JJ (x.1,())).bind λd=>if !d.1.1 then I (((0,A0,noB,0,([]:List AG),()),0,()),()) else(GO (x.1,())).bind λb=>(NA ((x.1.1,b.1.1.2.2.1,x.2),())).bind λa=>if(!x.1.2.1)||(U<|a.1.1=noB) then(HH (x.1,())).bind λe=>I ((e.1.1,0,()),()) else(HH (x.1,())).bind λf=>if U ((B [111,119,110,32]).size+a.1.1.size<=4611686018427387904) then(L9 (f.1.1,((B [111,119,110,32])++a.1.1),Y,())).bind λc=>if !c.1.2.1 then(HH (x.1,())).bind λg=>I ((g.1.1,0,()),()) else I ((c.1.1,b.1.1.2.2.1,()),()) else G
def wV:Ent:=(177,G,⟨[Z12,j6,j6,.str],[Z12,j6],Wn⟩)
def acL:y7 wV:=sk (v:= .nil) (fn:=f177) aiA kN
def afT:Cx:=cX [JI,LA,NI,Oh,Sw] [] [(19,21)]
def ahD:y8 afT:=y9<|gC Jy<|gC M4<|gC OQ<|gC QN<|gC Vp<|AI
def WB(x:Y1×D):Option ((Y1×Bool×D)×D):=(JJ x).bind λc=>if !c.1.1 then I (((0,A0,noB,0,([]:List AG),()),A0,()),()) else(GO x).bind λa=>if(!x.1.2.1)||(U<|999<=a.1.1.2.1) then(HH x).bind λd=>I ((d.1.1,A0,()),()) else(HH x).bind λe=>(Da ((w64<|a.1.1.2.1+1),())).bind λb=>if U ((B [116,105,109,101,32]).size+b.1.1.size<=4611686018427387904) then(L9 (e.1.1,((B [116,105,109,101,32])++b.1.1),Y,())).bind λf=>I (f.1,()) else G
def vt:Ent:=(138,G,⟨[Z12],[Z12,.bool],WB⟩)
def abt:y7 vt:=sk (v:= .nil) (fn:=f138) ahD kN
def aoK:Cx:=cX [Ww] [] [(12,14)]
def lv:y8 aoK:=y9<|gC dk<|AI
def im(x:A1×List A1×Int×List Int×v7):Rnd (A1×List A1×Int×List Int×v7) D (A1×List A1×Int×List Int×D):=if U (x.2.2.2.2.1<(w64<|(w64<|x.2.2.1+1) * 4)) then if U (x.2.2.2.2.1<(x.1.size:Int)) then if inb x.2.2.2.2.1 x.1.size then if Ac (x.2.2.2.1.length+([(bt x.1 x.2.2.2.2.1)]:List Int).length) then I (.inl (x.1,x.2.1,x.2.2.1,(x.2.2.2.1++([(bt x.1 x.2.2.2.2.1)]:List Int)),(w64<|x.2.2.2.2.1+1),())) else G else G else if Ac (x.2.2.2.1.length+([0]:List Int).length) then I (.inl (x.1,x.2.1,x.2.2.1,(x.2.2.2.1++([0]:List Int)),(w64<|x.2.2.2.2.1+1),())) else G else I (.inr<|.inr (x.1,x.2.1,x.2.2.1,x.2.2.2.1,()))
def vT:=AS im
def aAe:Loop:=⟨[(0,.str),(3,.row 9 .str),(4,j6),(5,.row 5 .u8),(6,j6)],[(0,.str),(3,.row 9 .str),(4,j6),(5,.row 5 .u8)],2,[],vT⟩
def amy:LF f226 [] [1,1,1,0,1,0,0,1,0,0,1,0,1,0,0] aAe:=sq (v:= .nil) lv (b:=im) kN
def iq(x:A1×List A1×v7):Rnd (A1×List A1×v7) D (List A1×D):=(M6 ((x.1.size:Int),())).bind λb=>if U (x.2.2.1<b.1.1) then(AM (vT (x.1,x.2.1,x.2.2.1,([]:List Int),(w64<|x.2.2.1 * 4),())) (λ_=>I<|.inr<|.inl ()) λa=>(if Ac (a.2.1.length+([(BI a.2.2.2.1)]:List A1).length) then I (.inl (a.1,(a.2.1++([(BI a.2.2.2.1)]:List A1)),(w64<|a.2.2.1+1),())) else G)) else I (.inr<|.inr (x.2.1,()))
def vU:=AS iq
def aAf:Loop:=⟨[(0,.str),(3,.row 9 .str),(4,j6)],[(3,.row 9 .str)],0,[],vU⟩
def anf:LF f226 [] [1,1,1,0,1,0,0] aAf:=sq (v:=t1<|.two (.one<|t1<|.two (t1<|.one<|.loop aAe) .nil) .nil) lv (b:=iq)<|kC amy kN
def jd(x:A1×D):Option ((List A1×D)×D):=if(U<|(x.1.size:Int)<1)||(U<|24<(x.1.size:Int)) then I ((([]:List A1),()),()) else(AM (vU (x.1,([]:List A1),0,())) (λ_=>G) λa=>I (a,()))
def aCm:Ent:=(226,G,⟨[.str],[.row 9 .str],jd⟩)
def afl:y7 aCm:=sk (v:=t1<|t1<|t1<|.two (t1<|.one<|.loop aAf) .nil) (fn:=f226) lv<|kC anf kN
def anb:Cx:=cX [] [] []
def aqD:y8 anb:=y9<|AI
def lE(x:D):Option ((A1×D)×D):=if U (0<=4)&&U (4<=4294967296) then let a:=(BI<|BT (AO 4)<|dfl .u8);I ((a,()),()) else G
def aDO:Ent:=(228,G,⟨[],[.str],lE⟩)
def afb:y7 aDO:=sk (v:= .nil) (fn:=f228) aqD kN
def ajZ:Cx:=cX [aCm,mN,aDO,mM] [] [(19,21)]
def aBw:y8 ajZ:=y9<|gC afl<|gC zL<|gC afb<|gC zU<|AI
def gk(x:List A1×List Int×A1×v7):Rnd (List A1×List Int×A1×v7) D (A1×D):=if U (x.2.2.2.1<(j8 x.2.1:Int)) then if inb x.2.2.2.1 x.2.1.length then if inb (rd aJR x.2.1 x.2.2.2.1) x.1.length then(Xm (x.2.2.1,(rd aJY x.1<|rd aJR x.2.1 x.2.2.2.1),())).bind λa=>I (.inl (x.1,x.2.1,a.1.1,(w64<|x.2.2.2.1+1),())) else G else G else I (.inr<|.inr (x.2.2.1,()))
def eL:=AS gk
def zM:Loop:=⟨[(5,.row 9 .str),(6,.row 3 .int),(7,.str),(8,j6)],[(7,.str)],0,[],eL⟩
def ajj:LF f178 [] [1,1,1,1,1,0,1,0,0] zM:=sq (v:= .nil) aBw (b:=gk) kN
def ik(x:A1×v7):Option ((A1×D)×D):=(jd (x.1,())).bind λa=>(Xn ((j8 a.1.1:Int),x.2)).bind λb=>if(U<|(j8 a.1.1:Int)=0)||(U<|(j8 b.1.1:Int)=0) then I ((noB,()),()) else(lE ()).bind λc=>(AM (eL (a.1.1,b.1.1,c.1.1,0,())) (λ_=>G) λd=>I (d,()))
def aCQ:Ent:=(178,G,⟨[.str,j6],[.str],ik⟩)
def aer:y7 aCQ:=sk (v:=t1<|t1<|t1<|t1<|t1<|.two (t1<|.one<|.loop zM) .nil) (fn:=f178) aBw<|kC ajj kN
def ah4:Cx:=cX [JI,HJ,LA,jt,NJ,aCQ] [] [(18,20),(36,38)]
def aiB:y8 ah4:=y9<|gC Jy<|gC Hk<|gC M4<|gC ww<|gC OR<|gC aer<|AI
def Wo(x:Y1×aJQ):Option ((Y6×Bool×D)×D):=(JJ (x.1,())).bind λe=>if(!e.1.1)||(!x.1.2.1) then I (((0,0,0,0,0,0,0,0,0,noB,()),A0,()),()) else(GO (x.1,())).bind λb=>(GM (b.1.1.2.2.2.1,x.2.1,x.2.2.1,())).bind λa=>if Ae (!(U<|a.1.1<0)) ((DJ (x.2.2.2.1,0,999,())).isSome) then if(U<|a.1.1<0)||(!(((DJ (x.2.2.2.1,0,999,())).getD ((A0,()),())).1.1)) then I (((0,0,0,0,0,0,0,0,0,noB,()),A0,()),()) else if inb a.1.1 b.1.1.2.2.2.1.length then let f:=(rd y5 b.1.1.2.2.2.1 a.1.1).fr;let g:=(rd y5 b.1.1.2.2.2.1 a.1.1).nu;let c:=(rd y5 b.1.1.2.2.2.1 a.1.1).to;let h:=(rd y5 b.1.1.2.2.2.1 a.1.1).un;let d:=(rd y5 b.1.1.2.2.2.1 a.1.1).tx;(T4 (x.1.1,c,())).bind λi=>(ik (d,x.2.2.2)).bind λj=>I (((1,x.1.1,i.1.1,f,g,c,h,(d.size:Int),x.2.2.2.1,j.1),Y,()),()) else G else G
def wW:Ent:=(139,G,⟨[Z12,j6,j6,j6],[Z13,.bool],Wo⟩)
def acM:y7 wW:=sk (v:= .nil) (fn:=f139) aiB kN
def agz:Cx:=cX [Wg,T8] [] []
def ai8:y8 agz:=y9<|gC dW<|gC W0<|AI
def gM(x:Y7×v7):Option ((Y7×D)×D):=(OV (x.1,())).bind λd=>if !d.1.1 then I (((noB,0,()),()),()) else(BU (X:=Int×Y7×Y7×v7) (λb=>(BU (X:=Y7×Y7×v7) (λa=>if U (0<=a.2.2.1)&&U (a.2.2.1<=(a.1.1.size:Int)) then(Lz ((a.1.1.extract (0)<|AO a.2.2.1),())).bind λc=>if U (0<=c.1.2.1)&&U (c.1.2.1<=(a.1.1.size:Int)) then let e:=(a.1.1.extract (0)<|AO c.1.2.1);I (((e,c.1.2),()),()) else G else G)<|(if U (0<b.1) then let f:=(w64<|b.2.2.2.1+b.1);I (.inr (b.2.1,b.2.2.1,f,())) else I (.inr b.2))))<|(if U ((w64<|(x.1.1.size:Int) - x.1.2.1)<x.2.1) then let g:=(w64<|(x.1.1.size:Int) - x.1.2.1);I (.inr (g,x.1,(noB,0,()),x.1.2)) else I (.inr (x.2.1,x.1,(noB,0,()),x.1.2))))
def zq:Ent:=(179,G,⟨[Z15,j6],[Z15],gM⟩)
def acj:y7 zq:=sk (v:=t1<|t1<|t1<|.join [(1,j6),(2,Z21),(4,Z21),(5,j6)] .nil<|.join [(2,Z21),(4,Z21),(5,j6)] .nil .nil) (fn:=f179) ai8 kN
def afX:Cx:=cX [LA,zq] [] []
def ahH:y8 afX:=y9<|gC M4<|gC acj<|AI
def WH(x:Y1×v7):Option ((Y1×D)×D):=(JJ (x.1,())).bind λb=>if !b.1.1 then I (((0,A0,noB,0,([]:List AG),()),()),()) else(gM ((x.1.2.2.1,x.1.2.2.2.1,()),x.2)).bind λa=>I (((x.1.1,A0,a.1.1.1,a.1.1.2.1,([]:List AG),()),()),())
def wB:Ent:=(140,G,⟨[Z12,j6],[Z1],WH⟩)
def aby:y7 wB:=sk (v:= .nil) (fn:=f140) ahH kN
def afU:Cx:=cX [LA,NI] [] []
def ahE:y8 afU:=y9<|gC M4<|gC OQ<|AI
def WC(x:Y1×D):Option ((Y1×D)×D):=(JJ x).bind λa=>if !a.1.1 then I (((0,A0,noB,0,([]:List AG),()),()),()) else if x.1.2.1 then(HH x).bind λb=>I (b.1,()) else I (((x.1.1,Y,x.1.2.2.1,x.1.2.2.2.1,([]:List AG),()),()),())
def vu:Ent:=(141,G,⟨[Z12],[Z1],WC⟩)
def abu:y7 vu:=sk (v:= .nil) (fn:=f141) ahE kN
def ah5:Cx:=cX [JI,LA,NI,kM,NJ,Sw] [] [(33,34)]
def aiC:y8 ah5:=y9<|gC Jy<|gC M4<|gC OQ<|gC wh<|gC OR<|gC Vp<|AI
def Wp(x:Y1×aJM):Option ((Y1×Y4×Bool×D)×D):=(JJ (x.1,())).bind λe=>if !e.1.1 then I (((0,A0,noB,0,([]:List AG),()),(0,0,0,0,noB,()),A0,()),()) else(GO (x.1,())).bind λa=>(GM (a.1.1.2.2.2.2.2.1,x.2)).bind λb=>if(!x.1.2.1)||(U<|b.1.1<0) then(HH (x.1,())).bind λf=>I ((f.1.1,(0,0,0,0,noB,()),A0,()),()) else(HH (x.1,())).bind λg=>if inb b.1.1 a.1.1.2.2.2.2.2.1.length then(X0 (x.2.1,x.2.2.1,(rd y5 a.1.1.2.2.2.2.2.1 b.1.1).un,())).bind λc=>if U ((B [101,97,116,32]).size+c.1.1.size<=4611686018427387904) then(L9 (g.1.1,((B [101,97,116,32])++c.1.1),Y,())).bind λd=>if !d.1.2.1 then(HH (x.1,())).bind λh=>I ((h.1.1,(0,0,0,0,noB,()),A0,()),()) else if inb b.1.1 a.1.1.2.2.2.2.2.1.length then let i:=(rd y5 a.1.1.2.2.2.2.2.1 b.1.1).fr;let j:=(rd y5 a.1.1.2.2.2.2.2.1 b.1.1).nu;let k:=(rd y5 a.1.1.2.2.2.2.2.1 b.1.1).to;let l:=(rd y5 a.1.1.2.2.2.2.2.1 b.1.1).un;let m:=(rd y5 a.1.1.2.2.2.2.2.1 b.1.1).tx;I ((d.1.1,(i,j,k,l,m,()),Y,()),()) else G else G else G
def wC:Ent:=(142,G,⟨[Z12,j6,j6],[Z12,Z6,.bool],Wp⟩)
def acN:y7 wC:=sk (v:= .nil) (fn:=f142) aiC kN
def afV:Cx:=cX [JI,LA,NI,wU,ju] [] [(32,33)]
def ahF:y8 afV:=y9<|gC Jy<|gC M4<|gC OQ<|gC acK<|gC wx<|AI
def WD(x:Y1×D):Option ((Y1×Bool×D)×D):=(JJ x).bind λc=>if !c.1.1 then I (((0,A0,noB,0,([]:List AG),()),A0,()),()) else(HH x).bind λa=>(GO x).bind λd=>(X4 (d.1.1,())).bind λe=>(Sm ((x.1.2.2.1,x.1.2.2.2.1,()),e.1)).bind λb=>if(!x.1.2.1)||(!b.1.2.1) then I ((a.1.1,A0,()),()) else I (((a.1.1.1,a.1.1.2.1,b.1.1.1,b.1.1.2.1,a.1.1.2.2.2.2),Y,()),())
def vz:Ent:=(143,G,⟨[Z12],[Z12,.bool],WD⟩)
def abv:y7 vz:=sk (v:= .nil) (fn:=f143) ahF kN
def adq:Cx:=cX [LA,NI,fX] [] [(15,22)]
def af5:y8 adq:=y9<|gC M4<|gC OQ<|gC tL<|AI
def W4(x:Y1×D):Option ((Y1×Bool×D)×D):=(JJ x).bind λc=>if !c.1.1 then I (((0,A0,noB,0,([]:List AG),()),A0,()),()) else(HH x).bind λa=>if(!x.1.2.1)||(U<|x.1.2.2.2.1=(x.1.2.2.1.size:Int)) then I ((a.1.1,A0,()),()) else(QF ((x.1.2.2.1,x.1.2.2.2.1,()),())).bind λb=>I (((a.1.1.1,a.1.1.2.1,b.1.1.1,b.1.1.2.1,a.1.1.2.2.2.2),Y,()),())
def vH:Ent:=(144,G,⟨[Z12],[Z12,.bool],W4⟩)
def abi:y7 vH:=sk (v:= .nil) (fn:=f144) af5 kN
def aCy:Cx:=cX [HJ,Il,kY,vI,wA,kX,vt,wW,wB,vu,wC,vz,vH,wV] [] []
def aql:OKC prog aCy (O0 aCy 2):=abP 2 mixed<|gC Hk<|gC JF<|gC xH<|gC abj<|gC abw<|gC xG<|gC abt<|gC acM<|gC aby<|gC abu<|gC acN<|gC abv<|gC abi<|gC acL<|AI
abbrev ZE:Type:=Int×Int×Int×Int×Int×Int×Int×Int×Int×A1×D
def SO{Ω:Type}(a:List A7)(c:List AL)(e:ZE)(p:AL)(K:List A7->List AL->Option Ω):Option Ω:=
 if(U<|e.1=5) then
 K a c
 else
 if Ac p.data.size then
 (eO ((BD p.data),())).bind λr=>
 if(!r.1.2.1) then
 K a c
 else
 if(!decide (r.1.1.2.1=p.src)) then
 K a c
 else
 if(!decide (r.1.1.2.2.1=p.dst)) then
 K a c
 else
 if inb p.dst a.length then
 (WE (((rd aJN a p.dst).id,(rd aJN a p.dst).up,(rd aJN a p.dst).log,(rd aJN a p.dst).fo,(rd aJN a p.dst).AJ,()),r.1.1,())).bind λq=>
 if inb p.dst a.length then
 (TA (c,q.1.2)).bind λs=>
 K (Bu a (AO p.dst)<|A7.mk q.1.1.1 q.1.1.2.1 q.1.1.2.2.1 q.1.1.2.2.2.1 q.1.1.2.2.2.2.1) s.1.1
 else G
 else G
 else G
def dA{Ω:Type}(a:List A7)(c:List AL)(e:ZE)(p:AL)(K:List A7->List AL->Option Ω):Option Ω:=
 if(U (0<=e.2.2.2.2.1)&&U (e.2.2.2.2.1<=(j8 c:Int))) then
 if Ac (([]:List AL).length+(BQ (AO e.2.2.2.2.1) c).length) then
 if(U (0<=(w64<|e.2.2.2.2.1+1))&&U ((w64<|e.2.2.2.2.1+1)<=(j8 c:Int))) then
 if Ac ((([]:List AL)++(BQ (AO e.2.2.2.2.1) c)).length+(Bt (AO<|w64<|e.2.2.2.2.1+1) c).length) then
 SO a ((([]:List AL)++(BQ (AO e.2.2.2.2.1) c))++(Bt (AO<|w64<|e.2.2.2.2.1+1) c)) e p K
 else G
 else G
 else G
 else G
def cy{Ω:Type}(a:List A7)(c:List AL)(e:ZE)(p:AL)(K:List A7->List AL->Option Ω):Option Ω:=
 if(U<|e.1=5) then
 dA a c e p K
 else
 if(U<|e.2.2.2.2.2.2.1=0) then
 dA a c e p K
 else
 SO a c e p K
def SP{Ω:Type}(a:List A7)(b:List Bool)(c:List AL)(e:ZE)(K:List A7->List AL->Option Ω)(F:Option Ω):Option Ω:=
 (DJ (e.2.2.2.2.1,0,(w64<|(j8 c:Int) - 1),())).bind λr=>
 if(!r.1.1) then
 F
 else
 if inb e.2.2.2.2.1 c.length then
 if(U<|e.1=6) then
 if(rd aJS c e.2.2.2.2.1).sp then
 F
 else
 (DJ (e.2.2.2.2.2.1,0,(w64<|((rd aJS c e.2.2.2.2.1).data.size:Int) - 1),())).bind λr=>
 if(!r.1.1) then
 F
 else
 (DJ (e.2.2.2.2.2.2.1,1,255,())).bind λr=>
 if(!r.1.1) then
 F
 else
 if Ac (rd aJS c e.2.2.2.2.1).data.size then
 if inb e.2.2.2.2.2.1 ((BD (rd aJS c e.2.2.2.2.1).data).length) then
 if inb e.2.2.2.2.2.1 ((BD (rd aJS c e.2.2.2.2.1).data).length) then
 if inb e.2.2.2.2.1 c.length then
 if inb e.2.2.2.2.1 ((Bu c (AO e.2.2.2.2.1)<|AL.mk ((rd aJS c e.2.2.2.2.1).src) ((rd aJS c e.2.2.2.2.1).dst) (BI<|Bu (BD (rd aJS c e.2.2.2.2.1).data) (AO e.2.2.2.2.2.1)<|E0 .u8 (rd aJW (BD (rd aJS c e.2.2.2.2.1).data) e.2.2.2.2.2.1)<|w8 e.2.2.2.2.2.2.1)<|(rd aJS c e.2.2.2.2.1).sp).length) then
 K a (Bu (Bu c (AO e.2.2.2.2.1)<|AL.mk ((rd aJS c e.2.2.2.2.1).src) ((rd aJS c e.2.2.2.2.1).dst) (BI<|Bu (BD (rd aJS c e.2.2.2.2.1).data) (AO e.2.2.2.2.2.1)<|E0 .u8 (rd aJW (BD (rd aJS c e.2.2.2.2.1).data) e.2.2.2.2.2.1)<|w8 e.2.2.2.2.2.2.1)<|(rd aJS c e.2.2.2.2.1).sp) (AO e.2.2.2.2.1)<|AL.mk ((rd aJS (Bu c (AO e.2.2.2.2.1)<|AL.mk ((rd aJS c e.2.2.2.2.1).src) ((rd aJS c e.2.2.2.2.1).dst) (BI<|Bu (BD (rd aJS c e.2.2.2.2.1).data) (AO e.2.2.2.2.2.1)<|E0 .u8 (rd aJW (BD (rd aJS c e.2.2.2.2.1).data) e.2.2.2.2.2.1)<|w8 e.2.2.2.2.2.2.1)<|(rd aJS c e.2.2.2.2.1).sp) e.2.2.2.2.1).src) ((rd aJS (Bu c (AO e.2.2.2.2.1)<|AL.mk ((rd aJS c e.2.2.2.2.1).src) ((rd aJS c e.2.2.2.2.1).dst) (BI<|Bu (BD (rd aJS c e.2.2.2.2.1).data) (AO e.2.2.2.2.2.1)<|E0 .u8 (rd aJW (BD (rd aJS c e.2.2.2.2.1).data) e.2.2.2.2.2.1)<|w8 e.2.2.2.2.2.2.1)<|(rd aJS c e.2.2.2.2.1).sp) e.2.2.2.2.1).dst) ((rd aJS (Bu c (AO e.2.2.2.2.1)<|AL.mk ((rd aJS c e.2.2.2.2.1).src) ((rd aJS c e.2.2.2.2.1).dst) (BI<|Bu (BD (rd aJS c e.2.2.2.2.1).data) (AO e.2.2.2.2.2.1)<|E0 .u8 (rd aJW (BD (rd aJS c e.2.2.2.2.1).data) e.2.2.2.2.2.1)<|w8 e.2.2.2.2.2.2.1)<|(rd aJS c e.2.2.2.2.1).sp) e.2.2.2.2.1).data) Y)
 else G
 else G
 else G
 else G
 else G
 else
 if(U<|e.1=4) then
 (iS ((rd aJS c e.2.2.2.2.1).src,(rd aJS c e.2.2.2.2.1).dst,())).bind λr=>
 if inb r.1.1 b.length then
 if(!(rd aJ3 b r.1.1)) then
 F
 else
 cy a c e (rd aJS c e.2.2.2.2.1) K
 else G
 else
 cy a c e (rd aJS c e.2.2.2.2.1) K
 else G
def VX{Ω:Type}(b:List Bool)(e:ZE)(K:List Bool->Option Ω)(F:Option Ω):Option Ω:=
 (DJ (e.2.1,0,(w64<|(j8 b:Int) - 1),())).bind λr=>
 if(!r.1.1) then
 F
 else
 if inb e.2.1 b.length then
 if(U<|(rd aJ3 b e.2.1)=(U<|e.1=9)) then
 F
 else
 if inb e.2.1 b.length then
 K (Bu b (AO e.2.1)<|U<|e.1=9)
 else G
 else G
def rr{Ω:Type}(a:List A7)(c:List AL)(d g:List A3)(e:ZE)(K:List A7->List A3->List A3->Option Ω)(F:Option Ω)(Kv:List A7->Bool->Option Ω)(Km:List AL->Bool->Option Ω)(Kz:Bool->Option Ω):Option Ω:=
 (Fo (e.2.1,())).bind λr=>
 if(!r.1.1) then
 F
 else
 if inb e.2.1 a.length then
 if(U<|e.1=1) then
 if(U<|6<=(j8 d:Int)) then
 F
 else
 if inb e.2.1 a.length then
 (Wn (((rd aJN a e.2.1).id,(rd aJN a e.2.1).up,(rd aJN a e.2.1).log,(rd aJN a e.2.1).fo,(rd aJN a e.2.1).AJ,()),e.2.2.2.2.2.2.2)).bind λr=>
 if(U<|r.1.2.1=0) then
 F
 else
 if inb e.2.1 a.length then
 if Ac (d.length+([(A3.mk e.2.1 r.1.2.1 e.2.2.2.2.2.2.2.1 e.2.2.2.2.2.2.2.2.1 e.2.2.2.2.2.2.2.2.2.1)]:List A3).length) then
 K (Bu a (AO e.2.1)<|A7.mk r.1.1.1 r.1.1.2.1 r.1.1.2.2.1 r.1.1.2.2.2.1 r.1.1.2.2.2.2.1) (d++([(A3.mk e.2.1 r.1.2.1 e.2.2.2.2.2.2.2.1 e.2.2.2.2.2.2.2.2.1 e.2.2.2.2.2.2.2.2.2.1)]:List A3)) g
 else G
 else G
 else G
 else
 if(U<|e.1=2) then
 (WB (((rd aJN a e.2.1).id,(rd aJN a e.2.1).up,(rd aJN a e.2.1).log,(rd aJN a e.2.1).fo,(rd aJN a e.2.1).AJ,()),())).bind λr=>
 if inb e.2.1 a.length then
 Kv (Bu a (AO e.2.1)<|A7.mk r.1.1.1 r.1.1.2.1 r.1.1.2.2.1 r.1.1.2.2.2.1 r.1.1.2.2.2.2.1) r.1.2.1
 else G
 else
 if(U<|e.1=3) then
 (Wo (((rd aJN a e.2.1).id,(rd aJN a e.2.1).up,(rd aJN a e.2.1).log,(rd aJN a e.2.1).fo,(rd aJN a e.2.1).AJ,()),e.2.2.1,e.2.2.2.1,e.2.2.2.2.2.1,())).bind λr=>
 if r.1.2.1 then
 (TA (c,([(Frame.mk r.1.1.1 r.1.1.2.1 r.1.1.2.2.1 r.1.1.2.2.2.1 r.1.1.2.2.2.2.1 r.1.1.2.2.2.2.2.1 r.1.1.2.2.2.2.2.2.1 r.1.1.2.2.2.2.2.2.2.1 r.1.1.2.2.2.2.2.2.2.2.1 r.1.1.2.2.2.2.2.2.2.2.2.1)]:List Frame),())).bind λs=>
 Km s.1.1 r.1.2.1
 else
 Kz r.1.2.1
 else
 if(U<|e.1=7) then
 (WH (((rd aJN a e.2.1).id,(rd aJN a e.2.1).up,(rd aJN a e.2.1).log,(rd aJN a e.2.1).fo,(rd aJN a e.2.1).AJ,()),e.2.2.2.2.2.2.1,())).bind λr=>
 if inb e.2.1 a.length then
 Kv (Bu a (AO e.2.1)<|A7.mk r.1.1.1 r.1.1.2.1 r.1.1.2.2.1 r.1.1.2.2.2.1 r.1.1.2.2.2.2.1) (rd aJN a e.2.1).up
 else G
 else
 if(U<|e.1=8) then
 (WC (((rd aJN a e.2.1).id,(rd aJN a e.2.1).up,(rd aJN a e.2.1).log,(rd aJN a e.2.1).fo,(rd aJN a e.2.1).AJ,()),())).bind λr=>
 if inb e.2.1 a.length then
 Kv (Bu a (AO e.2.1)<|A7.mk r.1.1.1 r.1.1.2.1 r.1.1.2.2.1 r.1.1.2.2.2.1 r.1.1.2.2.2.2.1) (!(rd aJN a e.2.1).up)
 else G
 else
 if(U<|e.1=11) then
 (Wp (((rd aJN a e.2.1).id,(rd aJN a e.2.1).up,(rd aJN a e.2.1).log,(rd aJN a e.2.1).fo,(rd aJN a e.2.1).AJ,()),e.2.2.1,e.2.2.2.1,())).bind λr=>
 if r.1.2.2.1 then
 if(U<|(j8 g:Int)<6) then
 if inb e.2.1 a.length then
 if Ac (g.length+([(A3.mk r.1.2.1.1 r.1.2.1.2.1 r.1.2.1.2.2.1 r.1.2.1.2.2.2.1 r.1.2.1.2.2.2.2.1)]:List A3).length) then
 K (Bu a (AO e.2.1)<|A7.mk r.1.1.1 r.1.1.2.1 r.1.1.2.2.1 r.1.1.2.2.2.1 r.1.1.2.2.2.2.1) d (g++([(A3.mk r.1.2.1.1 r.1.2.1.2.1 r.1.2.1.2.2.1 r.1.2.1.2.2.2.1 r.1.2.1.2.2.2.2.1)]:List A3))
 else G
 else G
 else
 F
 else
 F
 else
 if(U<|e.1=12) then
 (WD (((rd aJN a e.2.1).id,(rd aJN a e.2.1).up,(rd aJN a e.2.1).log,(rd aJN a e.2.1).fo,(rd aJN a e.2.1).AJ,()),())).bind λr=>
 if inb e.2.1 a.length then
 Kv (Bu a (AO e.2.1)<|A7.mk r.1.1.1 r.1.1.2.1 r.1.1.2.2.1 r.1.1.2.2.2.1 r.1.1.2.2.2.2.1) r.1.2.1
 else G
 else
 if(U<|e.1=13) then
 (W4 (((rd aJN a e.2.1).id,(rd aJN a e.2.1).up,(rd aJN a e.2.1).log,(rd aJN a e.2.1).fo,(rd aJN a e.2.1).AJ,()),())).bind λr=>
 if inb e.2.1 a.length then
 Kv (Bu a (AO e.2.1)<|A7.mk r.1.1.1 r.1.1.2.1 r.1.1.2.2.1 r.1.1.2.2.2.1 r.1.1.2.2.2.2.1) r.1.2.1
 else G
 else
 F
 else G
def doK{Ω:Type}(a:List A7)(b:List Bool)(c:List AL)(d g:List A3)(e:ZE)(K:List A7->List Bool->List AL->List A3->List A3->Option Ω)(F:Option Ω)(Kv:List A7->Bool->Option Ω)(Km:List AL->Bool->Option Ω)(Kz:Bool->Option Ω):Option Ω:=
 if(U<|e.1=4) then
 SP a b c e (λx y=>K x b y d g) F
 else
 if(U<|e.1=5) then
 SP a b c e (λx y=>K x b y d g) F
 else
 if(U<|e.1=6) then
 SP a b c e (λx y=>K x b y d g) F
 else
 if(U<|e.1=9) then
 VX b e (λy=>K a y c d g) F
 else
 if(U<|e.1=10) then
 VX b e (λy=>K a y c d g) F
 else
 rr a c d g e (λx y z=>K x b c y z) F Kv Km Kz
def Xk(x:Y2×Y6×D):Option ((Y2×Bool×D)×D):=(doK x.1.2.1 x.1.2.2.1 x.1.2.2.2.1 x.1.2.2.2.2.1 x.1.2.2.2.2.2.1 x.2.1 (λk l r s g=>I ((((w64<|x.1.1+1),k,l,r,s,g,()),Y,()),())) (I ((((w64<|x.1.1+1),x.1.2),A0,()),())) (λk b=>I ((((w64<|x.1.1+1),k,x.1.2.2.1,x.1.2.2.2.1,x.1.2.2.2.2.1,x.1.2.2.2.2.2.1,()),b,()),())) (λr b=>I ((((w64<|x.1.1+1),x.1.2.1,x.1.2.2.1,r,x.1.2.2.2.2.1,x.1.2.2.2.2.2.1,()),b,()),())) λb=>I ((((w64<|x.1.1+1),x.1.2.1,x.1.2.2.1,x.1.2.2.2.1,x.1.2.2.2.2.1,x.1.2.2.2.2.2.1,()),b,()),()))
def aDk:Ent:=(65,G,⟨[Z3,Z13],[Z3,.bool],Xk⟩)
def ah6:y7 aDk:=sk (v:= .nil) (fn:=f65) aql kN
def Sd:Cx:=cX [HJ,Il,kY,vI,wA,kX,vt,wW,wB,vu,wC,vz,vH,wV] [] []
def aii:OKC prog Sd (O0 Sd 3):=abP 3 mixed<|gC Hk<|gC JF<|gC xH<|gC abj<|gC abw<|gC xG<|gC abt<|gC acM<|gC aby<|gC abu<|gC acN<|gC abv<|gC abi<|gC acL<|AI
def G4(x:Y10×Y6×D):Option ((Bool×D)×Y10×D):=(doK x.1.2.2.1 x.1.2.2.2.1 x.1.2.2.2.2.1 x.1.2.2.2.2.2.1 x.1.2.2.2.2.2.2.1 x.2.1 (λk l r s g=>if Ac (x.1.2.2.2.2.2.2.2.1.length+([(Event.mk x.2.1.1 x.2.1.2.1 x.2.1.2.2.1 x.2.1.2.2.2.1 x.2.1.2.2.2.2.1 x.2.1.2.2.2.2.2.1 x.2.1.2.2.2.2.2.2.1 x.2.1.2.2.2.2.2.2.2.1 x.2.1.2.2.2.2.2.2.2.2.1 x.2.1.2.2.2.2.2.2.2.2.2.1)]:List Event).length) then I ((Y,()),((x.1.1,(w64<|x.1.2.1+1),k,l,r,s,g,(x.1.2.2.2.2.2.2.2.1++([(Event.mk x.2.1.1 x.2.1.2.1 x.2.1.2.2.1 x.2.1.2.2.2.1 x.2.1.2.2.2.2.1 x.2.1.2.2.2.2.2.1 x.2.1.2.2.2.2.2.2.1 x.2.1.2.2.2.2.2.2.2.1 x.2.1.2.2.2.2.2.2.2.2.1 x.2.1.2.2.2.2.2.2.2.2.2.1)]:List Event)),()),())) else G) (I ((A0,()),(x.1,()))) (λk b=>if b then if Ac (x.1.2.2.2.2.2.2.2.1.length+([(Event.mk x.2.1.1 x.2.1.2.1 x.2.1.2.2.1 x.2.1.2.2.2.1 x.2.1.2.2.2.2.1 x.2.1.2.2.2.2.2.1 x.2.1.2.2.2.2.2.2.1 x.2.1.2.2.2.2.2.2.2.1 x.2.1.2.2.2.2.2.2.2.2.1 x.2.1.2.2.2.2.2.2.2.2.2.1)]:List Event).length) then I ((b,()),((x.1.1,(w64<|x.1.2.1+1),k,x.1.2.2.2.1,x.1.2.2.2.2.1,x.1.2.2.2.2.2.1,x.1.2.2.2.2.2.2.1,(x.1.2.2.2.2.2.2.2.1++([(Event.mk x.2.1.1 x.2.1.2.1 x.2.1.2.2.1 x.2.1.2.2.2.1 x.2.1.2.2.2.2.1 x.2.1.2.2.2.2.2.1 x.2.1.2.2.2.2.2.2.1 x.2.1.2.2.2.2.2.2.2.1 x.2.1.2.2.2.2.2.2.2.2.1 x.2.1.2.2.2.2.2.2.2.2.2.1)]:List Event)),()),())) else G else I ((b,()),((x.1.1,x.1.2.1,k,x.1.2.2.2),()))) (λr b=>if b then if Ac (x.1.2.2.2.2.2.2.2.1.length+([(Event.mk x.2.1.1 x.2.1.2.1 x.2.1.2.2.1 x.2.1.2.2.2.1 x.2.1.2.2.2.2.1 x.2.1.2.2.2.2.2.1 x.2.1.2.2.2.2.2.2.1 x.2.1.2.2.2.2.2.2.2.1 x.2.1.2.2.2.2.2.2.2.2.1 x.2.1.2.2.2.2.2.2.2.2.2.1)]:List Event).length) then I ((b,()),((x.1.1,(w64<|x.1.2.1+1),x.1.2.2.1,x.1.2.2.2.1,r,x.1.2.2.2.2.2.1,x.1.2.2.2.2.2.2.1,(x.1.2.2.2.2.2.2.2.1++([(Event.mk x.2.1.1 x.2.1.2.1 x.2.1.2.2.1 x.2.1.2.2.2.1 x.2.1.2.2.2.2.1 x.2.1.2.2.2.2.2.1 x.2.1.2.2.2.2.2.2.1 x.2.1.2.2.2.2.2.2.2.1 x.2.1.2.2.2.2.2.2.2.2.1 x.2.1.2.2.2.2.2.2.2.2.2.1)]:List Event)),()),())) else G else G) λb=>if b then if Ac (x.1.2.2.2.2.2.2.2.1.length+([(Event.mk x.2.1.1 x.2.1.2.1 x.2.1.2.2.1 x.2.1.2.2.2.1 x.2.1.2.2.2.2.1 x.2.1.2.2.2.2.2.1 x.2.1.2.2.2.2.2.2.1 x.2.1.2.2.2.2.2.2.2.1 x.2.1.2.2.2.2.2.2.2.2.1 x.2.1.2.2.2.2.2.2.2.2.2.1)]:List Event).length) then I ((b,()),((x.1.1,(w64<|x.1.2.1+1),x.1.2.2.1,x.1.2.2.2.1,x.1.2.2.2.2.1,x.1.2.2.2.2.2.1,x.1.2.2.2.2.2.2.1,(x.1.2.2.2.2.2.2.2.1++([(Event.mk x.2.1.1 x.2.1.2.1 x.2.1.2.2.1 x.2.1.2.2.2.1 x.2.1.2.2.2.2.1 x.2.1.2.2.2.2.2.1 x.2.1.2.2.2.2.2.2.1 x.2.1.2.2.2.2.2.2.2.1 x.2.1.2.2.2.2.2.2.2.2.1 x.2.1.2.2.2.2.2.2.2.2.2.1)]:List Event)),()),())) else G else I ((b,()),(x.1,())))
def M1:Ent:=(85,G,⟨[Z22,Z13],[.bool],G4⟩)
end Go.VS
end
