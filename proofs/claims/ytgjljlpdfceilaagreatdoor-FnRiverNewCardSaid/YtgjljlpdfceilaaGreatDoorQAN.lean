/- Part 4. -/
import Derived.Shelf.Utf8.RuneCount
import Derived.Shelf.Strconv.Itoa0
import Derived.Shelf.Strconv.Itoa1
import Derived.Shelf.LaysM
import Derived.Shelf.Strconv.Itoa2
import Derived.Shelf.Strconv.Itoa3
import Derived.Shelf.Strings.Search1
import Derived.Shelf.Strings.Search2
import Derived.Shelf.Strings.Search3
import Derived.Shelf.Strings.Cut
import Derived.Shelf.Strings.Count
import Derived.Shelf.Strings.Shaped
import Derived.Shelf.Strings.Split
import Derived.Shelf.Strings.SplitShaped
import Derived.Shelf.Unicode.Decode
import Derived.Shelf.Strings.RuneCount
import Derived.Shelf.Strings.Explode
import Derived.Shelf.Unicode.DecodeSlow
import Derived.Shelf.Unicode.DecodeAny
import Derived.Test.YtgjljlpdfceilaaGreatDoorProg
import Derived.Test.YtgjljlpdfceilaaGreatDoorQAI
open Bool renaming false->A0,true->Y
open Decidable renaming decide->U
open Go.Lib renaming TabIs->M3,cellsOf->Yj,countB->N2,cut->FR,itoa->B2,pow10Tab->N3,splitB->Im
open Go.Shelf renaming Ren->TR
open Go.Value renaming string->YY
open Int renaming tdiv->Ay,tmod->BJ,toNat->AK
open List renaming drop->Bo,length->j8,replicate->BS,set->Bp,take->BR
open Option renaming none->G,some->I
set_option linter.all false
noncomputable section
namespace Go.Proofs
open Go.Shelf
def Tryz.axx:TR:=⟨fun|171=>152|243=>189|246=>231|283=>252|284=>253|285=>254|286=>255|129=>263|317=>262|318=>264|319=>265|320=>266|337=>274|338=>275|n=>n,fun|3=>3|9=>9|2=>2|4=>4|171=>226|0=>0|53=>227|37=>22|5=>5|173=>230|212=>236|51=>237|20=>20|213=>238|46=>239|232=>247|233=>248|n=>n,fun|17=>0|18=>2|19=>3|n=>n⟩
def Tryz.ay1:Go.Proofs.LaysM.n171 prog Tryz.axx:={
 mixed:=by kernel_rfl
 f129:=func263.trans (congrArg I VS.aEr)
 f171:=func152.trans (congrArg I VS.aEr)
 f243:=func189.trans (congrArg I VS.aEr)
 f246:=func231.trans (congrArg I VS.aEr)
 f283:=func252.trans (congrArg I VS.aEr)
 f284:=func253.trans (congrArg I VS.aEr)
 f285:=func254.trans (congrArg I VS.aEr)
 f286:=func255.trans (congrArg I VS.aEr)
 f317:=func262.trans (congrArg I VS.aEr)
 f318:=func264.trans (congrArg I VS.aEr)
 f319:=func265.trans (congrArg I VS.aEr)
 f320:=func266.trans (congrArg I VS.aEr)
 f337:=func274.trans (congrArg I VS.aEr)
 f338:=func275.trans (congrArg I VS.aEr)
 t0:=Tryz.underlying0
 a0:=Tryz.isAgg0
 z0:=Tryz.sizeOf0
 v0:=Tryz.zeroValue0
 t2:=Tryz.underlying2
 a2:=Tryz.isAgg2
 z2:=Tryz.sizeOf2
 v2:=Tryz.zeroValue2
 t3:=Tryz.underlying3
 a3:=Tryz.isAgg3
 z3:=Tryz.sizeOf3
 v3:=Tryz.zeroValue3
 t4:=Tryz.underlying4
 a4:=Tryz.isAgg4
 z4:=Tryz.sizeOf4
 v4:=Tryz.zeroValue4
 t5:=Tryz.underlying5
 a5:=Tryz.isAgg5
 z5:=Tryz.sizeOf5
 v5:=Tryz.zeroValue5
 t9:=Tryz.underlying9
 a9:=Tryz.isAgg9
 z9:=Tryz.sizeOf9
 v9:=Tryz.zeroValue9
 t20:=Tryz.underlying20
 a20:=Tryz.isAgg20
 z20:=Tryz.sizeOf20
 v20:=Tryz.zeroValue20
 t37:=Tryz.underlying22
 a37:=Tryz.isAgg22
 z37:=Tryz.sizeOf22
 v37:=Tryz.zeroValue22
 t46:=Tryz.underlying239
 a46:=Tryz.isAgg239
 z46:=Tryz.sizeOf239
 v46:=Tryz.zeroValue239
 t51:=Tryz.underlying237
 a51:=Tryz.isAgg237
 z51:=Tryz.sizeOf237
 v51:=Tryz.zeroValue237
 t53:=Tryz.underlying227
 a53:=Tryz.isAgg227
 z53:=Tryz.sizeOf227
 v53:=Tryz.zeroValue227
 t171:=Tryz.underlying226
 a171:=Tryz.isAgg226
 z171:=Tryz.sizeOf226
 v171:=Tryz.zeroValue226
 t173:=Tryz.underlying230
 a173:=Tryz.isAgg230
 z173:=Tryz.sizeOf230
 v173:=Tryz.zeroValue230
 t212:=Tryz.underlying236
 a212:=Tryz.isAgg236
 z212:=Tryz.sizeOf236
 v212:=Tryz.zeroValue236
 t213:=Tryz.underlying238
 a213:=Tryz.isAgg238
 z213:=Tryz.sizeOf238
 t232:=Tryz.underlying247
 a232:=Tryz.isAgg247
 z232:=Tryz.sizeOf247
 v232:=Tryz.zeroValue247
 t233:=Tryz.underlying248
 a233:=Tryz.isAgg248
 z233:=Tryz.sizeOf248
 v233:=Tryz.zeroValue248
 g17:=by kernel_rfl
 g18:=by kernel_rfl
 g19:=by kernel_rfl
 i0:=by kernel_rfl
 i2:=by kernel_rfl
 i3:=by kernel_rfl
 i4:=by kernel_rfl
 i5:=by kernel_rfl
 i9:=by kernel_rfl
 i20:=by kernel_rfl
 i37:=by kernel_rfl
 i46:=by kernel_rfl
 i51:=by kernel_rfl
 i53:=by kernel_rfl
 i171:=by kernel_rfl
 i173:=by kernel_rfl
 i212:=by kernel_rfl
 i232:=by kernel_rfl
 i233:=by kernel_rfl
 m17:=by kernel_rfl
 m18:=by kernel_rfl
 m19:=by kernel_rfl }
def Tryz.axw:TR:=⟨fun|145=>198|220=>238|219=>256|217=>267|225=>268|224=>269|267=>270|266=>276|314=>277|n=>n,fun|9=>9|4=>4|59=>189|3=>3|5=>5|46=>239|146=>245|51=>237|n=>n,fun|1=>1|n=>n⟩
def Tryz.ayH:Go.Proofs.Lays.n145 prog Tryz.axw:={
 mixed:=by kernel_rfl
 f145:=func198.trans (congrArg I VS.aEr)
 f217:=func267.trans (congrArg I VS.aEr)
 f219:=func256.trans (congrArg I VS.aEr)
 f220:=func238.trans (congrArg I VS.aEr)
 f224:=func269.trans (congrArg I VS.aEr)
 f225:=func268.trans (congrArg I VS.aEr)
 f266:=func276.trans (congrArg I VS.aEr)
 f267:=func270.trans (congrArg I VS.aEr)
 f314:=func277.trans (congrArg I VS.aEr)
 t3:=Tryz.underlying3
 a3:=Tryz.isAgg3
 z3:=Tryz.sizeOf3
 v3:=Tryz.zeroValue3
 t4:=Tryz.underlying4
 a4:=Tryz.isAgg4
 z4:=Tryz.sizeOf4
 v4:=Tryz.zeroValue4
 t5:=Tryz.underlying5
 a5:=Tryz.isAgg5
 z5:=Tryz.sizeOf5
 v5:=Tryz.zeroValue5
 t9:=Tryz.underlying9
 a9:=Tryz.isAgg9
 z9:=Tryz.sizeOf9
 v9:=Tryz.zeroValue9
 t46:=Tryz.underlying239
 a46:=Tryz.isAgg239
 z46:=Tryz.sizeOf239
 v46:=Tryz.zeroValue239
 t51:=Tryz.underlying237
 a51:=Tryz.isAgg237
 z51:=Tryz.sizeOf237
 v51:=Tryz.zeroValue237
 t59:=Tryz.underlying189
 a59:=Tryz.isAgg189
 z59:=Tryz.sizeOf189
 v59:=Tryz.zeroValue189
 t146:=Tryz.underlying245
 a146:=Tryz.isAgg245
 z146:=Tryz.sizeOf245
 v146:=Tryz.zeroValue245
 g1:=by kernel_rfl }
def Tryz.axy:TR:=⟨fun|145=>198|220=>238|219=>256|217=>267|225=>268|224=>269|267=>270|266=>276|314=>277|n=>n,fun|9=>9|4=>4|59=>189|3=>3|5=>5|46=>239|146=>245|51=>237|n=>n,fun|1=>1|n=>n⟩
def Tryz.nJ:Go.Proofs.LaysM.n145 prog Tryz.axy:={
 mixed:=by kernel_rfl
 f145:=func198.trans (congrArg I VS.aEr)
 f217:=func267.trans (congrArg I VS.aEr)
 f219:=func256.trans (congrArg I VS.aEr)
 f220:=func238.trans (congrArg I VS.aEr)
 f224:=func269.trans (congrArg I VS.aEr)
 f225:=func268.trans (congrArg I VS.aEr)
 f266:=func276.trans (congrArg I VS.aEr)
 f267:=func270.trans (congrArg I VS.aEr)
 f314:=func277.trans (congrArg I VS.aEr)
 t3:=Tryz.underlying3
 a3:=Tryz.isAgg3
 z3:=Tryz.sizeOf3
 v3:=Tryz.zeroValue3
 t4:=Tryz.underlying4
 a4:=Tryz.isAgg4
 z4:=Tryz.sizeOf4
 v4:=Tryz.zeroValue4
 t5:=Tryz.underlying5
 a5:=Tryz.isAgg5
 z5:=Tryz.sizeOf5
 v5:=Tryz.zeroValue5
 t9:=Tryz.underlying9
 a9:=Tryz.isAgg9
 z9:=Tryz.sizeOf9
 v9:=Tryz.zeroValue9
 t46:=Tryz.underlying239
 a46:=Tryz.isAgg239
 z46:=Tryz.sizeOf239
 v46:=Tryz.zeroValue239
 t51:=Tryz.underlying237
 a51:=Tryz.isAgg237
 z51:=Tryz.sizeOf237
 v51:=Tryz.zeroValue237
 t59:=Tryz.underlying189
 a59:=Tryz.isAgg189
 z59:=Tryz.sizeOf189
 v59:=Tryz.zeroValue189
 t146:=Tryz.underlying245
 a146:=Tryz.isAgg245
 z146:=Tryz.sizeOf245
 v146:=Tryz.zeroValue245
 g1:=by kernel_rfl
 i3:=by kernel_rfl
 i4:=by kernel_rfl
 i5:=by kernel_rfl
 i9:=by kernel_rfl
 i46:=by kernel_rfl
 i51:=by kernel_rfl
 i59:=by kernel_rfl
 i146:=by kernel_rfl
 m1:=by kernel_rfl
 s1_3:=λw h=>Go.Proofs.cell_of_shapedOpen_int (zero:= #[.int .i64 0]) (t:=3) h (of_decide_eq_true VS.aEr) VS.aEr rfl VS.aEr VS.aEr Tryz.underlying3 }
def Tryz.axv:TR:=⟨fun|146=>203|221=>243|268=>257|138=>258|143=>259|195=>271|197=>272|218=>273|219=>256|260=>278|217=>267|225=>268|224=>269|267=>270|266=>276|314=>277|n=>n,fun|9=>9|31=>101|3=>3|4=>4|0=>0|105=>242|21=>21|5=>5|46=>239|119=>249|139=>252|138=>251|146=>245|51=>237|n=>n,fun|1=>1|3=>4|4=>5|n=>n⟩
def Tryz.ayG:Go.Proofs.Lays.n146 prog Tryz.axv:={
 mixed:=by kernel_rfl
 f138:=func258.trans (congrArg I VS.aEr)
 f143:=func259.trans (congrArg I VS.aEr)
 f146:=func203.trans (congrArg I VS.aEr)
 f195:=func271.trans (congrArg I VS.aEr)
 f197:=func272.trans (congrArg I VS.aEr)
 f217:=func267.trans (congrArg I VS.aEr)
 f218:=func273.trans (congrArg I VS.aEr)
 f219:=func256.trans (congrArg I VS.aEr)
 f221:=func243.trans (congrArg I VS.aEr)
 f224:=func269.trans (congrArg I VS.aEr)
 f225:=func268.trans (congrArg I VS.aEr)
 f260:=func278.trans (congrArg I VS.aEr)
 f266:=func276.trans (congrArg I VS.aEr)
 f267:=func270.trans (congrArg I VS.aEr)
 f268:=func257.trans (congrArg I VS.aEr)
 f314:=func277.trans (congrArg I VS.aEr)
 t0:=Tryz.underlying0
 a0:=Tryz.isAgg0
 z0:=Tryz.sizeOf0
 v0:=Tryz.zeroValue0
 t3:=Tryz.underlying3
 a3:=Tryz.isAgg3
 z3:=Tryz.sizeOf3
 v3:=Tryz.zeroValue3
 t4:=Tryz.underlying4
 a4:=Tryz.isAgg4
 z4:=Tryz.sizeOf4
 v4:=Tryz.zeroValue4
 t5:=Tryz.underlying5
 a5:=Tryz.isAgg5
 z5:=Tryz.sizeOf5
 v5:=Tryz.zeroValue5
 t9:=Tryz.underlying9
 a9:=Tryz.isAgg9
 z9:=Tryz.sizeOf9
 v9:=Tryz.zeroValue9
 t21:=Tryz.underlying21
 a21:=Tryz.isAgg21
 z21:=Tryz.sizeOf21
 v21:=Tryz.zeroValue21
 t31:=Tryz.underlying101
 a31:=Tryz.isAgg101
 z31:=Tryz.sizeOf101
 v31:=Tryz.zeroValue101
 t46:=Tryz.underlying239
 a46:=Tryz.isAgg239
 z46:=Tryz.sizeOf239
 v46:=Tryz.zeroValue239
 t51:=Tryz.underlying237
 a51:=Tryz.isAgg237
 z51:=Tryz.sizeOf237
 v51:=Tryz.zeroValue237
 t105:=Tryz.underlying242
 a105:=Tryz.isAgg242
 z105:=Tryz.sizeOf242
 v105:=Tryz.zeroValue242
 t119:=Tryz.underlying249
 a119:=Tryz.isAgg249
 z119:=Tryz.sizeOf249
 t138:=Tryz.underlying251
 a138:=Tryz.isAgg251
 z138:=Tryz.sizeOf251
 v138:=Tryz.zeroValue251
 t139:=Tryz.underlying252
 a139:=Tryz.isAgg252
 z139:=Tryz.sizeOf252
 v139:=Tryz.zeroValue252
 t146:=Tryz.underlying245
 a146:=Tryz.isAgg245
 z146:=Tryz.sizeOf245
 v146:=Tryz.zeroValue245
 g1:=by kernel_rfl
 g3:=by kernel_rfl
 g4:=by kernel_rfl }
def Tryz.axu:TR:=⟨fun|147=>240|221=>243|268=>257|138=>258|143=>259|195=>271|197=>272|218=>273|219=>256|260=>278|217=>267|225=>268|224=>269|267=>270|266=>276|314=>277|n=>n,fun|9=>9|3=>3|31=>101|4=>4|0=>0|105=>242|21=>21|5=>5|46=>239|119=>249|139=>252|138=>251|146=>245|51=>237|n=>n,fun|1=>1|3=>4|4=>5|n=>n⟩
def Tryz.ayF:Go.Proofs.Lays.n147 prog Tryz.axu:={
 mixed:=by kernel_rfl
 f138:=func258.trans (congrArg I VS.aEr)
 f143:=func259.trans (congrArg I VS.aEr)
 f147:=func240.trans (congrArg I VS.aEr)
 f195:=func271.trans (congrArg I VS.aEr)
 f197:=func272.trans (congrArg I VS.aEr)
 f217:=func267.trans (congrArg I VS.aEr)
 f218:=func273.trans (congrArg I VS.aEr)
 f219:=func256.trans (congrArg I VS.aEr)
 f221:=func243.trans (congrArg I VS.aEr)
 f224:=func269.trans (congrArg I VS.aEr)
 f225:=func268.trans (congrArg I VS.aEr)
 f260:=func278.trans (congrArg I VS.aEr)
 f266:=func276.trans (congrArg I VS.aEr)
 f267:=func270.trans (congrArg I VS.aEr)
 f268:=func257.trans (congrArg I VS.aEr)
 f314:=func277.trans (congrArg I VS.aEr)
 t0:=Tryz.underlying0
 a0:=Tryz.isAgg0
 z0:=Tryz.sizeOf0
 v0:=Tryz.zeroValue0
 t3:=Tryz.underlying3
 a3:=Tryz.isAgg3
 z3:=Tryz.sizeOf3
 v3:=Tryz.zeroValue3
 t4:=Tryz.underlying4
 a4:=Tryz.isAgg4
 z4:=Tryz.sizeOf4
 v4:=Tryz.zeroValue4
 t5:=Tryz.underlying5
 a5:=Tryz.isAgg5
 z5:=Tryz.sizeOf5
 v5:=Tryz.zeroValue5
 t9:=Tryz.underlying9
 a9:=Tryz.isAgg9
 z9:=Tryz.sizeOf9
 v9:=Tryz.zeroValue9
 t21:=Tryz.underlying21
 a21:=Tryz.isAgg21
 z21:=Tryz.sizeOf21
 v21:=Tryz.zeroValue21
 t31:=Tryz.underlying101
 a31:=Tryz.isAgg101
 z31:=Tryz.sizeOf101
 v31:=Tryz.zeroValue101
 t46:=Tryz.underlying239
 a46:=Tryz.isAgg239
 z46:=Tryz.sizeOf239
 v46:=Tryz.zeroValue239
 t51:=Tryz.underlying237
 a51:=Tryz.isAgg237
 z51:=Tryz.sizeOf237
 v51:=Tryz.zeroValue237
 t105:=Tryz.underlying242
 a105:=Tryz.isAgg242
 z105:=Tryz.sizeOf242
 v105:=Tryz.zeroValue242
 t119:=Tryz.underlying249
 a119:=Tryz.isAgg249
 z119:=Tryz.sizeOf249
 t138:=Tryz.underlying251
 a138:=Tryz.isAgg251
 z138:=Tryz.sizeOf251
 v138:=Tryz.zeroValue251
 t139:=Tryz.underlying252
 a139:=Tryz.isAgg252
 z139:=Tryz.sizeOf252
 v139:=Tryz.zeroValue252
 t146:=Tryz.underlying245
 a146:=Tryz.isAgg245
 z146:=Tryz.sizeOf245
 v146:=Tryz.zeroValue245
 g1:=by kernel_rfl
 g3:=by kernel_rfl
 g4:=by kernel_rfl }
open Go.RowKit Go.Sort Go.Lib in
theorem Tryz.strconv_Itoa (n:Int) (h0: -9223372036854775808<=n) (h1:n<=9223372036854775807) (w:World) (aE:M3 prog w "internal/strconv.uint64pow10" .u64 N3):
  Calls prog 152 #[.int .i64 n] w λe w'=>e= .returned (.string ⟨(B2 n).toArray⟩)/\ ∃k os,w'=grow (w.drewN k) os:=Any.strconv_Itoa Tryz.ay1 n h0 h1 w aE
open Go.RowKit Go.Lib in
theorem Tryz.strings_Cut (s sep:ByteArray) (m:Int) (w:World) (hs:s.size<4294967281) (hm:w.cell? ⟨1,0,G⟩=I (.int .i64 m)):
  Calls prog 198 #[.string s,.string sep] w λe w'=>e= .returned (.tuple #[.string ⟨(FR s.data.toList sep.data.toList).1.toArray⟩,.string ⟨(FR s.data.toList sep.data.toList).2.1.toArray⟩,.bool (FR s.data.toList sep.data.toList).2.2])/\ ∃n,w'=w.drewN n:=Any.strings_Cut Tryz.ayH s sep m w hs hm
open Go.RowKit Go.Lib in
theorem Tryz.strings_Split (s sep:ByteArray) (m:Int) (w:World) (hs:s.size<4294967281) (hm:w.cell? ⟨1,0,G⟩=I (.int .i64 m)) (h1:1<=sep.size):
  Calls prog 203 #[.string s,.string sep] w λe w'=>
   e= .returned (.slice (I ⟨w.heap.size,0,G⟩) (N2 s sep+1)<|N2 s sep+1)/\w'=w.alloc (.cells ((Im sep 0 (N2 s sep) s).map YY).toArray 9):=Any.strings_Split Tryz.ayG VS.aEr s sep m w hs hm h1
open Go.RowKit Go.Lib in
theorem Tryz.strings_SplitN (s sep:ByteArray) (n:Nat) (m:Int) (w:World) (hs:s.size<4294967281) (hm:w.cell? ⟨1,0,G⟩=I (.int .i64 m)) (h1:1<=sep.size) (hn:1<=n) (acY:n<=9223372036854775807):
  Calls prog 240 #[.string s,.string sep,.int .i64 n] w λe w'=>
   e= .returned (.slice (I ⟨w.heap.size,0,G⟩) (Im sep 0 (min n (s.size+1) - 1) s).length<|min n<|s.size+1)/\w'=w.alloc (.cells (Yj (Im sep 0 (min n (s.size+1) - 1) s)<|min n<|s.size+1) 9):=Any.strings_SplitN Tryz.ayF VS.aEr s sep n m w hs hm h1 hn acY
end Go.Proofs
namespace Go.VS
open Go Go.Proofs Tryz
set_option linter.unusedVariables false
set_option maxRecDepth 100000
abbrev aEm:=dfl .AX
abbrev aEq:=dfl .Aj
abbrev aEy:=dfl .CJ
abbrev aEz:=dfl .bool
abbrev aEw:=dfl .frame
abbrev aEl:=dfl .half
abbrev aEo:=dfl .int
abbrev aEs:=dfl .mark
abbrev aEx:=dfl .mixed
abbrev y7:=dfl .note
abbrev aEv:=dfl .str
abbrev aEt:=dfl .u8
abbrev j6:Sh:=.int .i64
abbrev o6(e:Ent):Prop:=SQ Tryz.prog e
abbrev o4:=Int×D
abbrev y8:=Int×o4
abbrev aEn:=Int×y8
abbrev t1(v:Adv):Adv:= .two .nil v
def sk{P:Program}{C:Cx}{inl:(Ω:Type)->Inl Ω}{f:Nat}{d:Option Nat}{fn:Func}{m:DS}{v:Adv}{ls:List (Code×Loop)}(hC:OKC P C inl)(hl:LpK P fn.ntmps (Dw 0 m.ps) ls)
  (hf:fnB P f fn m=(I fn,A0,Y,Y):=by kernel_rfl)(hb:fn.body=I (Kj fn):=by kernel_rfl)(h:Fp (Kj fn) v=ls:=by kernel_rfl)(hg:∀x,ZZ C inl fn v m x=m.g x:=by intro _;kernel_rfl):SQ P (f,d,m):=
 so hC hf hb h hl hg
def sq{P:Program}{C:Cx}{inl:(Ω:Type)->Inl Ω}(hC:OKC P C inl){n:Nat}{pins:List Nat}{body:Code}{v:Adv}{l:Loop}{b:Lv l.sch->Option (Lv l.sch ⊕ (Lv l.KM ⊕ Lv l.KN))}{ls:List (Code×Loop)}
  (hl:LpK P n pins ls)(hb:∀x,evL C inl n pins body v l x=b x:=by intro _;kernel_rfl)(hr:l.run=AZ b:=by rfl)(h:Fp body v=ls:=by kernel_rfl):LpK P n pins [(body,l)]:=lk hC hb hr h hl
def kd:TypeId->Option K
 | 2=>I .int
 | 3=>I .int
 | 4=>I .bool
 | 5=>I .u8
 | 9=>I .str
 | 10=>I .str
 | 11=>I .str
 | 36=>I .note
 | 39=>I .keep
 | 45=>I .AX
 | 51=>I .CJ
 | 59=>I .Aj
 | 61=>I .mark
 | 107=>I .half
 | 124=>I .frame
 | 142=>I .mixed
 | _=>G
abbrev Y0:Type:=List Int×o4
abbrev Z0:Sh:= .box 92 [.fz .u8,j6]
abbrev Y1:Type:=Int×Bool×A1×Int×List AE×D
abbrev Z1:Sh:= .agg [j6,.bool,.str,j6,.row 107 .half]
abbrev Y2:Type:=Int×List A8×List Bool×List AL×List A3×List A3×D
abbrev Z2:Sh:= .box 31 [j6,.row 45 .AX,.row 4 .bool,.row 59 .Aj,.row 36 .note,.row 36 .note]
abbrev Z3:Sh:= .agg [j6,.row 45 .AX,.row 4 .bool,.row 59 .Aj,.row 36 .note,.row 36 .note]
abbrev Y3:Type:=Int×Int×Int×List A3×List Mark×List A3×D
abbrev Z4:Sh:= .agg [j6,j6,j6,.row 36 .note,.row 61 .mark,.row 36 .note]
abbrev Y4:Type:=Int×Int×Int×Int×A1×D
abbrev Z5:Sh:= .box 36 [j6,j6,j6,j6,.str]
abbrev Z6:Sh:= .agg [j6,j6,j6,j6,.str]
abbrev Z7:Sh:= .box 39 [j6,j6,j6,.sl .note,.sl .mark,.sl .note]
abbrev Z8:Sh:= .agg [j6,j6,j6,.fz .note,.fz .mark,.fz .note]
abbrev Z9:Sh:= .box 39 [j6,j6,j6,.row 36 .note,.row 61 .mark,.row 36 .note]
abbrev Y5:Type:=aEn
abbrev Z10:Sh:= .box 61 [j6,j6,j6]
abbrev Z11:Sh:= .agg [j6,j6,j6]
abbrev Z12:Sh:= .agg [j6,.bool,.str,j6,.fz .half]
abbrev Y6:Type:=Int×Int×Int×Int×Int×Int×Int×Int×Int×A1×D
abbrev Z13:Sh:= .agg [j6,j6,j6,j6,j6,j6,j6,j6,j6,.str]
abbrev Z14:Sh:= .box 124 [j6,j6,j6,j6,j6,j6,j6,j6,j6,.str]
abbrev Y7:Type:=A1×o4
abbrev Z15:Sh:= .agg [.str,j6]
abbrev Y8:Type:=Int×A1×D
abbrev Z16:Sh:= .agg [j6,.str]
abbrev Y9:Type:=Int×Int×Int×Int×Int×List AN×D
abbrev Z17:Sh:= .box 107 [j6,j6,j6,j6,j6,.sl .mixed]
abbrev Z18:Sh:= .agg [j6,j6,j6,j6,j6,.fz .mixed]
abbrev Z19:Sh:= .box 45 [j6,.bool,.str,j6,.sl .half]
abbrev Z20:Sh:= .box 45 [j6,.bool,.str,j6,.row 107 .half]
abbrev Z21:Sh:= .box 42 [.str,j6]
abbrev Y10:Type:=Y0×Int×List A8×List Bool×List AL×List A3×List A3×List Event×D
abbrev Z22:Sh:= .box 69 [Z0,j6,.row 45 .AX,.row 4 .bool,.row 59 .Aj,.row 36 .note,.row 36 .note,.row 51 .CJ]
abbrev Z23:Sh:= .box 92 [.sl .u8,j6]
abbrev Z24:Sh:= .box 69 [Z23,j6,.row 45 .AX,.row 4 .bool,.row 59 .Aj,.row 36 .note,.row 36 .note,.row 51 .CJ]
abbrev Z25:Sh:= .box 51 [j6,j6,j6,j6,j6,j6,j6,j6,j6,.str]
abbrev Y11:Type:=D×Int×List A8×List Bool×List AL×List A3×List A3×List Event×D
abbrev Z28:Sh:= .box 69 [.same 0,j6,.row 45 .AX,.row 4 .bool,.row 59 .Aj,.row 36 .note,.row 36 .note,.row 51 .CJ]
abbrev Z29:Sh:= .box 31 [j6,.sl .AX,.sl .bool,.sl .Aj,.sl .note,.sl .note]
abbrev Z30:Sh:= .agg [j6,.fz .AX,.fz .bool,.fz .Aj,.fz .note,.fz .note]
abbrev Z31:Sh:= .box 39 [j6,j6,j6,.row 36 .note,.row 61 .mark,.sl .note]
abbrev Z32:Sh:= .box 142 [j6,.str]
abbrev Y12:Type:=Int×Int×A1×Bool×D
abbrev Z33:Sh:= .box 59 [j6,j6,.str,.bool]
abbrev Z34:Sh:= .box 45 [j6,.bool,.str,j6,.fz .half]
abbrev Z35:Sh:= .box 31 [j6,.fz .AX,.fz .bool,.fz .Aj,.fz .note,.fz .note]
abbrev Rnd(a b c:Type):=Option<|a ⊕ (b ⊕ c)
noncomputable abbrev cX(l:List Ent)(cz sp:List (Nat×Nat)):Cx:=⟨prog,kd,gam l,inR cz,inR sp⟩
abbrev LF(fn:Func)(pins path:List Nat)(l:Loop):=LpK prog fn.ntmps pins [(Ot path<|Kj fn,l)]
def mixed:prog.follows .mixedOrders=Y:=by kernel_rfl
def Iy:(o4)->Option ((A1×D)×D):=Tk
def Rh:Ent:=(152,G,⟨[j6],[.str],Iy⟩)
def UI:o6 Rh:=⟨aqL (O0 func152 aEr (by kernel_rfl:f152.body=I (Kj f152))) aEr Tryz.strconv_Itoa,by kernel_rfl⟩
def VX:(A1×A1×D)->Option ((A1×A1×Bool×D)×D):=P0
def yu:Ent:=(198,G,⟨[.str,.str],[.str,.str,.bool],VX⟩)
def agZ:o6 yu:=⟨at6 (gm:=1) (O0 func198 aEr (by kernel_rfl:f198.body=I (Kj f198))) (Bc aEr) (λw h=>Tryz.nJ.s1_3 w h) Tryz.strings_Cut,by kernel_rfl⟩
def cW:(A1×A1×D)->Option ((List A1×D)×D):=TA
def wq:Ent:=(203,G,⟨[.str,.str],[.row 9 .str],cW⟩)
def af8:o6 wq:=⟨apI (gm:=1) (O0 func203 aEr (by kernel_rfl:f203.body=I (Kj f203))) (Bc aEr) (λw h=>Tryz.nJ.s1_3 w h) Tryz.strings_Split,by kernel_rfl⟩
def qj:(A1×A1×o4)->Option ((List A1×D)×D):=Si
def vD:Ent:=(240,G,⟨[.str,.str,j6],[.row 9 .str],qj⟩)
def aeL:o6 vD:=⟨apC (gm:=1) (O0 func240 aEr (by kernel_rfl:f240.body=I (Kj f240))) (Bc aEr) (λw h=>Tryz.nJ.s1_3 w h) Tryz.strings_SplitN,by kernel_rfl⟩
def amM:Cx:=cX [] [] []
abbrev o9(C:Cx):Prop:=OKC prog C AF
def v7{kd:TypeId->Option K}{l:List Ent}{cz sp:Nat->Bool}(h:Qj prog l):OKC prog ⟨prog,kd,gam l,cz,sp⟩ AF:=okc mixed h
def aoq:o9 amM:=v7<|AI
def eV(x:List Int×D):Option ((Y0×D)×D):=if U (2000<(j8 x.1:Int)) then if U (0<=2000)&&U (2000<=(j8 x.1:Int)) then let a:=(BR (AK 2000) x.1);I (((a,0,()),()),()) else G else I (((x.1,0,()),()),())
def yU:Ent:=(32,G,⟨[.fz .u8],[Z0],eV⟩)
def aga:o6 yU:=sk (v:= .nil) (fn:=f32) aoq kN
def aha:Cx:=cX [] [] [(18,23)]
def ajK:o9 aha:=v7<|AI
def Cc(x:Y0×o4):Option ((o4)×Y0×D):=if(U<|x.2.1<1)||(U<|(j8 x.1.1:Int)=0) then I ((0,()),((x.1.1,(w64<|x.1.2.1+1),()),())) else let a:=(w64<|(w64<|x.1.2.1+1) - 1);(if U (a<(j8 x.1.1:Int)) then if inb a x.1.1.length then if !decide (x.2.1=0) then let c:=(BJ (w64<|rd aEt x.1.1 a) x.2.1);I ((c,()),((x.1.1,(w64<|x.1.2.1+1),()),())) else G else G else if !decide ((j8 x.1.1:Int)=0) then if inb (BJ a (j8 x.1.1:Int)) x.1.1.length then if !decide ((j8 x.1.1:Int)=0) then if inb (BJ (w64<|(w64<|a * 7)+3) (j8 x.1.1:Int)) x.1.1.length then if !decide ((j8 x.1.1:Int)=0) then let b:=(w64<|(w64<|(w64<|(w64<|(w64<|rd aEt x.1.1<|BJ a (j8 x.1.1:Int)) * 131)+(w64<|(w64<|rd aEt x.1.1<|BJ (w64<|(w64<|a * 7)+3) (j8 x.1.1:Int)) * 1117))+(w64<|a * 29))+(w64<|(w64<|Ay a (j8 x.1.1:Int)) * 53));let d:=(Dp .i64 b<|w64<|Ay b 64);(if !decide (x.2.1=0) then I (((BJ d x.2.1),()),((x.1.1,(w64<|x.1.2.1+1),()),())) else G) else G else G else G else G else G)
def LL:Ent:=(33,G,⟨[Z0,j6],[j6],Cc⟩)
def MI:o6 LL:=sk (v:= .nil) (fn:=f33) ajK kN
def apO:Cx:=cX [] [] [(11,13)]
def apu:o9 apO:=v7<|AI
def D7(x:aEn):Option ((Bool×D)×D):=let a:=((U<|x.2.1<=x.1)&&(U<|x.1<=x.2.2.1));I ((a,()),())
def Gt:Ent:=(56,G,⟨[j6,j6,j6],[.bool],D7⟩)
def HK:o6 Gt:=sk (v:= .nil) (fn:=f56) apu kN
def ajT:Cx:=cX [Gt] [] []
def alS:o9 ajT:=v7<|gC HK<|AI
def FU(x:o4):Option ((Bool×D)×D):=(D7 (x.1,0,3,())).bind λa=>I (a.1,())
def IK:Ent:=(58,G,⟨[j6],[.bool],FU⟩)
def Ip:o6 IK:=sk (v:= .nil) (fn:=f58) alS kN
def afV:Cx:=cX [IK] [] []
def agq:o9 afV:=v7<|gC Ip<|AI
def UM(x:o4):Option ((Y1×D)×D):=(FU x).bind λa=>if !a.1.1 then I (((0,A0,noB,0,([]:List AE),()),()),()) else I (((x.1,Y,noB,0,([]:List AE),()),()),())
def si:Ent:=(64,G,⟨[j6],[Z1],UM⟩)
def aeJ:o6 si:=sk (v:= .nil) (fn:=f64) agq kN
def agF:Cx:=cX [si] [] []
def qx:o9 agF:=v7<|gC aeJ<|AI
def UK(x:Y2×Y2×o4):Rnd (Y2×Y2×o4) D (Y2×Y2×D):=if U ((w64<|x.2.2.1+1)<4) then if Ab (x.2.1.2.2.1.length+([Y]:List Bool).length) then I (.inl (x.1,(x.2.1.1,x.2.1.2.1,(x.2.1.2.2.1++([Y]:List Bool)),x.2.1.2.2.2),(w64<|x.2.2.1+1),())) else G else I (.inr<|.inr (x.1,x.2.1,()))
def oY:=AZ UK
def adj:Loop:=⟨[(0,Z2),(1,Z2),(3,j6)],[(0,Z2),(1,Z2)],2,[],oY⟩
def agN:LF f35 [] [1,1,1,0,1,0,0] adj:=sq (v:= .nil) qx (b:=UK) kN
def bF(x:Y2×Y2×o4):Rnd (Y2×Y2×o4) D (Y2×Y2×D):=if U (x.2.2.1<4) then(UM x.2.2).bind λa=>if Ab (x.2.1.2.1.length+([(A8.mk a.1.1.1 a.1.1.2.1 a.1.1.2.2.1 a.1.1.2.2.2.1 a.1.1.2.2.2.2.1)]:List A8).length) then I (.inl (x.1,(x.2.1.1,(x.2.1.2.1++([(A8.mk a.1.1.1 a.1.1.2.1 a.1.1.2.2.1 a.1.1.2.2.2.1 a.1.1.2.2.2.2.1)]:List A8)),x.2.1.2.2),(w64<|x.2.2.1+1),())) else G else I (.inr<|.inr (x.1,x.2.1,()))
def oZ:=AZ bF
def adk:Loop:=⟨[(0,Z2),(1,Z2),(2,j6)],[(0,Z2),(1,Z2)],0,[],oZ⟩
def agQ:LF f35 [] [1,1,0,1,0,0] adk:=sq (v:= .nil) qx (b:=bF) kN
def RH(x:D):Option ((Y2×D)×D):=(AP (oZ ((0,([]:List A8),([]:List Bool),([]:List AL),([]:List A3),([]:List A3),()),(0,([]:List A8),([]:List Bool),([]:List AL),([]:List A3),([]:List A3),()),0,())) (λ_=>G) λa=>(AP (oY (a.1,a.2.1,0,())) (λ_=>G) λb=>I (b.2,())))
def qV:Ent:=(35,G,⟨[],[Z3],RH⟩)
def adC:o6 qV:=sk (v:=t1<|t1<|.two (t1<|.one<|.loop adk)<|.two (t1<|.one<|.loop adj) .nil) (fn:=f35) qx<|kC agQ<|kC agN kN
def GY(ac8:(o4)->Option ((A1×D)×D))(x:o4):Option ((A1×D)×D):=
 if U (x.1<(-9223372036854775807)) then
 let v2:=(B [45,57,50,50,51,51,55,50,48,51,54,56,53,52,55,55,53,56,48,56])
 I ((v2,()),())
 else
 if U (x.1<0) then
 (ac8 ((w64<|0 - x.1),())).bind λr4=>
 if U ((B [45]).size+r4.1.1.size<=4611686018427387904) then
 I ((((B [45])++r4.1.1),()),())
 else G
 else
 if U (x.1<10) then
 let v6:=(BF ([(w8<|w64<|48+x.1)]:List Int))
 I ((v6,()),())
 else
 (ac8 ((w64<|Ay x.1 10),())).bind λr7=>
 if U (r7.1.1.size+(BF ([(w8<|w64<|48+(BJ x.1 10))]:List Int)).size<=4611686018427387904) then
 let v8:=(r7.1.1++(BF ([(w8<|w64<|48+(BJ x.1 10))]:List Int)))
 I ((v8,()),())
 else G
def DP:=NK GY
def aoc(g:(o4)->Option ((A1×D)×D)):Cx:=cX [(168,G,⟨[j6],[.str],g⟩)] [] []
def apT(g:(o4)->Option ((A1×D)×D))(h:SQ prog (168,G,⟨[j6],[.str],g⟩)):OKC prog (aoc g) AF:=okc mixed<|gC h<|AI
def Np:Ent:=(168,G,⟨[j6],[.str],DP⟩)
def PF:o6 Np:=soR (O0 (by kernel_rfl:prog.funcs[168]? =I f168) aEr (by kernel_rfl:f168.body=I (Kj f168))) (λ_=>by kernel_rfl) λg h=>so (v:= .nil) (fn:=f168) (apT g h) aEr aEr aEr kN λ_=>by kernel_rfl
def aod:Cx:=cX [Np] [] [(9,11),(24,27)]
def aA4:o9 aod:=v7<|gC PF<|AI
def eW(x:A1×y8):Rnd (A1×y8) (o4) (A1×o4):=if U (x.2.2.1<(x.1.size:Int)) then if inb x.2.2.1 x.1.size then if An (!(U<|(bt x.1 x.2.2.1)<48)) (inb x.2.2.1 x.1.size) then if(U<|(bt x.1 x.2.2.1)<48)||(U<|57<(bt x.1 x.2.2.1)) then I (.inr<|.inl ((-1),())) else if inb x.2.2.1 x.1.size then let a:=(w64<|(w64<|x.2.1 * 10)+(w64<|w8<|(bt x.1 x.2.2.1) - 48));I (.inl (x.1,a,(w64<|x.2.2.1+1),())) else G else G else G else I (.inr<|.inr (x.1,x.2.1,()))
def ql:=AZ eW
def wP:Loop:=⟨[(0,.str),(3,j6),(4,j6)],[(0,.str),(3,j6)],0,[(2,j6)],ql⟩
def anx:LF f161 [] [1,1,1,0,1,0,0] wP:=sq (v:= .nil) aA4 (b:=eW) kN
def Pb(x:A1×D):Option ((o4)×D):=if(U<|(x.1.size:Int)<1)||(U<|4<(x.1.size:Int)) then I (((-1),()),()) else(AP (ql (x.1,0,0,())) (λa=>I (a,())) λa=>(DP a.2).bind λb=>if !decide (b.1.1=a.1) then I (((-1),()),()) else I (a.2,()))
def fX:Ent:=(161,G,⟨[.str],[j6],Pb⟩)
def qk:o6 fX:=sk (v:=t1<|t1<|t1<|.two (t1<|.one<|.loop wP) .nil) (fn:=f161) aA4<|kC anx kN
def amZ:Cx:=cX [fX] [] [(11,12)]
def zX:o9 amZ:=v7<|gC qk<|AI
def NZ(x:A1×o4):Rnd (A1×o4) (A1×o4) D:=if(U<|x.2.1<(x.1.size:Int))&&(U<|x.2.1<3) then if inb x.2.1 x.1.size then if !decide ((bt x.1 x.2.1)=58) then I (.inl (x.1,(w64<|x.2.1+1),())) else if U (0<=x.2.1)&&U (x.2.1<=(x.1.size:Int)) then(Pb ((x.1.extract (0)<|AK x.2.1),())).bind λa=>if U (a.1.1<1) then I (.inr<|.inl (noB,0,())) else if U (60<a.1.1) then I (.inr<|.inl (noB,0,())) else if U ((x.1.size:Int)<(w64<|(w64<|x.2.1+2)+a.1.1)) then I (.inr<|.inl (noB,0,())) else if inb (w64<|(w64<|x.2.1+1)+a.1.1) x.1.size then if !decide ((bt x.1<|w64<|(w64<|x.2.1+1)+a.1.1)=59) then I (.inr<|.inl (noB,0,())) else if(U (0<=(w64<|(w64<|x.2.1+1)+a.1.1))&&U ((w64<|(w64<|x.2.1+1)+a.1.1)<=(x.1.size:Int)))&&(U (0<=(w64<|x.2.1+1))&&U ((w64<|x.2.1+1)<=(w64<|(w64<|x.2.1+1)+a.1.1))) then let b:=(x.1.extract (AK<|w64<|x.2.1+1)<|AK<|w64<|(w64<|x.2.1+1)+a.1.1);let c:=(w64<|(w64<|x.2.1+2)+a.1.1);I (.inr<|.inl (b,c,())) else G else G else G else G else I (.inr<|.inr ())
def qE:=AZ NZ
def vw:Loop:=⟨[(0,.str),(4,j6)],[],0,[(2,.str),(3,j6)],qE⟩
def am9:LF f123 [] [1,0,1,0,0] vw:=sq (v:= .nil) zX (b:=NZ) kN
def eh(x:A1×D):Option ((A1×o4)×D):=(AP (qE (x.1,0,())) (λa=>I (a,())) λa=>I ((noB,0,()),()))
def zB:Ent:=(123,G,⟨[.str],[.str,j6],eh⟩)
def agk:o6 zB:=sk (v:=t1<|.two (t1<|.one<|.loop vw) .nil) (fn:=f123) zX<|kC am9 kN
def ahd:Cx:=cX [zB] [] []
def vX:o9 ahd:=v7<|gC agk<|AI
def RF(x:A1×List A1×o4):Rnd (A1×List A1×o4) (List A1×o4) (List A1×o4):=if U (x.2.2.1<(x.1.size:Int)) then if U (0<=x.2.2.1)&&U (x.2.2.1<=(x.1.size:Int)) then(eh ((x.1.extract (AK x.2.2.1)<|x.1.size),())).bind λa=>if U (a.1.2.1=0) then I (.inr<|.inl x.2) else if Ab (x.2.1.length+([a.1.1]:List A1).length) then let b:=(w64<|x.2.2.1+a.1.2.1);I (.inl (x.1,(x.2.1++([a.1.1]:List A1)),b,())) else G else G else I (.inr<|.inr x.2)
def p6:=AZ RF
def ae2:Loop:=⟨[(0,.str),(4,.row 9 .str),(5,j6)],[(4,.row 9 .str),(5,j6)],0,[(2,.row 9 .str),(3,j6)],p6⟩
def ahF:LF f87 [] [1,1,1,0,0,0] ae2:=sq (v:= .nil) vX (b:=RF) kN
def LH(x:A1×D):Option ((List A1×o4)×D):=(AP (p6 (x.1,([]:List A1),0,())) (λa=>I (a,())) λa=>I (a,()))
def Uo:Ent:=(87,G,⟨[.str],[.row 9 .str,j6],LH⟩)
def aJ:o6 Uo:=sk (v:=t1<|t1<|t1<|.two (.one<|.loop ae2) .nil) (fn:=f87) vX<|kC ahF kN
def ahm:Cx:=cX [IK] [] []
def ajR:o9 ahm:=v7<|gC Ip<|AI
def br(x:o4):Option ((Y3×D)×D):=(FU x).bind λa=>if !a.1.1 then I (((0,0,0,([]:List A3),([]:List Mark),([]:List A3),()),()),()) else I (((x.1,0,1,([]:List A3),([]:List Mark),([]:List A3),()),()),())
def uW:Ent:=(124,G,⟨[j6],[Z4],br⟩)
def aen:o6 uW:=sk (v:= .nil) (fn:=f124) ajR kN
def ama:Cx:=cX [Gt,IK] [] [(51,55)]
def zY:o9 ama:=v7<|gC HK<|gC Ip<|AI
def dZ(x:Y4×o4):Rnd (Y4×o4) (Bool×D) D:=if U (x.2.1<(x.1.2.2.2.2.1.size:Int)) then if inb x.2.1 x.1.2.2.2.2.1.size then if An (!(U<|(bt x.1.2.2.2.2.1 x.2.1)<32)) (inb x.2.1 x.1.2.2.2.2.1.size) then if(U<|(bt x.1.2.2.2.2.1 x.2.1)<32)||(U<|126<(bt x.1.2.2.2.2.1 x.2.1)) then I (.inr<|.inl (A0,())) else I (.inl (x.1,(w64<|x.2.1+1),())) else G else G else I (.inr<|.inr ())
def qG:=AZ dZ
def wB:Loop:=⟨[(1,Z5),(3,j6)],[],0,[(2,.bool)],qG⟩
def amA:LF f59 [] [1,1,0,1,0,0] wB:=sq (v:= .nil) zY (b:=dZ) kN
def Nj(x:Y4×D):Option ((Bool×D)×D):=(FU (x.1.1,())).bind λb=>if !b.1.1 then I ((A0,()),()) else(FU (x.1.2.2.1,())).bind λc=>if !c.1.1 then I ((A0,()),()) else(D7 (x.1.2.1,1,99,())).bind λd=>if !d.1.1 then I ((A0,()),()) else(D7 (x.1.2.2.2.1,1,999,())).bind λe=>if !e.1.1 then I ((A0,()),()) else if U ((x.1.2.2.2.2.1.size:Int)<1) then I ((A0,()),()) else if U (24<(x.1.2.2.2.2.1.size:Int)) then I ((A0,()),()) else(AP (qG (x.1,0,())) (λa=>I (a,())) λa=>I ((Y,()),()))
def Vl:Ent:=(59,G,⟨[Z6],[.bool],Nj⟩)
def bU:o6 Vl:=sk (v:=t1<|t1<|.two (t1<|.one<|.loop wB) .nil) (fn:=f59) zY<|kC amA kN
def akZ:Cx:=cX [] [] [(13,20)]
def amu:o9 akZ:=v7<|AI
def ML(x:Int×aEn):Option ((Bool×D)×D):=let a:=((U<|x.1<x.2.2.1)||((U<|x.1=x.2.2.1)&&(U<|x.2.1<x.2.2.2.1)));I ((a,()),())
def VO:Ent:=(246,G,⟨[j6,j6,j6,j6],[.bool],ML⟩)
def bE:o6 VO:=sk (v:= .nil) (fn:=f246) amu kN
def ajZ:Cx:=cX [Vl,VO] [] [(23,50)]
def wT:o9 ajZ:=v7<|gC bU<|gC bE<|AI
def cP(x:List A3×o4):Rnd (List A3×o4) (Bool×D) D:=if U (x.2.1<(j8 x.1:Int)) then if inb x.2.1 x.1.length then(Nj (((rd y7 x.1 x.2.1).fr,(rd y7 x.1 x.2.1).nu,(rd y7 x.1 x.2.1).to,(rd y7 x.1 x.2.1).un,(rd y7 x.1 x.2.1).tx,()),())).bind λa=>if An ((!(!a.1.1))&&(U<|0<x.2.1)) (inb (w64<|x.2.1 - 1) x.1.length) then if An ((!(!a.1.1))&&(U<|0<x.2.1)) (inb (w64<|x.2.1 - 1) x.1.length) then if An ((!(!a.1.1))&&(U<|0<x.2.1)) (inb x.2.1 x.1.length) then if An ((!(!a.1.1))&&(U<|0<x.2.1)) (inb x.2.1 x.1.length) then if An ((!(!a.1.1))&&(U<|0<x.2.1)) ((ML ((rd y7 x.1<|w64<|x.2.1 - 1).fr,(rd y7 x.1<|w64<|x.2.1 - 1).nu,(rd y7 x.1 x.2.1).fr,(rd y7 x.1 x.2.1).nu,())).isSome) then if(!a.1.1)||((U<|0<x.2.1)&&(!(((ML ((rd y7 x.1<|w64<|x.2.1 - 1).fr,(rd y7 x.1<|w64<|x.2.1 - 1).nu,(rd y7 x.1 x.2.1).fr,(rd y7 x.1 x.2.1).nu,())).getD ((A0,()),())).1.1))) then I (.inr<|.inl (A0,())) else I (.inl (x.1,(w64<|x.2.1+1),())) else G else G else G else G else G else G else I (.inr<|.inr ())
def pF:=AZ cP
def sE:Loop:=⟨[(0,.sl .note),(5,j6)],[],0,[(4,.bool)],pF⟩
def aiu:LF f206 [] [1,1,0,1,0,0] sE:=sq (v:= .nil) wT (b:=cP) kN
def V5(x:List A3×o4):Option ((Bool×D)×D):=if U (x.2.1<(j8 x.1:Int)) then I ((A0,()),()) else(AP (pF (x.1,0,())) (λa=>I (a,())) λa=>I ((Y,()),()))
def ww:Ent:=(206,G,⟨[.fz .note,j6],[.bool],V5⟩)
def afB:o6 ww:=sk (v:=t1<|t1<|.two (t1<|.one<|.loop sE) .nil) (fn:=f206) wT<|kC aiu kN
def aja:Cx:=cX [Gt,IK,VO] [] []
def wU:o9 aja:=v7<|gC HK<|gC Ip<|gC bE<|AI
def cQ(x:List Mark×o4):Rnd (List Mark×o4) (Bool×D) D:=if U (x.2.1<(j8 x.1:Int)) then if inb x.2.1 x.1.length then let a:=(rd aEs x.1 x.2.1).mf;let b:=(rd aEs x.1 x.2.1).mn;let c:=(rd aEs x.1 x.2.1).mu;(FU (a,())).bind λd=>if !d.1.1 then I (.inr<|.inl (A0,())) else(D7 (b,1,99,())).bind λe=>if !e.1.1 then I (.inr<|.inl (A0,())) else(D7 (c,1,999,())).bind λf=>if !f.1.1 then I (.inr<|.inl (A0,())) else if U (0<x.2.1) then if inb (w64<|x.2.1 - 1) x.1.length then if inb (w64<|x.2.1 - 1) x.1.length then(ML ((rd aEs x.1<|w64<|x.2.1 - 1).mf,(rd aEs x.1<|w64<|x.2.1 - 1).mn,a,b,())).bind λg=>if !g.1.1 then I (.inr<|.inl (A0,())) else I (.inl (x.1,(w64<|x.2.1+1),())) else G else G else I (.inl (x.1,(w64<|x.2.1+1),())) else G else I (.inr<|.inr ())
def pG:=AZ cQ
def tV:Loop:=⟨[(0,.sl .mark),(3,j6)],[],0,[(2,.bool)],pG⟩
def aiv:LF f207 [] [1,1,0,1,0,0] tV:=sq (v:= .nil) wU (b:=cQ) kN
def dB(x:List Mark×D):Option ((Bool×D)×D):=if U (12<(j8 x.1:Int)) then I ((A0,()),()) else(AP (pG (x.1,0,())) (λa=>I (a,())) λa=>I ((Y,()),()))
def wx:Ent:=(207,G,⟨[.fz .mark],[.bool],dB⟩)
def afC:o6 wx:=sk (v:=t1<|t1<|.two (t1<|.one<|.loop tV) .nil) (fn:=f207) wU<|kC aiv kN
def amU:Cx:=cX [] [] [(16,25)]
def aou:o9 amU:=v7<|AI
def eZ(x:Y4×o4):Option ((Bool×D)×D):=if U (x.1.1<=x.2.1) then let a:=((U<|x.2.1<x.1.2.2.1)||((U<|x.1.2.2.1<x.2.1)&&(U<|x.2.1<=x.1.1)));I ((a,()),()) else let b:=((U<|x.1.2.2.1<x.2.1)&&(U<|x.2.1<=x.1.1));I ((b,()),())
def yZ:Ent:=(208,G,⟨[Z6,j6],[.bool],eZ⟩)
def agf:o6 yZ:=sk (v:= .nil) (fn:=f208) aou kN
def akY:Cx:=cX [] [] [(22,28)]
def xh:o9 akY:=v7<|AI
def dC(x:List Mark×aEn):Rnd (List Mark×aEn) (o4) D:=if U (x.2.2.2.1<(j8 x.1:Int)) then if inb x.2.2.2.1 x.1.length then if An (U<|(rd aEs x.1 x.2.2.2.1).mf=x.2.1) (inb x.2.2.2.1 x.1.length) then if(U<|(rd aEs x.1 x.2.2.2.1).mf=x.2.1)&&(U<|(rd aEs x.1 x.2.2.2.1).mn=x.2.2.1) then I (.inr<|.inl x.2.2.2) else I (.inl (x.1,x.2.1,x.2.2.1,(w64<|x.2.2.2.1+1),())) else G else G else I (.inr<|.inr ())
def pT:=AZ dC
def uC:Loop:=⟨[(0,.sl .mark),(1,j6),(2,j6),(7,j6)],[],0,[(6,j6)],pT⟩
def akp:LF f209 [] [1,0,1,0,0] uC:=sq (v:= .nil) xh (b:=dC) kN
def KT(x:List Mark×y8):Option ((o4)×D):=(AP (pT (x.1,x.2.1,x.2.2.1,0,())) (λa=>I (a,())) λa=>I (((-1),()),()))
def VN:Ent:=(209,G,⟨[.fz .mark,j6,j6],[j6],KT⟩)
def bD:o6 VN:=sk (v:=t1<|.two (t1<|.one<|.loop uC) .nil) (fn:=f209) xh<|kC akp kN
def amc:Cx:=cX [Gt,IK,ww,wx,yZ,VN] [] [(109,120)]
def fL:o9 amc:=v7<|gC HK<|gC Ip<|gC afB<|gC afC<|gC agf<|gC bD<|AI
def dm(x:Y3×o4):Rnd (Y3×o4) (Bool×D) D:=if U (x.2.1<(j8 x.1.2.2.2.2.2.1:Int)) then if inb x.2.1 x.1.2.2.2.2.2.1.length then let a:=(rd y7 x.1.2.2.2.2.2.1 x.2.1).fr;let b:=(rd y7 x.1.2.2.2.2.2.1 x.2.1).nu;let ayv:=(rd y7 x.1.2.2.2.2.2.1 x.2.1).to;let c:=(rd y7 x.1.2.2.2.2.2.1 x.2.1).un;let azu:=(rd y7 x.1.2.2.2.2.2.1 x.2.1).tx;(if !decide (ayv=x.1.1) then I (.inr<|.inl (A0,())) else if U (a=x.1.1) then if U (x.1.2.2.1<=b) then I (.inr<|.inl (A0,())) else if U (x.1.2.1<c) then(KT (x.1.2.2.2.2.1,a,b,())).bind λZz=>if U (Zz.1.1<0) then I (.inr<|.inl (A0,())) else I (.inl (x.1,(w64<|x.2.1+1),())) else I (.inl (x.1,(w64<|x.2.1+1),())) else if U (x.1.2.1<c) then(KT (x.1.2.2.2.2.1,a,b,())).bind λazP=>if U (azP.1.1<0) then I (.inr<|.inl (A0,())) else I (.inl (x.1,(w64<|x.2.1+1),())) else I (.inl (x.1,(w64<|x.2.1+1),()))) else G else I (.inr<|.inr ())
def qK:=AZ dm
def wF:Loop:=⟨[(1,Z7),(7,j6)],[],4,[(2,.bool)],qK⟩
def alz:LF f162 [] [1,1,1,1,0,1,0,0] wF:=sq (v:= .nil) fL (b:=dm) kN
def dp(x:Y3×o4):Rnd (Y3×o4) (Bool×D) (Y3×D):=if U (x.2.1<(j8 x.1.2.2.2.2.1:Int)) then if inb x.2.1 x.1.2.2.2.2.1.length then let a:=(rd aEs x.1.2.2.2.2.1 x.2.1).mf;let b:=(rd aEs x.1.2.2.2.2.1 x.2.1).mn;let c:=(rd aEs x.1.2.2.2.2.1 x.2.1).mu;if(U<|c<=x.1.2.1)||((U<|a=x.1.1)&&(U<|x.1.2.2.1<=b)) then I (.inr<|.inl (A0,())) else I (.inl (x.1,(w64<|x.2.1+1),())) else G else I (.inr<|.inr (x.1,()))
def qL:=AZ dp
def wG:Loop:=⟨[(1,Z7),(5,j6)],[(1,Z7)],2,[(2,.bool)],qL⟩
def am2:LF f162 [] [1,1,1,0,1,0,0] wG:=sq (v:= .nil) fL (b:=dp) kN
def dq(x:Y3×o4):Rnd (Y3×o4) (Bool×D) (Y3×D):=if U (x.2.1<(j8 x.1.2.2.2.1:Int)) then if inb x.2.1 x.1.2.2.2.1.length then let a:=(rd y7 x.1.2.2.2.1 x.2.1).fr;let b:=(rd y7 x.1.2.2.2.1 x.2.1).nu;let d:=(rd y7 x.1.2.2.2.1 x.2.1).to;let c:=(rd y7 x.1.2.2.2.1 x.2.1).un;let e:=(rd y7 x.1.2.2.2.1 x.2.1).tx;if U (c<=x.1.2.1) then I (.inr<|.inl (A0,())) else(eZ ((a,b,d,c,e,()),x.1.1,())).bind λf=>if !f.1.1 then I (.inr<|.inl (A0,())) else if U (a=x.1.1) then if U (x.1.2.2.1<=b) then I (.inr<|.inl (A0,())) else(KT (x.1.2.2.2.2.1,a,b,())).bind λg=>if U (0<=g.1.1) then I (.inr<|.inl (A0,())) else I (.inl (x.1,(w64<|x.2.1+1),())) else(KT (x.1.2.2.2.2.1,a,b,())).bind λh=>if U (0<=h.1.1) then I (.inr<|.inl (A0,())) else I (.inl (x.1,(w64<|x.2.1+1),())) else G else I (.inr<|.inr (x.1,()))
def qM:=AZ dq
def wH:Loop:=⟨[(1,Z7),(3,j6)],[(1,Z7)],0,[(2,.bool)],qM⟩
def alp:LF f162 [] [1,1,0,1,0,0] wH:=sq (v:= .nil) fL (b:=dq) kN
def PX(x:Y3×D):Option ((Bool×D)×D):=(FU (x.1.1,())).bind λc=>if !c.1.1 then I ((A0,()),()) else(D7 (x.1.2.1,0,999,())).bind λd=>if !d.1.1 then I ((A0,()),()) else(D7 (x.1.2.2.1,1,100,())).bind λe=>if !e.1.1 then I ((A0,()),()) else(V5 (x.1.2.2.2.1,6,())).bind λf=>if !f.1.1 then I ((A0,()),()) else(dB (x.1.2.2.2.2.1,())).bind λg=>if !g.1.1 then I ((A0,()),()) else(V5 (x.1.2.2.2.2.2.1,6,())).bind λh=>if !h.1.1 then I ((A0,()),()) else(AP (qM (x.1,0,())) (λa=>I (a,())) λa=>(AP (qL (a.1,0,())) (λb=>I (b,())) λb=>(AP (qK (b.1,0,())) (λack=>I (ack,())) λack=>I ((Y,()),()))))
def gD:Ent:=(162,G,⟨[Z8],[.bool],PX⟩)
def tj:o6 gD:=sk (v:=t1<|t1<|.two (t1<|.one<|.loop wH)<|.two (t1<|.one<|.loop wG)<|.two (t1<|.one<|.loop wF) .nil) (fn:=f162) fL<|kC alp<|kC am2<|kC alz kN
def aka:Cx:=cX [] [] [(22,28)]
def xi:o9 aka:=v7<|AI
def dD(x:List A3×aEn):Rnd (List A3×aEn) (o4) D:=if U (x.2.2.2.1<(j8 x.1:Int)) then if inb x.2.2.2.1 x.1.length then if An (U<|(rd y7 x.1 x.2.2.2.1).fr=x.2.1) (inb x.2.2.2.1 x.1.length) then if(U<|(rd y7 x.1 x.2.2.2.1).fr=x.2.1)&&(U<|(rd y7 x.1 x.2.2.2.1).nu=x.2.2.1) then I (.inr<|.inl x.2.2.2) else I (.inl (x.1,x.2.1,x.2.2.1,(w64<|x.2.2.2.1+1),())) else G else G else I (.inr<|.inr ())
def pU:=AZ dD
def uD:Loop:=⟨[(0,.sl .note),(1,j6),(2,j6),(7,j6)],[],0,[(6,j6)],pU⟩
def akq:LF f175 [] [1,0,1,0,0] uD:=sq (v:= .nil) xi (b:=dD) kN
def G4(x:List A3×y8):Option ((o4)×D):=(AP (pU (x.1,x.2.1,x.2.2.1,0,())) (λa=>I (a,())) λa=>I (((-1),()),()))
def MR:Ent:=(175,G,⟨[.fz .note,j6,j6],[j6],G4⟩)
def NU:o6 MR:=sk (v:=t1<|.two (t1<|.one<|.loop uD) .nil) (fn:=f175) xi<|kC akq kN
def amN:Cx:=cX [] [] []
def zT:o9 amN:=v7<|AI
def dU(x:A1×o4):Rnd (A1×o4) (A1×A1×D) (A1×D):=if U (x.2.1<(x.1.size:Int)) then if inb x.2.1 x.1.size then if U ((bt x.1 x.2.1)=32) then if U (0<=x.2.1)&&U (x.2.1<=(x.1.size:Int)) then if U (0<=(w64<|x.2.1+1))&&U ((w64<|x.2.1+1)<=(x.1.size:Int)) then let a:=(x.1.extract (0)<|AK x.2.1);let b:=(x.1.extract (AK<|w64<|x.2.1+1)<|x.1.size);I (.inr<|.inl (a,b,())) else G else G else I (.inl (x.1,(w64<|x.2.1+1),())) else G else I (.inr<|.inr (x.1,()))
def qB:=AZ dU
def vo:Loop:=⟨[(0,.str),(4,j6)],[(0,.str)],0,[(2,.str),(3,.str)],qB⟩
def am5:LF f210 [] [1,0,1,0,0] vo:=sq (v:= .nil) zT (b:=dU) kN
def Ng(x:A1×D):Option ((A1×A1×D)×D):=(AP (qB (x.1,0,())) (λa=>I (a,())) λa=>I ((a.1,noB,()),()))
def gq:Ent:=(210,G,⟨[.str],[.str,.str],Ng⟩)
def sB:o6 gq:=sk (v:=t1<|.two (t1<|.one<|.loop vo) .nil) (fn:=f210) zT<|kC am5 kN
def akW:Cx:=cX [] [] []
def fa:o9 akW:=v7<|AI
def cw(x:Int×Y3×Y3×List A3×List Mark×o4):Rnd (Int×Y3×Y3×List A3×List Mark×o4) D (Int×Y3×Y3×List A3×List Mark×D):=if U (x.2.2.2.2.2.1<(j8 x.2.1.2.2.2.2.1:Int)) then if inb x.2.2.2.2.2.1 x.2.1.2.2.2.2.1.length then if U (x.1<(rd aEs x.2.1.2.2.2.2.1 x.2.2.2.2.2.1).mu) then if inb x.2.2.2.2.2.1 x.2.1.2.2.2.2.1.length then if Ab (x.2.2.2.2.1.length+([(rd aEs x.2.1.2.2.2.2.1 x.2.2.2.2.2.1)]:List Mark).length) then let a:=(w64<|x.2.2.2.2.2.1+1);I (.inl (x.1,x.2.1,x.2.2.1,x.2.2.2.1,(x.2.2.2.2.1++([(rd aEs x.2.1.2.2.2.2.1 x.2.2.2.2.2.1)]:List Mark)),a,())) else G else G else let b:=(w64<|x.2.2.2.2.2.1+1);I (.inl (x.1,x.2.1,x.2.2.1,x.2.2.2.1,x.2.2.2.2.1,b,())) else G else I (.inr<|.inr (x.1,x.2.1,x.2.2.1,x.2.2.2.1,x.2.2.2.2.1,()))
def pR:=AZ cw
def uS:Loop:=⟨[(1,j6),(2,Z7),(4,Z9),(5,.row 36 .note),(7,.row 61 .mark),(8,j6)],[(1,j6),(2,Z7),(4,Z9),(5,.row 36 .note),(7,.row 61 .mark)],2,[],pR⟩
def ajo:LF f211 [] [1,1,1,1,0,1,0,0] uS:=sq (v:= .nil) fa (b:=cw) kN
def dA(x:Int×Y3×Y3×List A3×o4):Rnd (Int×Y3×Y3×List A3×o4) D (Int×Y3×Y3×List A3×D):=if U (x.2.2.2.2.1<(j8 x.2.1.2.2.2.1:Int)) then if inb x.2.2.2.2.1 x.2.1.2.2.2.1.length then if U (x.1<(rd y7 x.2.1.2.2.2.1 x.2.2.2.2.1).un) then if inb x.2.2.2.2.1 x.2.1.2.2.2.1.length then if Ab (x.2.2.2.1.length+([(rd y7 x.2.1.2.2.2.1 x.2.2.2.2.1)]:List A3).length) then I (.inl (x.1,x.2.1,x.2.2.1,(x.2.2.2.1++([(rd y7 x.2.1.2.2.2.1 x.2.2.2.2.1)]:List A3)),(w64<|x.2.2.2.2.1+1),())) else G else G else I (.inl (x.1,x.2.1,x.2.2.1,x.2.2.2.1,(w64<|x.2.2.2.2.1+1),())) else G else I (.inr<|.inr (x.1,x.2.1,x.2.2.1,x.2.2.2.1,()))
def pS:=AZ dA
def uT:Loop:=⟨[(1,j6),(2,Z7),(4,Z9),(5,.row 36 .note),(6,j6)],[(1,j6),(2,Z7),(4,Z9),(5,.row 36 .note)],0,[],pS⟩
def ako:LF f211 [] [1,1,0,1,0,0] uT:=sq (v:= .nil) fa (b:=dA) kN
def dY(x:Y3×o4):Option ((Y3×D)×D):=(AP (pS (x.2.1,x.1,(0,0,0,([]:List A3),([]:List Mark),([]:List A3),()),([]:List A3),0,())) (λ_=>G) λb=>(AP (pR (b.1,b.2.1,b.2.2.1,b.2.2.2.1,([]:List Mark),0,())) (λ_=>G) λa=>I (((a.2.1.1,a.1,a.2.1.2.2.1,a.2.2.2.1,a.2.2.2.2.1,a.2.1.2.2.2.2.2),()),())))
def yQ:Ent:=(211,G,⟨[Z8,j6],[Z8],dY⟩)
def afo:o6 yQ:=sk (v:=t1<|t1<|.two (t1<|.one<|.loop uT)<|t1<|.two (t1<|.one<|.loop uS) .nil) (fn:=f211) fa<|kC ako<|kC ajo kN
def ahh:Cx:=cX [Vl,Np] [] []
def ajN:o9 ahh:=v7<|gC bU<|gC PF<|AI
def MP(x:Y4×D):Option ((A1×D)×D):=(Nj x).bind λe=>if !e.1.1 then I ((noB,()),()) else(DP (x.1.1,())).bind λa=>if U (a.1.1.size+(B [32]).size<=4611686018427387904) then(DP (x.1.2.1,())).bind λb=>if U ((a.1.1++(B [32])).size+b.1.1.size<=4611686018427387904) then if U (((a.1.1++(B [32]))++b.1.1).size+(B [32]).size<=4611686018427387904) then(DP (x.1.2.2.1,())).bind λc=>if U ((((a.1.1++(B [32]))++b.1.1)++(B [32])).size+c.1.1.size<=4611686018427387904) then if U (((((a.1.1++(B [32]))++b.1.1)++(B [32]))++c.1.1).size+(B [32]).size<=4611686018427387904) then(DP (x.1.2.2.2.1,())).bind λd=>if U ((((((a.1.1++(B [32]))++b.1.1)++(B [32]))++c.1.1)++(B [32])).size+d.1.1.size<=4611686018427387904) then if U (((((((a.1.1++(B [32]))++b.1.1)++(B [32]))++c.1.1)++(B [32]))++d.1.1).size+(B [32]).size<=4611686018427387904) then if U ((((((((a.1.1++(B [32]))++b.1.1)++(B [32]))++c.1.1)++(B [32]))++d.1.1)++(B [32])).size+x.1.2.2.2.2.1.size<=4611686018427387904) then let f:=((((((((a.1.1++(B [32]))++b.1.1)++(B [32]))++c.1.1)++(B [32]))++d.1.1)++(B [32]))++x.1.2.2.2.2.1);I ((f,()),()) else G else G else G else G else G else G else G else G
def Up:Ent:=(170,G,⟨[Z6],[.str],MP⟩)
def aM:o6 Up:=sk (v:= .nil) (fn:=f170) ajN kN
def amO:Cx:=cX [fX,gq] [] []
def zU:o9 amO:=v7<|gC qk<|gC sB<|AI
def dV(x:A1×Int×List Int×o4):Rnd (A1×Int×List Int×o4) D (A1×List Int×D):=if U (x.2.2.2.1<x.2.1) then(Ng (x.1,())).bind λa=>(Pb (a.1.1,())).bind λb=>if Ab (x.2.2.1.length+([b.1.1]:List Int).length) then I (.inl (a.1.2.1,x.2.1,(x.2.2.1++([b.1.1]:List Int)),(w64<|x.2.2.2.1+1),())) else G else I (.inr<|.inr (x.1,x.2.2.1,()))
def qC:=AZ dV
def vq:Loop:=⟨[(0,.str),(1,j6),(6,.row 3 .int),(7,j6)],[(0,.str),(6,.row 3 .int)],0,[],qC⟩
def am6:LF f215 [] [1,1,0,1,0,0] vq:=sq (v:= .nil) zU (b:=dV) kN
def PV(x:A1×o4):Option ((List Int×A1×D)×D):=(AP (qC (x.1,x.2.1,([]:List Int),0,())) (λ_=>G) λa=>I ((a.2.1,a.1,()),()))
def gr:Ent:=(215,G,⟨[.str,j6],[.row 3 .int,.str],PV⟩)
def sC:o6 gr:=sk (v:=t1<|t1<|.two (t1<|.one<|.loop vq) .nil) (fn:=f215) zU<|kC am6 kN
def ajf:Cx:=cX [Up,gr] [] [(29,32)]
def alc:o9 ajf:=v7<|gC aM<|gC sC<|AI
def RU(x:A1×D):Option ((Y4×Bool×D)×D):=(PV (x.1,4,())).bind λa=>if inb 0 a.1.1.length then if inb 1 a.1.1.length then if inb 2 a.1.1.length then if inb 3 a.1.1.length then if An (!(U<|x.1=noB)) ((MP (((rd aEo a.1.1 0),(rd aEo a.1.1 1),(rd aEo a.1.1 2),(rd aEo a.1.1 3),a.1.2),())).isSome) then if(U<|x.1=noB)||(!decide (((MP (((rd aEo a.1.1 0),(rd aEo a.1.1 1),(rd aEo a.1.1 2),(rd aEo a.1.1 3),a.1.2),())).getD ((noB,()),())).1.1=x.1)) then I (((0,0,0,0,noB,()),A0,()),()) else I ((((rd aEo a.1.1 0),(rd aEo a.1.1 1),(rd aEo a.1.1 2),(rd aEo a.1.1 3),a.1.2),Y,()),()) else G else G else G else G else G
def x8:Ent:=(212,G,⟨[.str],[Z6,.bool],RU⟩)
def aey:o6 x8:=sk (v:= .nil) (fn:=f212) alc kN
def agC:Cx:=cX [VO] [] [(18,32)]
def tQ:o9 agC:=v7<|gC bE<|AI
def ap(x:List A3×Y4×List A3×Bool×o4):Rnd (List A3×Y4×List A3×Bool×o4) D (Y4×List A3×Bool×D):=if U (x.2.2.2.2.1<(j8 x.1:Int)) then(BT (X:=List A3×Y4×List A3×Bool×o4) (λa=>if inb a.2.2.2.2.1 a.1.length then if Ab (a.2.2.1.length+([(rd y7 a.1 a.2.2.2.2.1)]:List A3).length) then I (.inl (a.1,a.2.1,(a.2.2.1++([(rd y7 a.1 a.2.2.2.2.1)]:List A3)),a.2.2.2.1,(w64<|a.2.2.2.2.1+1),())) else G else G)<|(if An (!x.2.2.2.1) (inb x.2.2.2.2.1 x.1.length) then if An (!x.2.2.2.1) (inb x.2.2.2.2.1 x.1.length) then if An (!x.2.2.2.1) ((ML (x.2.1.1,x.2.1.2.1,(rd y7 x.1 x.2.2.2.2.1).fr,(rd y7 x.1 x.2.2.2.2.1).nu,())).isSome) then if(!x.2.2.2.1)&&(((ML (x.2.1.1,x.2.1.2.1,(rd y7 x.1 x.2.2.2.2.1).fr,(rd y7 x.1 x.2.2.2.2.1).nu,())).getD ((A0,()),())).1.1) then if Ab (x.2.2.1.length+([(A3.mk x.2.1.1 x.2.1.2.1 x.2.1.2.2.1 x.2.1.2.2.2.1 x.2.1.2.2.2.2.1)]:List A3).length) then I (.inr (x.1,x.2.1,(x.2.2.1++([(A3.mk x.2.1.1 x.2.1.2.1 x.2.1.2.2.1 x.2.1.2.2.2.1 x.2.1.2.2.2.2.1)]:List A3)),Y,x.2.2.2.2)) else G else I (.inr x) else G else G else G)) else I (.inr<|.inr (x.2.1,x.2.2.1,x.2.2.2.1,()))
def oU:=AZ ap
def adg:Loop:=⟨[(0,.sl .note),(3,Z5),(5,.row 36 .note),(6,.bool),(7,j6)],[(3,Z5),(5,.row 36 .note),(6,.bool)],0,[],oU⟩
def agO:LF f214 [] [1,1,1,0,1,0,0] adg:=sq (v:=t1<|.two (.one<|.join [(0,.sl .note),(3,Z5),(5,.row 36 .note),(6,.bool),(7,j6)] .nil .nil) .nil) tQ (b:=ap) kN
def PB(x:List A3×Y4×D):Option ((List A3×D)×D):=(AP (oU (x.1,x.2.1,([]:List A3),A0,0,())) (λ_=>G) λa=>(if !a.2.2.1 then if Ab (a.2.1.length+([(A3.mk a.1.1 a.1.2.1 a.1.2.2.1 a.1.2.2.2.1 a.1.2.2.2.2.1)]:List A3).length) then I (((a.2.1++([(A3.mk a.1.1 a.1.2.1 a.1.2.2.1 a.1.2.2.2.1 a.1.2.2.2.2.1)]:List A3)),()),()) else G else I ((a.2.1,()),())))
def qU:Ent:=(214,G,⟨[.fz .note,Z6],[.row 36 .note],PB⟩)
def adB:o6 qU:=sk (v:=t1<|t1<|t1<|.two (t1<|.one<|.loop adg) .nil) (fn:=f214) tQ<|kC agO kN
def agD:Cx:=cX [VO] [] [(18,32)]
def tT:o9 agD:=v7<|gC bE<|AI
def bC(x:List Mark×Y5×List Mark×Bool×o4):Rnd (List Mark×Y5×List Mark×Bool×o4) D (Y5×List Mark×Bool×D):=if U (x.2.2.2.2.1<(j8 x.1:Int)) then(BT (X:=List Mark×Y5×List Mark×Bool×o4) (λa=>if inb a.2.2.2.2.1 a.1.length then if Ab (a.2.2.1.length+([(rd aEs a.1 a.2.2.2.2.1)]:List Mark).length) then I (.inl (a.1,a.2.1,(a.2.2.1++([(rd aEs a.1 a.2.2.2.2.1)]:List Mark)),a.2.2.2.1,(w64<|a.2.2.2.2.1+1),())) else G else G)<|(if An (!x.2.2.2.1) (inb x.2.2.2.2.1 x.1.length) then if An (!x.2.2.2.1) (inb x.2.2.2.2.1 x.1.length) then if An (!x.2.2.2.1) ((ML (x.2.1.1,x.2.1.2.1,(rd aEs x.1 x.2.2.2.2.1).mf,(rd aEs x.1 x.2.2.2.2.1).mn,())).isSome) then if(!x.2.2.2.1)&&(((ML (x.2.1.1,x.2.1.2.1,(rd aEs x.1 x.2.2.2.2.1).mf,(rd aEs x.1 x.2.2.2.2.1).mn,())).getD ((A0,()),())).1.1) then if Ab (x.2.2.1.length+([(Mark.mk x.2.1.1 x.2.1.2.1 x.2.1.2.2.1)]:List Mark).length) then I (.inr (x.1,x.2.1,(x.2.2.1++([(Mark.mk x.2.1.1 x.2.1.2.1 x.2.1.2.2.1)]:List Mark)),Y,x.2.2.2.2)) else G else I (.inr x) else G else G else G)) else I (.inr<|.inr (x.2.1,x.2.2.1,x.2.2.2.1,()))
def oW:=AZ bC
def adh:Loop:=⟨[(0,.sl .mark),(3,Z10),(5,.row 61 .mark),(6,.bool),(7,j6)],[(3,Z10),(5,.row 61 .mark),(6,.bool)],0,[],oW⟩
def agP:LF f218 [] [1,1,1,0,1,0,0] adh:=sq (v:=t1<|.two (.one<|.join [(0,.sl .mark),(3,Z10),(5,.row 61 .mark),(6,.bool),(7,j6)] .nil .nil) .nil) tT (b:=bC) kN
def RE(x:List Mark×Y5×D):Option ((List Mark×D)×D):=(AP (oW (x.1,x.2.1,([]:List Mark),A0,0,())) (λ_=>G) λa=>(if !a.2.2.1 then if Ab (a.2.1.length+([(Mark.mk a.1.1 a.1.2.1 a.1.2.2.1)]:List Mark).length) then I (((a.2.1++([(Mark.mk a.1.1 a.1.2.1 a.1.2.2.1)]:List Mark)),()),()) else G else I ((a.2.1,()),())))
def bf:Ent:=(218,G,⟨[.fz .mark,Z11],[.row 61 .mark],RE⟩)
def oV:o6 bf:=sk (v:=t1<|t1<|t1<|.two (t1<|.one<|.loop adh) .nil) (fn:=f218) tT<|kC agP kN
def ajb:Cx:=cX [Vl,MR,VN] [] [(35,42)]
def alY:o9 ajb:=v7<|gC bU<|gC NU<|gC bD<|AI
def dE(x:Y3×Y4×D):Option ((Bool×D)×D):=(Nj x.2).bind λb=>if b.1.1 then if U (x.1.2.1<x.2.1.2.2.2.1) then(G4 (x.1.2.2.2.1,x.2.1.1,x.2.1.2.1,())).bind λc=>if U (c.1.1<0) then(KT (x.1.2.2.2.2.1,x.2.1.1,x.2.1.2.1,())).bind λa=>if An (U<|a.1.1<0) ((G4 (x.1.2.2.2.2.2.1,x.2.1.1,x.2.1.2.1,())).isSome) then let d:=((U<|a.1.1<0)&&(U<|((G4 (x.1.2.2.2.2.2.1,x.2.1.1,x.2.1.2.1,())).getD ((0,()),())).1.1<0));I ((d,()),()) else G else if An A0 ((G4 (x.1.2.2.2.2.2.1,x.2.1.1,x.2.1.2.1,())).isSome) then I ((A0,()),()) else G else if An A0 ((G4 (x.1.2.2.2.2.2.1,x.2.1.1,x.2.1.2.1,())).isSome) then I ((A0,()),()) else G else if An A0 ((G4 (x.1.2.2.2.2.2.1,x.2.1.1,x.2.1.2.1,())).isSome) then I ((A0,()),()) else G
def wy:Ent:=(247,G,⟨[Z8,Z6],[.bool],dE⟩)
def afD:o6 wy:=sk (v:= .nil) (fn:=f247) alY kN
def akX:Cx:=cX [qU,bf,wy] [] []
def amt:o9 akX:=v7<|gC adB<|gC oV<|gC afD<|AI
def VT(x:Y3×Y4×D):Option ((Y3×Bool×D)×D):=(dE x).bind λc=>if !c.1.1 then I ((x.1,A0,()),()) else if !decide (x.2.1.2.2.1=x.1.1) then(PB (x.1.2.2.2.1,x.2)).bind λa=>let d:=(U<|(w64<|(j8 a.1.1:Int)+(j8 x.1.2.2.2.2.1:Int))<=12);I (((x.1.1,x.1.2.1,x.1.2.2.1,a.1.1,x.1.2.2.2.2),d,()),()) else(PB (x.1.2.2.2.2.2.1,x.2)).bind λe=>(RE (x.1.2.2.2.2.1,(x.2.1.1,x.2.1.2.1,x.2.1.2.2.2.1,()),())).bind λb=>let f:=(U<|(w64<|(j8 x.1.2.2.2.1:Int)+(j8 b.1.1:Int))<=12);I (((x.1.1,x.1.2.1,x.1.2.2.1,x.1.2.2.2.1,b.1.1,e.1),f,()),())
def yR:Ent:=(213,G,⟨[Z8,Z6],[Z8,.bool],VT⟩)
def afp:o6 yR:=sk (v:= .nil) (fn:=f213) amt kN
def amW:Cx:=cX [MR,bf] [] []
def aow:o9 amW:=v7<|gC NU<|gC oV<|AI
def ec(x:Y3×y8):Option ((Y3×Bool×D)×D):=(G4 (x.1.2.2.2.1,x.2)).bind λa=>if U (a.1.1<0) then I ((x.1,A0,()),()) else if inb a.1.1 x.1.2.2.2.1.length then let d:=(rd y7 x.1.2.2.2.1 a.1.1).fr;let e:=(rd y7 x.1.2.2.2.1 a.1.1).nu;let f:=(rd y7 x.1.2.2.2.1 a.1.1).to;let b:=(rd y7 x.1.2.2.2.1 a.1.1).un;let g:=(rd y7 x.1.2.2.2.1 a.1.1).tx;if U (0<=a.1.1)&&U (a.1.1<=(j8 x.1.2.2.2.1:Int)) then if Ab (([]:List A3).length+(BR (AK a.1.1) x.1.2.2.2.1).length) then if U (0<=(w64<|a.1.1+1))&&U ((w64<|a.1.1+1)<=(j8 x.1.2.2.2.1:Int)) then if Ab ((([]:List A3)++(BR (AK a.1.1) x.1.2.2.2.1)).length+(Bo (AK<|w64<|a.1.1+1) x.1.2.2.2.1).length) then(RE (x.1.2.2.2.2.1,(x.2.1,x.2.2.1,b,()),())).bind λc=>I (((x.1.1,x.1.2.1,x.1.2.2.1,((([]:List A3)++(BR (AK a.1.1) x.1.2.2.2.1))++(Bo (AK<|w64<|a.1.1+1) x.1.2.2.2.1)),c.1.1,x.1.2.2.2.2.2),Y,()),()) else G else G else G else G else G
def yb:Ent:=(216,G,⟨[Z8,j6,j6],[Z8,.bool],ec⟩)
def agi:o6 yb:=sk (v:= .nil) (fn:=f216) aow kN
def amX:Cx:=cX [MR] [] []
def aox:o9 amX:=v7<|gC NU<|AI
def ee(x:Y3×y8):Option ((Y3×Bool×D)×D):=(G4 (x.1.2.2.2.2.2.1,x.2)).bind λa=>if U (a.1.1<0) then I ((x.1,A0,()),()) else if U (0<=a.1.1)&&U (a.1.1<=(j8 x.1.2.2.2.2.2.1:Int)) then if Ab (([]:List A3).length+(BR (AK a.1.1) x.1.2.2.2.2.2.1).length) then if U (0<=(w64<|a.1.1+1))&&U ((w64<|a.1.1+1)<=(j8 x.1.2.2.2.2.2.1:Int)) then if Ab ((([]:List A3)++(BR (AK a.1.1) x.1.2.2.2.2.2.1)).length+(Bo (AK<|w64<|a.1.1+1) x.1.2.2.2.2.2.1).length) then I (((x.1.1,x.1.2.1,x.1.2.2.1,x.1.2.2.2.1,x.1.2.2.2.2.1,((([]:List A3)++(BR (AK a.1.1) x.1.2.2.2.2.2.1))++(Bo (AK<|w64<|a.1.1+1) x.1.2.2.2.2.2.1)),()),Y,()),()) else G else G else G else G
def zA:Ent:=(217,G,⟨[Z8,j6,j6],[Z8,.bool],ee⟩)
def agj:o6 zA:=sk (v:= .nil) (fn:=f217) aox kN
def amV:Cx:=cX [fX,Np,MR,VN,gq,yQ,x8,yR,qU,gr,yb,zA,bf] [] [(81,85),(157,174),(192,201),(228,237)]
def aov:o9 amV:=v7<|gC qk<|gC PF<|gC NU<|gC bD<|gC sB<|gC afo<|gC aey<|gC afp<|gC adB<|gC sC<|gC agi<|gC agj<|gC oV<|AI
def VY(x:Y3×A1×D):Option ((Y3×Bool×D)×D):=(Ng x.2).bind λc=>let l:=(U<|c.1.1=(B [116,105,109,101]));(if l then(Pb c.1.2).bind λi=>if U (i.1.1<=x.1.2.1) then I ((x.1,A0,()),()) else(dY (x.1,i.1)).bind λm=>I ((m.1.1,Y,()),()) else let n:=(U<|c.1.1=(B [111,119,110]));(if n then(RU c.1.2).bind λg=>if !g.1.2.1 then I ((x.1,A0,()),()) else if !decide (g.1.1.1=x.1.1) then I ((x.1,A0,()),()) else if !decide (g.1.1.2.1=x.1.2.2.1) then I ((x.1,A0,()),()) else(VT ((x.1.1,x.1.2.1,(w64<|x.1.2.2.1+1),x.1.2.2.2),g.1.1,())).bind λo=>I (o.1,()) else let p:=(U<|c.1.1=(B [116,97,107,101]));(if p then(RU c.1.2).bind λh=>if(!h.1.2.1)||(U<|h.1.1.1=x.1.1) then I ((x.1,A0,()),()) else(VT (x.1,h.1.1,())).bind λq=>I (q.1,()) else let r:=(U<|c.1.1=(B [110,101,120,116]));(if r then(Pb c.1.2).bind λj=>if U (j.1.1<=x.1.2.2.1) then I ((x.1,A0,()),()) else I (((x.1.1,x.1.2.1,j.1.1,x.1.2.2.2),Y,()),()) else(BT (X:=Y3×Y3×A1×A1×Bool×D) (λb=>if b.2.2.2.2.1 then(RU (b.2.2.2.1,())).bind λd=>if !d.1.2.1 then I ((b.1,A0,()),()) else(G4 (b.1.2.2.2.1,d.1.1.1,d.1.1.2.1,())).bind λs=>if U (0<=s.1.1) then I ((b.1,A0,()),()) else(G4 (b.1.2.2.2.2.2.1,d.1.1.1,d.1.1.2.1,())).bind λt=>if U (0<=t.1.1) then I ((b.1,A0,()),()) else if U (b.2.2.1=(B [104,101,108,100])) then(PB (b.1.2.2.2.1,d.1.1,())).bind λu=>I (((b.1.1,b.1.2.1,b.1.2.2.1,u.1.1,b.1.2.2.2.2),Y,()),()) else(PB (b.1.2.2.2.2.2.1,d.1.1,())).bind λv=>I (((b.1.1,b.1.2.1,b.1.2.2.1,b.1.2.2.2.1,b.1.2.2.2.2.1,v.1),Y,()),()) else(PV (b.2.2.2.1,3,())).bind λa=>if An (!(!decide (a.1.2.1=noB))) (inb 0 a.1.1.length) then if An (!(!decide (a.1.2.1=noB))) ((DP ((rd aEo a.1.1 0),())).isSome) then if An (!(!decide (a.1.2.1=noB))) (U<|(((DP ((rd aEo a.1.1 0),())).getD ((noB,()),())).1.1).size+(B [32]).size<=4611686018427387904) then if An (!(!decide (a.1.2.1=noB))) (inb 1 a.1.1.length) then if An (!(!decide (a.1.2.1=noB))) ((DP ((rd aEo a.1.1 1),())).isSome) then if An (!(!decide (a.1.2.1=noB))) (U<|((((DP ((rd aEo a.1.1 0),())).getD ((noB,()),())).1.1)++(B [32])).size+(((DP ((rd aEo a.1.1 1),())).getD ((noB,()),())).1.1).size<=4611686018427387904) then if An (!(!decide (a.1.2.1=noB))) (U<|(((((DP ((rd aEo a.1.1 0),())).getD ((noB,()),())).1.1)++(B [32]))++(((DP ((rd aEo a.1.1 1),())).getD ((noB,()),())).1.1)).size+(B [32]).size<=4611686018427387904) then if An (!(!decide (a.1.2.1=noB))) (inb 2 a.1.1.length) then if An (!(!decide (a.1.2.1=noB))) ((DP ((rd aEo a.1.1 2),())).isSome) then if An (!(!decide (a.1.2.1=noB))) (U<|((((((DP ((rd aEo a.1.1 0),())).getD ((noB,()),())).1.1)++(B [32]))++(((DP ((rd aEo a.1.1 1),())).getD ((noB,()),())).1.1))++(B [32])).size+(((DP ((rd aEo a.1.1 2),())).getD ((noB,()),())).1.1).size<=4611686018427387904) then if(!decide (a.1.2.1=noB))||(!decide (b.2.2.2.1=(((((((DP ((rd aEo a.1.1 0),())).getD ((noB,()),())).1.1)++(B [32]))++(((DP ((rd aEo a.1.1 1),())).getD ((noB,()),())).1.1))++(B [32]))++(((DP ((rd aEo a.1.1 2),())).getD ((noB,()),())).1.1)))) then I ((b.1,A0,()),()) else let w:=(U<|b.2.2.1=(B [108,101,116]));(if w then if inb 0 a.1.1.length then if inb 1 a.1.1.length then(G4 (b.1.2.2.2.1,(rd aEo a.1.1 0),(rd aEo a.1.1 1),())).bind λe=>if An (!(U<|e.1.1<0)) (inb e.1.1 b.1.2.2.2.1.length) then if An (!(U<|e.1.1<0)) (inb 2 a.1.1.length) then if(U<|e.1.1<0)||(!decide ((rd y7 b.1.2.2.2.1 e.1.1).un=(rd aEo a.1.1 2))) then I ((b.1,A0,()),()) else if inb 0 a.1.1.length then if inb 1 a.1.1.length then(ec (b.1,(rd aEo a.1.1 0),(rd aEo a.1.1 1),())).bind λy=>I (y.1,()) else G else G else G else G else G else G else let z:=(U<|b.2.2.1=(B [101,97,116]));(if z then if inb 0 a.1.1.length then if inb 1 a.1.1.length then(G4 (b.1.2.2.2.2.2.1,(rd aEo a.1.1 0),(rd aEo a.1.1 1),())).bind λf=>if An (!(U<|f.1.1<0)) (inb f.1.1 b.1.2.2.2.2.2.1.length) then if An (!(U<|f.1.1<0)) (inb 2 a.1.1.length) then if(U<|f.1.1<0)||(!decide ((rd y7 b.1.2.2.2.2.2.1 f.1.1).un=(rd aEo a.1.1 2))) then I ((b.1,A0,()),()) else if inb 0 a.1.1.length then if inb 1 a.1.1.length then(ee (b.1,(rd aEo a.1.1 0),(rd aEo a.1.1 1),())).bind λA=>I (A.1,()) else G else G else G else G else G else G else let C:=(U<|b.2.2.1=(B [109,97,114,107]));(if C then if inb 0 a.1.1.length then if inb 1 a.1.1.length then(KT (b.1.2.2.2.2.1,(rd aEo a.1.1 0),(rd aEo a.1.1 1),())).bind λE=>if U (0<=E.1.1) then I ((b.1,A0,()),()) else if inb 0 a.1.1.length then if inb 1 a.1.1.length then if inb 2 a.1.1.length then(RE (b.1.2.2.2.2.1,((rd aEo a.1.1 0),(rd aEo a.1.1 1),(rd aEo a.1.1 2),()),())).bind λF=>I (((b.1.1,b.1.2.1,b.1.2.2.1,b.1.2.2.2.1,F.1.1,b.1.2.2.2.2.2),Y,()),()) else G else G else G else G else G else I ((b.1,A0,()),())))) else G else G else G else G else G else G else G else G else G else G) (let k:=(U<|c.1.1=(B [104,101,108,100]));(if k then I (.inr (x.1,(0,0,0,([]:List A3),([]:List Mark),([]:List A3),()),c.1.1,c.1.2.1,k,())) else let H:=(U<|c.1.1=(B [105,110,98,111,120]));I (.inr (x.1,(0,0,0,([]:List A3),([]:List Mark),([]:List A3),()),c.1.1,c.1.2.1,H,())))))))))
def ya:Ent:=(163,G,⟨[Z8,.str],[Z8,.bool],VY⟩)
def agh:o6 ya:=sk (v:=t1<|t1<|.two (t1<|.one<|t1<|t1<|t1<|t1<|t1<|t1<|t1<|t1<|.join [(2,Z7),(4,Z9),(6,.str),(7,.str),(105,.bool)] .nil .nil) .nil) (fn:=f163) aov kN
def akb:Cx:=cX [] [] []
def amv:o9 akb:=v7<|AI
def Rg(x:Y3×D):Option ((Y3×D)×D):=if Ab (([]:List A3).length+x.1.2.2.2.1.length) then if Ab (([]:List Mark).length+x.1.2.2.2.2.1.length) then if Ab (([]:List A3).length+x.1.2.2.2.2.2.1.length) then I (((x.1.1,x.1.2.1,x.1.2.2.1,(([]:List A3)++x.1.2.2.2.1),(([]:List Mark)++x.1.2.2.2.2.1),(([]:List A3)++x.1.2.2.2.2.2.1),()),()),()) else G else G else G
def xn:Ent:=(164,G,⟨[Z8],[Z4],Rg⟩)
def afd:o6 xn:=sk (v:= .nil) (fn:=f164) amv kN
def an7:Cx:=cX [gD,ya,xn] [] [(22,24)]
def aoM:o9 an7:=v7<|gC tj<|gC agh<|gC afd<|AI
def Ro(x:Y3×A1×D):Option ((Y3×Bool×D)×D):=(PX (x.1,())).bind λb=>if !b.1.1 then I (((0,0,0,([]:List A3),([]:List Mark),([]:List A3),()),A0,()),()) else(Rg (x.1,())).bind λc=>(VY (c.1.1,x.2)).bind λa=>if An (!(!a.1.2.1)) ((PX (a.1.1,())).isSome) then if(!a.1.2.1)||(!(((PX (a.1.1,())).getD ((A0,()),())).1.1)) then(Rg (x.1,())).bind λd=>I ((d.1.1,A0,()),()) else(Rg (a.1.1,())).bind λe=>I ((e.1.1,Y,()),()) else G
def gF:Ent:=(125,G,⟨[Z8,.str],[Z4,.bool],Ro⟩)
def tn:o6 gF:=sk (v:= .nil) (fn:=f125) aoM kN
def an6:Cx:=cX [IK,uW,gF] [] []
def zZ:o9 an6:=v7<|gC Ip<|gC aen<|gC tn<|AI
def VV(x:List A1×Y3×Y3×o4):Rnd (List A1×Y3×Y3×o4) (Y3×Bool×D) (Y3×Y3×D):=if U (x.2.2.2.1<(j8 x.1:Int)) then if inb x.2.2.2.1 x.1.length then(Ro (x.2.2.1,(rd aEv x.1 x.2.2.2.1),())).bind λa=>if !a.1.2.1 then I (.inr<|.inl ((0,0,0,([]:List A3),([]:List Mark),([]:List A3),()),A0,())) else I (.inl (x.1,x.2.1,a.1.1,(w64<|x.2.2.2.1+1),())) else G else I (.inr<|.inr (x.2.1,x.2.2.1,()))
def qN:=AZ VV
def wI:Loop:=⟨[(1,.sl .str),(4,Z9),(6,Z9),(7,j6)],[(4,Z9),(6,Z9)],0,[(4,Z9),(5,.bool)],qN⟩
def alq:LF f88 [] [1,1,1,0,1,0,0] wI:=sq (v:= .nil) zZ (b:=VV) kN
def Rm(x:Int×List A1×D):Option ((Y3×Bool×D)×D):=(br (x.1,())).bind λb=>(FU (x.1,())).bind λc=>if !c.1.1 then I ((b.1.1,A0,()),()) else(AP (qN (x.2.1,(0,0,0,([]:List A3),([]:List Mark),([]:List A3),()),b.1.1,0,())) (λa=>I (a,())) λa=>I ((a.2.1,Y,()),()))
def gE:Ent:=(88,G,⟨[j6,.fz .str],[Z4,.bool],Rm⟩)
def tl:o6 gE:=sk (v:=t1<|t1<|t1<|.two (t1<|.one<|.loop wI) .nil) (fn:=f88) zZ<|kC alq kN
def amR:Cx:=cX [Uo,gE] [] []
def aos:o9 amR:=v7<|gC aJ<|gC tl<|AI
def G7(x:Y1×D):Option ((Y3×Bool×D)×D):=(LH (x.1.2.2.1,())).bind λa=>(Rm (x.1.1,a.1.1,())).bind λb=>I (b.1,())
def Iw:Ent:=(46,G,⟨[Z12],[Z4,.bool],G7⟩)
def JX:o6 Iw:=sk (v:= .nil) (fn:=f46) aos kN
def akQ:Cx:=cX [] [] []
def amq:o9 akQ:=v7<|AI
def dT(x:y8):Option ((o4)×D):=if U (x.1<x.2.1) then I ((x.1,()),()) else I (x.2,())
def fj:Ent:=(133,G,⟨[j6,j6],[j6],dT⟩)
def adx:o6 fj:=sk (v:= .nil) (fn:=f133) amq kN
def ajg:Cx:=cX [IK] [] []
def al4:o9 ajg:=v7<|gC Ip<|AI
def RV(x:y8):Option ((o4)×D):=(BT (X:=Int×Int×Bool×D) (λa=>if a.2.2.1 then I (((-1),()),()) else if U (a.1<a.2.1) then I (((w64<|a.1+1),()),()) else I (((w64<|a.1 - 1),()),()))<|(FU (x.1,())).bind λb=>if !b.1.1 then I (.inr (x.1,x.2.1,Y,())) else(FU x.2).bind λc=>if !c.1.1 then I (.inr (x.1,x.2.1,Y,())) else I (.inr (x.1,x.2.1,(U<|x.1=x.2.1),())))
def rV:Ent:=(89,G,⟨[j6,j6],[j6],RV⟩)
def adm:o6 rV:=sk (v:=t1<|.two (.one<|.join [(0,j6),(1,j6),(5,.bool)] .nil .nil) .nil) (fn:=f89) al4 kN
def akA:Cx:=cX [Gt,IK,rV] [] [(65,67),(88,91)]
def amy:o9 akA:=v7<|gC HK<|gC Ip<|gC adm<|AI
def VW(x:Y6×D):Option ((Bool×D)×D):=(D7 (x.1.1,1,3,())).bind λa=>if !a.1.1 then I ((A0,()),()) else(FU (x.1.2.1,())).bind λb=>if !b.1.1 then I ((A0,()),()) else(FU (x.1.2.2.1,())).bind λc=>if !c.1.1 then I ((A0,()),()) else(FU (x.1.2.2.2.1,())).bind λd=>if !d.1.1 then I ((A0,()),()) else(FU (x.1.2.2.2.2.2.1,())).bind λe=>if !e.1.1 then I ((A0,()),()) else(D7 (x.1.2.2.2.2.1,1,99,())).bind λf=>if !f.1.1 then I ((A0,()),()) else(D7 (x.1.2.2.2.2.2.2.1,1,999,())).bind λg=>if !g.1.1 then I ((A0,()),()) else if !decide (x.1.1=1) then(RV (x.1.2.2.1,x.1.2.2.2.2.2.1,())).bind λh=>if U (h.1.1=x.1.2.1) then if U (x.1.2.2.2.2.2.2.2.1=0) then let i:=((U<|x.1.2.2.2.2.2.2.2.2.1=0)&&(U<|x.1.2.2.2.2.2.2.2.2.2.1=noB));I ((i,()),()) else I ((A0,()),()) else I ((A0,()),()) else(RV (x.1.2.1,x.1.2.2.2.2.2.1,())).bind λj=>if U (j.1.1=x.1.2.2.1) then(D7 (x.1.2.2.2.2.2.2.2.1,1,24,())).bind λk=>if k.1.1 then(D7 (x.1.2.2.2.2.2.2.2.2.1,0,999,())).bind λl=>let m:=(l.1.1&&(U<|(x.1.2.2.2.2.2.2.2.2.2.1.size:Int)=4));I ((m,()),()) else I ((A0,()),()) else I ((A0,()),())
def fq:Ent:=(173,G,⟨[Z13],[.bool],VW⟩)
def adu:o6 fq:=sk (v:= .nil) (fn:=f173) amy kN
def amT:Cx:=cX [] [] []
def aot:o9 amT:=v7<|AI
def Nh(x:List Int×o4):Option ((List Int×D)×D):=if Ab (x.1.length+([(w8<|w64<|Ay x.2.1 256),(w8<|BJ x.2.1 256)]:List Int).length) then I (((x.1++([(w8<|w64<|Ay x.2.1 256),(w8<|BJ x.2.1 256)]:List Int)),()),()) else G
def yY:Ent:=(220,G,⟨[.row 5 .u8,j6],[.row 5 .u8],Nh⟩)
def age:o6 yY:=sk (v:= .nil) (fn:=f220) aot kN
def ajj:Cx:=cX [] [] []
def wV:o9 ajj:=v7<|AI
def c8(x:List Int×y8):Rnd (List Int×y8) D (o4):=if U (x.2.2.1<(j8 x.1:Int)) then if inb x.2.2.1 x.1.length then let a:=(BJ (w64<|x.2.1+(w64<|(w64<|(BJ x.2.2.1 1000)+1) * (w64<|rd aEt x.1 x.2.2.1))) 65521);I (.inl (x.1,a,(w64<|x.2.2.1+1),())) else G else I (.inr<|.inr (x.2.1,()))
def aZ:=AZ c8
def tp:Loop:=⟨[(0,.sl .u8),(3,j6),(4,j6)],[(3,j6)],0,[],aZ⟩
def aiy:LF f221 [] [1,1,0,1,0,0] tp:=sq (v:= .nil) wV (b:=c8) kN
def RW(x:List Int×D):Option ((o4)×D):=(AP (aZ (x.1,0,0,())) (λ_=>G) λa=>I (a,()))
def x9:Ent:=(221,G,⟨[.fz .u8],[j6],RW⟩)
def aez:o6 x9:=sk (v:=t1<|t1<|.two (t1<|.one<|.loop tp) .nil) (fn:=f221) wV<|kC aiy kN
def ahn:Cx:=cX [fq,yY,x9] [] []
def ajS:o9 ahn:=v7<|gC adu<|gC age<|gC aez<|AI
def PG(x:Y6×D):Option ((List Int×D)×D):=(VW x).bind λc=>if !c.1.1 then I ((([]:List Int),()),()) else if Ab (([]:List Int).length+([(w8 x.1.1),(w8 x.1.2.1),(w8 x.1.2.2.1),(w8 x.1.2.2.2.1),(w8 x.1.2.2.2.2.1),(w8 x.1.2.2.2.2.2.1)]:List Int).length) then(Nh ((([]:List Int)++([(w8 x.1.1),(w8 x.1.2.1),(w8 x.1.2.2.1),(w8 x.1.2.2.2.1),(w8 x.1.2.2.2.2.1),(w8 x.1.2.2.2.2.2.1)]:List Int)),x.1.2.2.2.2.2.2.1,())).bind λa=>if U (x.1.1=1) then if Ab (a.1.1.length+([(w8 x.1.2.2.2.2.2.2.2.1)]:List Int).length) then(Nh ((a.1.1++([(w8 x.1.2.2.2.2.2.2.2.1)]:List Int)),x.1.2.2.2.2.2.2.2.2.1,())).bind λb=>if Ab x.1.2.2.2.2.2.2.2.2.2.1.size then if Ab (b.1.1.length+(BA x.1.2.2.2.2.2.2.2.2.2.1).length) then(RW ((b.1.1++(BA x.1.2.2.2.2.2.2.2.2.2.1)),())).bind λd=>(Nh ((b.1.1++(BA x.1.2.2.2.2.2.2.2.2.2.1)),d.1)).bind λe=>I (e.1,()) else G else G else G else(RW a.1).bind λf=>(Nh (a.1.1,f.1)).bind λg=>I (g.1,()) else G
def rC:Ent:=(172,G,⟨[Z13],[.row 5 .u8],PG⟩)
def adV:o6 rC:=sk (v:= .nil) (fn:=f172) ajS kN
def afX:Cx:=cX [rC] [] [(9,11)]
def ags:o9 afX:=v7<|gC adV<|AI
def bJ(x:List Int×D):Option ((Y6×Bool×D)×D):=if(!decide ((j8 x.1:Int)=10))&&(!decide ((j8 x.1:Int)=17)) then I (((0,0,0,0,0,0,0,0,0,noB,()),A0,()),()) else if inb 0 x.1.length then if inb 1 x.1.length then if inb 2 x.1.length then if inb 3 x.1.length then if inb 4 x.1.length then if inb 5 x.1.length then if inb 6 x.1.length then if inb 7 x.1.length then let b:=(w64<|rd aEt x.1 0);let c:=(w64<|rd aEt x.1 1);let d:=(w64<|rd aEt x.1 2);let e:=(w64<|rd aEt x.1 3);let f:=(w64<|rd aEt x.1 4);let g:=(w64<|rd aEt x.1 5);let h:=(w64<|(w64<|(w64<|rd aEt x.1 6) * 256)+(w64<|rd aEt x.1 7));(BT (X:=List Int×Y6×Y6×D) (λa=>(PG a.2.2).bind λi=>if !decide ((BF i.1.1)=(BF a.1)) then I (((0,0,0,0,0,0,0,0,0,noB,()),A0,()),()) else I ((a.2.2.1,Y,()),()))<|(if U (10<(j8 x.1:Int)) then if inb 8 x.1.length then let j:=(w64<|rd aEt x.1 8);(if inb 9 x.1.length then if inb 10 x.1.length then let k:=(w64<|(w64<|(w64<|rd aEt x.1 9) * 256)+(w64<|rd aEt x.1 10));(if(U (0<=15)&&U (15<=(j8 x.1:Int)))&&(U (0<=11)&&U (11<=15)) then let l:=(BF<|Bo (AK 11)<|BR (AK 15) x.1);I (.inr (x.1,(0,0,0,0,0,0,0,0,0,noB,()),(b,c,d,e,f,g,h,j,k,l,()),())) else G) else G else G) else G else I (.inr (x.1,(0,0,0,0,0,0,0,0,0,noB,()),(b,c,d,e,f,g,h,0,0,noB,()),())))) else G else G else G else G else G else G else G else G
def pq:Ent:=(134,G,⟨[.fz .u8],[Z13,.bool],bJ⟩)
def ad4:o6 pq:=sk (v:=t1<|t1<|t1<|.join [(0,.sl .u8),(2,Z14),(4,Z14)] .nil .nil) (fn:=f134) ags kN
def akc:Cx:=cX [Gt,Uo] [] [(12,18),(41,44)]
def amw:o9 akc:=v7<|gC HK<|gC aJ<|AI
def Na(x:Y7×D):Option ((Bool×D)×D):=if An (!(U<|2400<(x.1.1.size:Int))) ((D7 (x.1.2.1,0,(x.1.1.size:Int),())).isSome) then if(U<|2400<(x.1.1.size:Int))||(!(((D7 (x.1.2.1,0,(x.1.1.size:Int),())).getD ((A0,()),())).1.1)) then I ((A0,()),()) else(LH (x.1.1,())).bind λa=>if U (0<=x.1.2.1)&&U (x.1.2.1<=(x.1.1.size:Int)) then(LH ((x.1.1.extract (0)<|AK x.1.2.1),())).bind λb=>let c:=((U<|a.1.2.1=(x.1.1.size:Int))&&(U<|b.1.2.1=x.1.2.1));I ((c,()),()) else G else G
def Ri:Ent:=(98,G,⟨[Z15],[.bool],Na⟩)
def UJ:o6 Ri:=sk (v:= .nil) (fn:=f98) amw kN
def ajU:Cx:=cX [] [] []
def alT:o9 ajU:=v7<|AI
def LS(x:o4):Option ((o4)×D):=let a:=(w64<|Ay (w64<|(w64<|x.1+4) - 1) 4);I ((a,()),())
def V0:Ent:=(130,G,⟨[j6],[j6],LS⟩)
def aU:o6 V0:=sk (v:= .nil) (fn:=f130) alT kN
def apP:Cx:=cX [Gt] [] [(8,9)]
def apv:o9 apP:=v7<|gC HK<|AI
def MS(x:y8):Option ((Bool×D)×D):=(D7 (x.1,1,6,())).bind λa=>if An a.1.1 ((D7 (x.2.1,0,999,())).isSome) then let b:=(a.1.1&&(((D7 (x.2.1,0,999,())).getD ((A0,()),())).1.1));I ((b,()),()) else G
def W5:Ent:=(171,G,⟨[j6,j6],[.bool],MS⟩)
def ct:o6 W5:=sk (v:= .nil) (fn:=f171) apv kN
def akS:Cx:=cX [W5] [] [(10,13)]
def amr:o9 akS:=v7<|gC ct<|AI
def Re(x:Int×Y8×D):Option ((Bool×D)×D):=(MS (x.1,x.2.1.1,())).bind λa=>let b:=(a.1.1&&(U<|(x.2.1.2.1.size:Int)=4));I ((b,()),())
def fl:Ent:=(131,G,⟨[j6,Z16],[.bool],Re⟩)
def ady:o6 fl:=sk (v:= .nil) (fn:=f131) amr kN
def ahb:Cx:=cX [Gt,IK,V0,fl] [] []
def rF:o9 ahb:=v7<|gC HK<|gC Ip<|gC aU<|gC ady<|AI
def bP(x:Y9×y8):Rnd (Y9×y8) (Bool×D) (Y9×o4):=if U (x.2.2.1<x.2.1) then if inb x.2.2.1 x.1.2.2.2.2.2.1.length then if inb x.2.1 x.1.2.2.2.2.2.1.length then if U ((rd aEx x.1.2.2.2.2.2.1 x.2.2.1).nu=(rd aEx x.1.2.2.2.2.2.1 x.2.1).nu) then I (.inr<|.inl (A0,())) else I (.inl (x.1,x.2.1,(w64<|x.2.2.1+1),())) else G else G else I (.inr<|.inr (x.1,x.2.1,()))
def oy:=AZ bP
def adz:Loop:=⟨[(1,Z17),(3,j6),(4,j6)],[(1,Z17),(3,j6)],2,[(2,.bool)],oy⟩
def ahA:LF f99 [] [1,1,0,1,0,0,1,0,0,1,1,0,0] adz:=sq (v:= .nil) rF (b:=bP) kN
def bQ(x:Y9×o4):Rnd (Y9×o4) (Bool×D) D:=if U (x.2.1<(j8 x.1.2.2.2.2.2.1:Int)) then(LS (x.1.2.2.2.2.1,())).bind λb=>if inb x.2.1 x.1.2.2.2.2.2.1.length then(Re (b.1.1,((rd aEx x.1.2.2.2.2.2.1 x.2.1).nu,(rd aEx x.1.2.2.2.2.2.1 x.2.1).da,()),())).bind λc=>if !c.1.1 then I (.inr<|.inl (A0,())) else(AP (oy (x.1,x.2.1,0,())) (λa=>I<|.inr<|.inl a) λa=>I<|.inl (a.1,(w64<|a.2.1+1),())) else G else I (.inr<|.inr ())
def oz:=AZ bQ
def ae0:Loop:=⟨[(1,Z17),(3,j6)],[],0,[(2,.bool)],oz⟩
def ahE:LF f99 [] [1,1,0,1,0,0] ae0:=sq (v:=t1<|.two (.one<|t1<|t1<|.one<|.loop adz) .nil) rF (b:=bQ)<|kC ahA kN
def cN(x:Y9×D):Option ((Bool×D)×D):=(FU (x.1.1,())).bind λb=>if !b.1.1 then I ((A0,()),()) else(FU (x.1.2.2.1,())).bind λc=>if !c.1.1 then I ((A0,()),()) else(D7 (x.1.2.1,1,99,())).bind λd=>if !d.1.1 then I ((A0,()),()) else(D7 (x.1.2.2.2.1,1,999,())).bind λe=>if !e.1.1 then I ((A0,()),()) else(D7 (x.1.2.2.2.2.1,1,24,())).bind λf=>if !f.1.1 then I ((A0,()),()) else if U (14<(j8 x.1.2.2.2.2.2.1:Int)) then I ((A0,()),()) else(AP (oz (x.1,0,())) (λa=>I (a,())) λa=>I ((Y,()),()))
def vE:Ent:=(99,G,⟨[Z18],[.bool],cN⟩)
def aeM:o6 vE:=sk (v:=t1<|t1<|.two (t1<|.one<|.loop ae0) .nil) (fn:=f99) rF<|kC ahE kN
def ajh:Cx:=cX [Iw,IK,Uo,gE,Ri,vE] [] [(64,65),(100,112)]
def re:o9 ajh:=v7<|gC JX<|gC Ip<|gC aJ<|gC tl<|gC UJ<|gC aeM<|AI
def cV(x:Y1×y8):Rnd (Y1×y8) (Bool×D) (Y1×o4):=if U (x.2.2.1<x.2.1) then if inb x.2.2.1 x.1.2.2.2.2.1.length then if inb x.2.1 x.1.2.2.2.2.1.length then if An (U<|(rd aEl x.1.2.2.2.2.1 x.2.2.1).fr=(rd aEl x.1.2.2.2.2.1 x.2.1).fr) (inb x.2.2.1 x.1.2.2.2.2.1.length) then if An (U<|(rd aEl x.1.2.2.2.2.1 x.2.2.1).fr=(rd aEl x.1.2.2.2.2.1 x.2.1).fr) (inb x.2.1 x.1.2.2.2.2.1.length) then if(U<|(rd aEl x.1.2.2.2.2.1 x.2.2.1).fr=(rd aEl x.1.2.2.2.2.1 x.2.1).fr)&&(U<|(rd aEl x.1.2.2.2.2.1 x.2.2.1).nu=(rd aEl x.1.2.2.2.2.1 x.2.1).nu) then I (.inr<|.inl (A0,())) else I (.inl (x.1,x.2.1,(w64<|x.2.2.1+1),())) else G else G else G else G else I (.inr<|.inr (x.1,x.2.1,()))
def pH:=AZ cV
def tY:Loop:=⟨[(1,Z19),(9,j6),(10,j6)],[(1,Z19),(9,j6)],2,[(2,.bool)],pH⟩
def aiq:LF f57 [] [1,1,1,1,1,1,0,1,0,0,1,0,0,1,1,0,0] tY:=sq (v:= .nil) re (b:=cV) kN
def bq(x:Y1×o4):Rnd (Y1×o4) (Bool×D) D:=if U (x.2.1<(j8 x.1.2.2.2.2.1:Int)) then if inb x.2.1 x.1.2.2.2.2.1.length then(cN (((rd aEl x.1.2.2.2.2.1 x.2.1).fr,(rd aEl x.1.2.2.2.2.1 x.2.1).nu,(rd aEl x.1.2.2.2.2.1 x.2.1).to,(rd aEl x.1.2.2.2.2.1 x.2.1).un,(rd aEl x.1.2.2.2.2.1 x.2.1).sz,(rd aEl x.1.2.2.2.2.1 x.2.1).got,()),())).bind λb=>if !b.1.1 then I (.inr<|.inl (A0,())) else(AP (pH (x.1,x.2.1,0,())) (λa=>I<|.inr<|.inl a) λa=>I<|.inl (a.1,(w64<|a.2.1+1),())) else G else I (.inr<|.inr ())
def aV:=AZ bq
def tZ:Loop:=⟨[(1,Z19),(9,j6)],[],0,[(2,.bool)],aV⟩
def aiw:LF f57 [] [1,1,1,1,1,1,0,1,0,0] tZ:=sq (v:=t1<|.two (.one<|t1<|t1<|.one<|.loop tY) .nil) re (b:=bq)<|kC aiq kN
def Iv(x:Y1×D):Option ((Bool×D)×D):=(BT (X:=Y1×D) (λa=>if U (0<=a.1.2.2.2.1)&&U (a.1.2.2.2.1<=(a.1.2.2.1.size:Int)) then(LH ((a.1.2.2.1.extract (0)<|AK a.1.2.2.2.1),())).bind λc=>(Rm (a.1.1,c.1.1,())).bind λd=>(G7 a).bind λe=>if(!e.1.2.1)||(!d.1.2.1) then I ((A0,()),()) else(AP (aV (a.1,0,())) (λb=>I (b,())) λb=>I ((Y,()),())) else G)<|(FU (x.1.1,())).bind λf=>if !f.1.1 then I (.inl ((A0,()),())) else(Na ((x.1.2.2.1,x.1.2.2.2.1,()),())).bind λg=>if !g.1.1 then I (.inl ((A0,()),())) else if U (3<(j8 x.1.2.2.2.2.1:Int)) then I (.inl ((A0,()),())) else if !x.1.2.1 then if U (0<(j8 x.1.2.2.2.2.1:Int)) then I (.inl ((A0,()),())) else I (.inr x) else I (.inr x))
def KS:Ent:=(57,G,⟨[Z12],[.bool],Iv⟩)
def LG:o6 KS:=sk (v:=t1<|.join [(1,Z19)] .nil<|t1<|t1<|t1<|t1<|.two (t1<|.one<|.loop tZ) .nil) (fn:=f57) re<|kC aiw kN
def akV:Cx:=cX [] [] []
def xg:o9 akV:=v7<|AI
def cq(x:Y1×Y1×List AE×o4):Rnd (Y1×Y1×List AE×o4) D (Y1×Y1×List AE×D):=if U (x.2.2.2.1<(j8 x.1.2.2.2.2.1:Int)) then if inb x.2.2.2.1 x.1.2.2.2.2.1.length then let b:=(rd aEl x.1.2.2.2.2.1 x.2.2.2.1).fr;let c:=(rd aEl x.1.2.2.2.2.1 x.2.2.2.1).nu;let d:=(rd aEl x.1.2.2.2.2.1 x.2.2.2.1).to;let e:=(rd aEl x.1.2.2.2.2.1 x.2.2.2.1).un;let f:=(rd aEl x.1.2.2.2.2.1 x.2.2.2.1).sz;let a:=(rd aEl x.1.2.2.2.2.1 x.2.2.2.1).got;if Ab (([]:List AN).length+a.length) then if Ab (x.2.2.1.length+([(AE.mk b c d e f<|([]:List AN)++a)]:List AE).length) then I (.inl (x.1,x.2.1,(x.2.2.1++([(AE.mk b c d e f<|([]:List AN)++a)]:List AE)),(w64<|x.2.2.2.1+1),())) else G else G else G else I (.inr<|.inr (x.1,x.2.1,x.2.2.1,()))
def pQ:=AZ cq
def uR:Loop:=⟨[(1,Z19),(2,Z20),(3,.row 107 .half),(4,j6)],[(1,Z19),(2,Z20),(3,.row 107 .half)],0,[],pQ⟩
def akn:LF f94 [] [1,1,0,1,0,0] uR:=sq (v:= .nil) xg (b:=cq) kN
def Gr(x:Y1×D):Option ((Y1×D)×D):=(AP (pQ (x.1,(0,A0,noB,0,([]:List AE),()),([]:List AE),0,())) (λ_=>G) λa=>I (((a.1.1,a.1.2.1,a.1.2.2.1,a.1.2.2.2.1,a.2.2),()),()))
def MN:Ent:=(94,G,⟨[Z12],[Z1],Gr⟩)
def NX:o6 MN:=sk (v:=t1<|t1<|.two (t1<|.one<|.loop uR) .nil) (fn:=f94) xg<|kC akn kN
def ajW:Cx:=cX [Np] [] []
def alV:o9 ajW:=v7<|gC PF<|AI
def V3(x:aEn):Option ((A1×D)×D):=(DP (x.1,())).bind λa=>if U (a.1.1.size+(B [32]).size<=4611686018427387904) then(DP (x.2.1,())).bind λb=>if U ((a.1.1++(B [32])).size+b.1.1.size<=4611686018427387904) then if U (((a.1.1++(B [32]))++b.1.1).size+(B [32]).size<=4611686018427387904) then(DP x.2.2).bind λc=>if U ((((a.1.1++(B [32]))++b.1.1)++(B [32])).size+c.1.1.size<=4611686018427387904) then let d:=((((a.1.1++(B [32]))++b.1.1)++(B [32]))++c.1.1);I ((d,()),()) else G else G else G else G
def rJ:Ent:=(169,G,⟨[j6,j6,j6],[.str],V3⟩)
def adf:o6 rJ:=sk (v:= .nil) (fn:=f169) alV kN
def agE:Cx:=cX [Ri] [] []
def aiI:o9 agE:=v7<|gC UJ<|AI
def PC(x:Y7×D):Option ((Y7×D)×D):=(Na x).bind λa=>if !a.1.1 then I (((noB,0,()),()),()) else I (((x.1.1,(x.1.1.size:Int),()),()),())
def bg:Ent:=(166,G,⟨[Z15],[Z15],PC⟩)
def oX:o6 bg:=sk (v:= .nil) (fn:=f166) aiI kN
def amY:Cx:=cX [Np] [] []
def aoy:o9 amY:=v7<|gC PF<|AI
def PW(x:A1×D):Option ((A1×D)×D):=(DP ((x.1.size:Int),())).bind λa=>if U (a.1.1.size+(B [58]).size<=4611686018427387904) then if U ((a.1.1++(B [58])).size+x.1.size<=4611686018427387904) then if U (((a.1.1++(B [58]))++x.1).size+(B [59]).size<=4611686018427387904) then let b:=(((a.1.1++(B [58]))++x.1)++(B [59]));I ((b,()),()) else G else G else G
def gB:Ent:=(127,G,⟨[.str],[.str],PW⟩)
def tW:o6 gB:=sk (v:= .nil) (fn:=f127) aoy kN
def ajc:Cx:=cX [Gt] [] []
def alZ:o9 ajc:=v7<|gC HK<|AI
def dF(x:A1×D):Option ((Bool×D)×D):=(D7 ((x.1.size:Int),1,60,())).bind λa=>I (a.1,())
def rT:Ent:=(219,G,⟨[.str],[.bool],dF⟩)
def adi:o6 rT:=sk (v:= .nil) (fn:=f219) alZ kN
def ajd:Cx:=cX [Ri,gB,rT] [] [(14,21)]
def ala:o9 ajd:=v7<|gC UJ<|gC tW<|gC adi<|AI
def RS(x:Y7×A1×D):Option ((Y7×Bool×D)×D):=(Na (x.1,())).bind λc=>if !c.1.1 then I (((noB,0,()),A0,()),()) else(dF x.2).bind λa=>if An (!(!a.1.1)) ((PW x.2).isSome) then if(!a.1.1)||(U<|2400<(w64<|(x.1.1.size:Int)+((((PW x.2).getD ((noB,()),())).1.1).size:Int))) then I ((x.1,A0,()),()) else(PW x.2).bind λb=>if U (x.1.1.size+b.1.1.size<=4611686018427387904) then I ((((x.1.1++b.1.1),x.1.2),Y,()),()) else G else G
def wz:Ent:=(165,G,⟨[Z15,.str],[Z15,.bool],RS⟩)
def afE:o6 wz:=sk (v:= .nil) (fn:=f165) ala kN
def ahe:Cx:=cX [Ri,gB,rT] [] []
def vY:o9 ahe:=v7<|gC UJ<|gC tW<|gC adi<|AI
def RG(x:List A1×Y7×Y7×A1×o4):Rnd (List A1×Y7×Y7×A1×o4) (Y7×Bool×D) (Y7×Y7×A1×D):=if U (x.2.2.2.2.1<(j8 x.1:Int)) then if inb x.2.2.2.2.1 x.1.length then(dF ((rd aEv x.1 x.2.2.2.2.1),())).bind λb=>if !b.1.1 then I (.inr<|.inl (x.2.1,A0,())) else if inb x.2.2.2.2.1 x.1.length then(PW ((rd aEv x.1 x.2.2.2.2.1),())).bind λa=>if U (x.2.2.2.1.size+a.1.1.size<=4611686018427387904) then I (.inl (x.1,x.2.1,x.2.2.1,(x.2.2.2.1++a.1.1),(w64<|x.2.2.2.2.1+1),())) else G else G else G else I (.inr<|.inr (x.2.1,x.2.2.1,x.2.2.2.1,()))
def aK:=AZ RG
def ae3:Loop:=⟨[(1,.sl .str),(2,Z21),(4,Z21),(6,.str),(7,j6)],[(2,Z21),(4,Z21),(6,.str)],0,[(4,Z21),(5,.bool)],aK⟩
def ahG:LF f180 [] [1,1,1,0,1,0,0] ae3:=sq (v:= .nil) vY (b:=RG) kN
def RP(x:Y7×List A1×D):Option ((Y7×Bool×D)×D):=(Na (x.1,())).bind λb=>if !b.1.1 then I (((noB,0,()),A0,()),()) else(AP (aK (x.2.1,x.1,(noB,0,()),noB,0,())) (λa=>I (a,())) λa=>(if U (2400<(a.2.2.1.size:Int)) then I ((a.1,A0,()),()) else I (((a.2.2.1,(a.2.2.1.size:Int),()),Y,()),())))
def qy:Ent:=(180,G,⟨[Z15,.fz .str],[Z15,.bool],RP⟩)
def adR:o6 qy:=sk (v:=t1<|t1<|t1<|.two (t1<|.one<|.loop ae3) .nil) (fn:=f180) vY<|kC ahG kN
def aji:Cx:=cX [gD,Np,Up] [] []
def ch:o9 aji:=v7<|gC tj<|gC PF<|gC aM<|AI
def bu(x:Y3×List A1×o4):Rnd (Y3×List A1×o4) D (List A1×D):=if U (x.2.2.1<(j8 x.1.2.2.2.2.2.1:Int)) then if inb x.2.2.1 x.1.2.2.2.2.2.1.length then(MP (((rd y7 x.1.2.2.2.2.2.1 x.2.2.1).fr,(rd y7 x.1.2.2.2.2.2.1 x.2.2.1).nu,(rd y7 x.1.2.2.2.2.2.1 x.2.2.1).to,(rd y7 x.1.2.2.2.2.2.1 x.2.2.1).un,(rd y7 x.1.2.2.2.2.2.1 x.2.2.1).tx,()),())).bind λa=>if U ((B [105,110,98,111,120,32]).size+a.1.1.size<=4611686018427387904) then if Ab (x.2.1.length+([((B [105,110,98,111,120,32])++a.1.1)]:List A1).length) then I (.inl (x.1,(x.2.1++([((B [105,110,98,111,120,32])++a.1.1)]:List A1)),(w64<|x.2.2.1+1),())) else G else G else G else I (.inr<|.inr (x.2.1,()))
def aW:=AZ bu
def td:Loop:=⟨[(1,Z7),(3,.row 9 .str),(7,j6)],[(3,.row 9 .str)],4,[],aW⟩
def aio:LF f181 [] [1,1,1,1,1,1,1,0,1,0,0] td:=sq (v:= .nil) ch (b:=bu) kN
def bw(x:Y3×List A1×o4):Rnd (Y3×List A1×o4) D (Y3×List A1×D):=if U (x.2.2.1<(j8 x.1.2.2.2.1:Int)) then if inb x.2.2.1 x.1.2.2.2.1.length then(MP (((rd y7 x.1.2.2.2.1 x.2.2.1).fr,(rd y7 x.1.2.2.2.1 x.2.2.1).nu,(rd y7 x.1.2.2.2.1 x.2.2.1).to,(rd y7 x.1.2.2.2.1 x.2.2.1).un,(rd y7 x.1.2.2.2.1 x.2.2.1).tx,()),())).bind λa=>if U ((B [104,101,108,100,32]).size+a.1.1.size<=4611686018427387904) then if Ab (x.2.1.length+([((B [104,101,108,100,32])++a.1.1)]:List A1).length) then I (.inl (x.1,(x.2.1++([((B [104,101,108,100,32])++a.1.1)]:List A1)),(w64<|x.2.2.1+1),())) else G else G else G else I (.inr<|.inr (x.1,x.2.1,()))
def aX:=AZ bw
def te:Loop:=⟨[(1,Z7),(3,.row 9 .str),(6,j6)],[(1,Z7),(3,.row 9 .str)],2,[],aX⟩
def air:LF f181 [] [1,1,1,1,1,1,0,1,0,0] te:=sq (v:= .nil) ch (b:=bw) kN
def bz(x:Y3×List A1×o4):Rnd (Y3×List A1×o4) D (Y3×List A1×D):=if U (x.2.2.1<(j8 x.1.2.2.2.2.1:Int)) then if inb x.2.2.1 x.1.2.2.2.2.1.length then let d:=(rd aEs x.1.2.2.2.2.1 x.2.2.1).mf;let e:=(rd aEs x.1.2.2.2.2.1 x.2.2.1).mn;let f:=(rd aEs x.1.2.2.2.2.1 x.2.2.1).mu;(DP (d,())).bind λa=>if U ((B [109,97,114,107,32]).size+a.1.1.size<=4611686018427387904) then if U (((B [109,97,114,107,32])++a.1.1).size+(B [32]).size<=4611686018427387904) then(DP (e,())).bind λb=>if U ((((B [109,97,114,107,32])++a.1.1)++(B [32])).size+b.1.1.size<=4611686018427387904) then if U (((((B [109,97,114,107,32])++a.1.1)++(B [32]))++b.1.1).size+(B [32]).size<=4611686018427387904) then(DP (f,())).bind λc=>if U ((((((B [109,97,114,107,32])++a.1.1)++(B [32]))++b.1.1)++(B [32])).size+c.1.1.size<=4611686018427387904) then if Ab (x.2.1.length+([((((((B [109,97,114,107,32])++a.1.1)++(B [32]))++b.1.1)++(B [32]))++c.1.1)]:List A1).length) then I (.inl (x.1,(x.2.1++([((((((B [109,97,114,107,32])++a.1.1)++(B [32]))++b.1.1)++(B [32]))++c.1.1)]:List A1)),(w64<|x.2.2.1+1),())) else G else G else G else G else G else G else G else I (.inr<|.inr (x.1,x.2.1,()))
def aY:=AZ bz
def th:Loop:=⟨[(1,Z7),(3,.row 9 .str),(4,j6)],[(1,Z7),(3,.row 9 .str)],0,[],aY⟩
def aix:LF f181 [] [1,1,1,1,1,0,1,0,0] th:=sq (v:= .nil) ch (b:=bz) kN
def V7(x:Y3×D):Option ((List A1×D)×D):=(PX x).bind λg=>if !g.1.1 then I ((([]:List A1),()),()) else(BT (X:=Y3×List A1×D) (λa=>(BT (X:=Y3×List A1×D) (λd=>(AP (aY (d.1,d.2.1,0,())) (λ_=>G) λe=>(AP (aX (e.1,e.2.1,0,())) (λ_=>G) λf=>(AP (aW (f.1,f.2.1,0,())) (λ_=>G) λh=>I (h,())))))<|(if U (1<a.1.2.2.1) then(DP (a.1.2.2.1,())).bind λb=>if U ((B [110,101,120,116,32]).size+b.1.1.size<=4611686018427387904) then if Ab (a.2.1.length+([((B [110,101,120,116,32])++b.1.1)]:List A1).length) then I (.inr (a.1,(a.2.1++([((B [110,101,120,116,32])++b.1.1)]:List A1)),())) else G else G else I (.inr a))))<|(if U (0<x.1.2.1) then(DP (x.1.2.1,())).bind λc=>if U ((B [116,105,109,101,32]).size+c.1.1.size<=4611686018427387904) then if Ab (([]:List A1).length+([((B [116,105,109,101,32])++c.1.1)]:List A1).length) then I (.inr (x.1,(([]:List A1)++([((B [116,105,109,101,32])++c.1.1)]:List A1)),())) else G else G else I (.inr (x.1,([]:List A1),()))))
def rW:Ent:=(181,G,⟨[Z8],[.row 9 .str],V7⟩)
def adn:o6 rW:=sk (v:=t1<|t1<|t1<|.join [(1,Z7),(3,.row 9 .str)] .nil<|.join [(1,Z7),(3,.row 9 .str)] .nil<|.two (t1<|.one<|.loop th)<|.two (t1<|.one<|.loop te)<|.two (t1<|.one<|.loop td) .nil) (fn:=f181) ch<|kC aix<|kC air<|kC aio kN
def ajV:Cx:=cX [Iw,gF,wz,bg,qy,rW] [] []
def alU:o9 ajV:=v7<|gC JX<|gC tn<|gC afE<|gC oX<|gC adR<|gC adn<|AI
def KQ(x:Y1×A1×Bool×D):Option ((Y1×Bool×D)×D):=(G7 (x.1,())).bind λb=>(Ro (b.1.1,x.2.1,())).bind λe=>if !e.1.2.1 then I ((x.1,A0,()),()) else(RS ((x.1.2.2.1,x.1.2.2.2.1,()),x.2.1,())).bind λc=>(BT (X:=Bool×Y1×Y1×Y7×Bool×D) (λa=>if !a.2.2.2.2.1 then I ((a.2.1,A0,()),()) else if a.1 then(PC (a.2.2.2.1,())).bind λd=>I (((a.2.1.1,a.2.1.2.1,d.1.1.1,d.1.1.2.1,a.2.1.2.2.2.2),Y,()),()) else I (((a.2.1.1,a.2.1.2.1,a.2.2.2.1.1,a.2.2.2.1.2.1,a.2.1.2.2.2.2),Y,()),()))<|(if !c.1.2.1 then(V7 (b.1.1,())).bind λf=>(RP ((x.1.2.2.1,x.1.2.2.2.1,()),f.1)).bind λg=>(RS (g.1.1,x.2.1,())).bind λh=>I (.inr (x.2.2.1,x.1,(0,A0,noB,0,([]:List AE),()),h.1)) else I (.inr (x.2.2.1,x.1,(0,A0,noB,0,([]:List AE),()),c.1))))
def RR:Ent:=(176,G,⟨[Z12,.str,.bool],[Z12,.bool],KQ⟩)
def UE:o6 RR:=sk (v:=t1<|t1<|t1<|t1<|t1<|.join [(2,.bool),(3,Z19),(6,Z20),(12,Z21),(13,.bool)] .nil .nil) (fn:=f176) alU kN
def ahc:Cx:=cX [] [] []
def ajL:o9 ahc:=v7<|AI
def cO(x:Int×Y6×D):Option ((Y6×D)×D):=I (((x.1,x.2.1.2.2.1,x.2.1.2.1,x.2.1.2.2.2.1,x.2.1.2.2.2.2.1,x.2.1.2.2.2.2.2.1,x.2.1.2.2.2.2.2.2.1,0,0,noB,()),()),())
def vF:Ent:=(222,G,⟨[j6,Z13],[Z13],cO⟩)
def aej:o6 vF:=sk (v:= .nil) (fn:=f222) ajL kN
def akU:Cx:=cX [] [] []
def ams:o9 akU:=v7<|AI
def PQ(x:List AE×o4):Option ((List AE×D)×D):=if U (0<=x.2.1)&&U (x.2.1<=(j8 x.1:Int)) then if Ab (([]:List AE).length+(BR (AK x.2.1) x.1).length) then if U (0<=(w64<|x.2.1+1))&&U ((w64<|x.2.1+1)<=(j8 x.1:Int)) then if Ab ((([]:List AE)++(BR (AK x.2.1) x.1)).length+(Bo (AK<|w64<|x.2.1+1) x.1).length) then I ((((([]:List AE)++(BR (AK x.2.1) x.1))++(Bo (AK<|w64<|x.2.1+1) x.1)),()),()) else G else G else G else G
def fp:Ent:=(225,G,⟨[.fz .half,j6],[.row 107 .half],PQ⟩)
def ae1:o6 fp:=sk (v:= .nil) (fn:=f225) ams kN
def akT:Cx:=cX [] [] [(22,28)]
def xf:o9 akT:=v7<|AI
def cn(x:List AE×aEn):Rnd (List AE×aEn) (o4) D:=if U (x.2.2.2.1<(j8 x.1:Int)) then if inb x.2.2.2.1 x.1.length then if An (U<|(rd aEl x.1 x.2.2.2.1).fr=x.2.1) (inb x.2.2.2.1 x.1.length) then if(U<|(rd aEl x.1 x.2.2.2.1).fr=x.2.1)&&(U<|(rd aEl x.1 x.2.2.2.1).nu=x.2.2.1) then I (.inr<|.inl x.2.2.2) else I (.inl (x.1,x.2.1,x.2.2.1,(w64<|x.2.2.2.1+1),())) else G else G else I (.inr<|.inr ())
def pP:=AZ cn
def uQ:Loop:=⟨[(0,.sl .half),(1,j6),(2,j6),(7,j6)],[],0,[(6,j6)],pP⟩
def akm:LF f248 [] [1,0,1,0,0] uQ:=sq (v:= .nil) xf (b:=cn) kN
def dW(x:List AE×y8):Option ((o4)×D):=(AP (pP (x.1,x.2.1,x.2.2.1,0,())) (λa=>I (a,())) λa=>I (((-1),()),()))
def yP:Ent:=(248,G,⟨[.fz .half,j6,j6],[j6],dW⟩)
def afn:o6 yP:=sk (v:=t1<|.two (t1<|.one<|.loop uQ) .nil) (fn:=f248) xf<|kC akm kN
def amS:Cx:=cX [fp,yP] [] []
def zW:o9 amS:=v7<|gC ae1<|gC afn<|AI
def dX(x:Y1×Y6×Y1×Int×Y9×List AN×o4):Rnd (Y1×Y6×Y1×Int×Y9×List AN×o4) D (Y1×Y6×Y1×Int×Y9×List AN×D):=if U (x.2.2.2.2.2.2.1<(j8 x.2.2.2.2.1.2.2.2.2.2.1:Int)) then if inb x.2.2.2.2.2.2.1 x.2.2.2.2.1.2.2.2.2.2.1.length then if !decide ((rd aEx x.2.2.2.2.1.2.2.2.2.2.1 x.2.2.2.2.2.2.1).nu=x.2.1.2.2.2.2.2.2.2.2.1) then if inb x.2.2.2.2.2.2.1 x.2.2.2.2.1.2.2.2.2.2.1.length then if Ab (x.2.2.2.2.2.1.length+([(rd aEx x.2.2.2.2.1.2.2.2.2.2.1 x.2.2.2.2.2.2.1)]:List AN).length) then let a:=(w64<|x.2.2.2.2.2.2.1+1);I (.inl (x.1,x.2.1,x.2.2.1,x.2.2.2.1,x.2.2.2.2.1,(x.2.2.2.2.2.1++([(rd aEx x.2.2.2.2.1.2.2.2.2.2.1 x.2.2.2.2.2.2.1)]:List AN)),a,())) else G else G else let b:=(w64<|x.2.2.2.2.2.2.1+1);I (.inl (x.1,x.2.1,x.2.2.1,x.2.2.2.1,x.2.2.2.2.1,x.2.2.2.2.2.1,b,())) else G else I (.inr<|.inr (x.1,x.2.1,x.2.2.1,x.2.2.2.1,x.2.2.2.2.1,x.2.2.2.2.2.1,()))
def bR:=AZ dX
def vt:Loop:=⟨[(2,Z20),(3,Z14),(4,Z20),(6,j6),(7,Z17),(8,.row 142 .mixed),(9,j6)],[(2,Z20),(3,Z14),(4,Z20),(6,j6),(7,Z17),(8,.row 142 .mixed)],0,[],bR⟩
def am8:LF f223 [] [1,1,1,1,1,1,0,1,0,0] vt:=sq (v:= .nil) zW (b:=dX) kN
def eY(x:Y1×Y6×D):Option ((Y1×o4)×D):=(dW (x.1.2.2.2.2.1,x.2.1.2.2.2.1,x.2.1.2.2.2.2.1,())).bind λe=>(BT (X:=Y1×Y6×Y1×o4) (λa=>if inb a.2.2.2.1 a.1.2.2.2.2.1.length then let i:=(rd aEl a.1.2.2.2.2.1 a.2.2.2.1).fr;let j:=(rd aEl a.1.2.2.2.2.1 a.2.2.2.1).nu;let f:=(rd aEl a.1.2.2.2.2.1 a.2.2.2.1).to;let g:=(rd aEl a.1.2.2.2.2.1 a.2.2.2.1).un;let h:=(rd aEl a.1.2.2.2.2.1 a.2.2.2.1).sz;let k:=(rd aEl a.1.2.2.2.2.1 a.2.2.2.1).got;if !decide (f=a.2.1.2.2.2.2.2.1) then I ((a.1,(-1),()),()) else if !decide (g=a.2.1.2.2.2.2.2.2.1) then I ((a.1,(-1),()),()) else if !decide (h=a.2.1.2.2.2.2.2.2.2.1) then I ((a.1,(-1),()),()) else(AP (bR (a.1,a.2.1,a.2.2.1,a.2.2.2.1,(i,j,f,g,h,k,()),([]:List AN),0,())) (λ_=>G) λd=>(BT (X:=Y1×Y6×Y1×Int×Y9×List AN×D) (λc=>if Ab (c.2.2.2.2.2.1.length+([(AN.mk c.2.1.2.2.2.2.2.2.2.2.1 c.2.1.2.2.2.2.2.2.2.2.2.1)]:List AN).length) then if inb c.2.2.2.1 c.1.2.2.2.2.1.length then I (((c.1.1,c.1.2.1,c.1.2.2.1,c.1.2.2.2.1,(Bp c.1.2.2.2.2.1 (AK c.2.2.2.1)<|AE.mk c.2.2.2.2.1.1 c.2.2.2.2.1.2.1 c.2.2.2.2.1.2.2.1 c.2.2.2.2.1.2.2.2.1 c.2.2.2.2.1.2.2.2.2.1<|c.2.2.2.2.2.1++([(AN.mk c.2.1.2.2.2.2.2.2.2.2.1 c.2.1.2.2.2.2.2.2.2.2.2.1)]:List AN)),()),c.2.2.2.1,()),()) else G else G)<|(if U (14<=(j8 d.2.2.2.2.2.1:Int)) then if U (0<=1)&&U (1<=(j8 d.2.2.2.2.2.1:Int)) then if Ab (([]:List AN).length+(Bo (AK 1) d.2.2.2.2.2.1).length) then I (.inr (d.1,d.2.1,d.2.2.1,d.2.2.2.1,d.2.2.2.2.1,(([]:List AN)++(Bo (AK 1) d.2.2.2.2.2.1)),())) else G else G else I (.inr d)))) else G)<|(if U (e.1.1<0) then(BT (X:=Y1×Y6×Y1×D) (λb=>if Ab (b.1.2.2.2.2.1.length+([(AE.mk b.2.1.2.2.2.1 b.2.1.2.2.2.2.1 b.2.1.2.2.2.2.2.1 b.2.1.2.2.2.2.2.2.1 b.2.1.2.2.2.2.2.2.2.1 ([]:List AN))]:List AE).length) then let l:=(w64<|((b.1.2.2.2.2.1++([(AE.mk b.2.1.2.2.2.1 b.2.1.2.2.2.2.1 b.2.1.2.2.2.2.2.1 b.2.1.2.2.2.2.2.2.1 b.2.1.2.2.2.2.2.2.2.1 ([]:List AN))]:List AE)).length:Int) - 1);I (.inr ((b.1.1,b.1.2.1,b.1.2.2.1,b.1.2.2.2.1,(b.1.2.2.2.2.1++([(AE.mk b.2.1.2.2.2.1 b.2.1.2.2.2.2.1 b.2.1.2.2.2.2.2.1 b.2.1.2.2.2.2.2.2.1 b.2.1.2.2.2.2.2.2.2.1 ([]:List AN))]:List AE)),()),b.2.1,b.2.2.1,l,())) else G)<|(if U (3<=(j8 x.1.2.2.2.2.1:Int)) then(PQ (x.1.2.2.2.2.1,0,())).bind λm=>I (.inr ((x.1.1,x.1.2.1,x.1.2.2.1,x.1.2.2.2.1,m.1),x.2.1,(0,A0,noB,0,([]:List AE),()),())) else I (.inr (x.1,x.2.1,(0,A0,noB,0,([]:List AE),()),())))) else I (.inr (x.1,x.2.1,(0,A0,noB,0,([]:List AE),()),e.1))))
def yX:Ent:=(223,G,⟨[Z1,Z13],[Z1,j6],eY⟩)
def agd:o6 yX:=sk (v:=t1<|t1<|.join [(2,Z20),(3,Z14),(4,Z20),(6,j6)] (t1<|.two (.join [(2,Z20),(3,Z14),(4,Z20)] .nil .nil) .nil)<|t1<|t1<|t1<|.two (t1<|.one<|.loop vt)<|.join [(2,Z20),(3,Z14),(4,Z20),(6,j6),(7,Z17),(8,.row 142 .mixed)] .nil .nil) (fn:=f223) zW<|kC am8 kN
def aje:Cx:=cX [Gt] [] []
def alb:o9 aje:=v7<|gC HK<|AI
def PK(x:o4):Option ((o4)×D):=(D7 (x.1,0,65535,())).bind λa=>if !a.1.1 then I ((0,()),()) else let b:=(BJ (w64<|(w64<|x.1 * 25173)+13849) 65536);I ((b,()),())
def rU:Ent:=(250,G,⟨[j6],[j6],PK⟩)
def adl:o6 rU:=sk (v:= .nil) (fn:=f250) alb kN
def ajY:Cx:=cX [] [] []
def alX:o9 ajY:=v7<|AI
def cr(x:y8):Option ((o4)×D):=if U (x.2.1=1) then if !decide (x.1=0) then let a:=(w64<|(w64<|Ay 60 x.1)+10);I ((a,()),()) else G else if !decide ((w64<|x.2.1 * (w64<|x.2.1 - 1))=0) then let b:=(w64<|Ay 60<|w64<|x.2.1 * (w64<|x.2.1 - 1));I ((b,()),()) else G
def wv:Ent:=(261,G,⟨[j6,j6],[j6],cr⟩)
def afA:o6 wv:=sk (v:= .nil) (fn:=f261) alX kN
def ahi:Cx:=cX [W5,rU,wv] [] []
def rG:o9 ahi:=v7<|gC ct<|gC adl<|gC afA<|AI
def UU(x:aEn):Rnd (aEn) (o4) (o4):=if U (x.2.2.1<x.1) then(cr (x.1,x.2.2)).bind λa=>if U ((w64<|x.2.1 - a.1.1)<0) then I (.inr<|.inl x.2.2) else I (.inl (x.1,(w64<|x.2.1 - a.1.1),(w64<|x.2.2.1+1),())) else I (.inr<|.inr (x.1,()))
def aN:=AZ UU
def ae5:Loop:=⟨[(0,j6),(7,j6),(8,j6)],[(0,j6)],2,[(4,j6)],aN⟩
def ahB:LF f251 [] [1,1,1,1,1,1,0,1,0,0] ae5:=sq (v:= .nil) rG (b:=UU) kN
def tX(x:Int×aEn):Rnd (Int×aEn) D (aEn):=if U (x.2.2.2.1<=x.1) then(cr (x.1,x.2.2.2)).bind λa=>I (.inl (x.1,x.2.1,(w64<|x.2.2.1+a.1.1),(w64<|x.2.2.2.1+1),())) else I (.inr<|.inr (x.1,x.2.1,x.2.2.1,()))
def aO:=AZ tX
def adt:Loop:=⟨[(0,j6),(1,j6),(5,j6),(6,j6)],[(0,j6),(1,j6),(5,j6)],0,[],aO⟩
def ahI:LF f251 [] [1,1,1,1,0,1,0,0] adt:=sq (v:= .nil) rG (b:=tX) kN
def cU(x:y8):Option ((o4)×D):=(MS x).bind λc=>if !c.1.1 then I ((0,()),()) else if U (x.2.1<x.1) then I ((1,()),()) else(AP (aO (x.1,x.2.1,0,1,())) (λ_=>G) (λa=>(PK ((w64<|(w64<|a.2.1 * 31)+a.1),())).bind λd=>(PK d.1).bind λe=>if !decide (a.2.2.1=0) then let f:=(BJ (w64<|Ay e.1.1 16) a.2.2.1);(AP (aN (a.1,f,1,())) (λb=>I (b,())) λb=>I (b,())) else G))
def uV:Ent:=(251,G,⟨[j6,j6],[j6],cU⟩)
def aem:o6 uV:=sk (v:=t1<|t1<|t1<|t1<|.two (t1<|.one<|.loop adt)<|t1<|.two (t1<|.one<|.loop ae5) .nil) (fn:=f251) rG<|kC ahI<|kC ahB kN
def aof:Cx:=cX [W5,rU,uV] [] []
def fN:o9 aof:=v7<|gC ct<|gC adl<|gC aem<|AI
def Va(x:Int×List Int×List Bool×aEn):Rnd (Int×List Int×List Bool×aEn) D (Int×List Int×List Bool×aEn):=if inb x.2.2.2.2.2.1 x.2.2.1.length then if rd aEz x.2.2.1 x.2.2.2.2.2.1 then if !decide (x.1=0) then let a:=(BJ (w64<|x.2.2.2.2.2.1+1) x.1);I (.inl (x.1,x.2.1,x.2.2.1,x.2.2.2.1,x.2.2.2.2.1,a,())) else G else I (.inr<|.inr x) else G
def cT:=AZ Va
def xY:Loop:=⟨[(0,j6),(5,.row 3 .int),(6,.row 4 .bool),(7,j6),(8,j6),(9,j6)],[(0,j6),(5,.row 3 .int),(6,.row 4 .bool),(7,j6),(8,j6),(9,j6)],2,[],cT⟩
def anu:LF f227 [] [1,1,1,1,1,1,0,1,0,0,1,0,0,1,1,0,0,0] xY:=sq (v:= .nil) fN (b:=Va) kN
def eu(x:Int×List Int×List Bool×o4):Rnd (Int×List Int×List Bool×o4) D (List Int×D):=if U (x.2.2.2.1<x.1) then if inb x.2.2.2.1 x.2.2.1.length then if rd aEz x.2.2.1 x.2.2.2.1 then if Ab (x.2.1.length+([x.2.2.2.1]:List Int).length) then I (.inl (x.1,(x.2.1++([x.2.2.2.1]:List Int)),x.2.2.1,(w64<|x.2.2.2.1+1),())) else G else I (.inl (x.1,x.2.1,x.2.2.1,(w64<|x.2.2.2.1+1),())) else G else I (.inr<|.inr (x.2.1,()))
def qn:=AZ eu
def xX:Loop:=⟨[(0,j6),(5,.row 3 .int),(6,.row 4 .bool),(10,j6)],[(5,.row 3 .int)],4,[],qn⟩
def anr:LF f227 [] [1,1,1,1,1,1,1,0,1,0,0] xX:=sq (v:= .nil) fN (b:=eu) kN
def fw(x:Int×List Int×List Bool×y8):Rnd (Int×List Int×List Bool×y8) D (Int×List Int×List Bool×D):=if U (0<x.2.2.2.2.1) then(PK (x.2.2.2.1,())).bind λb=>if !decide (x.1=0) then let c:=(BJ (w64<|Ay b.1.1 16) x.1);(AP (cT (x.1,x.2.1,x.2.2.1,b.1.1,x.2.2.2.2.1,c,())) (λ_=>I<|.inr<|.inl ()) λa=>(if inb a.2.2.2.2.2.1 a.2.2.1.length then let d:=(w64<|a.2.2.2.2.1 - 1);I (.inl (a.1,a.2.1,(Bp a.2.2.1 (AK a.2.2.2.2.2.1) Y),a.2.2.2.1,d,())) else G)) else G else I (.inr<|.inr (x.1,x.2.1,x.2.2.1,()))
def qo:=AZ fw
def xZ:Loop:=⟨[(0,j6),(5,.row 3 .int),(6,.row 4 .bool),(7,j6),(8,j6)],[(0,j6),(5,.row 3 .int),(6,.row 4 .bool)],0,[],qo⟩
def ao0:LF f227 [] [1,1,1,1,1,1,0,1,0,0] xZ:=sq (v:=t1<|.two (.one<|t1<|t1<|.two (.one<|.loop xY) .nil) .nil) fN (b:=fw)<|kC anu kN
def Vq(x:y8):Option ((List Int×D)×D):=(MS x).bind λb=>if !b.1.1 then I ((([]:List Int),()),()) else if U (x.2.1<x.1) then if Ab (([]:List Int).length+([x.2.1]:List Int).length) then I (((([]:List Int)++([x.2.1]:List Int)),()),()) else G else if U (0<=x.1)&&U (x.1<=4294967296) then(PK ((w64<|(w64<|x.2.1 * 7)+1),())).bind λc=>(cU x).bind λd=>(AP (qo (x.1,([]:List Int),(BS (AK x.1)<|dfl .bool),c.1.1,d.1)) (λ_=>G) λa=>(AP (qn (a.1,a.2.1,a.2.2.1,0,())) (λ_=>G) λe=>I (e,()))) else G
def iI:Ent:=(227,G,⟨[j6,j6],[.row 3 .int],Vq⟩)
def vI:o6 iI:=sk (v:=t1<|t1<|t1<|t1<|t1<|t1<|.two (t1<|.one<|.loop xZ)<|.two (t1<|.one<|.loop xX) .nil) (fn:=f227) fN<|kC ao0<|kC anr kN
def aoe:Cx:=cX [] [] []
def aA5:o9 aoe:=v7<|AI
def yc(x:A1×A1×List Int×o4):Rnd (A1×A1×List Int×o4) D (List Int×D):=if U (x.2.2.2.1<4) then if inb x.2.2.2.1 x.1.size then if inb x.2.2.2.1 x.2.1.size then if Ab (x.2.2.1.length+([(Dp .u8 (bt x.1 x.2.2.2.1)<|bt x.2.1 x.2.2.2.1)]:List Int).length) then I (.inl (x.1,x.2.1,(x.2.2.1++([(Dp .u8 (bt x.1 x.2.2.2.1)<|bt x.2.1 x.2.2.2.1)]:List Int)),(w64<|x.2.2.2.1+1),())) else G else G else G else I (.inr<|.inr (x.2.2.1,()))
def qm:=AZ yc
def wQ:Loop:=⟨[(0,.str),(1,.str),(5,.row 5 .u8),(6,j6)],[(5,.row 5 .u8)],0,[],qm⟩
def anz:LF f229 [] [1,1,0,1,0,0] wQ:=sq (v:= .nil) aA5 (b:=yc) kN
def Vp(x:A1×A1×D):Option ((A1×D)×D):=(AP (qm (x.1,x.2.1,([]:List Int),0,())) (λ_=>G) λa=>I (((BF a.1),()),()))
def iH:Ent:=(229,G,⟨[.str,.str],[.str],Vp⟩)
def uP:o6 iH:=sk (v:=t1<|t1<|.two (t1<|.one<|.loop wQ) .nil) (fn:=f229) aA5<|kC anz kN
def amQ:Cx:=cX [iI,iH] [] []
def zV:o9 amQ:=v7<|gC vI<|gC uP<|AI
def VR(x:List A1×List Int×A1×List Int×o4):Rnd (List A1×List Int×A1×List Int×o4) D (List Int×A1×D):=if U (x.2.2.2.2.1<(j8 x.2.2.2.1:Int)) then if inb x.2.2.2.2.1 x.2.2.2.1.length then if inb (rd aEo x.2.2.2.1 x.2.2.2.2.1) x.1.length then if U ((rd aEv x.1<|rd aEo x.2.2.2.1 x.2.2.2.2.1)=noB) then if inb x.2.2.2.2.1 x.2.2.2.1.length then if Ab (x.2.1.length+([(rd aEo x.2.2.2.1 x.2.2.2.2.1)]:List Int).length) then I (.inl (x.1,(x.2.1++([(rd aEo x.2.2.2.1 x.2.2.2.2.1)]:List Int)),x.2.2.1,x.2.2.2.1,(w64<|x.2.2.2.2.1+1),())) else G else G else if inb x.2.2.2.2.1 x.2.2.2.1.length then if inb (rd aEo x.2.2.2.1 x.2.2.2.2.1) x.1.length then(Vp (x.2.2.1,(rd aEv x.1<|rd aEo x.2.2.2.1 x.2.2.2.2.1),())).bind λa=>I (.inl (x.1,x.2.1,a.1.1,x.2.2.2.1,(w64<|x.2.2.2.2.1+1),())) else G else G else G else G else I (.inr<|.inr (x.2.1,x.2.2.1,()))
def bO:=AZ VR
def vr:Loop:=⟨[(2,.sl .str),(8,.row 3 .int),(9,.str),(10,.row 3 .int),(11,j6)],[(8,.row 3 .int),(9,.str)],0,[],bO⟩
def am7:LF f260 [] [1,1,1,1,0,1,0,0] vr:=sq (v:= .nil) zV (b:=VR) kN
def eX(x:Int×Y8×List A1×D):Option ((List Int×A1×D)×D):=(Vq (x.1,x.2.1.1,())).bind λa=>(AP (bO (x.2.2.1,([]:List Int),x.2.1.2.1,a.1.1,0,())) (λ_=>G) λb=>I (b,()))
def yW:Ent:=(260,G,⟨[j6,Z16,.fz .str],[.row 3 .int,.str],eX⟩)
def agc:o6 yW:=sk (v:=t1<|t1<|t1<|t1<|.two (t1<|.one<|.loop vr) .nil) (fn:=f260) zV<|kC am7 kN
def ak8:Cx:=cX [Gt,fl,yW] [] []
def fc:o9 ak8:=v7<|gC HK<|gC ady<|gC agc<|AI
def PL(x:Int×List AN×List A1×Bool×o4):Rnd (Int×List AN×List A1×Bool×o4) D (Int×List AN×List A1×Bool×D):=if U (x.2.2.2.2.1<(j8 x.2.1:Int)) then if inb x.2.2.2.2.1 x.2.1.length then(Re (x.1,((rd aEx x.2.1 x.2.2.2.2.1).nu,(rd aEx x.2.1 x.2.2.2.2.1).da,()),())).bind λb=>if !b.1.1 then I (.inl (x.1,x.2.1,x.2.2.1,x.2.2.2.1,(w64<|x.2.2.2.2.1+1),())) else if inb x.2.2.2.2.1 x.2.1.length then(eX (x.1,((rd aEx x.2.1 x.2.2.2.2.1).nu,(rd aEx x.2.1 x.2.2.2.2.1).da,()),x.2.2.1,())).bind λa=>if U ((j8 a.1.1:Int)=1) then if inb 0 a.1.1.length then if inb (rd aEo a.1.1 0) x.2.2.1.length then I (.inl (x.1,x.2.1,(Bp x.2.2.1 (AK<|rd aEo a.1.1 0) a.1.2.1),Y,(w64<|x.2.2.2.2.1+1),())) else G else G else I (.inl (x.1,x.2.1,x.2.2.1,x.2.2.2.1,(w64<|x.2.2.2.2.1+1),())) else G else G else I (.inr<|.inr (x.1,x.2.1,x.2.2.1,x.2.2.2.1,()))
def UL:=AZ PL
def uL:Loop:=⟨[(0,j6),(1,.sl .mixed),(5,.row 9 .str),(6,.bool),(7,j6)],[(0,j6),(1,.sl .mixed),(5,.row 9 .str),(6,.bool)],2,[],UL⟩
def ajr:LF f249 [] [1,1,1,1,0,0,0,1,0,1,1,0,0] uL:=sq (v:= .nil) fc (b:=PL) kN
def rN(x:Int×List AN×List A1×Bool×D):Rnd (Int×List AN×List A1×Bool×D) D (List A1×D):=if x.2.2.2.1 then(AP (UL (x.1,x.2.1,x.2.2.1,A0,0,())) (λ_=>I<|.inr<|.inl ()) λa=>I<|.inl a) else I (.inr<|.inr (x.2.2.1,()))
def pa:=AZ rN
def vH:Loop:=⟨[(0,j6),(1,.sl .mixed),(5,.row 9 .str),(6,.bool)],[(5,.row 9 .str)],0,[],pa⟩
def akt:LF f249 [] [1,1,1,1,0,0,0] vH:=sq (v:=t1<|.one<|t1<|t1<|.one<|.loop uL) fc (b:=rN)<|kC ajr kN
def dd(x:Int×List AN×D):Option ((List A1×D)×D):=(D7 (x.1,1,6,())).bind λa=>if !a.1.1 then I ((([]:List A1),()),()) else if U (0<=x.1)&&U (x.1<=4294967296) then(AP (pa (x.1,x.2.1,(BS (AK x.1)<|dfl .str),Y,())) (λ_=>G) λb=>I (b,())) else G
def xt:Ent:=(249,G,⟨[j6,.fz .mixed],[.row 9 .str],dd⟩)
def afh:o6 xt:=sk (v:=t1<|t1<|t1<|t1<|.two (.one<|.loop vH) .nil) (fn:=f249) fc<|kC akt kN
def ak7:Cx:=cX [Gt,V0,xt] [] []
def fb:o9 ak7:=v7<|gC HK<|gC aU<|gC afh<|AI
def dK(x:Int×A1×o4):Rnd (Int×A1×o4) (A1×Bool×D) (Int×A1×D):=if U (x.2.2.1<(x.2.1.size:Int)) then if inb x.2.2.1 x.2.1.size then if !decide ((bt x.2.1 x.2.2.1)=0) then I (.inr<|.inl (noB,A0,())) else I (.inl (x.1,x.2.1,(w64<|x.2.2.1+1),())) else G else I (.inr<|.inr (x.1,x.2.1,()))
def pZ:=AZ dK
def uJ:Loop:=⟨[(0,j6),(7,.str),(9,j6)],[(0,j6),(7,.str)],2,[(4,.str),(5,.bool)],pZ⟩
def ajq:LF f224 [] [1,1,1,1,1,0,1,0,0] uJ:=sq (v:= .nil) fb (b:=dK) kN
def V6(x:Int×List A1×A1×o4):Rnd (Int×List A1×A1×o4) (A1×Bool×D) (Int×A1×D):=if U (x.2.2.2.1<(j8 x.2.1:Int)) then if inb x.2.2.2.1 x.2.1.length then if U ((rd aEv x.2.1 x.2.2.2.1)=noB) then I (.inr<|.inl (noB,A0,())) else if inb x.2.2.2.1 x.2.1.length then if U (x.2.2.1.size+(rd aEv x.2.1 x.2.2.2.1).size<=4611686018427387904) then let a:=(x.2.2.1++(rd aEv x.2.1 x.2.2.2.1));I (.inl (x.1,x.2.1,a,(w64<|x.2.2.2.1+1),())) else G else G else G else I (.inr<|.inr (x.1,x.2.2.1,()))
def bG:=AZ V6
def uK:Loop:=⟨[(0,j6),(6,.row 9 .str),(7,.str),(8,j6)],[(0,j6),(7,.str)],0,[(4,.str),(5,.bool)],bG⟩
def aks:LF f224 [] [1,1,1,1,0,1,0,0] uK:=sq (v:= .nil) fb (b:=V6) kN
def db(x:Int×List AN×D):Option ((A1×Bool×D)×D):=(D7 (x.1,1,24,())).bind λc=>if !c.1.1 then I ((noB,A0,()),()) else(LS (x.1,())).bind λd=>(dd (d.1.1,x.2)).bind λe=>(AP (bG (x.1,e.1.1,noB,0,())) (λb=>I (b,())) λb=>(AP (pZ (b.1,b.2.1,b.1,())) (λa=>I (a,())) λa=>(if U (0<=a.1)&&U (a.1<=(a.2.1.size:Int)) then let f:=(a.2.1.extract (0)<|AK a.1);I ((f,Y,()),()) else G)))
def xq:Ent:=(224,G,⟨[j6,.fz .mixed],[.str,.bool],db⟩)
def afg:o6 xq:=sk (v:=t1<|t1<|t1<|t1<|.two (t1<|.one<|.loop uK)<|.two (t1<|.one<|.loop uJ) .nil) (fn:=f224) fb<|kC aks<|kC ajq kN
def ajX:Cx:=cX [Iw,V0,bg,Up,W5,MR,RR,VN,vF,yX,xq,fp] [] [(39,46),(62,68)]
def alW:o9 ajX:=v7<|gC JX<|gC aU<|gC oX<|gC aM<|gC ct<|gC NU<|gC UE<|gC bD<|gC aej<|gC agd<|gC afg<|gC ae1<|AI
def V4(x:Y1×Y6×D):Option ((Y1×List Frame×D)×D):=(G7 (x.1,())).bind λe=>if U (x.2.1.2.2.2.2.2.2.1<=e.1.1.2.1) then(cO (3,x.2)).bind λb=>I ((x.1,([(Frame.mk b.1.1.1 b.1.1.2.1 b.1.1.2.2.1 b.1.1.2.2.2.1 b.1.1.2.2.2.2.1 b.1.1.2.2.2.2.2.1 b.1.1.2.2.2.2.2.2.1 b.1.1.2.2.2.2.2.2.2.1 b.1.1.2.2.2.2.2.2.2.2.1 b.1.1.2.2.2.2.2.2.2.2.2.1)]:List Frame),()),()) else(G4 (e.1.1.2.2.2.1,x.2.1.2.2.2.1,x.2.1.2.2.2.2.1,())).bind λh=>if An (!(U<|0<=h.1.1)) ((KT (e.1.1.2.2.2.2.1,x.2.1.2.2.2.1,x.2.1.2.2.2.2.1,())).isSome) then if(U<|0<=h.1.1)||(U<|0<=((KT (e.1.1.2.2.2.2.1,x.2.1.2.2.2.1,x.2.1.2.2.2.2.1,())).getD ((0,()),())).1.1) then(PC ((x.1.2.2.1,x.1.2.2.2.1,()),())).bind λi=>(cO (2,x.2)).bind λc=>I (((x.1.1,x.1.2.1,i.1.1.1,i.1.1.2.1,x.1.2.2.2.2),([(Frame.mk c.1.1.1 c.1.1.2.1 c.1.1.2.2.1 c.1.1.2.2.2.1 c.1.1.2.2.2.2.1 c.1.1.2.2.2.2.2.1 c.1.1.2.2.2.2.2.2.1 c.1.1.2.2.2.2.2.2.2.1 c.1.1.2.2.2.2.2.2.2.2.1 c.1.1.2.2.2.2.2.2.2.2.2.1)]:List Frame),()),()) else if An (!(U<|x.2.1.2.2.2.1=x.1.1)) ((LS (x.2.1.2.2.2.2.2.2.2.1,())).isSome) then if An (!(U<|x.2.1.2.2.2.1=x.1.1)) ((MS (((LS (x.2.1.2.2.2.2.2.2.2.1,())).getD ((0,()),())).1.1,x.2.1.2.2.2.2.2.2.2.2.1,())).isSome) then if(U<|x.2.1.2.2.2.1=x.1.1)||(!(((MS (((LS (x.2.1.2.2.2.2.2.2.2.1,())).getD ((0,()),())).1.1,x.2.1.2.2.2.2.2.2.2.2.1,())).getD ((A0,()),())).1.1)) then I ((x.1,([]:List Frame),()),()) else(eY x).bind λa=>if U (a.1.2.1<0) then I ((a.1.1,([]:List Frame),()),()) else if inb a.1.2.1 a.1.1.2.2.2.2.1.length then(db (x.2.1.2.2.2.2.2.2.2.1,(rd aEl a.1.1.2.2.2.2.1 a.1.2.1).got,())).bind λj=>if !j.1.2.1 then I ((a.1.1,([]:List Frame),()),()) else(PQ (a.1.1.2.2.2.2.1,a.1.2)).bind λk=>(MP ((x.2.1.2.2.2.1,x.2.1.2.2.2.2.1,x.2.1.2.2.2.2.2.1,x.2.1.2.2.2.2.2.2.1,j.1.1,()),())).bind λf=>if U (f.1.1=noB) then I (((a.1.1.1,a.1.1.2.1,a.1.1.2.2.1,a.1.1.2.2.2.1,k.1),([]:List Frame),()),()) else if U ((B [116,97,107,101,32]).size+f.1.1.size<=4611686018427387904) then(KQ ((a.1.1.1,a.1.1.2.1,a.1.1.2.2.1,a.1.1.2.2.2.1,k.1),((B [116,97,107,101,32])++f.1.1),Y,())).bind λg=>if !g.1.2.1 then I ((g.1.1,([]:List Frame),()),()) else(cO (2,x.2)).bind λd=>I ((g.1.1,([(Frame.mk d.1.1.1 d.1.1.2.1 d.1.1.2.2.1 d.1.1.2.2.2.1 d.1.1.2.2.2.2.1 d.1.1.2.2.2.2.2.1 d.1.1.2.2.2.2.2.2.1 d.1.1.2.2.2.2.2.2.2.1 d.1.1.2.2.2.2.2.2.2.2.1 d.1.1.2.2.2.2.2.2.2.2.2.1)]:List Frame),()),()) else G else G else G else G else G
def wu:Ent:=(174,G,⟨[Z1,Z13],[Z12,.fz .frame],V4⟩)
def af9:o6 wu:=sk (v:= .nil) (fn:=f174) alW kN
def agJ:Cx:=cX [Iw,KS,MN,rJ,fq,wu,MR,RR] [] []
def aiM:o9 agJ:=v7<|gC JX<|gC LG<|gC NX<|gC adf<|gC adu<|gC af9<|gC NU<|gC UE<|AI
def UZ(x:Y1×Y6×D):Option ((Y1×List Frame×D)×D):=(Iv (x.1,())).bind λf=>if !f.1.1 then I (((0,A0,noB,0,([]:List AE),()),([]:List Frame),()),()) else(Gr (x.1,())).bind λa=>if !x.1.2.1 then I ((a.1.1,([]:List Frame),()),()) else(VW x.2).bind λg=>if !g.1.1 then I ((a.1.1,([]:List Frame),()),()) else if !decide (x.2.1.2.2.1=x.1.1) then I ((a.1.1,([]:List Frame),()),()) else if U (x.2.1.1=1) then(V4 (a.1.1,x.2)).bind λd=>(Gr (d.1.1,())).bind λh=>I ((h.1.1,d.1.2),()) else(G7 (x.1,())).bind λb=>(G4 (b.1.1.2.2.2.1,x.2.1.2.2.2.1,x.2.1.2.2.2.2.1,())).bind λc=>if !decide (x.2.1.1=2) then I ((a.1.1,([]:List Frame),()),()) else if U (c.1.1<0) then I ((a.1.1,([]:List Frame),()),()) else if inb c.1.1 b.1.1.2.2.2.1.length then if !decide ((rd y7 b.1.1.2.2.2.1 c.1.1).un=x.2.1.2.2.2.2.2.2.1) then I ((a.1.1,([]:List Frame),()),()) else if inb c.1.1 b.1.1.2.2.2.1.length then if !decide ((rd y7 b.1.1.2.2.2.1 c.1.1).to=x.2.1.2.2.2.2.2.1) then I ((a.1.1,([]:List Frame),()),()) else(V3 (x.2.1.2.2.2.1,x.2.1.2.2.2.2.1,x.2.1.2.2.2.2.2.2.1,())).bind λe=>if U ((B [108,101,116,32]).size+e.1.1.size<=4611686018427387904) then(KQ (a.1.1,((B [108,101,116,32])++e.1.1),A0,())).bind λi=>I ((i.1.1,([]:List Frame),()),()) else G else G else G
def qZ:Ent:=(135,G,⟨[Z12,Z13],[Z12,.fz .frame],UZ⟩)
def ad6:o6 qZ:=sk (v:= .nil) (fn:=f135) aiM kN
def akP:Cx:=cX [rC] [] [(11,13)]
def yE:o9 akP:=v7<|gC adV<|AI
def V1(x:List AL×List Frame×o4):Rnd (List AL×List Frame×o4) D (List AL×D):=if(U<|x.2.2.1<(j8 x.2.1:Int))&&(U<|(j8 x.1:Int)<30) then if inb x.2.2.1 x.2.1.length then if inb x.2.2.1 x.2.1.length then if inb x.2.2.1 x.2.1.length then(PG (((rd aEw x.2.1 x.2.2.1).ki,(rd aEw x.2.1 x.2.2.1).src,(rd aEw x.2.1 x.2.2.1).dst,(rd aEw x.2.1 x.2.2.1).fr,(rd aEw x.2.1 x.2.2.1).nu,(rd aEw x.2.1 x.2.2.1).to,(rd aEw x.2.1 x.2.2.1).un,(rd aEw x.2.1 x.2.2.1).sz,(rd aEw x.2.1 x.2.2.1).mix,(rd aEw x.2.1 x.2.2.1).da,()),())).bind λa=>if Ab (x.1.length+([(AL.mk ((rd aEw x.2.1 x.2.2.1).src) ((rd aEw x.2.1 x.2.2.1).dst) (BF a.1.1) A0)]:List AL).length) then I (.inl ((x.1++([(AL.mk ((rd aEw x.2.1 x.2.2.1).src) ((rd aEw x.2.1 x.2.2.1).dst) (BF a.1.1) A0)]:List AL)),x.2.1,(w64<|x.2.2.1+1),())) else G else G else G else G else I (.inr<|.inr (x.1,()))
def pO:=AZ V1
def uN:Loop:=⟨[(0,.row 59 .Aj),(1,.sl .frame),(5,j6)],[(0,.row 59 .Aj)],0,[],pO⟩
def akk:LF f136 [] [1,0,1,0,0] uN:=sq (v:= .nil) yE (b:=V1) kN
def Rc(x:List AL×List Frame×D):Option ((List AL×D)×D):=(AP (pO (x.1,x.2.1,0,())) (λ_=>G) λa=>I (a,()))
def fh:Ent:=(136,G,⟨[.row 59 .Aj,.fz .frame],[.row 59 .Aj],Rc⟩)
def adw:o6 fh:=sk (v:=t1<|.two (t1<|.one<|.loop uN) .nil) (fn:=f136) yE<|kC akk kN
def ahj:Cx:=cX [Iw,KS,MN,Up,RR] [] [(37,38)]
def ajO:o9 ahj:=v7<|gC JX<|gC LG<|gC NX<|gC aM<|gC UE<|AI
def Uf(x:Y1×Int×Int×A1×D):Option ((Y1×o4)×D):=(Iv (x.1,())).bind λd=>if !d.1.1 then I (((0,A0,noB,0,([]:List AE),()),0,()),()) else(G7 (x.1,())).bind λb=>(MP ((x.1.1,b.1.1.2.2.1,x.2),())).bind λa=>if(!x.1.2.1)||(U<|a.1.1=noB) then(Gr (x.1,())).bind λe=>I ((e.1.1,0,()),()) else(Gr (x.1,())).bind λf=>if U ((B [111,119,110,32]).size+a.1.1.size<=4611686018427387904) then(KQ (f.1.1,((B [111,119,110,32])++a.1.1),Y,())).bind λc=>if !c.1.2.1 then(Gr (x.1,())).bind λg=>I ((g.1.1,0,()),()) else I ((c.1.1,b.1.1.2.2.1,()),()) else G
def qz:Ent:=(177,G,⟨[Z12,j6,j6,.str],[Z12,j6],Uf⟩)
def adS:o6 qz:=sk (v:= .nil) (fn:=f177) ajO kN
def agG:Cx:=cX [Iw,KS,MN,Np,RR] [] [(19,21)]
def aiJ:o9 agG:=v7<|gC JX<|gC LG<|gC NX<|gC PF<|gC UE<|AI
def UW(x:Y1×D):Option ((Y1×Bool×D)×D):=(Iv x).bind λc=>if !c.1.1 then I (((0,A0,noB,0,([]:List AE),()),A0,()),()) else(G7 x).bind λa=>if(!x.1.2.1)||(U<|999<=a.1.1.2.1) then(Gr x).bind λd=>I ((d.1.1,A0,()),()) else(Gr x).bind λe=>(DP ((w64<|a.1.1.2.1+1),())).bind λb=>if U ((B [116,105,109,101,32]).size+b.1.1.size<=4611686018427387904) then(KQ (e.1.1,((B [116,105,109,101,32])++b.1.1),Y,())).bind λf=>I (f.1,()) else G
def qW:Ent:=(138,G,⟨[Z12],[Z12,.bool],UW⟩)
def adD:o6 qW:=sk (v:= .nil) (fn:=f138) aiJ kN
def amb:Cx:=cX [V0] [] [(12,14)]
def gN:o9 amb:=v7<|gC aU<|AI
def dR(x:A1×List A1×Int×List Int×o4):Rnd (A1×List A1×Int×List Int×o4) D (A1×List A1×Int×List Int×D):=if U (x.2.2.2.2.1<(w64<|(w64<|x.2.2.1+1) * 4)) then if U (x.2.2.2.2.1<(x.1.size:Int)) then if inb x.2.2.2.2.1 x.1.size then if Ab (x.2.2.2.1.length+([(bt x.1 x.2.2.2.2.1)]:List Int).length) then I (.inl (x.1,x.2.1,x.2.2.1,(x.2.2.2.1++([(bt x.1 x.2.2.2.2.1)]:List Int)),(w64<|x.2.2.2.2.1+1),())) else G else G else if Ab (x.2.2.2.1.length+([0]:List Int).length) then I (.inl (x.1,x.2.1,x.2.2.1,(x.2.2.2.1++([0]:List Int)),(w64<|x.2.2.2.2.1+1),())) else G else I (.inr<|.inr (x.1,x.2.1,x.2.2.1,x.2.2.2.1,()))
def qH:=AZ dR
def wC:Loop:=⟨[(0,.str),(3,.row 9 .str),(4,j6),(5,.row 5 .u8),(6,j6)],[(0,.str),(3,.row 9 .str),(4,j6),(5,.row 5 .u8)],2,[],qH⟩
def am1:LF f226 [] [1,1,1,0,1,0,0,1,0,0,1,0,1,0,0] wC:=sq (v:= .nil) gN (b:=dR) kN
def dS(x:A1×List A1×o4):Rnd (A1×List A1×o4) D (List A1×D):=(LS ((x.1.size:Int),())).bind λb=>if U (x.2.2.1<b.1.1) then(AP (qH (x.1,x.2.1,x.2.2.1,([]:List Int),(w64<|x.2.2.1 * 4),())) (λ_=>I<|.inr<|.inl ()) λa=>(if Ab (a.2.1.length+([(BF a.2.2.2.1)]:List A1).length) then I (.inl (a.1,(a.2.1++([(BF a.2.2.2.1)]:List A1)),(w64<|a.2.2.1+1),())) else G)) else I (.inr<|.inr (x.2.1,()))
def qA:=AZ dS
def wD:Loop:=⟨[(0,.str),(3,.row 9 .str),(4,j6)],[(3,.row 9 .str)],0,[],qA⟩
def alo:LF f226 [] [1,1,1,0,1,0,0] wD:=sq (v:=t1<|.two (.one<|t1<|.two (t1<|.one<|.loop wC) .nil) .nil) gN (b:=dS)<|kC am1 kN
def ez(x:A1×D):Option ((List A1×D)×D):=if(U<|(x.1.size:Int)<1)||(U<|24<(x.1.size:Int)) then I ((([]:List A1),()),()) else(AP (qA (x.1,([]:List A1),0,())) (λ_=>G) λa=>I (a,()))
def zC:Ent:=(226,G,⟨[.str],[.row 9 .str],ez⟩)
def agm:o6 zC:=sk (v:=t1<|t1<|t1<|.two (t1<|.one<|.loop wD) .nil) (fn:=f226) gN<|kC alo kN
def amP:Cx:=cX [] [] []
def aor:o9 amP:=v7<|AI
def ft(x:D):Option ((A1×D)×D):=if U (0<=4)&&U (4<=4294967296) then let a:=(BF<|BS (AK 4)<|dfl .u8);I ((a,()),()) else G
def yV:Ent:=(228,G,⟨[],[.str],ft⟩)
def agb:o6 yV:=sk (v:= .nil) (fn:=f228) aor kN
def ak9:Cx:=cX [zC,iI,yV,iH] [] [(19,21)]
def xj:o9 ak9:=v7<|gC agm<|gC vI<|gC agb<|gC uP<|AI
def dL(x:List A1×List Int×A1×o4):Rnd (List A1×List Int×A1×o4) D (A1×D):=if U (x.2.2.2.1<(j8 x.2.1:Int)) then if inb x.2.2.2.1 x.2.1.length then if inb (rd aEo x.2.1 x.2.2.2.1) x.1.length then(Vp (x.2.2.1,(rd aEv x.1<|rd aEo x.2.1 x.2.2.2.1),())).bind λa=>I (.inl (x.1,x.2.1,a.1.1,(w64<|x.2.2.2.1+1),())) else G else G else I (.inr<|.inr (x.2.2.1,()))
def bH:=AZ dL
def vJ:Loop:=⟨[(5,.row 9 .str),(6,.row 3 .int),(7,.str),(8,j6)],[(7,.str)],0,[],bH⟩
def aku:LF f178 [] [1,1,1,1,1,0,1,0,0] vJ:=sq (v:= .nil) xj (b:=dL) kN
def de(x:A1×o4):Option ((A1×D)×D):=(ez (x.1,())).bind λa=>(Vq ((j8 a.1.1:Int),x.2)).bind λb=>if(U<|(j8 a.1.1:Int)=0)||(U<|(j8 b.1.1:Int)=0) then I ((noB,()),()) else(ft ()).bind λc=>(AP (bH (a.1.1,b.1.1,c.1.1,0,())) (λ_=>G) λd=>I (d,()))
def xu:Ent:=(178,G,⟨[.str,j6],[.str],de⟩)
def afi:o6 xu:=sk (v:=t1<|t1<|t1<|t1<|t1<|.two (t1<|.one<|.loop vJ) .nil) (fn:=f178) xj<|kC aku kN
def ahk:Cx:=cX [Iw,Gt,KS,rV,MR,xu] [] [(18,20),(36,38)]
def ajP:o9 ahk:=v7<|gC JX<|gC HK<|gC LG<|gC adm<|gC NU<|gC afi<|AI
def Ug(x:Y1×aEn):Option ((Y6×Bool×D)×D):=(Iv (x.1,())).bind λe=>if(!e.1.1)||(!x.1.2.1) then I (((0,0,0,0,0,0,0,0,0,noB,()),A0,()),()) else(G7 (x.1,())).bind λb=>(G4 (b.1.1.2.2.2.1,x.2.1,x.2.2.1,())).bind λa=>if An (!(U<|a.1.1<0)) ((D7 (x.2.2.2.1,0,999,())).isSome) then if(U<|a.1.1<0)||(!(((D7 (x.2.2.2.1,0,999,())).getD ((A0,()),())).1.1)) then I (((0,0,0,0,0,0,0,0,0,noB,()),A0,()),()) else if inb a.1.1 b.1.1.2.2.2.1.length then let f:=(rd y7 b.1.1.2.2.2.1 a.1.1).fr;let g:=(rd y7 b.1.1.2.2.2.1 a.1.1).nu;let c:=(rd y7 b.1.1.2.2.2.1 a.1.1).to;let h:=(rd y7 b.1.1.2.2.2.1 a.1.1).un;let d:=(rd y7 b.1.1.2.2.2.1 a.1.1).tx;(RV (x.1.1,c,())).bind λi=>(de (d,x.2.2.2)).bind λj=>I (((1,x.1.1,i.1.1,f,g,c,h,(d.size:Int),x.2.2.2.1,j.1),Y,()),()) else G else G
def rA:Ent:=(139,G,⟨[Z12,j6,j6,j6],[Z13,.bool],Ug⟩)
def adT:o6 rA:=sk (v:= .nil) (fn:=f139) ajP kN
def ahf:Cx:=cX [Uo,Ri] [] []
def ajM:o9 ahf:=v7<|gC aJ<|gC UJ<|AI
def cR(x:Y7×o4):Option ((Y7×D)×D):=(Na (x.1,())).bind λd=>if !d.1.1 then I (((noB,0,()),()),()) else(BT (X:=Int×Y7×Y7×o4) (λb=>(BT (X:=Y7×Y7×o4) (λa=>if U (0<=a.2.2.1)&&U (a.2.2.1<=(a.1.1.size:Int)) then(LH ((a.1.1.extract (0)<|AK a.2.2.1),())).bind λc=>if U (0<=c.1.2.1)&&U (c.1.2.1<=(a.1.1.size:Int)) then let e:=(a.1.1.extract (0)<|AK c.1.2.1);I (((e,c.1.2),()),()) else G else G)<|(if U (0<b.1) then let f:=(w64<|b.2.2.2.1+b.1);I (.inr (b.2.1,b.2.2.1,f,())) else I (.inr b.2))))<|(if U ((w64<|(x.1.1.size:Int) - x.1.2.1)<x.2.1) then let g:=(w64<|(x.1.1.size:Int) - x.1.2.1);I (.inr (g,x.1,(noB,0,()),x.1.2)) else I (.inr (x.2.1,x.1,(noB,0,()),x.1.2))))
def vG:Ent:=(179,G,⟨[Z15,j6],[Z15],cR⟩)
def aek:o6 vG:=sk (v:=t1<|t1<|t1<|.join [(1,j6),(2,Z21),(4,Z21),(5,j6)] .nil<|.join [(2,Z21),(4,Z21),(5,j6)] .nil .nil) (fn:=f179) ajM kN
def afq:Cx:=cX [KS,vG] [] []
def aiN:o9 afq:=v7<|gC LG<|gC aek<|AI
def Ua(x:Y1×o4):Option ((Y1×D)×D):=(Iv (x.1,())).bind λb=>if !b.1.1 then I (((0,A0,noB,0,([]:List AE),()),()),()) else(cR ((x.1.2.2.1,x.1.2.2.2.1,()),x.2)).bind λa=>I (((x.1.1,A0,a.1.1.1,a.1.1.2.1,([]:List AE),()),()),())
def qa:Ent:=(140,G,⟨[Z12,j6],[Z1],Ua⟩)
def ad7:o6 qa:=sk (v:= .nil) (fn:=f140) aiN kN
def agH:Cx:=cX [KS,MN] [] []
def aiK:o9 agH:=v7<|gC LG<|gC NX<|AI
def UX(x:Y1×D):Option ((Y1×D)×D):=(Iv x).bind λa=>if !a.1.1 then I (((0,A0,noB,0,([]:List AE),()),()),()) else if x.1.2.1 then(Gr x).bind λb=>I (b.1,()) else I (((x.1.1,Y,x.1.2.2.1,x.1.2.2.2.1,([]:List AE),()),()),())
def qX:Ent:=(141,G,⟨[Z12],[Z1],UX⟩)
def adE:o6 qX:=sk (v:= .nil) (fn:=f141) aiK kN
def ahl:Cx:=cX [Iw,KS,MN,rJ,MR,RR] [] [(33,34)]
def ajQ:o9 ahl:=v7<|gC JX<|gC LG<|gC NX<|gC adf<|gC NU<|gC UE<|AI
def Uh(x:Y1×y8):Option ((Y1×Y4×Bool×D)×D):=(Iv (x.1,())).bind λe=>if !e.1.1 then I (((0,A0,noB,0,([]:List AE),()),(0,0,0,0,noB,()),A0,()),()) else(G7 (x.1,())).bind λa=>(G4 (a.1.1.2.2.2.2.2.1,x.2)).bind λb=>if(!x.1.2.1)||(U<|b.1.1<0) then(Gr (x.1,())).bind λf=>I ((f.1.1,(0,0,0,0,noB,()),A0,()),()) else(Gr (x.1,())).bind λg=>if inb b.1.1 a.1.1.2.2.2.2.2.1.length then(V3 (x.2.1,x.2.2.1,(rd y7 a.1.1.2.2.2.2.2.1 b.1.1).un,())).bind λc=>if U ((B [101,97,116,32]).size+c.1.1.size<=4611686018427387904) then(KQ (g.1.1,((B [101,97,116,32])++c.1.1),Y,())).bind λd=>if !d.1.2.1 then(Gr (x.1,())).bind λh=>I ((h.1.1,(0,0,0,0,noB,()),A0,()),()) else if inb b.1.1 a.1.1.2.2.2.2.2.1.length then let i:=(rd y7 a.1.1.2.2.2.2.2.1 b.1.1).fr;let j:=(rd y7 a.1.1.2.2.2.2.2.1 b.1.1).nu;let k:=(rd y7 a.1.1.2.2.2.2.2.1 b.1.1).to;let l:=(rd y7 a.1.1.2.2.2.2.2.1 b.1.1).un;let m:=(rd y7 a.1.1.2.2.2.2.2.1 b.1.1).tx;I ((d.1.1,(i,j,k,l,m,()),Y,()),()) else G else G else G
def rB:Ent:=(142,G,⟨[Z12,j6,j6],[Z12,Z6,.bool],Uh⟩)
def adU:o6 rB:=sk (v:= .nil) (fn:=f142) ajQ kN
def agI:Cx:=cX [Iw,KS,MN,qy,rW] [] [(32,33)]
def aiL:o9 agI:=v7<|gC JX<|gC LG<|gC NX<|gC adR<|gC adn<|AI
def UY(x:Y1×D):Option ((Y1×Bool×D)×D):=(Iv x).bind λc=>if !c.1.1 then I (((0,A0,noB,0,([]:List AE),()),A0,()),()) else(Gr x).bind λa=>(G7 x).bind λd=>(V7 (d.1.1,())).bind λe=>(RP ((x.1.2.2.1,x.1.2.2.2.1,()),e.1)).bind λb=>if(!x.1.2.1)||(!b.1.2.1) then I ((a.1.1,A0,()),()) else I (((a.1.1.1,a.1.1.2.1,b.1.1.1,b.1.1.2.1,a.1.1.2.2.2.2),Y,()),())
def qY:Ent:=(143,G,⟨[Z12],[Z12,.bool],UY⟩)
def adF:o6 qY:=sk (v:= .nil) (fn:=f143) aiL kN
def afW:Cx:=cX [KS,MN,bg] [] [(15,22)]
def agr:o9 afW:=v7<|gC LG<|gC NX<|gC oX<|AI
def UN(x:Y1×D):Option ((Y1×Bool×D)×D):=(Iv x).bind λc=>if !c.1.1 then I (((0,A0,noB,0,([]:List AE),()),A0,()),()) else(Gr x).bind λa=>if(!x.1.2.1)||(U<|x.1.2.2.2.1=(x.1.2.2.1.size:Int)) then I ((a.1.1,A0,()),()) else(PC ((x.1.2.2.1,x.1.2.2.2.1,()),())).bind λb=>I (((a.1.1.1,a.1.1.2.1,b.1.1.1,b.1.1.2.1,a.1.1.2.2.2.2),Y,()),())
def po:Ent:=(144,G,⟨[Z12],[Z12,.bool],UN⟩)
def acx:o6 po:=sk (v:= .nil) (fn:=f144) agr kN
def zQ:Cx:=cX [Gt,IK,fj,pq,qZ,fh,qW,rA,qa,qX,rB,qY,po,qz] [] []
def apU:OKC prog zQ (NE zQ 2):=ac5 2 mixed<|gC HK<|gC Ip<|gC adx<|gC ad4<|gC ad6<|gC adw<|gC adD<|gC adT<|gC ad7<|gC adE<|gC adU<|gC adF<|gC acx<|gC adS<|AI
abbrev ZE:Type:=Int×Int×Int×Int×Int×Int×Int×Int×Int×A1×D
def Qq{Ω:Type}(a:List A8)(c:List AL)(e:ZE)(p:AL)(K:List A8->List AL->Option Ω):Option Ω:=
 if(U<|e.1=5) then
 K a c
 else
 if Ab p.data.size then
 (bJ ((BA p.data),())).bind λr=>
 if(!r.1.2.1) then
 K a c
 else
 if(!decide (r.1.1.2.1=p.src)) then
 K a c
 else
 if(!decide (r.1.1.2.2.1=p.dst)) then
 K a c
 else
 if inb p.dst a.length then
 (UZ (((rd aEm a p.dst).id,(rd aEm a p.dst).up,(rd aEm a p.dst).log,(rd aEm a p.dst).fo,(rd aEm a p.dst).AH,()),r.1.1,())).bind λq=>
 if inb p.dst a.length then
 (Rc (c,q.1.2)).bind λs=>
 K (Bp a (AK p.dst)<|A8.mk q.1.1.1 q.1.1.2.1 q.1.1.2.2.1 q.1.1.2.2.2.1 q.1.1.2.2.2.2.1) s.1.1
 else G
 else G
 else G
def ZS{Ω:Type}(a:List A8)(c:List AL)(e:ZE)(p:AL)(K:List A8->List AL->Option Ω):Option Ω:=
 if(U (0<=e.2.2.2.2.1)&&U (e.2.2.2.2.1<=(j8 c:Int))) then
 if Ab (([]:List AL).length+(BR (AK e.2.2.2.2.1) c).length) then
 if(U (0<=(w64<|e.2.2.2.2.1+1))&&U ((w64<|e.2.2.2.2.1+1)<=(j8 c:Int))) then
 if Ab ((([]:List AL)++(BR (AK e.2.2.2.2.1) c)).length+(Bo (AK<|w64<|e.2.2.2.2.1+1) c).length) then
 Qq a ((([]:List AL)++(BR (AK e.2.2.2.2.1) c))++(Bo (AK<|w64<|e.2.2.2.2.1+1) c)) e p K
 else G
 else G
 else G
 else G
def ZR{Ω:Type}(a:List A8)(c:List AL)(e:ZE)(p:AL)(K:List A8->List AL->Option Ω):Option Ω:=
 if(U<|e.1=5) then
 ZS a c e p K
 else
 if(U<|e.2.2.2.2.2.2.1=0) then
 ZS a c e p K
 else
 Qq a c e p K
def Qr{Ω:Type}(a:List A8)(b:List Bool)(c:List AL)(e:ZE)(K:List A8->List AL->Option Ω)(F:Option Ω):Option Ω:=
 (D7 (e.2.2.2.2.1,0,(w64<|(j8 c:Int) - 1),())).bind λr=>
 if(!r.1.1) then
 F
 else
 if inb e.2.2.2.2.1 c.length then
 if(U<|e.1=6) then
 if(rd aEq c e.2.2.2.2.1).sp then
 F
 else
 (D7 (e.2.2.2.2.2.1,0,(w64<|((rd aEq c e.2.2.2.2.1).data.size:Int) - 1),())).bind λr=>
 if(!r.1.1) then
 F
 else
 (D7 (e.2.2.2.2.2.2.1,1,255,())).bind λr=>
 if(!r.1.1) then
 F
 else
 if Ab (rd aEq c e.2.2.2.2.1).data.size then
 if inb e.2.2.2.2.2.1 ((BA (rd aEq c e.2.2.2.2.1).data).length) then
 if inb e.2.2.2.2.2.1 ((BA (rd aEq c e.2.2.2.2.1).data).length) then
 if inb e.2.2.2.2.1 c.length then
 if inb e.2.2.2.2.1 ((Bp c (AK e.2.2.2.2.1)<|AL.mk ((rd aEq c e.2.2.2.2.1).src) ((rd aEq c e.2.2.2.2.1).dst) (BF<|Bp (BA (rd aEq c e.2.2.2.2.1).data) (AK e.2.2.2.2.2.1)<|Dp .u8 (rd aEt (BA (rd aEq c e.2.2.2.2.1).data) e.2.2.2.2.2.1)<|w8 e.2.2.2.2.2.2.1)<|(rd aEq c e.2.2.2.2.1).sp).length) then
 K a (Bp (Bp c (AK e.2.2.2.2.1)<|AL.mk ((rd aEq c e.2.2.2.2.1).src) ((rd aEq c e.2.2.2.2.1).dst) (BF<|Bp (BA (rd aEq c e.2.2.2.2.1).data) (AK e.2.2.2.2.2.1)<|Dp .u8 (rd aEt (BA (rd aEq c e.2.2.2.2.1).data) e.2.2.2.2.2.1)<|w8 e.2.2.2.2.2.2.1)<|(rd aEq c e.2.2.2.2.1).sp) (AK e.2.2.2.2.1)<|AL.mk ((rd aEq (Bp c (AK e.2.2.2.2.1)<|AL.mk ((rd aEq c e.2.2.2.2.1).src) ((rd aEq c e.2.2.2.2.1).dst) (BF<|Bp (BA (rd aEq c e.2.2.2.2.1).data) (AK e.2.2.2.2.2.1)<|Dp .u8 (rd aEt (BA (rd aEq c e.2.2.2.2.1).data) e.2.2.2.2.2.1)<|w8 e.2.2.2.2.2.2.1)<|(rd aEq c e.2.2.2.2.1).sp) e.2.2.2.2.1).src) ((rd aEq (Bp c (AK e.2.2.2.2.1)<|AL.mk ((rd aEq c e.2.2.2.2.1).src) ((rd aEq c e.2.2.2.2.1).dst) (BF<|Bp (BA (rd aEq c e.2.2.2.2.1).data) (AK e.2.2.2.2.2.1)<|Dp .u8 (rd aEt (BA (rd aEq c e.2.2.2.2.1).data) e.2.2.2.2.2.1)<|w8 e.2.2.2.2.2.2.1)<|(rd aEq c e.2.2.2.2.1).sp) e.2.2.2.2.1).dst) ((rd aEq (Bp c (AK e.2.2.2.2.1)<|AL.mk ((rd aEq c e.2.2.2.2.1).src) ((rd aEq c e.2.2.2.2.1).dst) (BF<|Bp (BA (rd aEq c e.2.2.2.2.1).data) (AK e.2.2.2.2.2.1)<|Dp .u8 (rd aEt (BA (rd aEq c e.2.2.2.2.1).data) e.2.2.2.2.2.1)<|w8 e.2.2.2.2.2.2.1)<|(rd aEq c e.2.2.2.2.1).sp) e.2.2.2.2.1).data) Y)
 else G
 else G
 else G
 else G
 else G
 else
 if(U<|e.1=4) then
 (dT ((rd aEq c e.2.2.2.2.1).src,(rd aEq c e.2.2.2.2.1).dst,())).bind λr=>
 if inb r.1.1 b.length then
 if(!(rd aEz b r.1.1)) then
 F
 else
 ZR a c e (rd aEq c e.2.2.2.2.1) K
 else G
 else
 ZR a c e (rd aEq c e.2.2.2.2.1) K
 else G
def To{Ω:Type}(b:List Bool)(e:ZE)(K:List Bool->Option Ω)(F:Option Ω):Option Ω:=
 (D7 (e.2.1,0,(w64<|(j8 b:Int) - 1),())).bind λr=>
 if(!r.1.1) then
 F
 else
 if inb e.2.1 b.length then
 if(U<|(rd aEz b e.2.1)=(U<|e.1=9)) then
 F
 else
 if inb e.2.1 b.length then
 K (Bp b (AK e.2.1)<|U<|e.1=9)
 else G
 else G
def nB{Ω:Type}(a:List A8)(c:List AL)(d g:List A3)(e:ZE)(K:List A8->List A3->List A3->Option Ω)(F:Option Ω)(Kv:List A8->Bool->Option Ω)(Km:List AL->Bool->Option Ω)(Kz:Bool->Option Ω):Option Ω:=
 (FU (e.2.1,())).bind λr=>
 if(!r.1.1) then
 F
 else
 if inb e.2.1 a.length then
 if(U<|e.1=1) then
 if(U<|6<=(j8 d:Int)) then
 F
 else
 if inb e.2.1 a.length then
 (Uf (((rd aEm a e.2.1).id,(rd aEm a e.2.1).up,(rd aEm a e.2.1).log,(rd aEm a e.2.1).fo,(rd aEm a e.2.1).AH,()),e.2.2.2.2.2.2.2)).bind λr=>
 if(U<|r.1.2.1=0) then
 F
 else
 if inb e.2.1 a.length then
 if Ab (d.length+([(A3.mk e.2.1 r.1.2.1 e.2.2.2.2.2.2.2.1 e.2.2.2.2.2.2.2.2.1 e.2.2.2.2.2.2.2.2.2.1)]:List A3).length) then
 K (Bp a (AK e.2.1)<|A8.mk r.1.1.1 r.1.1.2.1 r.1.1.2.2.1 r.1.1.2.2.2.1 r.1.1.2.2.2.2.1) (d++([(A3.mk e.2.1 r.1.2.1 e.2.2.2.2.2.2.2.1 e.2.2.2.2.2.2.2.2.1 e.2.2.2.2.2.2.2.2.2.1)]:List A3)) g
 else G
 else G
 else G
 else
 if(U<|e.1=2) then
 (UW (((rd aEm a e.2.1).id,(rd aEm a e.2.1).up,(rd aEm a e.2.1).log,(rd aEm a e.2.1).fo,(rd aEm a e.2.1).AH,()),())).bind λr=>
 if inb e.2.1 a.length then
 Kv (Bp a (AK e.2.1)<|A8.mk r.1.1.1 r.1.1.2.1 r.1.1.2.2.1 r.1.1.2.2.2.1 r.1.1.2.2.2.2.1) r.1.2.1
 else G
 else
 if(U<|e.1=3) then
 (Ug (((rd aEm a e.2.1).id,(rd aEm a e.2.1).up,(rd aEm a e.2.1).log,(rd aEm a e.2.1).fo,(rd aEm a e.2.1).AH,()),e.2.2.1,e.2.2.2.1,e.2.2.2.2.2.1,())).bind λr=>
 if r.1.2.1 then
 (Rc (c,([(Frame.mk r.1.1.1 r.1.1.2.1 r.1.1.2.2.1 r.1.1.2.2.2.1 r.1.1.2.2.2.2.1 r.1.1.2.2.2.2.2.1 r.1.1.2.2.2.2.2.2.1 r.1.1.2.2.2.2.2.2.2.1 r.1.1.2.2.2.2.2.2.2.2.1 r.1.1.2.2.2.2.2.2.2.2.2.1)]:List Frame),())).bind λs=>
 Km s.1.1 r.1.2.1
 else
 Kz r.1.2.1
 else
 if(U<|e.1=7) then
 (Ua (((rd aEm a e.2.1).id,(rd aEm a e.2.1).up,(rd aEm a e.2.1).log,(rd aEm a e.2.1).fo,(rd aEm a e.2.1).AH,()),e.2.2.2.2.2.2.1,())).bind λr=>
 if inb e.2.1 a.length then
 Kv (Bp a (AK e.2.1)<|A8.mk r.1.1.1 r.1.1.2.1 r.1.1.2.2.1 r.1.1.2.2.2.1 r.1.1.2.2.2.2.1) (rd aEm a e.2.1).up
 else G
 else
 if(U<|e.1=8) then
 (UX (((rd aEm a e.2.1).id,(rd aEm a e.2.1).up,(rd aEm a e.2.1).log,(rd aEm a e.2.1).fo,(rd aEm a e.2.1).AH,()),())).bind λr=>
 if inb e.2.1 a.length then
 Kv (Bp a (AK e.2.1)<|A8.mk r.1.1.1 r.1.1.2.1 r.1.1.2.2.1 r.1.1.2.2.2.1 r.1.1.2.2.2.2.1) (!(rd aEm a e.2.1).up)
 else G
 else
 if(U<|e.1=11) then
 (Uh (((rd aEm a e.2.1).id,(rd aEm a e.2.1).up,(rd aEm a e.2.1).log,(rd aEm a e.2.1).fo,(rd aEm a e.2.1).AH,()),e.2.2.1,e.2.2.2.1,())).bind λr=>
 if r.1.2.2.1 then
 if(U<|(j8 g:Int)<6) then
 if inb e.2.1 a.length then
 if Ab (g.length+([(A3.mk r.1.2.1.1 r.1.2.1.2.1 r.1.2.1.2.2.1 r.1.2.1.2.2.2.1 r.1.2.1.2.2.2.2.1)]:List A3).length) then
 K (Bp a (AK e.2.1)<|A8.mk r.1.1.1 r.1.1.2.1 r.1.1.2.2.1 r.1.1.2.2.2.1 r.1.1.2.2.2.2.1) d (g++([(A3.mk r.1.2.1.1 r.1.2.1.2.1 r.1.2.1.2.2.1 r.1.2.1.2.2.2.1 r.1.2.1.2.2.2.2.1)]:List A3))
 else G
 else G
 else
 F
 else
 F
 else
 if(U<|e.1=12) then
 (UY (((rd aEm a e.2.1).id,(rd aEm a e.2.1).up,(rd aEm a e.2.1).log,(rd aEm a e.2.1).fo,(rd aEm a e.2.1).AH,()),())).bind λr=>
 if inb e.2.1 a.length then
 Kv (Bp a (AK e.2.1)<|A8.mk r.1.1.1 r.1.1.2.1 r.1.1.2.2.1 r.1.1.2.2.2.1 r.1.1.2.2.2.2.1) r.1.2.1
 else G
 else
 if(U<|e.1=13) then
 (UN (((rd aEm a e.2.1).id,(rd aEm a e.2.1).up,(rd aEm a e.2.1).log,(rd aEm a e.2.1).fo,(rd aEm a e.2.1).AH,()),())).bind λr=>
 if inb e.2.1 a.length then
 Kv (Bp a (AK e.2.1)<|A8.mk r.1.1.1 r.1.1.2.1 r.1.1.2.2.1 r.1.1.2.2.2.1 r.1.1.2.2.2.2.1) r.1.2.1
 else G
 else
 F
 else G
def doK{Ω:Type}(a:List A8)(b:List Bool)(c:List AL)(d g:List A3)(e:ZE)(K:List A8->List Bool->List AL->List A3->List A3->Option Ω)(F:Option Ω)(Kv:List A8->Bool->Option Ω)(Km:List AL->Bool->Option Ω)(Kz:Bool->Option Ω):Option Ω:=
 if(U<|e.1=4) then
 Qr a b c e (λx y=>K x b y d g) F
 else
 if(U<|e.1=5) then
 Qr a b c e (λx y=>K x b y d g) F
 else
 if(U<|e.1=6) then
 Qr a b c e (λx y=>K x b y d g) F
 else
 if(U<|e.1=9) then
 To b e (λy=>K a y c d g) F
 else
 if(U<|e.1=10) then
 To b e (λy=>K a y c d g) F
 else
 nB a c d g e (λx y z=>K x b c y z) F Kv Km Kz
def Vo(x:Y2×Y6×D):Option ((Y2×Bool×D)×D):=(doK x.1.2.1 x.1.2.2.1 x.1.2.2.2.1 x.1.2.2.2.2.1 x.1.2.2.2.2.2.1 x.2.1 (λk l r s g=>I ((((w64<|x.1.1+1),k,l,r,s,g,()),Y,()),())) (I ((((w64<|x.1.1+1),x.1.2),A0,()),())) (λk b=>I ((((w64<|x.1.1+1),k,x.1.2.2.1,x.1.2.2.2.1,x.1.2.2.2.2.1,x.1.2.2.2.2.2.1,()),b,()),())) (λr b=>I ((((w64<|x.1.1+1),x.1.2.1,x.1.2.2.1,r,x.1.2.2.2.2.1,x.1.2.2.2.2.2.1,()),b,()),())) λb=>I ((((w64<|x.1.1+1),x.1.2.1,x.1.2.2.1,x.1.2.2.2.1,x.1.2.2.2.2.1,x.1.2.2.2.2.2.1,()),b,()),()))
def aA1:Ent:=(65,G,⟨[Z3,Z13],[Z3,.bool],Vo⟩)
def ai4:o6 aA1:=sk (v:= .nil) (fn:=f65) apU kN
def RD:Cx:=cX [Gt,IK,fj,pq,qZ,fh,qW,rA,qa,qX,rB,qY,po,qz] [] []
def ajJ:OKC prog RD (NE RD 3):=ac5 3 mixed<|gC HK<|gC Ip<|gC adx<|gC ad4<|gC ad6<|gC adw<|gC adD<|gC adT<|gC ad7<|gC adE<|gC adU<|gC adF<|gC acx<|gC adS<|AI
def FT(x:Y10×Y6×D):Option ((Bool×D)×Y10×D):=(doK x.1.2.2.1 x.1.2.2.2.1 x.1.2.2.2.2.1 x.1.2.2.2.2.2.1 x.1.2.2.2.2.2.2.1 x.2.1 (λk l r s g=>if Ab (x.1.2.2.2.2.2.2.2.1.length+([(Event.mk x.2.1.1 x.2.1.2.1 x.2.1.2.2.1 x.2.1.2.2.2.1 x.2.1.2.2.2.2.1 x.2.1.2.2.2.2.2.1 x.2.1.2.2.2.2.2.2.1 x.2.1.2.2.2.2.2.2.2.1 x.2.1.2.2.2.2.2.2.2.2.1 x.2.1.2.2.2.2.2.2.2.2.2.1)]:List Event).length) then I ((Y,()),((x.1.1,(w64<|x.1.2.1+1),k,l,r,s,g,(x.1.2.2.2.2.2.2.2.1++([(Event.mk x.2.1.1 x.2.1.2.1 x.2.1.2.2.1 x.2.1.2.2.2.1 x.2.1.2.2.2.2.1 x.2.1.2.2.2.2.2.1 x.2.1.2.2.2.2.2.2.1 x.2.1.2.2.2.2.2.2.2.1 x.2.1.2.2.2.2.2.2.2.2.1 x.2.1.2.2.2.2.2.2.2.2.2.1)]:List Event)),()),())) else G) (I ((A0,()),(x.1,()))) (λk b=>if b then if Ab (x.1.2.2.2.2.2.2.2.1.length+([(Event.mk x.2.1.1 x.2.1.2.1 x.2.1.2.2.1 x.2.1.2.2.2.1 x.2.1.2.2.2.2.1 x.2.1.2.2.2.2.2.1 x.2.1.2.2.2.2.2.2.1 x.2.1.2.2.2.2.2.2.2.1 x.2.1.2.2.2.2.2.2.2.2.1 x.2.1.2.2.2.2.2.2.2.2.2.1)]:List Event).length) then I ((b,()),((x.1.1,(w64<|x.1.2.1+1),k,x.1.2.2.2.1,x.1.2.2.2.2.1,x.1.2.2.2.2.2.1,x.1.2.2.2.2.2.2.1,(x.1.2.2.2.2.2.2.2.1++([(Event.mk x.2.1.1 x.2.1.2.1 x.2.1.2.2.1 x.2.1.2.2.2.1 x.2.1.2.2.2.2.1 x.2.1.2.2.2.2.2.1 x.2.1.2.2.2.2.2.2.1 x.2.1.2.2.2.2.2.2.2.1 x.2.1.2.2.2.2.2.2.2.2.1 x.2.1.2.2.2.2.2.2.2.2.2.1)]:List Event)),()),())) else G else I ((b,()),((x.1.1,x.1.2.1,k,x.1.2.2.2),()))) (λr b=>if b then if Ab (x.1.2.2.2.2.2.2.2.1.length+([(Event.mk x.2.1.1 x.2.1.2.1 x.2.1.2.2.1 x.2.1.2.2.2.1 x.2.1.2.2.2.2.1 x.2.1.2.2.2.2.2.1 x.2.1.2.2.2.2.2.2.1 x.2.1.2.2.2.2.2.2.2.1 x.2.1.2.2.2.2.2.2.2.2.1 x.2.1.2.2.2.2.2.2.2.2.2.1)]:List Event).length) then I ((b,()),((x.1.1,(w64<|x.1.2.1+1),x.1.2.2.1,x.1.2.2.2.1,r,x.1.2.2.2.2.2.1,x.1.2.2.2.2.2.2.1,(x.1.2.2.2.2.2.2.2.1++([(Event.mk x.2.1.1 x.2.1.2.1 x.2.1.2.2.1 x.2.1.2.2.2.1 x.2.1.2.2.2.2.1 x.2.1.2.2.2.2.2.1 x.2.1.2.2.2.2.2.2.1 x.2.1.2.2.2.2.2.2.2.1 x.2.1.2.2.2.2.2.2.2.2.1 x.2.1.2.2.2.2.2.2.2.2.2.1)]:List Event)),()),())) else G else G) λb=>if b then if Ab (x.1.2.2.2.2.2.2.2.1.length+([(Event.mk x.2.1.1 x.2.1.2.1 x.2.1.2.2.1 x.2.1.2.2.2.1 x.2.1.2.2.2.2.1 x.2.1.2.2.2.2.2.1 x.2.1.2.2.2.2.2.2.1 x.2.1.2.2.2.2.2.2.2.1 x.2.1.2.2.2.2.2.2.2.2.1 x.2.1.2.2.2.2.2.2.2.2.2.1)]:List Event).length) then I ((b,()),((x.1.1,(w64<|x.1.2.1+1),x.1.2.2.1,x.1.2.2.2.1,x.1.2.2.2.2.1,x.1.2.2.2.2.2.1,x.1.2.2.2.2.2.2.1,(x.1.2.2.2.2.2.2.2.1++([(Event.mk x.2.1.1 x.2.1.2.1 x.2.1.2.2.1 x.2.1.2.2.2.1 x.2.1.2.2.2.2.1 x.2.1.2.2.2.2.2.1 x.2.1.2.2.2.2.2.2.1 x.2.1.2.2.2.2.2.2.2.1 x.2.1.2.2.2.2.2.2.2.2.1 x.2.1.2.2.2.2.2.2.2.2.2.1)]:List Event)),()),())) else G else I ((b,()),(x.1,())))
def LJ:Ent:=(85,G,⟨[Z22,Z13],[.bool],FT⟩)
end Go.VS
end
