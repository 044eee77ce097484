/- Part 4. -/
import Derived.Shelf.Utf8.RuneCount
import Derived.Shelf.Strconv.Itoa0
import Derived.Shelf.Strconv.Itoa1
import Derived.Shelf.LaysM
import Derived.Shelf.Strconv.Itoa2
import Derived.Shelf.Strconv.Itoa3
import Derived.Shelf.Strings.Search1
import Derived.Shelf.Strings.Search2
import Derived.Shelf.Strings.Search3
import Derived.Shelf.Strings.Cut
import Derived.Shelf.Strings.Count
import Derived.Shelf.Strings.Shaped
import Derived.Shelf.Strings.Split
import Derived.Shelf.Strings.SplitShaped
import Derived.Shelf.Unicode.Decode
import Derived.Shelf.Strings.RuneCount
import Derived.Shelf.Strings.Explode
import Derived.Shelf.Unicode.DecodeSlow
import Derived.Shelf.Unicode.DecodeAny
import Derived.Test.YtgjljlpdfceilaaGreatDoorProg
import Derived.Test.YtgjljlpdfceilaaGreatDoorQAI
open Bool renaming false->A0,true->Y
open Decidable renaming decide->U
open Go.Lib renaming TabIs->M3,cellsOf->Yp,countB->N3,cut->FQ,itoa->B3,pow10Tab->N4,splitB->Ip
open Go.Shelf renaming Ren->TM
open Go.Value renaming string->Yl
open Int renaming tdiv->B0,tmod->BK,toNat->AK
open List renaming drop->Bp,length->j8,replicate->BS,set->Bq,take->BR
open Option renaming none->G,some->I
set_option linter.all false
noncomputable section
namespace Go.Proofs
open Go.Shelf
def Tryz.axw:TM:=⟨fun|171=>152|243=>189|246=>231|283=>252|284=>253|285=>254|286=>255|129=>263|317=>262|318=>264|319=>265|320=>266|337=>274|338=>275|n=>n,fun|3=>3|9=>9|2=>2|4=>4|171=>226|0=>0|53=>227|37=>22|5=>5|173=>230|212=>236|51=>237|20=>20|213=>238|46=>239|232=>247|233=>248|n=>n,fun|17=>0|18=>2|19=>3|n=>n⟩
def Tryz.ay6:Go.Proofs.LaysM.n171 prog Tryz.axw:={
 mixed:=by kernel_rfl
 f129:=func263.trans (congrArg I VS.aFb)
 f171:=func152.trans (congrArg I VS.aFb)
 f243:=func189.trans (congrArg I VS.aFb)
 f246:=func231.trans (congrArg I VS.aFb)
 f283:=func252.trans (congrArg I VS.aFb)
 f284:=func253.trans (congrArg I VS.aFb)
 f285:=func254.trans (congrArg I VS.aFb)
 f286:=func255.trans (congrArg I VS.aFb)
 f317:=func262.trans (congrArg I VS.aFb)
 f318:=func264.trans (congrArg I VS.aFb)
 f319:=func265.trans (congrArg I VS.aFb)
 f320:=func266.trans (congrArg I VS.aFb)
 f337:=func274.trans (congrArg I VS.aFb)
 f338:=func275.trans (congrArg I VS.aFb)
 t0:=Tryz.underlying0
 a0:=Tryz.isAgg0
 z0:=Tryz.sizeOf0
 v0:=Tryz.zeroValue0
 t2:=Tryz.underlying2
 a2:=Tryz.isAgg2
 z2:=Tryz.sizeOf2
 v2:=Tryz.zeroValue2
 t3:=Tryz.underlying3
 a3:=Tryz.isAgg3
 z3:=Tryz.sizeOf3
 v3:=Tryz.zeroValue3
 t4:=Tryz.underlying4
 a4:=Tryz.isAgg4
 z4:=Tryz.sizeOf4
 v4:=Tryz.zeroValue4
 t5:=Tryz.underlying5
 a5:=Tryz.isAgg5
 z5:=Tryz.sizeOf5
 v5:=Tryz.zeroValue5
 t9:=Tryz.underlying9
 a9:=Tryz.isAgg9
 z9:=Tryz.sizeOf9
 v9:=Tryz.zeroValue9
 t20:=Tryz.underlying20
 a20:=Tryz.isAgg20
 z20:=Tryz.sizeOf20
 v20:=Tryz.zeroValue20
 t37:=Tryz.underlying22
 a37:=Tryz.isAgg22
 z37:=Tryz.sizeOf22
 v37:=Tryz.zeroValue22
 t46:=Tryz.underlying239
 a46:=Tryz.isAgg239
 z46:=Tryz.sizeOf239
 v46:=Tryz.zeroValue239
 t51:=Tryz.underlying237
 a51:=Tryz.isAgg237
 z51:=Tryz.sizeOf237
 v51:=Tryz.zeroValue237
 t53:=Tryz.underlying227
 a53:=Tryz.isAgg227
 z53:=Tryz.sizeOf227
 v53:=Tryz.zeroValue227
 t171:=Tryz.underlying226
 a171:=Tryz.isAgg226
 z171:=Tryz.sizeOf226
 v171:=Tryz.zeroValue226
 t173:=Tryz.underlying230
 a173:=Tryz.isAgg230
 z173:=Tryz.sizeOf230
 v173:=Tryz.zeroValue230
 t212:=Tryz.underlying236
 a212:=Tryz.isAgg236
 z212:=Tryz.sizeOf236
 v212:=Tryz.zeroValue236
 t213:=Tryz.underlying238
 a213:=Tryz.isAgg238
 z213:=Tryz.sizeOf238
 t232:=Tryz.underlying247
 a232:=Tryz.isAgg247
 z232:=Tryz.sizeOf247
 v232:=Tryz.zeroValue247
 t233:=Tryz.underlying248
 a233:=Tryz.isAgg248
 z233:=Tryz.sizeOf248
 v233:=Tryz.zeroValue248
 g17:=by kernel_rfl
 g18:=by kernel_rfl
 g19:=by kernel_rfl
 i0:=by kernel_rfl
 i2:=by kernel_rfl
 i3:=by kernel_rfl
 i4:=by kernel_rfl
 i5:=by kernel_rfl
 i9:=by kernel_rfl
 i20:=by kernel_rfl
 i37:=by kernel_rfl
 i46:=by kernel_rfl
 i51:=by kernel_rfl
 i53:=by kernel_rfl
 i171:=by kernel_rfl
 i173:=by kernel_rfl
 i212:=by kernel_rfl
 i232:=by kernel_rfl
 i233:=by kernel_rfl
 m17:=by kernel_rfl
 m18:=by kernel_rfl
 m19:=by kernel_rfl }
def Tryz.axv:TM:=⟨fun|145=>198|220=>238|219=>256|217=>267|225=>268|224=>269|267=>270|266=>276|314=>277|n=>n,fun|9=>9|4=>4|59=>189|3=>3|5=>5|46=>239|146=>245|51=>237|n=>n,fun|1=>1|n=>n⟩
def Tryz.ay3:Go.Proofs.Lays.n145 prog Tryz.axv:={
 mixed:=by kernel_rfl
 f145:=func198.trans (congrArg I VS.aFb)
 f217:=func267.trans (congrArg I VS.aFb)
 f219:=func256.trans (congrArg I VS.aFb)
 f220:=func238.trans (congrArg I VS.aFb)
 f224:=func269.trans (congrArg I VS.aFb)
 f225:=func268.trans (congrArg I VS.aFb)
 f266:=func276.trans (congrArg I VS.aFb)
 f267:=func270.trans (congrArg I VS.aFb)
 f314:=func277.trans (congrArg I VS.aFb)
 t3:=Tryz.underlying3
 a3:=Tryz.isAgg3
 z3:=Tryz.sizeOf3
 v3:=Tryz.zeroValue3
 t4:=Tryz.underlying4
 a4:=Tryz.isAgg4
 z4:=Tryz.sizeOf4
 v4:=Tryz.zeroValue4
 t5:=Tryz.underlying5
 a5:=Tryz.isAgg5
 z5:=Tryz.sizeOf5
 v5:=Tryz.zeroValue5
 t9:=Tryz.underlying9
 a9:=Tryz.isAgg9
 z9:=Tryz.sizeOf9
 v9:=Tryz.zeroValue9
 t46:=Tryz.underlying239
 a46:=Tryz.isAgg239
 z46:=Tryz.sizeOf239
 v46:=Tryz.zeroValue239
 t51:=Tryz.underlying237
 a51:=Tryz.isAgg237
 z51:=Tryz.sizeOf237
 v51:=Tryz.zeroValue237
 t59:=Tryz.underlying189
 a59:=Tryz.isAgg189
 z59:=Tryz.sizeOf189
 v59:=Tryz.zeroValue189
 t146:=Tryz.underlying245
 a146:=Tryz.isAgg245
 z146:=Tryz.sizeOf245
 v146:=Tryz.zeroValue245
 g1:=by kernel_rfl }
def Tryz.axx:TM:=⟨fun|145=>198|220=>238|219=>256|217=>267|225=>268|224=>269|267=>270|266=>276|314=>277|n=>n,fun|9=>9|4=>4|59=>189|3=>3|5=>5|46=>239|146=>245|51=>237|n=>n,fun|1=>1|n=>n⟩
def Tryz.nt:Go.Proofs.LaysM.n145 prog Tryz.axx:={
 mixed:=by kernel_rfl
 f145:=func198.trans (congrArg I VS.aFb)
 f217:=func267.trans (congrArg I VS.aFb)
 f219:=func256.trans (congrArg I VS.aFb)
 f220:=func238.trans (congrArg I VS.aFb)
 f224:=func269.trans (congrArg I VS.aFb)
 f225:=func268.trans (congrArg I VS.aFb)
 f266:=func276.trans (congrArg I VS.aFb)
 f267:=func270.trans (congrArg I VS.aFb)
 f314:=func277.trans (congrArg I VS.aFb)
 t3:=Tryz.underlying3
 a3:=Tryz.isAgg3
 z3:=Tryz.sizeOf3
 v3:=Tryz.zeroValue3
 t4:=Tryz.underlying4
 a4:=Tryz.isAgg4
 z4:=Tryz.sizeOf4
 v4:=Tryz.zeroValue4
 t5:=Tryz.underlying5
 a5:=Tryz.isAgg5
 z5:=Tryz.sizeOf5
 v5:=Tryz.zeroValue5
 t9:=Tryz.underlying9
 a9:=Tryz.isAgg9
 z9:=Tryz.sizeOf9
 v9:=Tryz.zeroValue9
 t46:=Tryz.underlying239
 a46:=Tryz.isAgg239
 z46:=Tryz.sizeOf239
 v46:=Tryz.zeroValue239
 t51:=Tryz.underlying237
 a51:=Tryz.isAgg237
 z51:=Tryz.sizeOf237
 v51:=Tryz.zeroValue237
 t59:=Tryz.underlying189
 a59:=Tryz.isAgg189
 z59:=Tryz.sizeOf189
 v59:=Tryz.zeroValue189
 t146:=Tryz.underlying245
 a146:=Tryz.isAgg245
 z146:=Tryz.sizeOf245
 v146:=Tryz.zeroValue245
 g1:=by kernel_rfl
 i3:=by kernel_rfl
 i4:=by kernel_rfl
 i5:=by kernel_rfl
 i9:=by kernel_rfl
 i46:=by kernel_rfl
 i51:=by kernel_rfl
 i59:=by kernel_rfl
 i146:=by kernel_rfl
 m1:=by kernel_rfl
 s1_3:=λw h=>Go.Proofs.cell_of_shapedOpen_int (zero:= #[.int .i64 0]) (t:=3) h (of_decide_eq_true VS.aFb) VS.aFb rfl VS.aFb VS.aFb Tryz.underlying3 }
def Tryz.axu:TM:=⟨fun|146=>203|221=>243|268=>257|138=>258|143=>259|195=>271|197=>272|218=>273|219=>256|260=>278|217=>267|225=>268|224=>269|267=>270|266=>276|314=>277|n=>n,fun|9=>9|31=>101|3=>3|4=>4|0=>0|105=>242|21=>21|5=>5|46=>239|119=>249|139=>252|138=>251|146=>245|51=>237|n=>n,fun|1=>1|3=>4|4=>5|n=>n⟩
def Tryz.ay2:Go.Proofs.Lays.n146 prog Tryz.axu:={
 mixed:=by kernel_rfl
 f138:=func258.trans (congrArg I VS.aFb)
 f143:=func259.trans (congrArg I VS.aFb)
 f146:=func203.trans (congrArg I VS.aFb)
 f195:=func271.trans (congrArg I VS.aFb)
 f197:=func272.trans (congrArg I VS.aFb)
 f217:=func267.trans (congrArg I VS.aFb)
 f218:=func273.trans (congrArg I VS.aFb)
 f219:=func256.trans (congrArg I VS.aFb)
 f221:=func243.trans (congrArg I VS.aFb)
 f224:=func269.trans (congrArg I VS.aFb)
 f225:=func268.trans (congrArg I VS.aFb)
 f260:=func278.trans (congrArg I VS.aFb)
 f266:=func276.trans (congrArg I VS.aFb)
 f267:=func270.trans (congrArg I VS.aFb)
 f268:=func257.trans (congrArg I VS.aFb)
 f314:=func277.trans (congrArg I VS.aFb)
 t0:=Tryz.underlying0
 a0:=Tryz.isAgg0
 z0:=Tryz.sizeOf0
 v0:=Tryz.zeroValue0
 t3:=Tryz.underlying3
 a3:=Tryz.isAgg3
 z3:=Tryz.sizeOf3
 v3:=Tryz.zeroValue3
 t4:=Tryz.underlying4
 a4:=Tryz.isAgg4
 z4:=Tryz.sizeOf4
 v4:=Tryz.zeroValue4
 t5:=Tryz.underlying5
 a5:=Tryz.isAgg5
 z5:=Tryz.sizeOf5
 v5:=Tryz.zeroValue5
 t9:=Tryz.underlying9
 a9:=Tryz.isAgg9
 z9:=Tryz.sizeOf9
 v9:=Tryz.zeroValue9
 t21:=Tryz.underlying21
 a21:=Tryz.isAgg21
 z21:=Tryz.sizeOf21
 v21:=Tryz.zeroValue21
 t31:=Tryz.underlying101
 a31:=Tryz.isAgg101
 z31:=Tryz.sizeOf101
 v31:=Tryz.zeroValue101
 t46:=Tryz.underlying239
 a46:=Tryz.isAgg239
 z46:=Tryz.sizeOf239
 v46:=Tryz.zeroValue239
 t51:=Tryz.underlying237
 a51:=Tryz.isAgg237
 z51:=Tryz.sizeOf237
 v51:=Tryz.zeroValue237
 t105:=Tryz.underlying242
 a105:=Tryz.isAgg242
 z105:=Tryz.sizeOf242
 v105:=Tryz.zeroValue242
 t119:=Tryz.underlying249
 a119:=Tryz.isAgg249
 z119:=Tryz.sizeOf249
 t138:=Tryz.underlying251
 a138:=Tryz.isAgg251
 z138:=Tryz.sizeOf251
 v138:=Tryz.zeroValue251
 t139:=Tryz.underlying252
 a139:=Tryz.isAgg252
 z139:=Tryz.sizeOf252
 v139:=Tryz.zeroValue252
 t146:=Tryz.underlying245
 a146:=Tryz.isAgg245
 z146:=Tryz.sizeOf245
 v146:=Tryz.zeroValue245
 g1:=by kernel_rfl
 g3:=by kernel_rfl
 g4:=by kernel_rfl }
def Tryz.axt:TM:=⟨fun|147=>240|221=>243|268=>257|138=>258|143=>259|195=>271|197=>272|218=>273|219=>256|260=>278|217=>267|225=>268|224=>269|267=>270|266=>276|314=>277|n=>n,fun|9=>9|3=>3|31=>101|4=>4|0=>0|105=>242|21=>21|5=>5|46=>239|119=>249|139=>252|138=>251|146=>245|51=>237|n=>n,fun|1=>1|3=>4|4=>5|n=>n⟩
def Tryz.ay1:Go.Proofs.Lays.n147 prog Tryz.axt:={
 mixed:=by kernel_rfl
 f138:=func258.trans (congrArg I VS.aFb)
 f143:=func259.trans (congrArg I VS.aFb)
 f147:=func240.trans (congrArg I VS.aFb)
 f195:=func271.trans (congrArg I VS.aFb)
 f197:=func272.trans (congrArg I VS.aFb)
 f217:=func267.trans (congrArg I VS.aFb)
 f218:=func273.trans (congrArg I VS.aFb)
 f219:=func256.trans (congrArg I VS.aFb)
 f221:=func243.trans (congrArg I VS.aFb)
 f224:=func269.trans (congrArg I VS.aFb)
 f225:=func268.trans (congrArg I VS.aFb)
 f260:=func278.trans (congrArg I VS.aFb)
 f266:=func276.trans (congrArg I VS.aFb)
 f267:=func270.trans (congrArg I VS.aFb)
 f268:=func257.trans (congrArg I VS.aFb)
 f314:=func277.trans (congrArg I VS.aFb)
 t0:=Tryz.underlying0
 a0:=Tryz.isAgg0
 z0:=Tryz.sizeOf0
 v0:=Tryz.zeroValue0
 t3:=Tryz.underlying3
 a3:=Tryz.isAgg3
 z3:=Tryz.sizeOf3
 v3:=Tryz.zeroValue3
 t4:=Tryz.underlying4
 a4:=Tryz.isAgg4
 z4:=Tryz.sizeOf4
 v4:=Tryz.zeroValue4
 t5:=Tryz.underlying5
 a5:=Tryz.isAgg5
 z5:=Tryz.sizeOf5
 v5:=Tryz.zeroValue5
 t9:=Tryz.underlying9
 a9:=Tryz.isAgg9
 z9:=Tryz.sizeOf9
 v9:=Tryz.zeroValue9
 t21:=Tryz.underlying21
 a21:=Tryz.isAgg21
 z21:=Tryz.sizeOf21
 v21:=Tryz.zeroValue21
 t31:=Tryz.underlying101
 a31:=Tryz.isAgg101
 z31:=Tryz.sizeOf101
 v31:=Tryz.zeroValue101
 t46:=Tryz.underlying239
 a46:=Tryz.isAgg239
 z46:=Tryz.sizeOf239
 v46:=Tryz.zeroValue239
 t51:=Tryz.underlying237
 a51:=Tryz.isAgg237
 z51:=Tryz.sizeOf237
 v51:=Tryz.zeroValue237
 t105:=Tryz.underlying242
 a105:=Tryz.isAgg242
 z105:=Tryz.sizeOf242
 v105:=Tryz.zeroValue242
 t119:=Tryz.underlying249
 a119:=Tryz.isAgg249
 z119:=Tryz.sizeOf249
 t138:=Tryz.underlying251
 a138:=Tryz.isAgg251
 z138:=Tryz.sizeOf251
 v138:=Tryz.zeroValue251
 t139:=Tryz.underlying252
 a139:=Tryz.isAgg252
 z139:=Tryz.sizeOf252
 v139:=Tryz.zeroValue252
 t146:=Tryz.underlying245
 a146:=Tryz.isAgg245
 z146:=Tryz.sizeOf245
 v146:=Tryz.zeroValue245
 g1:=by kernel_rfl
 g3:=by kernel_rfl
 g4:=by kernel_rfl }
open Go.RowKit Go.Sort Go.Lib in
theorem Tryz.strconv_Itoa (n:Int) (h0: -9223372036854775808<=n) (h1:n<=9223372036854775807) (w:World) (aG:M3 prog w "internal/strconv.uint64pow10" .u64 N4):
  Calls prog 152 #[.int .i64 n] w λe w'=>e= .returned (.string ⟨(B3 n).toArray⟩)/\ ∃k os,w'=grow (w.drewN k) os:=Any.strconv_Itoa Tryz.ay6 n h0 h1 w aG
open Go.RowKit Go.Lib in
theorem Tryz.strings_Cut (s sep:ByteArray) (m:Int) (w:World) (hs:s.size<4294967281) (hm:w.cell? ⟨1,0,G⟩=I (.int .i64 m)):
  Calls prog 198 #[.string s,.string sep] w λe w'=>e= .returned (.tuple #[.string ⟨(FQ s.data.toList sep.data.toList).1.toArray⟩,.string ⟨(FQ s.data.toList sep.data.toList).2.1.toArray⟩,.bool (FQ s.data.toList sep.data.toList).2.2])/\ ∃n,w'=w.drewN n:=Any.strings_Cut Tryz.ay3 s sep m w hs hm
open Go.RowKit Go.Lib in
theorem Tryz.strings_Split (s sep:ByteArray) (m:Int) (w:World) (hs:s.size<4294967281) (hm:w.cell? ⟨1,0,G⟩=I (.int .i64 m)) (h1:1<=sep.size):
  Calls prog 203 #[.string s,.string sep] w λe w'=>
   e= .returned (.slice (I ⟨w.heap.size,0,G⟩) (N3 s sep+1)<|N3 s sep+1)/\w'=w.alloc (.cells ((Ip sep 0 (N3 s sep) s).map Yl).toArray 9):=Any.strings_Split Tryz.ay2 VS.aFb s sep m w hs hm h1
open Go.RowKit Go.Lib in
theorem Tryz.strings_SplitN (s sep:ByteArray) (n:Nat) (m:Int) (w:World) (hs:s.size<4294967281) (hm:w.cell? ⟨1,0,G⟩=I (.int .i64 m)) (h1:1<=sep.size) (hn:1<=n) (acT:n<=9223372036854775807):
  Calls prog 240 #[.string s,.string sep,.int .i64 n] w λe w'=>
   e= .returned (.slice (I ⟨w.heap.size,0,G⟩) (Ip sep 0 (min n (s.size+1) - 1) s).length<|min n<|s.size+1)/\w'=w.alloc (.cells (Yp (Ip sep 0 (min n (s.size+1) - 1) s)<|min n<|s.size+1) 9):=Any.strings_SplitN Tryz.ay1 VS.aFb s sep n m w hs hm h1 hn acT
end Go.Proofs
namespace Go.VS
open Go Go.Proofs Tryz
set_option linter.unusedVariables false
set_option maxRecDepth 100000
abbrev aE5:=dfl .AQ
abbrev aFa:=dfl .Ak
abbrev aFi:=dfl .CM
abbrev aFj:=dfl .bool
abbrev aFg:=dfl .frame
abbrev aE6:=dfl .half
abbrev aE8:=dfl .int
abbrev aFc:=dfl .mark
abbrev aFh:=dfl .mixed
abbrev aE3:=dfl .note
abbrev aFf:=dfl .str
abbrev aFd:=dfl .u8
abbrev j6:Sh:=.int .i64
abbrev y8(e:Ent):Prop:=SQ Tryz.prog e
abbrev v7:=Int×D
abbrev aE2:=Int×v7
abbrev aE7:=Int×aE2
abbrev t1(v:Adv):Adv:= .two .nil v
def sk{P:Program}{C:Cx}{inl:(Ω:Type)->Inl Ω}{f:Nat}{d:Option Nat}{fn:Func}{m:DO}{v:Adv}{ls:List (Code×Loop)}(hC:OKC P C inl)(hl:LpK P fn.ntmps (Dz 0 m.ps) ls)
  (hf:fnB P f fn m=(I fn,A0,Y,Y):=by kernel_rfl)(hb:fn.body=I (Kh fn):=by kernel_rfl)(h:Fp (Kh fn) v=ls:=by kernel_rfl)(hg:∀x,Zj C inl fn v m x=m.g x:=by intro _;kernel_rfl):SQ P (f,d,m):=
 so hC hf hb h hl hg
def sq{P:Program}{C:Cx}{inl:(Ω:Type)->Inl Ω}(hC:OKC P C inl){n:Nat}{pins:List Nat}{body:Code}{v:Adv}{l:Loop}{b:Lv l.sch->Option (Lv l.sch ⊕ (Lv l.KD ⊕ Lv l.KE))}{ls:List (Code×Loop)}
  (hl:LpK P n pins ls)(hb:∀x,evL C inl n pins body v l x=b x:=by intro _;kernel_rfl)(hr:l.run=AW b:=by rfl)(h:Fp body v=ls:=by kernel_rfl):LpK P n pins [(body,l)]:=lk hC hb hr h hl
def kd:TypeId->Option K
 | 2=>I .int
 | 3=>I .int
 | 4=>I .bool
 | 5=>I .u8
 | 9=>I .str
 | 10=>I .str
 | 11=>I .str
 | 36=>I .note
 | 39=>I .keep
 | 45=>I .AQ
 | 51=>I .CM
 | 59=>I .Ak
 | 61=>I .mark
 | 107=>I .half
 | 124=>I .frame
 | 142=>I .mixed
 | _=>G
abbrev Y0:Type:=List Int×v7
abbrev Z0:Sh:= .box 92 [.fz .u8,j6]
abbrev Y1:Type:=Int×Bool×A1×Int×List AE×D
abbrev Z1:Sh:= .agg [j6,.bool,.str,j6,.row 107 .half]
abbrev Y2:Type:=Int×List A7×List Bool×List AL×List A3×List A3×D
abbrev Z2:Sh:= .box 31 [j6,.row 45 .AQ,.row 4 .bool,.row 59 .Ak,.row 36 .note,.row 36 .note]
abbrev Z3:Sh:= .agg [j6,.row 45 .AQ,.row 4 .bool,.row 59 .Ak,.row 36 .note,.row 36 .note]
abbrev Y3:Type:=Int×Int×Int×List A3×List Mark×List A3×D
abbrev Z4:Sh:= .agg [j6,j6,j6,.row 36 .note,.row 61 .mark,.row 36 .note]
abbrev Y4:Type:=Int×Int×Int×Int×A1×D
abbrev Z5:Sh:= .box 36 [j6,j6,j6,j6,.str]
abbrev Z6:Sh:= .agg [j6,j6,j6,j6,.str]
abbrev Z7:Sh:= .box 39 [j6,j6,j6,.sl .note,.sl .mark,.sl .note]
abbrev Z8:Sh:= .agg [j6,j6,j6,.fz .note,.fz .mark,.fz .note]
abbrev Z9:Sh:= .box 39 [j6,j6,j6,.row 36 .note,.row 61 .mark,.row 36 .note]
abbrev Y5:Type:=aE7
abbrev Z10:Sh:= .box 61 [j6,j6,j6]
abbrev Z11:Sh:= .agg [j6,j6,j6]
abbrev Z12:Sh:= .agg [j6,.bool,.str,j6,.fz .half]
abbrev Y6:Type:=Int×Int×Int×Int×Int×Int×Int×Int×Int×A1×D
abbrev Z13:Sh:= .agg [j6,j6,j6,j6,j6,j6,j6,j6,j6,.str]
abbrev Z14:Sh:= .box 124 [j6,j6,j6,j6,j6,j6,j6,j6,j6,.str]
abbrev Y7:Type:=A1×v7
abbrev Z15:Sh:= .agg [.str,j6]
abbrev Y8:Type:=Int×A1×D
abbrev Z16:Sh:= .agg [j6,.str]
abbrev Y9:Type:=Int×Int×Int×Int×Int×List AN×D
abbrev Z17:Sh:= .box 107 [j6,j6,j6,j6,j6,.sl .mixed]
abbrev Z18:Sh:= .agg [j6,j6,j6,j6,j6,.fz .mixed]
abbrev Z19:Sh:= .box 45 [j6,.bool,.str,j6,.sl .half]
abbrev Z20:Sh:= .box 45 [j6,.bool,.str,j6,.row 107 .half]
abbrev Z21:Sh:= .box 42 [.str,j6]
abbrev Y10:Type:=Y0×Int×List A7×List Bool×List AL×List A3×List A3×List Event×D
abbrev Z22:Sh:= .box 69 [Z0,j6,.row 45 .AQ,.row 4 .bool,.row 59 .Ak,.row 36 .note,.row 36 .note,.row 51 .CM]
abbrev Z23:Sh:= .box 92 [.sl .u8,j6]
abbrev Z24:Sh:= .box 69 [Z23,j6,.row 45 .AQ,.row 4 .bool,.row 59 .Ak,.row 36 .note,.row 36 .note,.row 51 .CM]
abbrev Z25:Sh:= .box 51 [j6,j6,j6,j6,j6,j6,j6,j6,j6,.str]
abbrev Y11:Type:=D×Int×List A7×List Bool×List AL×List A3×List A3×List Event×D
abbrev Z28:Sh:= .box 69 [.same 0,j6,.row 45 .AQ,.row 4 .bool,.row 59 .Ak,.row 36 .note,.row 36 .note,.row 51 .CM]
abbrev Z29:Sh:= .box 31 [j6,.sl .AQ,.sl .bool,.sl .Ak,.sl .note,.sl .note]
abbrev Z30:Sh:= .agg [j6,.fz .AQ,.fz .bool,.fz .Ak,.fz .note,.fz .note]
abbrev Z31:Sh:= .box 39 [j6,j6,j6,.row 36 .note,.row 61 .mark,.sl .note]
abbrev Z32:Sh:= .box 142 [j6,.str]
abbrev Y12:Type:=Int×Int×A1×Bool×D
abbrev Z33:Sh:= .box 59 [j6,j6,.str,.bool]
abbrev Z34:Sh:= .box 45 [j6,.bool,.str,j6,.fz .half]
abbrev Z35:Sh:= .box 31 [j6,.fz .AQ,.fz .bool,.fz .Ak,.fz .note,.fz .note]
abbrev Rnd(a b c:Type):=Option<|a ⊕ (b ⊕ c)
noncomputable abbrev cX(l:List Ent)(cz sp:List (Nat×Nat)):Cx:=⟨prog,kd,gam l,inR cz,inR sp⟩
abbrev LF(fn:Func)(pins path:List Nat)(l:Loop):=LpK prog fn.ntmps pins [(P3 path<|Kh fn,l)]
def mixed:prog.follows .mixedOrders=Y:=by kernel_rfl
def Iz:(v7)->Option ((A1×D)×D):=Th
def Rj:Ent:=(152,G,⟨[j6],[.str],Iz⟩)
def UH:y8 Rj:=⟨aqq (O2 func152 aFb (by kernel_rfl:f152.body=I (Kh f152))) aFb Tryz.strconv_Itoa,by kernel_rfl⟩
def Vf:(A1×A1×D)->Option ((A1×A1×Bool×D)×D):=P0
def zp:Ent:=(198,G,⟨[.str,.str],[.str,.str,.bool],Vf⟩)
def ago:y8 zp:=⟨asZ (gm:=1) (O2 func198 aFb (by kernel_rfl:f198.body=I (Kh f198))) (Bd aFb) (λw h=>Tryz.nt.s1_3 w h) Tryz.strings_Cut,by kernel_rfl⟩
def dR:(A1×A1×D)->Option ((List A1×D)×D):=T8
def wj:Ent:=(203,G,⟨[.str,.str],[.row 9 .str],dR⟩)
def afL:y8 wj:=⟨apa (gm:=1) (O2 func203 aFb (by kernel_rfl:f203.body=I (Kh f203))) (Bd aFb) (λw h=>Tryz.nt.s1_3 w h) Tryz.strings_Split,by kernel_rfl⟩
def rH:(A1×A1×v7)->Option ((List A1×D)×D):=Sk
def vq:Ent:=(240,G,⟨[.str,.str,j6],[.row 9 .str],rH⟩)
def aeU:y8 vq:=⟨ap3 (gm:=1) (O2 func240 aFb (by kernel_rfl:f240.body=I (Kh f240))) (Bd aFb) (λw h=>Tryz.nt.s1_3 w h) Tryz.strings_SplitN,by kernel_rfl⟩
def amw:Cx:=cX [] [] []
abbrev y9(C:Cx):Prop:=OKC prog C AF
def aE1{kd:TypeId->Option K}{l:List Ent}{cz sp:Nat->Bool}(h:Qj prog l):OKC prog ⟨prog,kd,gam l,cz,sp⟩ AF:=okc mixed h
def ann:y9 amw:=aE1<|AI
def fD(x:List Int×D):Option ((Y0×D)×D):=if U (2000<(j8 x.1:Int)) then if U (0<=2000)&&U (2000<=(j8 x.1:Int)) then let a:=(BR (AK 2000) x.1);I (((a,0,()),()),()) else G else I (((x.1,0,()),()),())
def zq:Ent:=(32,G,⟨[.fz .u8],[Z0],fD⟩)
def agp:y8 zq:=sk (v:= .nil) (fn:=f32) ann kN
def ahv:Cx:=cX [] [] [(18,23)]
def ajV:y9 ahv:=aE1<|AI
def Ce(x:Y0×v7):Option ((v7)×Y0×D):=if(U<|x.2.1<1)||(U<|(j8 x.1.1:Int)=0) then I ((0,()),((x.1.1,(w64<|x.1.2.1+1),()),())) else let a:=(w64<|(w64<|x.1.2.1+1) - 1);(if U (a<(j8 x.1.1:Int)) then if inb a x.1.1.length then if !decide (x.2.1=0) then let c:=(BK (w64<|rd aFd x.1.1 a) x.2.1);I ((c,()),((x.1.1,(w64<|x.1.2.1+1),()),())) else G else G else if !decide ((j8 x.1.1:Int)=0) then if inb (BK a (j8 x.1.1:Int)) x.1.1.length then if !decide ((j8 x.1.1:Int)=0) then if inb (BK (w64<|(w64<|a * 7)+3) (j8 x.1.1:Int)) x.1.1.length then if !decide ((j8 x.1.1:Int)=0) then let b:=(w64<|(w64<|(w64<|(w64<|(w64<|rd aFd x.1.1<|BK a (j8 x.1.1:Int)) * 131)+(w64<|(w64<|rd aFd x.1.1<|BK (w64<|(w64<|a * 7)+3) (j8 x.1.1:Int)) * 1117))+(w64<|a * 29))+(w64<|(w64<|B0 a (j8 x.1.1:Int)) * 53));let d:=(Dt .i64 b<|w64<|B0 b 64);(if !decide (x.2.1=0) then I (((BK d x.2.1),()),((x.1.1,(w64<|x.1.2.1+1),()),())) else G) else G else G else G else G else G)
def LN:Ent:=(33,G,⟨[Z0,j6],[j6],Ce⟩)
def MI:y8 LN:=sk (v:= .nil) (fn:=f33) ajV kN
def apJ:Cx:=cX [] [] [(11,13)]
def aqN:y9 apJ:=aE1<|AI
def D9(x:aE7):Option ((Bool×D)×D):=let a:=((U<|x.2.1<=x.1)&&(U<|x.1<=x.2.2.1));I ((a,()),())
def Gr:Ent:=(56,G,⟨[j6,j6,j6],[.bool],D9⟩)
def HI:y8 Gr:=sk (v:= .nil) (fn:=f56) aqN kN
def aik:Cx:=cX [Gr] [] []
def al2:y9 aik:=aE1<|gC HI<|AI
def FR(x:v7):Option ((Bool×D)×D):=(D9 (x.1,0,3,())).bind λa=>I (a.1,())
def IP:Ent:=(58,G,⟨[j6],[.bool],FR⟩)
def Iw:y8 IP:=sk (v:= .nil) (fn:=f58) al2 kN
def afJ:Cx:=cX [IP] [] []
def agH:y9 afJ:=aE1<|gC Iw<|AI
def UL(x:v7):Option ((Y1×D)×D):=(FR x).bind λa=>if !a.1.1 then I (((0,A0,noB,0,([]:List AE),()),()),()) else I (((x.1,Y,noB,0,([]:List AE),()),()),())
def tA:Ent:=(64,G,⟨[j6],[Z1],UL⟩)
def adz:y8 tA:=sk (v:= .nil) (fn:=f64) agH kN
def ag1:Cx:=cX [tA] [] []
def rW:y9 ag1:=aE1<|gC adz<|AI
def UJ(x:Y2×Y2×v7):Rnd (Y2×Y2×v7) D (Y2×Y2×D):=if U ((w64<|x.2.2.1+1)<4) then if Ac (x.2.1.2.2.1.length+([Y]:List Bool).length) then I (.inl (x.1,(x.2.1.1,x.2.1.2.1,(x.2.1.2.2.1++([Y]:List Bool)),x.2.1.2.2.2),(w64<|x.2.2.1+1),())) else G else I (.inr<|.inr (x.1,x.2.1,()))
def pH:=AW UJ
def adP:Loop:=⟨[(0,Z2),(1,Z2),(3,j6)],[(0,Z2),(1,Z2)],2,[],pH⟩
def afY:LF f35 [] [1,1,1,0,1,0,0] adP:=sq (v:= .nil) rW (b:=UJ) kN
def bW(x:Y2×Y2×v7):Rnd (Y2×Y2×v7) D (Y2×Y2×D):=if U (x.2.2.1<4) then(UL x.2.2).bind λa=>if Ac (x.2.1.2.1.length+([(A7.mk a.1.1.1 a.1.1.2.1 a.1.1.2.2.1 a.1.1.2.2.2.1 a.1.1.2.2.2.2.1)]:List A7).length) then I (.inl (x.1,(x.2.1.1,(x.2.1.2.1++([(A7.mk a.1.1.1 a.1.1.2.1 a.1.1.2.2.1 a.1.1.2.2.2.1 a.1.1.2.2.2.2.1)]:List A7)),x.2.1.2.2),(w64<|x.2.2.1+1),())) else G else I (.inr<|.inr (x.1,x.2.1,()))
def pI:=AW bW
def adQ:Loop:=⟨[(0,Z2),(1,Z2),(2,j6)],[(0,Z2),(1,Z2)],0,[],pI⟩
def afc:LF f35 [] [1,1,0,1,0,0] adQ:=sq (v:= .nil) rW (b:=bW) kN
def RO(x:D):Option ((Y2×D)×D):=(AO (pI ((0,([]:List A7),([]:List Bool),([]:List AL),([]:List A3),([]:List A3),()),(0,([]:List A7),([]:List Bool),([]:List AL),([]:List A3),([]:List A3),()),0,())) (λ_=>G) λa=>(AO (pH (a.1,a.2.1,0,())) (λ_=>G) λb=>I (b.2,())))
def rQ:Ent:=(35,G,⟨[],[Z3],RO⟩)
def acw:y8 rQ:=sk (v:=t1<|t1<|.two (t1<|.one<|.loop adQ)<|.two (t1<|.one<|.loop adP) .nil) (fn:=f35) rW<|kC afc<|kC afY kN
def GU(abq:(v7)->Option ((A1×D)×D))(x:v7):Option ((A1×D)×D):=
 if U (x.1<(-9223372036854775807)) then
 let v2:=(B [45,57,50,50,51,51,55,50,48,51,54,56,53,52,55,55,53,56,48,56])
 I ((v2,()),())
 else
 if U (x.1<0) then
 (abq ((w64<|0 - x.1),())).bind λr4=>
 if U ((B [45]).size+r4.1.1.size<=4611686018427387904) then
 I ((((B [45])++r4.1.1),()),())
 else G
 else
 if U (x.1<10) then
 let v6:=(BH ([(w8<|w64<|48+x.1)]:List Int))
 I ((v6,()),())
 else
 (abq ((w64<|B0 x.1 10),())).bind λr7=>
 if U (r7.1.1.size+(BH ([(w8<|w64<|48+(BK x.1 10))]:List Int)).size<=4611686018427387904) then
 let v8:=(r7.1.1++(BH ([(w8<|w64<|48+(BK x.1 10))]:List Int)))
 I ((v8,()),())
 else G
def DN:=NH GU
def ao8(g:(v7)->Option ((A1×D)×D)):Cx:=cX [(168,G,⟨[j6],[.str],g⟩)] [] []
def ap5(g:(v7)->Option ((A1×D)×D))(h:SQ prog (168,G,⟨[j6],[.str],g⟩)):OKC prog (ao8 g) AF:=okc mixed<|gC h<|AI
def Nq:Ent:=(168,G,⟨[j6],[.str],DN⟩)
def PG:y8 Nq:=soR (O2 (by kernel_rfl:prog.funcs[168]? =I f168) aFb (by kernel_rfl:f168.body=I (Kh f168))) (λ_=>by kernel_rfl) λg h=>so (v:= .nil) (fn:=f168) (ap5 g h) aFb aFb aFb kN λ_=>by kernel_rfl
def ao9:Cx:=cX [Nq] [] [(9,11),(24,27)]
def aAL:y9 ao9:=aE1<|gC PG<|AI
def fE(x:A1×aE2):Rnd (A1×aE2) (v7) (A1×v7):=if U (x.2.2.1<(x.1.size:Int)) then if inb x.2.2.1 x.1.size then if Al (!(U<|(bt x.1 x.2.2.1)<48)) (inb x.2.2.1 x.1.size) then if(U<|(bt x.1 x.2.2.1)<48)||(U<|57<(bt x.1 x.2.2.1)) then I (.inr<|.inl ((-1),())) else if inb x.2.2.1 x.1.size then let a:=(w64<|(w64<|x.2.1 * 10)+(w64<|w8<|(bt x.1 x.2.2.1) - 48));I (.inl (x.1,a,(w64<|x.2.2.1+1),())) else G else G else G else I (.inr<|.inr (x.1,x.2.1,()))
def rJ:=AW fE
def xt:Loop:=⟨[(0,.str),(3,j6),(4,j6)],[(0,.str),(3,j6)],0,[(2,j6)],rJ⟩
def aob:LF f161 [] [1,1,1,0,1,0,0] xt:=sq (v:= .nil) aAL (b:=fE) kN
def Pb(x:A1×D):Option ((v7)×D):=if(U<|(x.1.size:Int)<1)||(U<|4<(x.1.size:Int)) then I (((-1),()),()) else(AO (rJ (x.1,0,0,())) (λa=>I (a,())) λa=>(DN a.2).bind λb=>if !decide (b.1.1=a.1) then I (((-1),()),()) else I (a.2,()))
def fl:Ent:=(161,G,⟨[.str],[j6],Pb⟩)
def rI:y8 fl:=sk (v:=t1<|t1<|t1<|.two (t1<|.one<|.loop xt) .nil) (fn:=f161) aAL<|kC aob kN
def amd:Cx:=cX [fl] [] [(11,12)]
def yw:y9 amd:=aE1<|gC rI<|AI
def NZ(x:A1×v7):Rnd (A1×v7) (A1×v7) D:=if(U<|x.2.1<(x.1.size:Int))&&(U<|x.2.1<3) then if inb x.2.1 x.1.size then if !decide ((bt x.1 x.2.1)=58) then I (.inl (x.1,(w64<|x.2.1+1),())) else if U (0<=x.2.1)&&U (x.2.1<=(x.1.size:Int)) then(Pb ((x.1.extract (0)<|AK x.2.1),())).bind λa=>if U (a.1.1<1) then I (.inr<|.inl (noB,0,())) else if U (60<a.1.1) then I (.inr<|.inl (noB,0,())) else if U ((x.1.size:Int)<(w64<|(w64<|x.2.1+2)+a.1.1)) then I (.inr<|.inl (noB,0,())) else if inb (w64<|(w64<|x.2.1+1)+a.1.1) x.1.size then if !decide ((bt x.1<|w64<|(w64<|x.2.1+1)+a.1.1)=59) then I (.inr<|.inl (noB,0,())) else if(U (0<=(w64<|(w64<|x.2.1+1)+a.1.1))&&U ((w64<|(w64<|x.2.1+1)+a.1.1)<=(x.1.size:Int)))&&(U (0<=(w64<|x.2.1+1))&&U ((w64<|x.2.1+1)<=(w64<|(w64<|x.2.1+1)+a.1.1))) then let b:=(x.1.extract (AK<|w64<|x.2.1+1)<|AK<|w64<|(w64<|x.2.1+1)+a.1.1);let c:=(w64<|(w64<|x.2.1+2)+a.1.1);I (.inr<|.inl (b,c,())) else G else G else G else G else I (.inr<|.inr ())
def qf:=AW NZ
def xD:Loop:=⟨[(0,.str),(4,j6)],[],0,[(2,.str),(3,j6)],qf⟩
def amU:LF f123 [] [1,0,1,0,0] xD:=sq (v:= .nil) yw (b:=NZ) kN
def fK(x:A1×D):Option ((A1×v7)×D):=(AO (qf (x.1,0,())) (λa=>I (a,())) λa=>I ((noB,0,()),()))
def zD:Ent:=(123,G,⟨[.str],[.str,j6],fK⟩)
def agy:y8 zD:=sk (v:=t1<|.two (t1<|.one<|.loop xD) .nil) (fn:=f123) yw<|kC amU kN
def ahy:Cx:=cX [zD] [] []
def vZ:y9 ahy:=aE1<|gC agy<|AI
def RI(x:A1×List A1×v7):Rnd (A1×List A1×v7) (List A1×v7) (List A1×v7):=if U (x.2.2.1<(x.1.size:Int)) then if U (0<=x.2.2.1)&&U (x.2.2.1<=(x.1.size:Int)) then(fK ((x.1.extract (AK x.2.2.1)<|x.1.size),())).bind λa=>if U (a.1.2.1=0) then I (.inr<|.inl x.2) else if Ac (x.2.1.length+([a.1.1]:List A1).length) then let b:=(w64<|x.2.2.1+a.1.2.1);I (.inl (x.1,(x.2.1++([a.1.1]:List A1)),b,())) else G else G else I (.inr<|.inr x.2)
def pQ:=AW RI
def adp:Loop:=⟨[(0,.str),(4,.row 9 .str),(5,j6)],[(4,.row 9 .str),(5,j6)],0,[(2,.row 9 .str),(3,j6)],pQ⟩
def ahM:LF f87 [] [1,1,1,0,0,0] adp:=sq (v:= .nil) vZ (b:=RI) kN
def LJ(x:A1×D):Option ((List A1×v7)×D):=(AO (pQ (x.1,([]:List A1),0,())) (λa=>I (a,())) λa=>I (a,()))
def Up:Ent:=(87,G,⟨[.str],[.row 9 .str,j6],LJ⟩)
def aT:y8 Up:=sk (v:=t1<|t1<|t1<|.two (.one<|.loop adp) .nil) (fn:=f87) vZ<|kC ahM kN
def ai7:Cx:=cX [IP] [] []
def ajc:y9 ai7:=aE1<|gC Iw<|AI
def cT(x:v7):Option ((Y3×D)×D):=(FR x).bind λa=>if !a.1.1 then I (((0,0,0,([]:List A3),([]:List Mark),([]:List A3),()),()),()) else I (((x.1,0,1,([]:List A3),([]:List Mark),([]:List A3),()),()),())
def wA:Ent:=(124,G,⟨[j6],[Z4],cT⟩)
def aeG:y8 wA:=sk (v:= .nil) (fn:=f124) ajc kN
def ame:Cx:=cX [Gr,IP] [] [(51,55)]
def yx:y9 ame:=aE1<|gC HI<|gC Iw<|AI
def eA(x:Y4×v7):Rnd (Y4×v7) (Bool×D) D:=if U (x.2.1<(x.1.2.2.2.2.1.size:Int)) then if inb x.2.1 x.1.2.2.2.2.1.size then if Al (!(U<|(bt x.1.2.2.2.2.1 x.2.1)<32)) (inb x.2.1 x.1.2.2.2.2.1.size) then if(U<|(bt x.1.2.2.2.2.1 x.2.1)<32)||(U<|126<(bt x.1.2.2.2.2.1 x.2.1)) then I (.inr<|.inl (A0,())) else I (.inl (x.1,(w64<|x.2.1+1),())) else G else G else I (.inr<|.inr ())
def qn:=AW eA
def xG:Loop:=⟨[(1,Z5),(3,j6)],[],0,[(2,.bool)],qn⟩
def alz:LF f59 [] [1,1,0,1,0,0] xG:=sq (v:= .nil) yx (b:=eA) kN
def Nk(x:Y4×D):Option ((Bool×D)×D):=(FR (x.1.1,())).bind λb=>if !b.1.1 then I ((A0,()),()) else(FR (x.1.2.2.1,())).bind λc=>if !c.1.1 then I ((A0,()),()) else(D9 (x.1.2.1,1,99,())).bind λd=>if !d.1.1 then I ((A0,()),()) else(D9 (x.1.2.2.2.1,1,999,())).bind λe=>if !e.1.1 then I ((A0,()),()) else if U ((x.1.2.2.2.2.1.size:Int)<1) then I ((A0,()),()) else if U (24<(x.1.2.2.2.2.1.size:Int)) then I ((A0,()),()) else(AO (qn (x.1,0,())) (λa=>I (a,())) λa=>I ((Y,()),()))
def Vq:Ent:=(59,G,⟨[Z6],[.bool],Nk⟩)
def bo:y8 Vq:=sk (v:=t1<|t1<|.two (t1<|.one<|.loop xG) .nil) (fn:=f59) yx<|kC alz kN
def alL:Cx:=cX [] [] [(13,20)]
def ani:y9 alL:=aE1<|AI
def MK(x:Int×aE7):Option ((Bool×D)×D):=let a:=((U<|x.1<x.2.2.1)||((U<|x.1=x.2.2.1)&&(U<|x.2.1<x.2.2.2.1)));I ((a,()),())
def VY:Ent:=(246,G,⟨[j6,j6,j6,j6],[.bool],MK⟩)
def bV:y8 VY:=sk (v:= .nil) (fn:=f246) ani kN
def aiq:Cx:=cX [Vq,VY] [] [(23,50)]
def wQ:y9 aiq:=aE1<|gC bo<|gC bV<|AI
def cL(x:List A3×v7):Rnd (List A3×v7) (Bool×D) D:=if U (x.2.1<(j8 x.1:Int)) then if inb x.2.1 x.1.length then(Nk (((rd aE3 x.1 x.2.1).fr,(rd aE3 x.1 x.2.1).nu,(rd aE3 x.1 x.2.1).to,(rd aE3 x.1 x.2.1).un,(rd aE3 x.1 x.2.1).tx,()),())).bind λa=>if Al ((!(!a.1.1))&&(U<|0<x.2.1)) (inb (w64<|x.2.1 - 1) x.1.length) then if Al ((!(!a.1.1))&&(U<|0<x.2.1)) (inb (w64<|x.2.1 - 1) x.1.length) then if Al ((!(!a.1.1))&&(U<|0<x.2.1)) (inb x.2.1 x.1.length) then if Al ((!(!a.1.1))&&(U<|0<x.2.1)) (inb x.2.1 x.1.length) then if Al ((!(!a.1.1))&&(U<|0<x.2.1)) ((MK ((rd aE3 x.1<|w64<|x.2.1 - 1).fr,(rd aE3 x.1<|w64<|x.2.1 - 1).nu,(rd aE3 x.1 x.2.1).fr,(rd aE3 x.1 x.2.1).nu,())).isSome) then if(!a.1.1)||((U<|0<x.2.1)&&(!(((MK ((rd aE3 x.1<|w64<|x.2.1 - 1).fr,(rd aE3 x.1<|w64<|x.2.1 - 1).nu,(rd aE3 x.1 x.2.1).fr,(rd aE3 x.1 x.2.1).nu,())).getD ((A0,()),())).1.1))) then I (.inr<|.inl (A0,())) else I (.inl (x.1,(w64<|x.2.1+1),())) else G else G else G else G else G else G else I (.inr<|.inr ())
def pb:=AW cL
def uH:Loop:=⟨[(0,.sl .note),(5,j6)],[],0,[(4,.bool)],pb⟩
def aiM:LF f206 [] [1,1,0,1,0,0] uH:=sq (v:= .nil) wQ (b:=cL) kN
def VA(x:List A3×v7):Option ((Bool×D)×D):=if U (x.2.1<(j8 x.1:Int)) then I ((A0,()),()) else(AO (pb (x.1,0,())) (λa=>I (a,())) λa=>I ((Y,()),()))
def wu:Ent:=(206,G,⟨[.fz .note,j6],[.bool],VA⟩)
def afO:y8 wu:=sk (v:=t1<|t1<|.two (t1<|.one<|.loop uH) .nil) (fn:=f206) wQ<|kC aiM kN
def air:Cx:=cX [Gr,IP,VY] [] []
def wR:y9 air:=aE1<|gC HI<|gC Iw<|gC bV<|AI
def cM(x:List Mark×v7):Rnd (List Mark×v7) (Bool×D) D:=if U (x.2.1<(j8 x.1:Int)) then if inb x.2.1 x.1.length then let a:=(rd aFc x.1 x.2.1).mf;let b:=(rd aFc x.1 x.2.1).mn;let c:=(rd aFc x.1 x.2.1).mu;(FR (a,())).bind λd=>if !d.1.1 then I (.inr<|.inl (A0,())) else(D9 (b,1,99,())).bind λe=>if !e.1.1 then I (.inr<|.inl (A0,())) else(D9 (c,1,999,())).bind λf=>if !f.1.1 then I (.inr<|.inl (A0,())) else if U (0<x.2.1) then if inb (w64<|x.2.1 - 1) x.1.length then if inb (w64<|x.2.1 - 1) x.1.length then(MK ((rd aFc x.1<|w64<|x.2.1 - 1).mf,(rd aFc x.1<|w64<|x.2.1 - 1).mn,a,b,())).bind λg=>if !g.1.1 then I (.inr<|.inl (A0,())) else I (.inl (x.1,(w64<|x.2.1+1),())) else G else G else I (.inl (x.1,(w64<|x.2.1+1),())) else G else I (.inr<|.inr ())
def pd:=AW cM
def uI:Loop:=⟨[(0,.sl .mark),(3,j6)],[],0,[(2,.bool)],pd⟩
def aiN:LF f207 [] [1,1,0,1,0,0] uI:=sq (v:= .nil) wR (b:=cM) kN
def db(x:List Mark×D):Option ((Bool×D)×D):=if U (12<(j8 x.1:Int)) then I ((A0,()),()) else(AO (pd (x.1,0,())) (λa=>I (a,())) λa=>I ((Y,()),()))
def wv:Ent:=(207,G,⟨[.fz .mark],[.bool],db⟩)
def afP:y8 wv:=sk (v:=t1<|t1<|.two (t1<|.one<|.loop uI) .nil) (fn:=f207) wR<|kC aiN kN
def amY:Cx:=cX [] [] [(16,25)]
def anr:y9 amY:=aE1<|AI
def fH(x:Y4×v7):Option ((Bool×D)×D):=if U (x.1.1<=x.2.1) then let a:=((U<|x.2.1<x.1.2.2.1)||((U<|x.1.2.2.1<x.2.1)&&(U<|x.2.1<=x.1.1)));I ((a,()),()) else let b:=((U<|x.1.2.2.1<x.2.1)&&(U<|x.2.1<=x.1.1));I ((b,()),())
def z8:Ent:=(208,G,⟨[Z6,j6],[.bool],fH⟩)
def agu:y8 z8:=sk (v:= .nil) (fn:=f208) anr kN
def alK:Cx:=cX [] [] [(22,28)]
def yi:y9 alK:=aE1<|AI
def dd(x:List Mark×aE7):Rnd (List Mark×aE7) (v7) D:=if U (x.2.2.2.1<(j8 x.1:Int)) then if inb x.2.2.2.1 x.1.length then if Al (U<|(rd aFc x.1 x.2.2.2.1).mf=x.2.1) (inb x.2.2.2.1 x.1.length) then if(U<|(rd aFc x.1 x.2.2.2.1).mf=x.2.1)&&(U<|(rd aFc x.1 x.2.2.2.1).mn=x.2.2.1) then I (.inr<|.inl x.2.2.2) else I (.inl (x.1,x.2.1,x.2.2.1,(w64<|x.2.2.2.1+1),())) else G else G else I (.inr<|.inr ())
def pz:=AW dd
def vL:Loop:=⟨[(0,.sl .mark),(1,j6),(2,j6),(7,j6)],[],0,[(6,j6)],pz⟩
def ak8:LF f209 [] [1,0,1,0,0] vL:=sq (v:= .nil) yi (b:=dd) kN
def KM(x:List Mark×aE2):Option ((v7)×D):=(AO (pz (x.1,x.2.1,x.2.2.1,0,())) (λa=>I (a,())) λa=>I (((-1),()),()))
def VX:Ent:=(209,G,⟨[.fz .mark,j6,j6],[j6],KM⟩)
def bU:y8 VX:=sk (v:=t1<|.two (t1<|.one<|.loop vL) .nil) (fn:=f209) yi<|kC ak8 kN
def amg:Cx:=cX [Gr,IP,wu,wv,z8,VX] [] [(109,120)]
def fY:y9 amg:=aE1<|gC HI<|gC Iw<|gC afO<|gC afP<|gC agu<|gC bU<|AI
def dw(x:Y3×v7):Rnd (Y3×v7) (Bool×D) D:=if U (x.2.1<(j8 x.1.2.2.2.2.2.1:Int)) then if inb x.2.1 x.1.2.2.2.2.2.1.length then let oq:=(rd aE3 x.1.2.2.2.2.2.1 x.2.1).fr;let a:=(rd aE3 x.1.2.2.2.2.2.1 x.2.1).nu;let ayx:=(rd aE3 x.1.2.2.2.2.2.1 x.2.1).to;let b:=(rd aE3 x.1.2.2.2.2.2.1 x.2.1).un;let azy:=(rd aE3 x.1.2.2.2.2.2.1 x.2.1).tx;(if !decide (ayx=x.1.1) then I (.inr<|.inl (A0,())) else if U (oq=x.1.1) then if U (x.1.2.2.1<=a) then I (.inr<|.inl (A0,())) else if U (x.1.2.1<b) then(KM (x.1.2.2.2.2.1,oq,a,())).bind λaB=>if U (aB.1.1<0) then I (.inr<|.inl (A0,())) else I (.inl (x.1,(w64<|x.2.1+1),())) else I (.inl (x.1,(w64<|x.2.1+1),())) else if U (x.1.2.1<b) then(KM (x.1.2.2.2.2.1,oq,a,())).bind λazB=>if U (azB.1.1<0) then I (.inr<|.inl (A0,())) else I (.inl (x.1,(w64<|x.2.1+1),())) else I (.inl (x.1,(w64<|x.2.1+1),()))) else G else I (.inr<|.inr ())
def qj:=AW dw
def xK:Loop:=⟨[(1,Z7),(7,j6)],[],4,[(2,.bool)],qj⟩
def amK:LF f162 [] [1,1,1,1,0,1,0,0] xK:=sq (v:= .nil) fY (b:=dw) kN
def dx(x:Y3×v7):Rnd (Y3×v7) (Bool×D) (Y3×D):=if U (x.2.1<(j8 x.1.2.2.2.2.1:Int)) then if inb x.2.1 x.1.2.2.2.2.1.length then let a:=(rd aFc x.1.2.2.2.2.1 x.2.1).mf;let b:=(rd aFc x.1.2.2.2.2.1 x.2.1).mn;let c:=(rd aFc x.1.2.2.2.2.1 x.2.1).mu;if(U<|c<=x.1.2.1)||((U<|a=x.1.1)&&(U<|x.1.2.2.1<=b)) then I (.inr<|.inl (A0,())) else I (.inl (x.1,(w64<|x.2.1+1),())) else G else I (.inr<|.inr (x.1,()))
def qk:=AW dx
def xL:Loop:=⟨[(1,Z7),(5,j6)],[(1,Z7)],2,[(2,.bool)],qk⟩
def amN:LF f162 [] [1,1,1,0,1,0,0] xL:=sq (v:= .nil) fY (b:=dx) kN
def dy(x:Y3×v7):Rnd (Y3×v7) (Bool×D) (Y3×D):=if U (x.2.1<(j8 x.1.2.2.2.1:Int)) then if inb x.2.1 x.1.2.2.2.1.length then let a:=(rd aE3 x.1.2.2.2.1 x.2.1).fr;let b:=(rd aE3 x.1.2.2.2.1 x.2.1).nu;let d:=(rd aE3 x.1.2.2.2.1 x.2.1).to;let c:=(rd aE3 x.1.2.2.2.1 x.2.1).un;let e:=(rd aE3 x.1.2.2.2.1 x.2.1).tx;if U (c<=x.1.2.1) then I (.inr<|.inl (A0,())) else(fH ((a,b,d,c,e,()),x.1.1,())).bind λf=>if !f.1.1 then I (.inr<|.inl (A0,())) else if U (a=x.1.1) then if U (x.1.2.2.1<=b) then I (.inr<|.inl (A0,())) else(KM (x.1.2.2.2.2.1,a,b,())).bind λg=>if U (0<=g.1.1) then I (.inr<|.inl (A0,())) else I (.inl (x.1,(w64<|x.2.1+1),())) else(KM (x.1.2.2.2.2.1,a,b,())).bind λh=>if U (0<=h.1.1) then I (.inr<|.inl (A0,())) else I (.inl (x.1,(w64<|x.2.1+1),())) else G else I (.inr<|.inr (x.1,()))
def ql:=AW dy
def xM:Loop:=⟨[(1,Z7),(3,j6)],[(1,Z7)],0,[(2,.bool)],ql⟩
def am1:LF f162 [] [1,1,0,1,0,0] xM:=sq (v:= .nil) fY (b:=dy) kN
def PX(x:Y3×D):Option ((Bool×D)×D):=(FR (x.1.1,())).bind λc=>if !c.1.1 then I ((A0,()),()) else(D9 (x.1.2.1,0,999,())).bind λd=>if !d.1.1 then I ((A0,()),()) else(D9 (x.1.2.2.1,1,100,())).bind λe=>if !e.1.1 then I ((A0,()),()) else(VA (x.1.2.2.2.1,6,())).bind λf=>if !f.1.1 then I ((A0,()),()) else(db (x.1.2.2.2.2.1,())).bind λg=>if !g.1.1 then I ((A0,()),()) else(VA (x.1.2.2.2.2.2.1,6,())).bind λh=>if !h.1.1 then I ((A0,()),()) else(AO (ql (x.1,0,())) (λa=>I (a,())) λa=>(AO (qk (a.1,0,())) (λb=>I (b,())) λb=>(AO (qj (b.1,0,())) (λac9=>I (ac9,())) λac9=>I ((Y,()),()))))
def gU:Ent:=(162,G,⟨[Z8],[.bool],PX⟩)
def te:y8 gU:=sk (v:=t1<|t1<|.two (t1<|.one<|.loop xM)<|.two (t1<|.one<|.loop xL)<|.two (t1<|.one<|.loop xK) .nil) (fn:=f162) fY<|kC am1<|kC amN<|kC amK kN
def alM:Cx:=cX [] [] [(22,28)]
def yj:y9 alM:=aE1<|AI
def de(x:List A3×aE7):Rnd (List A3×aE7) (v7) D:=if U (x.2.2.2.1<(j8 x.1:Int)) then if inb x.2.2.2.1 x.1.length then if Al (U<|(rd aE3 x.1 x.2.2.2.1).fr=x.2.1) (inb x.2.2.2.1 x.1.length) then if(U<|(rd aE3 x.1 x.2.2.2.1).fr=x.2.1)&&(U<|(rd aE3 x.1 x.2.2.2.1).nu=x.2.2.1) then I (.inr<|.inl x.2.2.2) else I (.inl (x.1,x.2.1,x.2.2.1,(w64<|x.2.2.2.1+1),())) else G else G else I (.inr<|.inr ())
def q5:=AW de
def vM:Loop:=⟨[(0,.sl .note),(1,j6),(2,j6),(7,j6)],[],0,[(6,j6)],q5⟩
def ak9:LF f175 [] [1,0,1,0,0] vM:=sq (v:= .nil) yj (b:=de) kN
def G2(x:List A3×aE2):Option ((v7)×D):=(AO (q5 (x.1,x.2.1,x.2.2.1,0,())) (λa=>I (a,())) λa=>I (((-1),()),()))
def MQ:Ent:=(175,G,⟨[.fz .note,j6,j6],[j6],G2⟩)
def NU:y8 MQ:=sk (v:=t1<|.two (t1<|.one<|.loop vM) .nil) (fn:=f175) yj<|kC ak9 kN
def amx:Cx:=cX [] [] []
def yr:y9 amx:=aE1<|AI
def dq(x:A1×v7):Rnd (A1×v7) (A1×A1×D) (A1×D):=if U (x.2.1<(x.1.size:Int)) then if inb x.2.1 x.1.size then if U ((bt x.1 x.2.1)=32) then if U (0<=x.2.1)&&U (x.2.1<=(x.1.size:Int)) then if U (0<=(w64<|x.2.1+1))&&U ((w64<|x.2.1+1)<=(x.1.size:Int)) then let a:=(x.1.extract (0)<|AK x.2.1);let b:=(x.1.extract (AK<|w64<|x.2.1+1)<|x.1.size);I (.inr<|.inl (a,b,())) else G else G else I (.inl (x.1,(w64<|x.2.1+1),())) else G else I (.inr<|.inr (x.1,()))
def qh:=AW dq
def wI:Loop:=⟨[(0,.str),(4,j6)],[(0,.str)],0,[(2,.str),(3,.str)],qh⟩
def amQ:LF f210 [] [1,0,1,0,0] wI:=sq (v:= .nil) yr (b:=dq) kN
def Nh(x:A1×D):Option ((A1×A1×D)×D):=(AO (qh (x.1,0,())) (λa=>I (a,())) λa=>I ((a.1,noB,()),()))
def iF:Ent:=(210,G,⟨[.str],[.str,.str],Nh⟩)
def uF:y8 iF:=sk (v:=t1<|.two (t1<|.one<|.loop wI) .nil) (fn:=f210) yr<|kC amQ kN
def alI:Cx:=cX [] [] []
def gO:y9 alI:=aE1<|AI
def dY(x:Int×Y3×Y3×List A3×List Mark×v7):Rnd (Int×Y3×Y3×List A3×List Mark×v7) D (Int×Y3×Y3×List A3×List Mark×D):=if U (x.2.2.2.2.2.1<(j8 x.2.1.2.2.2.2.1:Int)) then if inb x.2.2.2.2.2.1 x.2.1.2.2.2.2.1.length then if U (x.1<(rd aFc x.2.1.2.2.2.2.1 x.2.2.2.2.2.1).mu) then if inb x.2.2.2.2.2.1 x.2.1.2.2.2.2.1.length then if Ac (x.2.2.2.2.1.length+([(rd aFc x.2.1.2.2.2.2.1 x.2.2.2.2.2.1)]:List Mark).length) then let a:=(w64<|x.2.2.2.2.2.1+1);I (.inl (x.1,x.2.1,x.2.2.1,x.2.2.2.1,(x.2.2.2.2.1++([(rd aFc x.2.1.2.2.2.2.1 x.2.2.2.2.2.1)]:List Mark)),a,())) else G else G else let b:=(w64<|x.2.2.2.2.2.1+1);I (.inl (x.1,x.2.1,x.2.2.1,x.2.2.2.1,x.2.2.2.2.1,b,())) else G else I (.inr<|.inr (x.1,x.2.1,x.2.2.1,x.2.2.2.1,x.2.2.2.2.1,()))
def qB:=AW dY
def vJ:Loop:=⟨[(1,j6),(2,Z7),(4,Z9),(5,.row 36 .note),(7,.row 61 .mark),(8,j6)],[(1,j6),(2,Z7),(4,Z9),(5,.row 36 .note),(7,.row 61 .mark)],2,[],qB⟩
def akY:LF f211 [] [1,1,1,1,0,1,0,0] vJ:=sq (v:= .nil) gO (b:=dY) kN
def dZ(x:Int×Y3×Y3×List A3×v7):Rnd (Int×Y3×Y3×List A3×v7) D (Int×Y3×Y3×List A3×D):=if U (x.2.2.2.2.1<(j8 x.2.1.2.2.2.1:Int)) then if inb x.2.2.2.2.1 x.2.1.2.2.2.1.length then if U (x.1<(rd aE3 x.2.1.2.2.2.1 x.2.2.2.2.1).un) then if inb x.2.2.2.2.1 x.2.1.2.2.2.1.length then if Ac (x.2.2.2.1.length+([(rd aE3 x.2.1.2.2.2.1 x.2.2.2.2.1)]:List A3).length) then I (.inl (x.1,x.2.1,x.2.2.1,(x.2.2.2.1++([(rd aE3 x.2.1.2.2.2.1 x.2.2.2.2.1)]:List A3)),(w64<|x.2.2.2.2.1+1),())) else G else G else I (.inl (x.1,x.2.1,x.2.2.1,x.2.2.2.1,(w64<|x.2.2.2.2.1+1),())) else G else I (.inr<|.inr (x.1,x.2.1,x.2.2.1,x.2.2.2.1,()))
def py:=AW dZ
def vK:Loop:=⟨[(1,j6),(2,Z7),(4,Z9),(5,.row 36 .note),(6,j6)],[(1,j6),(2,Z7),(4,Z9),(5,.row 36 .note)],0,[],py⟩
def ak7:LF f211 [] [1,1,0,1,0,0] vK:=sq (v:= .nil) gO (b:=dZ) kN
def dj(x:Y3×v7):Option ((Y3×D)×D):=(AO (py (x.2.1,x.1,(0,0,0,([]:List A3),([]:List Mark),([]:List A3),()),([]:List A3),0,())) (λ_=>G) λb=>(AO (qB (b.1,b.2.1,b.2.2.1,b.2.2.2.1,([]:List Mark),0,())) (λ_=>G) λa=>I (((a.2.1.1,a.1,a.2.1.2.2.1,a.2.2.2.1,a.2.2.2.2.1,a.2.1.2.2.2.2.2),()),())))
def yM:Ent:=(211,G,⟨[Z8,j6],[Z8],dj⟩)
def afs:y8 yM:=sk (v:=t1<|t1<|.two (t1<|.one<|.loop vK)<|t1<|.two (t1<|.one<|.loop vJ) .nil) (fn:=f211) gO<|kC ak7<|kC akY kN
def ai2:Cx:=cX [Vq,Nq] [] []
def ajY:y9 ai2:=aE1<|gC bo<|gC PG<|AI
def MM(x:Y4×D):Option ((A1×D)×D):=(Nk x).bind λe=>if !e.1.1 then I ((noB,()),()) else(DN (x.1.1,())).bind λa=>if U (a.1.1.size+(B [32]).size<=4611686018427387904) then(DN (x.1.2.1,())).bind λb=>if U ((a.1.1++(B [32])).size+b.1.1.size<=4611686018427387904) then if U (((a.1.1++(B [32]))++b.1.1).size+(B [32]).size<=4611686018427387904) then(DN (x.1.2.2.1,())).bind λc=>if U ((((a.1.1++(B [32]))++b.1.1)++(B [32])).size+c.1.1.size<=4611686018427387904) then if U (((((a.1.1++(B [32]))++b.1.1)++(B [32]))++c.1.1).size+(B [32]).size<=4611686018427387904) then(DN (x.1.2.2.2.1,())).bind λd=>if U ((((((a.1.1++(B [32]))++b.1.1)++(B [32]))++c.1.1)++(B [32])).size+d.1.1.size<=4611686018427387904) then if U (((((((a.1.1++(B [32]))++b.1.1)++(B [32]))++c.1.1)++(B [32]))++d.1.1).size+(B [32]).size<=4611686018427387904) then if U ((((((((a.1.1++(B [32]))++b.1.1)++(B [32]))++c.1.1)++(B [32]))++d.1.1)++(B [32])).size+x.1.2.2.2.2.1.size<=4611686018427387904) then let f:=((((((((a.1.1++(B [32]))++b.1.1)++(B [32]))++c.1.1)++(B [32]))++d.1.1)++(B [32]))++x.1.2.2.2.2.1);I ((f,()),()) else G else G else G else G else G else G else G else G
def Uq:Ent:=(170,G,⟨[Z6],[.str],MM⟩)
def aW:y8 Uq:=sk (v:= .nil) (fn:=f170) ajY kN
def amy:Cx:=cX [fl,iF] [] []
def yt:y9 amy:=aE1<|gC rI<|gC uF<|AI
def dr(x:A1×Int×List Int×v7):Rnd (A1×Int×List Int×v7) D (A1×List Int×D):=if U (x.2.2.2.1<x.2.1) then(Nh (x.1,())).bind λa=>(Pb (a.1.1,())).bind λb=>if Ac (x.2.2.1.length+([b.1.1]:List Int).length) then I (.inl (a.1.2.1,x.2.1,(x.2.2.1++([b.1.1]:List Int)),(w64<|x.2.2.2.1+1),())) else G else I (.inr<|.inr (x.1,x.2.2.1,()))
def qi:=AW dr
def wJ:Loop:=⟨[(0,.str),(1,j6),(6,.row 3 .int),(7,j6)],[(0,.str),(6,.row 3 .int)],0,[],qi⟩
def amR:LF f215 [] [1,1,0,1,0,0] wJ:=sq (v:= .nil) yt (b:=dr) kN
def PV(x:A1×v7):Option ((List Int×A1×D)×D):=(AO (qi (x.1,x.2.1,([]:List Int),0,())) (λ_=>G) λa=>I ((a.2.1,a.1,()),()))
def iG:Ent:=(215,G,⟨[.str,j6],[.row 3 .int,.str],PV⟩)
def uG:y8 iG:=sk (v:=t1<|t1<|.two (t1<|.one<|.loop wJ) .nil) (fn:=f215) yt<|kC amR kN
def aiw:Cx:=cX [Uq,iG] [] [(29,32)]
def ake:y9 aiw:=aE1<|gC aW<|gC uG<|AI
def RY(x:A1×D):Option ((Y4×Bool×D)×D):=(PV (x.1,4,())).bind λa=>if inb 0 a.1.1.length then if inb 1 a.1.1.length then if inb 2 a.1.1.length then if inb 3 a.1.1.length then if Al (!(U<|x.1=noB)) ((MM (((rd aE8 a.1.1 0),(rd aE8 a.1.1 1),(rd aE8 a.1.1 2),(rd aE8 a.1.1 3),a.1.2),())).isSome) then if(U<|x.1=noB)||(!decide (((MM (((rd aE8 a.1.1 0),(rd aE8 a.1.1 1),(rd aE8 a.1.1 2),(rd aE8 a.1.1 3),a.1.2),())).getD ((noB,()),())).1.1=x.1)) then I (((0,0,0,0,noB,()),A0,()),()) else I ((((rd aE8 a.1.1 0),(rd aE8 a.1.1 1),(rd aE8 a.1.1 2),(rd aE8 a.1.1 3),a.1.2),Y,()),()) else G else G else G else G else G
def wy:Ent:=(212,G,⟨[.str],[Z6,.bool],RY⟩)
def afS:y8 wy:=sk (v:= .nil) (fn:=f212) ake kN
def age:Cx:=cX [VY] [] [(18,32)]
def uV:y9 age:=aE1<|gC bV<|AI
def bS(x:List A3×Y4×List A3×Bool×v7):Rnd (List A3×Y4×List A3×Bool×v7) D (Y4×List A3×Bool×D):=if U (x.2.2.2.2.1<(j8 x.1:Int)) then(BT (X:=List A3×Y4×List A3×Bool×v7) (λa=>if inb a.2.2.2.2.1 a.1.length then if Ac (a.2.2.1.length+([(rd aE3 a.1 a.2.2.2.2.1)]:List A3).length) then I (.inl (a.1,a.2.1,(a.2.2.1++([(rd aE3 a.1 a.2.2.2.2.1)]:List A3)),a.2.2.2.1,(w64<|a.2.2.2.2.1+1),())) else G else G)<|(if Al (!x.2.2.2.1) (inb x.2.2.2.2.1 x.1.length) then if Al (!x.2.2.2.1) (inb x.2.2.2.2.1 x.1.length) then if Al (!x.2.2.2.1) ((MK (x.2.1.1,x.2.1.2.1,(rd aE3 x.1 x.2.2.2.2.1).fr,(rd aE3 x.1 x.2.2.2.2.1).nu,())).isSome) then if(!x.2.2.2.1)&&(((MK (x.2.1.1,x.2.1.2.1,(rd aE3 x.1 x.2.2.2.2.1).fr,(rd aE3 x.1 x.2.2.2.2.1).nu,())).getD ((A0,()),())).1.1) then if Ac (x.2.2.1.length+([(A3.mk x.2.1.1 x.2.1.2.1 x.2.1.2.2.1 x.2.1.2.2.2.1 x.2.1.2.2.2.2.1)]:List A3).length) then I (.inr (x.1,x.2.1,(x.2.2.1++([(A3.mk x.2.1.1 x.2.1.2.1 x.2.1.2.2.1 x.2.1.2.2.2.1 x.2.1.2.2.2.2.1)]:List A3)),Y,x.2.2.2.2)) else G else I (.inr x) else G else G else G)) else I (.inr<|.inr (x.2.1,x.2.2.1,x.2.2.2.1,()))
def pN:=AW bS
def adM:Loop:=⟨[(0,.sl .note),(3,Z5),(5,.row 36 .note),(6,.bool),(7,j6)],[(3,Z5),(5,.row 36 .note),(6,.bool)],0,[],pN⟩
def afa:LF f214 [] [1,1,1,0,1,0,0] adM:=sq (v:=t1<|.two (.one<|.join [(0,.sl .note),(3,Z5),(5,.row 36 .note),(6,.bool),(7,j6)] .nil .nil) .nil) uV (b:=bS) kN
def PC(x:List A3×Y4×D):Option ((List A3×D)×D):=(AO (pN (x.1,x.2.1,([]:List A3),A0,0,())) (λ_=>G) λa=>(if !a.2.2.1 then if Ac (a.2.1.length+([(A3.mk a.1.1 a.1.2.1 a.1.2.2.1 a.1.2.2.2.1 a.1.2.2.2.2.1)]:List A3).length) then I (((a.2.1++([(A3.mk a.1.1 a.1.2.1 a.1.2.2.1 a.1.2.2.2.1 a.1.2.2.2.2.1)]:List A3)),()),()) else G else I ((a.2.1,()),())))
def rP:Ent:=(214,G,⟨[.fz .note,Z6],[.row 36 .note],PC⟩)
def acv:y8 rP:=sk (v:=t1<|t1<|t1<|.two (t1<|.one<|.loop adM) .nil) (fn:=f214) uV<|kC afa kN
def agf:Cx:=cX [VY] [] [(18,32)]
def uW:y9 agf:=aE1<|gC bV<|AI
def bT(x:List Mark×Y5×List Mark×Bool×v7):Rnd (List Mark×Y5×List Mark×Bool×v7) D (Y5×List Mark×Bool×D):=if U (x.2.2.2.2.1<(j8 x.1:Int)) then(BT (X:=List Mark×Y5×List Mark×Bool×v7) (λa=>if inb a.2.2.2.2.1 a.1.length then if Ac (a.2.2.1.length+([(rd aFc a.1 a.2.2.2.2.1)]:List Mark).length) then I (.inl (a.1,a.2.1,(a.2.2.1++([(rd aFc a.1 a.2.2.2.2.1)]:List Mark)),a.2.2.2.1,(w64<|a.2.2.2.2.1+1),())) else G else G)<|(if Al (!x.2.2.2.1) (inb x.2.2.2.2.1 x.1.length) then if Al (!x.2.2.2.1) (inb x.2.2.2.2.1 x.1.length) then if Al (!x.2.2.2.1) ((MK (x.2.1.1,x.2.1.2.1,(rd aFc x.1 x.2.2.2.2.1).mf,(rd aFc x.1 x.2.2.2.2.1).mn,())).isSome) then if(!x.2.2.2.1)&&(((MK (x.2.1.1,x.2.1.2.1,(rd aFc x.1 x.2.2.2.2.1).mf,(rd aFc x.1 x.2.2.2.2.1).mn,())).getD ((A0,()),())).1.1) then if Ac (x.2.2.1.length+([(Mark.mk x.2.1.1 x.2.1.2.1 x.2.1.2.2.1)]:List Mark).length) then I (.inr (x.1,x.2.1,(x.2.2.1++([(Mark.mk x.2.1.1 x.2.1.2.1 x.2.1.2.2.1)]:List Mark)),Y,x.2.2.2.2)) else G else I (.inr x) else G else G else G)) else I (.inr<|.inr (x.2.1,x.2.2.1,x.2.2.2.1,()))
def pF:=AW bT
def adN:Loop:=⟨[(0,.sl .mark),(3,Z10),(5,.row 61 .mark),(6,.bool),(7,j6)],[(3,Z10),(5,.row 61 .mark),(6,.bool)],0,[],pF⟩
def afb:LF f218 [] [1,1,1,0,1,0,0] adN:=sq (v:=t1<|.two (.one<|.join [(0,.sl .mark),(3,Z10),(5,.row 61 .mark),(6,.bool),(7,j6)] .nil .nil) .nil) uW (b:=bT) kN
def RH(x:List Mark×Y5×D):Option ((List Mark×D)×D):=(AO (pF (x.1,x.2.1,([]:List Mark),A0,0,())) (λ_=>G) λa=>(if !a.2.2.1 then if Ac (a.2.1.length+([(Mark.mk a.1.1 a.1.2.1 a.1.2.2.1)]:List Mark).length) then I (((a.2.1++([(Mark.mk a.1.1 a.1.2.1 a.1.2.2.1)]:List Mark)),()),()) else G else I ((a.2.1,()),())))
def c9:Ent:=(218,G,⟨[.fz .mark,Z11],[.row 61 .mark],RH⟩)
def pE:y8 c9:=sk (v:=t1<|t1<|t1<|.two (t1<|.one<|.loop adN) .nil) (fn:=f218) uW<|kC afb kN
def ais:Cx:=cX [Vq,MQ,VX] [] [(35,42)]
def aka:y9 ais:=aE1<|gC bo<|gC NU<|gC bU<|AI
def df(x:Y3×Y4×D):Option ((Bool×D)×D):=(Nk x.2).bind λb=>if b.1.1 then if U (x.1.2.1<x.2.1.2.2.2.1) then(G2 (x.1.2.2.2.1,x.2.1.1,x.2.1.2.1,())).bind λc=>if U (c.1.1<0) then(KM (x.1.2.2.2.2.1,x.2.1.1,x.2.1.2.1,())).bind λa=>if Al (U<|a.1.1<0) ((G2 (x.1.2.2.2.2.2.1,x.2.1.1,x.2.1.2.1,())).isSome) then let d:=((U<|a.1.1<0)&&(U<|((G2 (x.1.2.2.2.2.2.1,x.2.1.1,x.2.1.2.1,())).getD ((0,()),())).1.1<0));I ((d,()),()) else G else if Al A0 ((G2 (x.1.2.2.2.2.2.1,x.2.1.1,x.2.1.2.1,())).isSome) then I ((A0,()),()) else G else if Al A0 ((G2 (x.1.2.2.2.2.2.1,x.2.1.1,x.2.1.2.1,())).isSome) then I ((A0,()),()) else G else if Al A0 ((G2 (x.1.2.2.2.2.2.1,x.2.1.1,x.2.1.2.1,())).isSome) then I ((A0,()),()) else G
def ww:Ent:=(247,G,⟨[Z8,Z6],[.bool],df⟩)
def afQ:y8 ww:=sk (v:= .nil) (fn:=f247) aka kN
def alJ:Cx:=cX [rP,c9,ww] [] []
def anh:y9 alJ:=aE1<|gC acv<|gC pE<|gC afQ<|AI
def VL(x:Y3×Y4×D):Option ((Y3×Bool×D)×D):=(df x).bind λc=>if !c.1.1 then I ((x.1,A0,()),()) else if !decide (x.2.1.2.2.1=x.1.1) then(PC (x.1.2.2.2.1,x.2)).bind λa=>let d:=(U<|(w64<|(j8 a.1.1:Int)+(j8 x.1.2.2.2.2.1:Int))<=12);I (((x.1.1,x.1.2.1,x.1.2.2.1,a.1.1,x.1.2.2.2.2),d,()),()) else(PC (x.1.2.2.2.2.2.1,x.2)).bind λe=>(RH (x.1.2.2.2.2.1,(x.2.1.1,x.2.1.2.1,x.2.1.2.2.2.1,()),())).bind λb=>let f:=(U<|(w64<|(j8 x.1.2.2.2.1:Int)+(j8 b.1.1:Int))<=12);I (((x.1.1,x.1.2.1,x.1.2.2.1,x.1.2.2.2.1,b.1.1,e.1),f,()),())
def yN:Ent:=(213,G,⟨[Z8,Z6],[Z8,.bool],VL⟩)
def afu:y8 yN:=sk (v:= .nil) (fn:=f213) anh kN
def ama:Cx:=cX [MQ,c9] [] []
def aoh:y9 ama:=aE1<|gC NU<|gC pE<|AI
def fI(x:Y3×aE2):Option ((Y3×Bool×D)×D):=(G2 (x.1.2.2.2.1,x.2)).bind λa=>if U (a.1.1<0) then I ((x.1,A0,()),()) else if inb a.1.1 x.1.2.2.2.1.length then let d:=(rd aE3 x.1.2.2.2.1 a.1.1).fr;let e:=(rd aE3 x.1.2.2.2.1 a.1.1).nu;let f:=(rd aE3 x.1.2.2.2.1 a.1.1).to;let b:=(rd aE3 x.1.2.2.2.1 a.1.1).un;let g:=(rd aE3 x.1.2.2.2.1 a.1.1).tx;if U (0<=a.1.1)&&U (a.1.1<=(j8 x.1.2.2.2.1:Int)) then if Ac (([]:List A3).length+(BR (AK a.1.1) x.1.2.2.2.1).length) then if U (0<=(w64<|a.1.1+1))&&U ((w64<|a.1.1+1)<=(j8 x.1.2.2.2.1:Int)) then if Ac ((([]:List A3)++(BR (AK a.1.1) x.1.2.2.2.1)).length+(Bp (AK<|w64<|a.1.1+1) x.1.2.2.2.1).length) then(RH (x.1.2.2.2.2.1,(x.2.1,x.2.2.1,b,()),())).bind λc=>I (((x.1.1,x.1.2.1,x.1.2.2.1,((([]:List A3)++(BR (AK a.1.1) x.1.2.2.2.1))++(Bp (AK<|w64<|a.1.1+1) x.1.2.2.2.1)),c.1.1,x.1.2.2.2.2.2),Y,()),()) else G else G else G else G else G
def zB:Ent:=(216,G,⟨[Z8,j6,j6],[Z8,.bool],fI⟩)
def agw:y8 zB:=sk (v:= .nil) (fn:=f216) aoh kN
def amb:Cx:=cX [MQ] [] []
def aoi:y9 amb:=aE1<|gC NU<|AI
def fJ(x:Y3×aE2):Option ((Y3×Bool×D)×D):=(G2 (x.1.2.2.2.2.2.1,x.2)).bind λa=>if U (a.1.1<0) then I ((x.1,A0,()),()) else if U (0<=a.1.1)&&U (a.1.1<=(j8 x.1.2.2.2.2.2.1:Int)) then if Ac (([]:List A3).length+(BR (AK a.1.1) x.1.2.2.2.2.2.1).length) then if U (0<=(w64<|a.1.1+1))&&U ((w64<|a.1.1+1)<=(j8 x.1.2.2.2.2.2.1:Int)) then if Ac ((([]:List A3)++(BR (AK a.1.1) x.1.2.2.2.2.2.1)).length+(Bp (AK<|w64<|a.1.1+1) x.1.2.2.2.2.2.1).length) then I (((x.1.1,x.1.2.1,x.1.2.2.1,x.1.2.2.2.1,x.1.2.2.2.2.1,((([]:List A3)++(BR (AK a.1.1) x.1.2.2.2.2.2.1))++(Bp (AK<|w64<|a.1.1+1) x.1.2.2.2.2.2.1)),()),Y,()),()) else G else G else G else G
def zC:Ent:=(217,G,⟨[Z8,j6,j6],[Z8,.bool],fJ⟩)
def agx:y8 zC:=sk (v:= .nil) (fn:=f217) aoi kN
def amZ:Cx:=cX [fl,Nq,MQ,VX,iF,yM,wy,yN,rP,iG,zB,zC,c9] [] [(81,85),(157,174),(192,201),(228,237)]
def aog:y9 amZ:=aE1<|gC rI<|gC PG<|gC NU<|gC bU<|gC uF<|gC afs<|gC afS<|gC afu<|gC acv<|gC uG<|gC agw<|gC agx<|gC pE<|AI
def Vg(x:Y3×A1×D):Option ((Y3×Bool×D)×D):=(Nh x.2).bind λc=>let l:=(U<|c.1.1=(B [116,105,109,101]));(if l then(Pb c.1.2).bind λi=>if U (i.1.1<=x.1.2.1) then I ((x.1,A0,()),()) else(dj (x.1,i.1)).bind λm=>I ((m.1.1,Y,()),()) else let n:=(U<|c.1.1=(B [111,119,110]));(if n then(RY c.1.2).bind λg=>if !g.1.2.1 then I ((x.1,A0,()),()) else if !decide (g.1.1.1=x.1.1) then I ((x.1,A0,()),()) else if !decide (g.1.1.2.1=x.1.2.2.1) then I ((x.1,A0,()),()) else(VL ((x.1.1,x.1.2.1,(w64<|x.1.2.2.1+1),x.1.2.2.2),g.1.1,())).bind λo=>I (o.1,()) else let p:=(U<|c.1.1=(B [116,97,107,101]));(if p then(RY c.1.2).bind λh=>if(!h.1.2.1)||(U<|h.1.1.1=x.1.1) then I ((x.1,A0,()),()) else(VL (x.1,h.1.1,())).bind λq=>I (q.1,()) else let r:=(U<|c.1.1=(B [110,101,120,116]));(if r then(Pb c.1.2).bind λj=>if U (j.1.1<=x.1.2.2.1) then I ((x.1,A0,()),()) else I (((x.1.1,x.1.2.1,j.1.1,x.1.2.2.2),Y,()),()) else(BT (X:=Y3×Y3×A1×A1×Bool×D) (λb=>if b.2.2.2.2.1 then(RY (b.2.2.2.1,())).bind λd=>if !d.1.2.1 then I ((b.1,A0,()),()) else(G2 (b.1.2.2.2.1,d.1.1.1,d.1.1.2.1,())).bind λs=>if U (0<=s.1.1) then I ((b.1,A0,()),()) else(G2 (b.1.2.2.2.2.2.1,d.1.1.1,d.1.1.2.1,())).bind λt=>if U (0<=t.1.1) then I ((b.1,A0,()),()) else if U (b.2.2.1=(B [104,101,108,100])) then(PC (b.1.2.2.2.1,d.1.1,())).bind λu=>I (((b.1.1,b.1.2.1,b.1.2.2.1,u.1.1,b.1.2.2.2.2),Y,()),()) else(PC (b.1.2.2.2.2.2.1,d.1.1,())).bind λv=>I (((b.1.1,b.1.2.1,b.1.2.2.1,b.1.2.2.2.1,b.1.2.2.2.2.1,v.1),Y,()),()) else(PV (b.2.2.2.1,3,())).bind λa=>if Al (!(!decide (a.1.2.1=noB))) (inb 0 a.1.1.length) then if Al (!(!decide (a.1.2.1=noB))) ((DN ((rd aE8 a.1.1 0),())).isSome) then if Al (!(!decide (a.1.2.1=noB))) (U<|(((DN ((rd aE8 a.1.1 0),())).getD ((noB,()),())).1.1).size+(B [32]).size<=4611686018427387904) then if Al (!(!decide (a.1.2.1=noB))) (inb 1 a.1.1.length) then if Al (!(!decide (a.1.2.1=noB))) ((DN ((rd aE8 a.1.1 1),())).isSome) then if Al (!(!decide (a.1.2.1=noB))) (U<|((((DN ((rd aE8 a.1.1 0),())).getD ((noB,()),())).1.1)++(B [32])).size+(((DN ((rd aE8 a.1.1 1),())).getD ((noB,()),())).1.1).size<=4611686018427387904) then if Al (!(!decide (a.1.2.1=noB))) (U<|(((((DN ((rd aE8 a.1.1 0),())).getD ((noB,()),())).1.1)++(B [32]))++(((DN ((rd aE8 a.1.1 1),())).getD ((noB,()),())).1.1)).size+(B [32]).size<=4611686018427387904) then if Al (!(!decide (a.1.2.1=noB))) (inb 2 a.1.1.length) then if Al (!(!decide (a.1.2.1=noB))) ((DN ((rd aE8 a.1.1 2),())).isSome) then if Al (!(!decide (a.1.2.1=noB))) (U<|((((((DN ((rd aE8 a.1.1 0),())).getD ((noB,()),())).1.1)++(B [32]))++(((DN ((rd aE8 a.1.1 1),())).getD ((noB,()),())).1.1))++(B [32])).size+(((DN ((rd aE8 a.1.1 2),())).getD ((noB,()),())).1.1).size<=4611686018427387904) then if(!decide (a.1.2.1=noB))||(!decide (b.2.2.2.1=(((((((DN ((rd aE8 a.1.1 0),())).getD ((noB,()),())).1.1)++(B [32]))++(((DN ((rd aE8 a.1.1 1),())).getD ((noB,()),())).1.1))++(B [32]))++(((DN ((rd aE8 a.1.1 2),())).getD ((noB,()),())).1.1)))) then I ((b.1,A0,()),()) else let w:=(U<|b.2.2.1=(B [108,101,116]));(if w then if inb 0 a.1.1.length then if inb 1 a.1.1.length then(G2 (b.1.2.2.2.1,(rd aE8 a.1.1 0),(rd aE8 a.1.1 1),())).bind λe=>if Al (!(U<|e.1.1<0)) (inb e.1.1 b.1.2.2.2.1.length) then if Al (!(U<|e.1.1<0)) (inb 2 a.1.1.length) then if(U<|e.1.1<0)||(!decide ((rd aE3 b.1.2.2.2.1 e.1.1).un=(rd aE8 a.1.1 2))) then I ((b.1,A0,()),()) else if inb 0 a.1.1.length then if inb 1 a.1.1.length then(fI (b.1,(rd aE8 a.1.1 0),(rd aE8 a.1.1 1),())).bind λy=>I (y.1,()) else G else G else G else G else G else G else let z:=(U<|b.2.2.1=(B [101,97,116]));(if z then if inb 0 a.1.1.length then if inb 1 a.1.1.length then(G2 (b.1.2.2.2.2.2.1,(rd aE8 a.1.1 0),(rd aE8 a.1.1 1),())).bind λf=>if Al (!(U<|f.1.1<0)) (inb f.1.1 b.1.2.2.2.2.2.1.length) then if Al (!(U<|f.1.1<0)) (inb 2 a.1.1.length) then if(U<|f.1.1<0)||(!decide ((rd aE3 b.1.2.2.2.2.2.1 f.1.1).un=(rd aE8 a.1.1 2))) then I ((b.1,A0,()),()) else if inb 0 a.1.1.length then if inb 1 a.1.1.length then(fJ (b.1,(rd aE8 a.1.1 0),(rd aE8 a.1.1 1),())).bind λA=>I (A.1,()) else G else G else G else G else G else G else let C:=(U<|b.2.2.1=(B [109,97,114,107]));(if C then if inb 0 a.1.1.length then if inb 1 a.1.1.length then(KM (b.1.2.2.2.2.1,(rd aE8 a.1.1 0),(rd aE8 a.1.1 1),())).bind λE=>if U (0<=E.1.1) then I ((b.1,A0,()),()) else if inb 0 a.1.1.length then if inb 1 a.1.1.length then if inb 2 a.1.1.length then(RH (b.1.2.2.2.2.1,((rd aE8 a.1.1 0),(rd aE8 a.1.1 1),(rd aE8 a.1.1 2),()),())).bind λF=>I (((b.1.1,b.1.2.1,b.1.2.2.1,b.1.2.2.2.1,F.1.1,b.1.2.2.2.2.2),Y,()),()) else G else G else G else G else G else I ((b.1,A0,()),())))) else G else G else G else G else G else G else G else G else G else G) (let k:=(U<|c.1.1=(B [104,101,108,100]));(if k then I (.inr (x.1,(0,0,0,([]:List A3),([]:List Mark),([]:List A3),()),c.1.1,c.1.2.1,k,())) else let H:=(U<|c.1.1=(B [105,110,98,111,120]));I (.inr (x.1,(0,0,0,([]:List A3),([]:List Mark),([]:List A3),()),c.1.1,c.1.2.1,H,())))))))))
def zA:Ent:=(163,G,⟨[Z8,.str],[Z8,.bool],Vg⟩)
def agv:y8 zA:=sk (v:=t1<|t1<|.two (t1<|.one<|t1<|t1<|t1<|t1<|t1<|t1<|t1<|t1<|.join [(2,Z7),(4,Z9),(6,.str),(7,.str),(105,.bool)] .nil .nil) .nil) (fn:=f163) aog kN
def alN:Cx:=cX [] [] []
def anj:y9 alN:=aE1<|AI
def Ri(x:Y3×D):Option ((Y3×D)×D):=if Ac (([]:List A3).length+x.1.2.2.2.1.length) then if Ac (([]:List Mark).length+x.1.2.2.2.2.1.length) then if Ac (([]:List A3).length+x.1.2.2.2.2.2.1.length) then I (((x.1.1,x.1.2.1,x.1.2.2.1,(([]:List A3)++x.1.2.2.2.1),(([]:List Mark)++x.1.2.2.2.2.1),(([]:List A3)++x.1.2.2.2.2.2.1),()),()),()) else G else G else G
def xu:Ent:=(164,G,⟨[Z8],[Z4],Ri⟩)
def afv:y8 xu:=sk (v:= .nil) (fn:=f164) anj kN
def ami:Cx:=cX [gU,zA,xu] [] [(22,24)]
def aok:y9 ami:=aE1<|gC te<|gC agv<|gC afv<|AI
def Rp(x:Y3×A1×D):Option ((Y3×Bool×D)×D):=(PX (x.1,())).bind λb=>if !b.1.1 then I (((0,0,0,([]:List A3),([]:List Mark),([]:List A3),()),A0,()),()) else(Ri (x.1,())).bind λc=>(Vg (c.1.1,x.2)).bind λa=>if Al (!(!a.1.2.1)) ((PX (a.1.1,())).isSome) then if(!a.1.2.1)||(!(((PX (a.1.1,())).getD ((A0,()),())).1.1)) then(Ri (x.1,())).bind λd=>I ((d.1.1,A0,()),()) else(Ri (a.1.1,())).bind λe=>I ((e.1.1,Y,()),()) else G
def gW:Ent:=(125,G,⟨[Z8,.str],[Z4,.bool],Rp⟩)
def tj:y8 gW:=sk (v:= .nil) (fn:=f125) aok kN
def amh:Cx:=cX [IP,wA,gW] [] []
def zr:y9 amh:=aE1<|gC Iw<|gC aeG<|gC tj<|AI
def VN(x:List A1×Y3×Y3×v7):Rnd (List A1×Y3×Y3×v7) (Y3×Bool×D) (Y3×Y3×D):=if U (x.2.2.2.1<(j8 x.1:Int)) then if inb x.2.2.2.1 x.1.length then(Rp (x.2.2.1,(rd aFf x.1 x.2.2.2.1),())).bind λa=>if !a.1.2.1 then I (.inr<|.inl ((0,0,0,([]:List A3),([]:List Mark),([]:List A3),()),A0,())) else I (.inl (x.1,x.2.1,a.1.1,(w64<|x.2.2.2.1+1),())) else G else I (.inr<|.inr (x.2.1,x.2.2.1,()))
def qm:=AW VN
def xN:Loop:=⟨[(1,.sl .str),(4,Z9),(6,Z9),(7,j6)],[(4,Z9),(6,Z9)],0,[(4,Z9),(5,.bool)],qm⟩
def am2:LF f88 [] [1,1,1,0,1,0,0] xN:=sq (v:= .nil) zr (b:=VN) kN
def Ro(x:Int×List A1×D):Option ((Y3×Bool×D)×D):=(cT (x.1,())).bind λb=>(FR (x.1,())).bind λc=>if !c.1.1 then I ((b.1.1,A0,()),()) else(AO (qm (x.2.1,(0,0,0,([]:List A3),([]:List Mark),([]:List A3),()),b.1.1,0,())) (λa=>I (a,())) λa=>I ((a.2.1,Y,()),()))
def gV:Ent:=(88,G,⟨[j6,.fz .str],[Z4,.bool],Ro⟩)
def th:y8 gV:=sk (v:=t1<|t1<|t1<|.two (t1<|.one<|.loop xN) .nil) (fn:=f88) zr<|kC am2 kN
def amV:Cx:=cX [Up,gV] [] []
def anp:y9 amV:=aE1<|gC aT<|gC th<|AI
def G5(x:Y1×D):Option ((Y3×Bool×D)×D):=(LJ (x.1.2.2.1,())).bind λa=>(Ro (x.1.1,a.1.1,())).bind λb=>I (b.1,())
def Ix:Ent:=(46,G,⟨[Z12],[Z4,.bool],G5⟩)
def JX:y8 Ix:=sk (v:= .nil) (fn:=f46) anp kN
def alC:Cx:=cX [] [] []
def ane:y9 alC:=aE1<|AI
def dp(x:aE2):Option ((v7)×D):=if U (x.1<x.2.1) then I ((x.1,()),()) else I (x.2,())
def fv:Ent:=(133,G,⟨[j6,j6],[j6],dp⟩)
def adk:y8 fv:=sk (v:= .nil) (fn:=f133) ane kN
def aia:Cx:=cX [IP] [] []
def akf:y9 aia:=aE1<|gC Iw<|AI
def RZ(x:aE2):Option ((v7)×D):=(BT (X:=Int×Int×Bool×D) (λa=>if a.2.2.1 then I (((-1),()),()) else if U (a.1<a.2.1) then I (((w64<|a.1+1),()),()) else I (((w64<|a.1 - 1),()),()))<|(FR (x.1,())).bind λb=>if !b.1.1 then I (.inr (x.1,x.2.1,Y,())) else(FR x.2).bind λc=>if !c.1.1 then I (.inr (x.1,x.2.1,Y,())) else I (.inr (x.1,x.2.1,(U<|x.1=x.2.1),())))
def sQ:Ent:=(89,G,⟨[j6,j6],[j6],RZ⟩)
def adS:y8 sQ:=sk (v:=t1<|.two (.one<|.join [(0,j6),(1,j6),(5,.bool)] .nil .nil) .nil) (fn:=f89) akf kN
def akj:Cx:=cX [Gr,IP,sQ] [] [(65,67),(88,91)]
def anD:y9 akj:=aE1<|gC HI<|gC Iw<|gC adS<|AI
def VO(x:Y6×D):Option ((Bool×D)×D):=(D9 (x.1.1,1,3,())).bind λa=>if !a.1.1 then I ((A0,()),()) else(FR (x.1.2.1,())).bind λb=>if !b.1.1 then I ((A0,()),()) else(FR (x.1.2.2.1,())).bind λc=>if !c.1.1 then I ((A0,()),()) else(FR (x.1.2.2.2.1,())).bind λd=>if !d.1.1 then I ((A0,()),()) else(FR (x.1.2.2.2.2.2.1,())).bind λe=>if !e.1.1 then I ((A0,()),()) else(D9 (x.1.2.2.2.2.1,1,99,())).bind λf=>if !f.1.1 then I ((A0,()),()) else(D9 (x.1.2.2.2.2.2.2.1,1,999,())).bind λg=>if !g.1.1 then I ((A0,()),()) else if !decide (x.1.1=1) then(RZ (x.1.2.2.1,x.1.2.2.2.2.2.1,())).bind λh=>if U (h.1.1=x.1.2.1) then if U (x.1.2.2.2.2.2.2.2.1=0) then let i:=((U<|x.1.2.2.2.2.2.2.2.2.1=0)&&(U<|x.1.2.2.2.2.2.2.2.2.2.1=noB));I ((i,()),()) else I ((A0,()),()) else I ((A0,()),()) else(RZ (x.1.2.1,x.1.2.2.2.2.2.1,())).bind λj=>if U (j.1.1=x.1.2.2.1) then(D9 (x.1.2.2.2.2.2.2.2.1,1,24,())).bind λk=>if k.1.1 then(D9 (x.1.2.2.2.2.2.2.2.2.1,0,999,())).bind λl=>let m:=(l.1.1&&(U<|(x.1.2.2.2.2.2.2.2.2.2.1.size:Int)=4));I ((m,()),()) else I ((A0,()),()) else I ((A0,()),())
def gA:Ent:=(173,G,⟨[Z13],[.bool],VO⟩)
def adh:y8 gA:=sk (v:= .nil) (fn:=f173) anD kN
def amX:Cx:=cX [] [] []
def anq:y9 amX:=aE1<|AI
def Nj(x:List Int×v7):Option ((List Int×D)×D):=if Ac (x.1.length+([(w8<|w64<|B0 x.2.1 256),(w8<|BK x.2.1 256)]:List Int).length) then I (((x.1++([(w8<|w64<|B0 x.2.1 256),(w8<|BK x.2.1 256)]:List Int)),()),()) else G
def z7:Ent:=(220,G,⟨[.row 5 .u8,j6],[.row 5 .u8],Nj⟩)
def agt:y8 z7:=sk (v:= .nil) (fn:=f220) anq kN
def aid:Cx:=cX [] [] []
def wS:y9 aid:=aE1<|AI
def cY(x:List Int×aE2):Rnd (List Int×aE2) D (v7):=if U (x.2.2.1<(j8 x.1:Int)) then if inb x.2.2.1 x.1.length then let a:=(BK (w64<|x.2.1+(w64<|(w64<|(BK x.2.2.1 1000)+1) * (w64<|rd aFd x.1 x.2.2.1))) 65521);I (.inl (x.1,a,(w64<|x.2.2.1+1),())) else G else I (.inr<|.inr (x.2.1,()))
def an:=AW cY
def tl:Loop:=⟨[(0,.sl .u8),(3,j6),(4,j6)],[(3,j6)],0,[],an⟩
def aix:LF f221 [] [1,1,0,1,0,0] tl:=sq (v:= .nil) wS (b:=cY) kN
def Ra(x:List Int×D):Option ((v7)×D):=(AO (an (x.1,0,0,())) (λ_=>G) λa=>I (a,()))
def wz:Ent:=(221,G,⟨[.fz .u8],[j6],Ra⟩)
def afT:y8 wz:=sk (v:=t1<|t1<|.two (t1<|.one<|.loop tl) .nil) (fn:=f221) wS<|kC aix kN
def ai8:Cx:=cX [gA,z7,wz] [] []
def ajd:y9 ai8:=aE1<|gC adh<|gC agt<|gC afT<|AI
def PH(x:Y6×D):Option ((List Int×D)×D):=(VO x).bind λc=>if !c.1.1 then I ((([]:List Int),()),()) else if Ac (([]:List Int).length+([(w8 x.1.1),(w8 x.1.2.1),(w8 x.1.2.2.1),(w8 x.1.2.2.2.1),(w8 x.1.2.2.2.2.1),(w8 x.1.2.2.2.2.2.1)]:List Int).length) then(Nj ((([]:List Int)++([(w8 x.1.1),(w8 x.1.2.1),(w8 x.1.2.2.1),(w8 x.1.2.2.2.1),(w8 x.1.2.2.2.2.1),(w8 x.1.2.2.2.2.2.1)]:List Int)),x.1.2.2.2.2.2.2.1,())).bind λa=>if U (x.1.1=1) then if Ac (a.1.1.length+([(w8 x.1.2.2.2.2.2.2.2.1)]:List Int).length) then(Nj ((a.1.1++([(w8 x.1.2.2.2.2.2.2.2.1)]:List Int)),x.1.2.2.2.2.2.2.2.2.1,())).bind λb=>if Ac x.1.2.2.2.2.2.2.2.2.2.1.size then if Ac (b.1.1.length+(BA x.1.2.2.2.2.2.2.2.2.2.1).length) then(Ra ((b.1.1++(BA x.1.2.2.2.2.2.2.2.2.2.1)),())).bind λd=>(Nj ((b.1.1++(BA x.1.2.2.2.2.2.2.2.2.2.1)),d.1)).bind λe=>I (e.1,()) else G else G else G else(Ra a.1).bind λf=>(Nj (a.1.1,f.1)).bind λg=>I (g.1,()) else G
def re:Ent:=(172,G,⟨[Z13],[.row 5 .u8],PH⟩)
def ad6:y8 re:=sk (v:= .nil) (fn:=f172) ajd kN
def aer:Cx:=cX [re] [] [(9,11)]
def agJ:y9 aer:=aE1<|gC ad6<|AI
def bZ(x:List Int×D):Option ((Y6×Bool×D)×D):=if(!decide ((j8 x.1:Int)=10))&&(!decide ((j8 x.1:Int)=17)) then I (((0,0,0,0,0,0,0,0,0,noB,()),A0,()),()) else if inb 0 x.1.length then if inb 1 x.1.length then if inb 2 x.1.length then if inb 3 x.1.length then if inb 4 x.1.length then if inb 5 x.1.length then if inb 6 x.1.length then if inb 7 x.1.length then let b:=(w64<|rd aFd x.1 0);let c:=(w64<|rd aFd x.1 1);let d:=(w64<|rd aFd x.1 2);let e:=(w64<|rd aFd x.1 3);let f:=(w64<|rd aFd x.1 4);let g:=(w64<|rd aFd x.1 5);let h:=(w64<|(w64<|(w64<|rd aFd x.1 6) * 256)+(w64<|rd aFd x.1 7));(BT (X:=List Int×Y6×Y6×D) (λa=>(PH a.2.2).bind λi=>if !decide ((BH i.1.1)=(BH a.1)) then I (((0,0,0,0,0,0,0,0,0,noB,()),A0,()),()) else I ((a.2.2.1,Y,()),()))<|(if U (10<(j8 x.1:Int)) then if inb 8 x.1.length then let j:=(w64<|rd aFd x.1 8);(if inb 9 x.1.length then if inb 10 x.1.length then let k:=(w64<|(w64<|(w64<|rd aFd x.1 9) * 256)+(w64<|rd aFd x.1 10));(if(U (0<=15)&&U (15<=(j8 x.1:Int)))&&(U (0<=11)&&U (11<=15)) then let l:=(BH<|Bp (AK 11)<|BR (AK 15) x.1);I (.inr (x.1,(0,0,0,0,0,0,0,0,0,noB,()),(b,c,d,e,f,g,h,j,k,l,()),())) else G) else G else G) else G else I (.inr (x.1,(0,0,0,0,0,0,0,0,0,noB,()),(b,c,d,e,f,g,h,0,0,noB,()),())))) else G else G else G else G else G else G else G else G
def qV:Ent:=(134,G,⟨[.fz .u8],[Z13,.bool],bZ⟩)
def aco:y8 qV:=sk (v:=t1<|t1<|t1<|.join [(0,.sl .u8),(2,Z14),(4,Z14)] .nil .nil) (fn:=f134) agJ kN
def alO:Cx:=cX [Gr,Up] [] [(12,18),(41,44)]
def anB:y9 alO:=aE1<|gC HI<|gC aT<|AI
def Na(x:Y7×D):Option ((Bool×D)×D):=if Al (!(U<|2400<(x.1.1.size:Int))) ((D9 (x.1.2.1,0,(x.1.1.size:Int),())).isSome) then if(U<|2400<(x.1.1.size:Int))||(!(((D9 (x.1.2.1,0,(x.1.1.size:Int),())).getD ((A0,()),())).1.1)) then I ((A0,()),()) else(LJ (x.1.1,())).bind λa=>if U (0<=x.1.2.1)&&U (x.1.2.1<=(x.1.1.size:Int)) then(LJ ((x.1.1.extract (0)<|AK x.1.2.1),())).bind λb=>let c:=((U<|a.1.2.1=(x.1.1.size:Int))&&(U<|b.1.2.1=x.1.2.1));I ((c,()),()) else G else G
def Rk:Ent:=(98,G,⟨[Z15],[.bool],Na⟩)
def UI:y8 Rk:=sk (v:= .nil) (fn:=f98) anB kN
def ail:Cx:=cX [] [] []
def al3:y9 ail:=aE1<|AI
def LS(x:v7):Option ((v7)×D):=let a:=(w64<|B0 (w64<|(w64<|x.1+4) - 1) 4);I ((a,()),())
def VI:Ent:=(130,G,⟨[j6],[j6],LS⟩)
def ah:y8 VI:=sk (v:= .nil) (fn:=f130) al3 kN
def apK:Cx:=cX [Gr] [] [(8,9)]
def aqO:y9 apK:=aE1<|gC HI<|AI
def MR(x:aE2):Option ((Bool×D)×D):=(D9 (x.1,1,6,())).bind λa=>if Al a.1.1 ((D9 (x.2.1,0,999,())).isSome) then let b:=(a.1.1&&(((D9 (x.2.1,0,999,())).getD ((A0,()),())).1.1));I ((b,()),()) else G
def WB:Ent:=(171,G,⟨[j6,j6],[.bool],MR⟩)
def dX:y8 WB:=sk (v:= .nil) (fn:=f171) aqO kN
def alE:Cx:=cX [WB] [] [(10,13)]
def anf:y9 alE:=aE1<|gC dX<|AI
def Rg(x:Int×Y8×D):Option ((Bool×D)×D):=(MR (x.1,x.2.1.1,())).bind λa=>let b:=(a.1.1&&(U<|(x.2.1.2.1.size:Int)=4));I ((b,()),())
def fw:Ent:=(131,G,⟨[j6,Z16],[.bool],Rg⟩)
def adl:y8 fw:=sk (v:= .nil) (fn:=f131) anf kN
def ahw:Cx:=cX [Gr,IP,VI,fw] [] []
def rk:y9 ahw:=aE1<|gC HI<|gC Iw<|gC ah<|gC adl<|AI
def bg(x:Y9×aE2):Rnd (Y9×aE2) (Bool×D) (Y9×v7):=if U (x.2.2.1<x.2.1) then if inb x.2.2.1 x.1.2.2.2.2.2.1.length then if inb x.2.1 x.1.2.2.2.2.2.1.length then if U ((rd aFh x.1.2.2.2.2.2.1 x.2.2.1).nu=(rd aFh x.1.2.2.2.2.2.1 x.2.1).nu) then I (.inr<|.inl (A0,())) else I (.inl (x.1,x.2.1,(w64<|x.2.2.1+1),())) else G else G else I (.inr<|.inr (x.1,x.2.1,()))
def pO:=AW bg
def adm:Loop:=⟨[(1,Z17),(3,j6),(4,j6)],[(1,Z17),(3,j6)],2,[(2,.bool)],pO⟩
def ahH:LF f99 [] [1,1,0,1,0,0,1,0,0,1,1,0,0] adm:=sq (v:= .nil) rk (b:=bg) kN
def bh(x:Y9×v7):Rnd (Y9×v7) (Bool×D) D:=if U (x.2.1<(j8 x.1.2.2.2.2.2.1:Int)) then(LS (x.1.2.2.2.2.1,())).bind λb=>if inb x.2.1 x.1.2.2.2.2.2.1.length then(Rg (b.1.1,((rd aFh x.1.2.2.2.2.2.1 x.2.1).nu,(rd aFh x.1.2.2.2.2.2.1 x.2.1).da,()),())).bind λc=>if !c.1.1 then I (.inr<|.inl (A0,())) else(AO (pO (x.1,x.2.1,0,())) (λa=>I<|.inr<|.inl a) λa=>I<|.inl (a.1,(w64<|a.2.1+1),())) else G else I (.inr<|.inr ())
def pP:=AW bh
def adn:Loop:=⟨[(1,Z17),(3,j6)],[],0,[(2,.bool)],pP⟩
def ahL:LF f99 [] [1,1,0,1,0,0] adn:=sq (v:=t1<|.two (.one<|t1<|t1<|.one<|.loop adm) .nil) rk (b:=bh)<|kC ahH kN
def cJ(x:Y9×D):Option ((Bool×D)×D):=(FR (x.1.1,())).bind λb=>if !b.1.1 then I ((A0,()),()) else(FR (x.1.2.2.1,())).bind λc=>if !c.1.1 then I ((A0,()),()) else(D9 (x.1.2.1,1,99,())).bind λd=>if !d.1.1 then I ((A0,()),()) else(D9 (x.1.2.2.2.1,1,999,())).bind λe=>if !e.1.1 then I ((A0,()),()) else(D9 (x.1.2.2.2.2.1,1,24,())).bind λf=>if !f.1.1 then I ((A0,()),()) else if U (14<(j8 x.1.2.2.2.2.2.1:Int)) then I ((A0,()),()) else(AO (pP (x.1,0,())) (λa=>I (a,())) λa=>I ((Y,()),()))
def vr:Ent:=(99,G,⟨[Z18],[.bool],cJ⟩)
def aeB:y8 vr:=sk (v:=t1<|t1<|.two (t1<|.one<|.loop adn) .nil) (fn:=f99) rk<|kC ahL kN
def aib:Cx:=cX [Ix,IP,Up,gV,Rk,vr] [] [(64,65),(100,112)]
def sW:y9 aib:=aE1<|gC JX<|gC Iw<|gC aT<|gC th<|gC UI<|gC aeB<|AI
def cR(x:Y1×aE2):Rnd (Y1×aE2) (Bool×D) (Y1×v7):=if U (x.2.2.1<x.2.1) then if inb x.2.2.1 x.1.2.2.2.2.1.length then if inb x.2.1 x.1.2.2.2.2.1.length then if Al (U<|(rd aE6 x.1.2.2.2.2.1 x.2.2.1).fr=(rd aE6 x.1.2.2.2.2.1 x.2.1).fr) (inb x.2.2.1 x.1.2.2.2.2.1.length) then if Al (U<|(rd aE6 x.1.2.2.2.2.1 x.2.2.1).fr=(rd aE6 x.1.2.2.2.2.1 x.2.1).fr) (inb x.2.1 x.1.2.2.2.2.1.length) then if(U<|(rd aE6 x.1.2.2.2.2.1 x.2.2.1).fr=(rd aE6 x.1.2.2.2.2.1 x.2.1).fr)&&(U<|(rd aE6 x.1.2.2.2.2.1 x.2.2.1).nu=(rd aE6 x.1.2.2.2.2.1 x.2.1).nu) then I (.inr<|.inl (A0,())) else I (.inl (x.1,x.2.1,(w64<|x.2.2.1+1),())) else G else G else G else G else I (.inr<|.inr (x.1,x.2.1,()))
def pe:=AW cR
def uL:Loop:=⟨[(1,Z19),(9,j6),(10,j6)],[(1,Z19),(9,j6)],2,[(2,.bool)],pe⟩
def aiI:LF f57 [] [1,1,1,1,1,1,0,1,0,0,1,0,0,1,1,0,0] uL:=sq (v:= .nil) sW (b:=cR) kN
def cS(x:Y1×v7):Rnd (Y1×v7) (Bool×D) D:=if U (x.2.1<(j8 x.1.2.2.2.2.1:Int)) then if inb x.2.1 x.1.2.2.2.2.1.length then(cJ (((rd aE6 x.1.2.2.2.2.1 x.2.1).fr,(rd aE6 x.1.2.2.2.2.1 x.2.1).nu,(rd aE6 x.1.2.2.2.2.1 x.2.1).to,(rd aE6 x.1.2.2.2.2.1 x.2.1).un,(rd aE6 x.1.2.2.2.2.1 x.2.1).sz,(rd aE6 x.1.2.2.2.2.1 x.2.1).got,()),())).bind λb=>if !b.1.1 then I (.inr<|.inl (A0,())) else(AO (pe (x.1,x.2.1,0,())) (λa=>I<|.inr<|.inl a) λa=>I<|.inl (a.1,(w64<|a.2.1+1),())) else G else I (.inr<|.inr ())
def ai:=AW cS
def tX:Loop:=⟨[(1,Z19),(9,j6)],[],0,[(2,.bool)],ai⟩
def aiO:LF f57 [] [1,1,1,1,1,1,0,1,0,0] tX:=sq (v:=t1<|.two (.one<|t1<|t1<|.one<|.loop uL) .nil) sW (b:=cS)<|kC aiI kN
def Iu(x:Y1×D):Option ((Bool×D)×D):=(BT (X:=Y1×D) (λa=>if U (0<=a.1.2.2.2.1)&&U (a.1.2.2.2.1<=(a.1.2.2.1.size:Int)) then(LJ ((a.1.2.2.1.extract (0)<|AK a.1.2.2.2.1),())).bind λc=>(Ro (a.1.1,c.1.1,())).bind λd=>(G5 a).bind λe=>if(!e.1.2.1)||(!d.1.2.1) then I ((A0,()),()) else(AO (ai (a.1,0,())) (λb=>I (b,())) λb=>I ((Y,()),())) else G)<|(FR (x.1.1,())).bind λf=>if !f.1.1 then I (.inl ((A0,()),())) else(Na ((x.1.2.2.1,x.1.2.2.2.1,()),())).bind λg=>if !g.1.1 then I (.inl ((A0,()),())) else if U (3<(j8 x.1.2.2.2.2.1:Int)) then I (.inl ((A0,()),())) else if !x.1.2.1 then if U (0<(j8 x.1.2.2.2.2.1:Int)) then I (.inl ((A0,()),())) else I (.inr x) else I (.inr x))
def KO:Ent:=(57,G,⟨[Z12],[.bool],Iu⟩)
def LI:y8 KO:=sk (v:=t1<|.join [(1,Z19)] .nil<|t1<|t1<|t1<|t1<|.two (t1<|.one<|.loop tX) .nil) (fn:=f57) sW<|kC aiO kN
def alH:Cx:=cX [] [] []
def yh:y9 alH:=aE1<|AI
def dV(x:Y1×Y1×List AE×v7):Rnd (Y1×Y1×List AE×v7) D (Y1×Y1×List AE×D):=if U (x.2.2.2.1<(j8 x.1.2.2.2.2.1:Int)) then if inb x.2.2.2.1 x.1.2.2.2.2.1.length then let b:=(rd aE6 x.1.2.2.2.2.1 x.2.2.2.1).fr;let c:=(rd aE6 x.1.2.2.2.2.1 x.2.2.2.1).nu;let d:=(rd aE6 x.1.2.2.2.2.1 x.2.2.2.1).to;let e:=(rd aE6 x.1.2.2.2.2.1 x.2.2.2.1).un;let f:=(rd aE6 x.1.2.2.2.2.1 x.2.2.2.1).sz;let a:=(rd aE6 x.1.2.2.2.2.1 x.2.2.2.1).got;if Ac (([]:List AN).length+a.length) then if Ac (x.2.2.1.length+([(AE.mk b c d e f<|([]:List AN)++a)]:List AE).length) then I (.inl (x.1,x.2.1,(x.2.2.1++([(AE.mk b c d e f<|([]:List AN)++a)]:List AE)),(w64<|x.2.2.2.1+1),())) else G else G else G else I (.inr<|.inr (x.1,x.2.1,x.2.2.1,()))
def qA:=AW dV
def vI:Loop:=⟨[(1,Z19),(2,Z20),(3,.row 107 .half),(4,j6)],[(1,Z19),(2,Z20),(3,.row 107 .half)],0,[],qA⟩
def ak6:LF f94 [] [1,1,0,1,0,0] vI:=sq (v:= .nil) yh (b:=dV) kN
def Gq(x:Y1×D):Option ((Y1×D)×D):=(AO (qA (x.1,(0,A0,noB,0,([]:List AE),()),([]:List AE),0,())) (λ_=>G) λa=>I (((a.1.1,a.1.2.1,a.1.2.2.1,a.1.2.2.2.1,a.2.2),()),()))
def MP:Ent:=(94,G,⟨[Z12],[Z1],Gq⟩)
def NX:y8 MP:=sk (v:=t1<|t1<|.two (t1<|.one<|.loop vI) .nil) (fn:=f94) yh<|kC ak6 kN
def ain:Cx:=cX [Nq] [] []
def al5:y9 ain:=aE1<|gC PG<|AI
def V8(x:aE7):Option ((A1×D)×D):=(DN (x.1,())).bind λa=>if U (a.1.1.size+(B [32]).size<=4611686018427387904) then(DN (x.2.1,())).bind λb=>if U ((a.1.1++(B [32])).size+b.1.1.size<=4611686018427387904) then if U (((a.1.1++(B [32]))++b.1.1).size+(B [32]).size<=4611686018427387904) then(DN x.2.2).bind λc=>if U ((((a.1.1++(B [32]))++b.1.1)++(B [32])).size+c.1.1.size<=4611686018427387904) then let d:=((((a.1.1++(B [32]))++b.1.1)++(B [32]))++c.1.1);I ((d,()),()) else G else G else G else G
def sL:Ent:=(169,G,⟨[j6,j6,j6],[.str],V8⟩)
def adL:y8 sL:=sk (v:= .nil) (fn:=f169) al5 kN
def ag0:Cx:=cX [Rk] [] []
def aho:y9 ag0:=aE1<|gC UI<|AI
def PD(x:Y7×D):Option ((Y7×D)×D):=(Na x).bind λa=>if !a.1.1 then I (((noB,0,()),()),()) else I (((x.1.1,(x.1.1.size:Int),()),()),())
def cB:Ent:=(166,G,⟨[Z15],[Z15],PD⟩)
def pG:y8 cB:=sk (v:= .nil) (fn:=f166) aho kN
def amc:Cx:=cX [Nq] [] []
def aoj:y9 amc:=aE1<|gC PG<|AI
def PW(x:A1×D):Option ((A1×D)×D):=(DN ((x.1.size:Int),())).bind λa=>if U (a.1.1.size+(B [58]).size<=4611686018427387904) then if U ((a.1.1++(B [58])).size+x.1.size<=4611686018427387904) then if U (((a.1.1++(B [58]))++x.1).size+(B [59]).size<=4611686018427387904) then let b:=(((a.1.1++(B [58]))++x.1)++(B [59]));I ((b,()),()) else G else G else G
def iH:Ent:=(127,G,⟨[.str],[.str],PW⟩)
def uJ:y8 iH:=sk (v:= .nil) (fn:=f127) aoj kN
def ait:Cx:=cX [Gr] [] []
def akb:y9 ait:=aE1<|gC HI<|AI
def dh(x:A1×D):Option ((Bool×D)×D):=(D9 ((x.1.size:Int),1,60,())).bind λa=>I (a.1,())
def sO:Ent:=(219,G,⟨[.str],[.bool],dh⟩)
def adO:y8 sO:=sk (v:= .nil) (fn:=f219) akb kN
def aiu:Cx:=cX [Rk,iH,sO] [] [(14,21)]
def akc:y9 aiu:=aE1<|gC UI<|gC uJ<|gC adO<|AI
def RW(x:Y7×A1×D):Option ((Y7×Bool×D)×D):=(Na (x.1,())).bind λc=>if !c.1.1 then I (((noB,0,()),A0,()),()) else(dh x.2).bind λa=>if Al (!(!a.1.1)) ((PW x.2).isSome) then if(!a.1.1)||(U<|2400<(w64<|(x.1.1.size:Int)+((((PW x.2).getD ((noB,()),())).1.1).size:Int))) then I ((x.1,A0,()),()) else(PW x.2).bind λb=>if U (x.1.1.size+b.1.1.size<=4611686018427387904) then I ((((x.1.1++b.1.1),x.1.2),Y,()),()) else G else G
def wx:Ent:=(165,G,⟨[Z15,.str],[Z15,.bool],RW⟩)
def afR:y8 wx:=sk (v:= .nil) (fn:=f165) akc kN
def ahz:Cx:=cX [Rk,iH,sO] [] []
def va:y9 ahz:=aE1<|gC UI<|gC uJ<|gC adO<|AI
def RJ(x:List A1×Y7×Y7×A1×v7):Rnd (List A1×Y7×Y7×A1×v7) (Y7×Bool×D) (Y7×Y7×A1×D):=if U (x.2.2.2.2.1<(j8 x.1:Int)) then if inb x.2.2.2.2.1 x.1.length then(dh ((rd aFf x.1 x.2.2.2.2.1),())).bind λb=>if !b.1.1 then I (.inr<|.inl (x.2.1,A0,())) else if inb x.2.2.2.2.1 x.1.length then(PW ((rd aFf x.1 x.2.2.2.2.1),())).bind λa=>if U (x.2.2.2.1.size+a.1.1.size<=4611686018427387904) then I (.inl (x.1,x.2.1,x.2.2.1,(x.2.2.2.1++a.1.1),(w64<|x.2.2.2.2.1+1),())) else G else G else G else I (.inr<|.inr (x.2.1,x.2.2.1,x.2.2.2.1,()))
def aU:=AW RJ
def adq:Loop:=⟨[(1,.sl .str),(2,Z21),(4,Z21),(6,.str),(7,j6)],[(2,Z21),(4,Z21),(6,.str)],0,[(4,Z21),(5,.bool)],aU⟩
def ahN:LF f180 [] [1,1,1,0,1,0,0] adq:=sq (v:= .nil) va (b:=RJ) kN
def RS(x:Y7×List A1×D):Option ((Y7×Bool×D)×D):=(Na (x.1,())).bind λb=>if !b.1.1 then I (((noB,0,()),A0,()),()) else(AO (aU (x.2.1,x.1,(noB,0,()),noB,0,())) (λa=>I (a,())) λa=>(if U (2400<(a.2.2.1.size:Int)) then I ((a.1,A0,()),()) else I (((a.2.2.1,(a.2.2.1.size:Int),()),Y,()),())))
def rX:Ent:=(180,G,⟨[Z15,.fz .str],[Z15,.bool],RS⟩)
def adJ:y8 rX:=sk (v:=t1<|t1<|t1<|.two (t1<|.one<|.loop adq) .nil) (fn:=f180) va<|kC ahN kN
def aic:Cx:=cX [gU,Nq,Uq] [] []
def dP:y9 aic:=aE1<|gC te<|gC PG<|gC aW<|AI
def cU(x:Y3×List A1×v7):Rnd (Y3×List A1×v7) D (List A1×D):=if U (x.2.2.1<(j8 x.1.2.2.2.2.2.1:Int)) then if inb x.2.2.1 x.1.2.2.2.2.2.1.length then(MM (((rd aE3 x.1.2.2.2.2.2.1 x.2.2.1).fr,(rd aE3 x.1.2.2.2.2.2.1 x.2.2.1).nu,(rd aE3 x.1.2.2.2.2.2.1 x.2.2.1).to,(rd aE3 x.1.2.2.2.2.2.1 x.2.2.1).un,(rd aE3 x.1.2.2.2.2.2.1 x.2.2.1).tx,()),())).bind λa=>if U ((B [105,110,98,111,120,32]).size+a.1.1.size<=4611686018427387904) then if Ac (x.2.1.length+([((B [105,110,98,111,120,32])++a.1.1)]:List A1).length) then I (.inl (x.1,(x.2.1++([((B [105,110,98,111,120,32])++a.1.1)]:List A1)),(w64<|x.2.2.1+1),())) else G else G else G else I (.inr<|.inr (x.2.1,()))
def aj:=AW cU
def tY:Loop:=⟨[(1,Z7),(3,.row 9 .str),(7,j6)],[(3,.row 9 .str)],4,[],aj⟩
def aiQ:LF f181 [] [1,1,1,1,1,1,1,0,1,0,0] tY:=sq (v:= .nil) dP (b:=cU) kN
def cV(x:Y3×List A1×v7):Rnd (Y3×List A1×v7) D (Y3×List A1×D):=if U (x.2.2.1<(j8 x.1.2.2.2.1:Int)) then if inb x.2.2.1 x.1.2.2.2.1.length then(MM (((rd aE3 x.1.2.2.2.1 x.2.2.1).fr,(rd aE3 x.1.2.2.2.1 x.2.2.1).nu,(rd aE3 x.1.2.2.2.1 x.2.2.1).to,(rd aE3 x.1.2.2.2.1 x.2.2.1).un,(rd aE3 x.1.2.2.2.1 x.2.2.1).tx,()),())).bind λa=>if U ((B [104,101,108,100,32]).size+a.1.1.size<=4611686018427387904) then if Ac (x.2.1.length+([((B [104,101,108,100,32])++a.1.1)]:List A1).length) then I (.inl (x.1,(x.2.1++([((B [104,101,108,100,32])++a.1.1)]:List A1)),(w64<|x.2.2.1+1),())) else G else G else G else I (.inr<|.inr (x.1,x.2.1,()))
def ak:=AW cV
def tZ:Loop:=⟨[(1,Z7),(3,.row 9 .str),(6,j6)],[(1,Z7),(3,.row 9 .str)],2,[],ak⟩
def aiJ:LF f181 [] [1,1,1,1,1,1,0,1,0,0] tZ:=sq (v:= .nil) dP (b:=cV) kN
def cW(x:Y3×List A1×v7):Rnd (Y3×List A1×v7) D (Y3×List A1×D):=if U (x.2.2.1<(j8 x.1.2.2.2.2.1:Int)) then if inb x.2.2.1 x.1.2.2.2.2.1.length then let d:=(rd aFc x.1.2.2.2.2.1 x.2.2.1).mf;let e:=(rd aFc x.1.2.2.2.2.1 x.2.2.1).mn;let f:=(rd aFc x.1.2.2.2.2.1 x.2.2.1).mu;(DN (d,())).bind λa=>if U ((B [109,97,114,107,32]).size+a.1.1.size<=4611686018427387904) then if U (((B [109,97,114,107,32])++a.1.1).size+(B [32]).size<=4611686018427387904) then(DN (e,())).bind λb=>if U ((((B [109,97,114,107,32])++a.1.1)++(B [32])).size+b.1.1.size<=4611686018427387904) then if U (((((B [109,97,114,107,32])++a.1.1)++(B [32]))++b.1.1).size+(B [32]).size<=4611686018427387904) then(DN (f,())).bind λc=>if U ((((((B [109,97,114,107,32])++a.1.1)++(B [32]))++b.1.1)++(B [32])).size+c.1.1.size<=4611686018427387904) then if Ac (x.2.1.length+([((((((B [109,97,114,107,32])++a.1.1)++(B [32]))++b.1.1)++(B [32]))++c.1.1)]:List A1).length) then I (.inl (x.1,(x.2.1++([((((((B [109,97,114,107,32])++a.1.1)++(B [32]))++b.1.1)++(B [32]))++c.1.1)]:List A1)),(w64<|x.2.2.1+1),())) else G else G else G else G else G else G else G else I (.inr<|.inr (x.1,x.2.1,()))
def al:=AW cW
def td:Loop:=⟨[(1,Z7),(3,.row 9 .str),(4,j6)],[(1,Z7),(3,.row 9 .str)],0,[],al⟩
def aiP:LF f181 [] [1,1,1,1,1,0,1,0,0] td:=sq (v:= .nil) dP (b:=cW) kN
def VC(x:Y3×D):Option ((List A1×D)×D):=(PX x).bind λg=>if !g.1.1 then I ((([]:List A1),()),()) else(BT (X:=Y3×List A1×D) (λa=>(BT (X:=Y3×List A1×D) (λd=>(AO (al (d.1,d.2.1,0,())) (λ_=>G) λe=>(AO (ak (e.1,e.2.1,0,())) (λ_=>G) λf=>(AO (aj (f.1,f.2.1,0,())) (λ_=>G) λh=>I (h,())))))<|(if U (1<a.1.2.2.1) then(DN (a.1.2.2.1,())).bind λb=>if U ((B [110,101,120,116,32]).size+b.1.1.size<=4611686018427387904) then if Ac (a.2.1.length+([((B [110,101,120,116,32])++b.1.1)]:List A1).length) then I (.inr (a.1,(a.2.1++([((B [110,101,120,116,32])++b.1.1)]:List A1)),())) else G else G else I (.inr a))))<|(if U (0<x.1.2.1) then(DN (x.1.2.1,())).bind λc=>if U ((B [116,105,109,101,32]).size+c.1.1.size<=4611686018427387904) then if Ac (([]:List A1).length+([((B [116,105,109,101,32])++c.1.1)]:List A1).length) then I (.inr (x.1,(([]:List A1)++([((B [116,105,109,101,32])++c.1.1)]:List A1)),())) else G else G else I (.inr (x.1,([]:List A1),()))))
def sR:Ent:=(181,G,⟨[Z8],[.row 9 .str],VC⟩)
def adT:y8 sR:=sk (v:=t1<|t1<|t1<|.join [(1,Z7),(3,.row 9 .str)] .nil<|.join [(1,Z7),(3,.row 9 .str)] .nil<|.two (t1<|.one<|.loop td)<|.two (t1<|.one<|.loop tZ)<|.two (t1<|.one<|.loop tY) .nil) (fn:=f181) dP<|kC aiP<|kC aiJ<|kC aiQ kN
def aim:Cx:=cX [Ix,gW,wx,cB,rX,sR] [] []
def al4:y9 aim:=aE1<|gC JX<|gC tj<|gC afR<|gC pG<|gC adJ<|gC adT<|AI
def KN(x:Y1×A1×Bool×D):Option ((Y1×Bool×D)×D):=(G5 (x.1,())).bind λb=>(Rp (b.1.1,x.2.1,())).bind λe=>if !e.1.2.1 then I ((x.1,A0,()),()) else(RW ((x.1.2.2.1,x.1.2.2.2.1,()),x.2.1,())).bind λc=>(BT (X:=Bool×Y1×Y1×Y7×Bool×D) (λa=>if !a.2.2.2.2.1 then I ((a.2.1,A0,()),()) else if a.1 then(PD (a.2.2.2.1,())).bind λd=>I (((a.2.1.1,a.2.1.2.1,d.1.1.1,d.1.1.2.1,a.2.1.2.2.2.2),Y,()),()) else I (((a.2.1.1,a.2.1.2.1,a.2.2.2.1.1,a.2.2.2.1.2.1,a.2.1.2.2.2.2),Y,()),()))<|(if !c.1.2.1 then(VC (b.1.1,())).bind λf=>(RS ((x.1.2.2.1,x.1.2.2.2.1,()),f.1)).bind λg=>(RW (g.1.1,x.2.1,())).bind λh=>I (.inr (x.2.2.1,x.1,(0,A0,noB,0,([]:List AE),()),h.1)) else I (.inr (x.2.2.1,x.1,(0,A0,noB,0,([]:List AE),()),c.1))))
def RV:Ent:=(176,G,⟨[Z12,.str,.bool],[Z12,.bool],KN⟩)
def UA:y8 RV:=sk (v:=t1<|t1<|t1<|t1<|t1<|.join [(2,.bool),(3,Z19),(6,Z20),(12,Z21),(13,.bool)] .nil .nil) (fn:=f176) al4 kN
def ahx:Cx:=cX [] [] []
def ajW:y9 ahx:=aE1<|AI
def cK(x:Int×Y6×D):Option ((Y6×D)×D):=I (((x.1,x.2.1.2.2.1,x.2.1.2.1,x.2.1.2.2.2.1,x.2.1.2.2.2.2.1,x.2.1.2.2.2.2.2.1,x.2.1.2.2.2.2.2.2.1,0,0,noB,()),()),())
def vt:Ent:=(222,G,⟨[j6,Z13],[Z13],cK⟩)
def aeC:y8 vt:=sk (v:= .nil) (fn:=f222) ajW kN
def alG:Cx:=cX [] [] []
def ang:y9 alG:=aE1<|AI
def PS(x:List AE×v7):Option ((List AE×D)×D):=if U (0<=x.2.1)&&U (x.2.1<=(j8 x.1:Int)) then if Ac (([]:List AE).length+(BR (AK x.2.1) x.1).length) then if U (0<=(w64<|x.2.1+1))&&U ((w64<|x.2.1+1)<=(j8 x.1:Int)) then if Ac ((([]:List AE)++(BR (AK x.2.1) x.1)).length+(Bp (AK<|w64<|x.2.1+1) x.1).length) then I ((((([]:List AE)++(BR (AK x.2.1) x.1))++(Bp (AK<|w64<|x.2.1+1) x.1)),()),()) else G else G else G else G
def fy:Ent:=(225,G,⟨[.fz .half,j6],[.row 107 .half],PS⟩)
def ado:y8 fy:=sk (v:= .nil) (fn:=f225) ang kN
def alF:Cx:=cX [] [] [(22,28)]
def yg:y9 alF:=aE1<|AI
def dU(x:List AE×aE7):Rnd (List AE×aE7) (v7) D:=if U (x.2.2.2.1<(j8 x.1:Int)) then if inb x.2.2.2.1 x.1.length then if Al (U<|(rd aE6 x.1 x.2.2.2.1).fr=x.2.1) (inb x.2.2.2.1 x.1.length) then if(U<|(rd aE6 x.1 x.2.2.2.1).fr=x.2.1)&&(U<|(rd aE6 x.1 x.2.2.2.1).nu=x.2.2.1) then I (.inr<|.inl x.2.2.2) else I (.inl (x.1,x.2.1,x.2.2.1,(w64<|x.2.2.2.1+1),())) else G else G else I (.inr<|.inr ())
def q9:=AW dU
def vH:Loop:=⟨[(0,.sl .half),(1,j6),(2,j6),(7,j6)],[],0,[(6,j6)],q9⟩
def ak5:LF f248 [] [1,0,1,0,0] vH:=sq (v:= .nil) yg (b:=dU) kN
def dt(x:List AE×aE2):Option ((v7)×D):=(AO (q9 (x.1,x.2.1,x.2.2.1,0,())) (λa=>I (a,())) λa=>I (((-1),()),()))
def yL:Ent:=(248,G,⟨[.fz .half,j6,j6],[j6],dt⟩)
def afr:y8 yL:=sk (v:=t1<|.two (t1<|.one<|.loop vH) .nil) (fn:=f248) yg<|kC ak5 kN
def amW:Cx:=cX [fy,yL] [] []
def yv:y9 amW:=aE1<|gC ado<|gC afr<|AI
def du(x:Y1×Y6×Y1×Int×Y9×List AN×v7):Rnd (Y1×Y6×Y1×Int×Y9×List AN×v7) D (Y1×Y6×Y1×Int×Y9×List AN×D):=if U (x.2.2.2.2.2.2.1<(j8 x.2.2.2.2.1.2.2.2.2.2.1:Int)) then if inb x.2.2.2.2.2.2.1 x.2.2.2.2.1.2.2.2.2.2.1.length then if !decide ((rd aFh x.2.2.2.2.1.2.2.2.2.2.1 x.2.2.2.2.2.2.1).nu=x.2.1.2.2.2.2.2.2.2.2.1) then if inb x.2.2.2.2.2.2.1 x.2.2.2.2.1.2.2.2.2.2.1.length then if Ac (x.2.2.2.2.2.1.length+([(rd aFh x.2.2.2.2.1.2.2.2.2.2.1 x.2.2.2.2.2.2.1)]:List AN).length) then let a:=(w64<|x.2.2.2.2.2.2.1+1);I (.inl (x.1,x.2.1,x.2.2.1,x.2.2.2.1,x.2.2.2.2.1,(x.2.2.2.2.2.1++([(rd aFh x.2.2.2.2.1.2.2.2.2.2.1 x.2.2.2.2.2.2.1)]:List AN)),a,())) else G else G else let b:=(w64<|x.2.2.2.2.2.2.1+1);I (.inl (x.1,x.2.1,x.2.2.1,x.2.2.2.1,x.2.2.2.2.1,x.2.2.2.2.2.1,b,())) else G else I (.inr<|.inr (x.1,x.2.1,x.2.2.1,x.2.2.2.1,x.2.2.2.2.1,x.2.2.2.2.2.1,()))
def bj:=AW du
def wL:Loop:=⟨[(2,Z20),(3,Z14),(4,Z20),(6,j6),(7,Z17),(8,.row 142 .mixed),(9,j6)],[(2,Z20),(3,Z14),(4,Z20),(6,j6),(7,Z17),(8,.row 142 .mixed)],0,[],bj⟩
def amT:LF f223 [] [1,1,1,1,1,1,0,1,0,0] wL:=sq (v:= .nil) yv (b:=du) kN
def fG(x:Y1×Y6×D):Option ((Y1×v7)×D):=(dt (x.1.2.2.2.2.1,x.2.1.2.2.2.1,x.2.1.2.2.2.2.1,())).bind λe=>(BT (X:=Y1×Y6×Y1×v7) (λa=>if inb a.2.2.2.1 a.1.2.2.2.2.1.length then let i:=(rd aE6 a.1.2.2.2.2.1 a.2.2.2.1).fr;let j:=(rd aE6 a.1.2.2.2.2.1 a.2.2.2.1).nu;let f:=(rd aE6 a.1.2.2.2.2.1 a.2.2.2.1).to;let g:=(rd aE6 a.1.2.2.2.2.1 a.2.2.2.1).un;let h:=(rd aE6 a.1.2.2.2.2.1 a.2.2.2.1).sz;let k:=(rd aE6 a.1.2.2.2.2.1 a.2.2.2.1).got;if !decide (f=a.2.1.2.2.2.2.2.1) then I ((a.1,(-1),()),()) else if !decide (g=a.2.1.2.2.2.2.2.2.1) then I ((a.1,(-1),()),()) else if !decide (h=a.2.1.2.2.2.2.2.2.2.1) then I ((a.1,(-1),()),()) else(AO (bj (a.1,a.2.1,a.2.2.1,a.2.2.2.1,(i,j,f,g,h,k,()),([]:List AN),0,())) (λ_=>G) λd=>(BT (X:=Y1×Y6×Y1×Int×Y9×List AN×D) (λc=>if Ac (c.2.2.2.2.2.1.length+([(AN.mk c.2.1.2.2.2.2.2.2.2.2.1 c.2.1.2.2.2.2.2.2.2.2.2.1)]:List AN).length) then if inb c.2.2.2.1 c.1.2.2.2.2.1.length then I (((c.1.1,c.1.2.1,c.1.2.2.1,c.1.2.2.2.1,(Bq c.1.2.2.2.2.1 (AK c.2.2.2.1)<|AE.mk c.2.2.2.2.1.1 c.2.2.2.2.1.2.1 c.2.2.2.2.1.2.2.1 c.2.2.2.2.1.2.2.2.1 c.2.2.2.2.1.2.2.2.2.1<|c.2.2.2.2.2.1++([(AN.mk c.2.1.2.2.2.2.2.2.2.2.1 c.2.1.2.2.2.2.2.2.2.2.2.1)]:List AN)),()),c.2.2.2.1,()),()) else G else G)<|(if U (14<=(j8 d.2.2.2.2.2.1:Int)) then if U (0<=1)&&U (1<=(j8 d.2.2.2.2.2.1:Int)) then if Ac (([]:List AN).length+(Bp (AK 1) d.2.2.2.2.2.1).length) then I (.inr (d.1,d.2.1,d.2.2.1,d.2.2.2.1,d.2.2.2.2.1,(([]:List AN)++(Bp (AK 1) d.2.2.2.2.2.1)),())) else G else G else I (.inr d)))) else G)<|(if U (e.1.1<0) then(BT (X:=Y1×Y6×Y1×D) (λb=>if Ac (b.1.2.2.2.2.1.length+([(AE.mk b.2.1.2.2.2.1 b.2.1.2.2.2.2.1 b.2.1.2.2.2.2.2.1 b.2.1.2.2.2.2.2.2.1 b.2.1.2.2.2.2.2.2.2.1 ([]:List AN))]:List AE).length) then let l:=(w64<|((b.1.2.2.2.2.1++([(AE.mk b.2.1.2.2.2.1 b.2.1.2.2.2.2.1 b.2.1.2.2.2.2.2.1 b.2.1.2.2.2.2.2.2.1 b.2.1.2.2.2.2.2.2.2.1 ([]:List AN))]:List AE)).length:Int) - 1);I (.inr ((b.1.1,b.1.2.1,b.1.2.2.1,b.1.2.2.2.1,(b.1.2.2.2.2.1++([(AE.mk b.2.1.2.2.2.1 b.2.1.2.2.2.2.1 b.2.1.2.2.2.2.2.1 b.2.1.2.2.2.2.2.2.1 b.2.1.2.2.2.2.2.2.2.1 ([]:List AN))]:List AE)),()),b.2.1,b.2.2.1,l,())) else G)<|(if U (3<=(j8 x.1.2.2.2.2.1:Int)) then(PS (x.1.2.2.2.2.1,0,())).bind λm=>I (.inr ((x.1.1,x.1.2.1,x.1.2.2.1,x.1.2.2.2.1,m.1),x.2.1,(0,A0,noB,0,([]:List AE),()),())) else I (.inr (x.1,x.2.1,(0,A0,noB,0,([]:List AE),()),())))) else I (.inr (x.1,x.2.1,(0,A0,noB,0,([]:List AE),()),e.1))))
def z6:Ent:=(223,G,⟨[Z1,Z13],[Z1,j6],fG⟩)
def ags:y8 z6:=sk (v:=t1<|t1<|.join [(2,Z20),(3,Z14),(4,Z20),(6,j6)] (t1<|.two (.join [(2,Z20),(3,Z14),(4,Z20)] .nil .nil) .nil)<|t1<|t1<|t1<|.two (t1<|.one<|.loop wL)<|.join [(2,Z20),(3,Z14),(4,Z20),(6,j6),(7,Z17),(8,.row 142 .mixed)] .nil .nil) (fn:=f223) yv<|kC amT kN
def aiv:Cx:=cX [Gr] [] []
def akd:y9 aiv:=aE1<|gC HI<|AI
def PL(x:v7):Option ((v7)×D):=(D9 (x.1,0,65535,())).bind λa=>if !a.1.1 then I ((0,()),()) else let b:=(BK (w64<|(w64<|x.1 * 25173)+13849) 65536);I ((b,()),())
def sP:Ent:=(250,G,⟨[j6],[j6],PL⟩)
def adR:y8 sP:=sk (v:= .nil) (fn:=f250) akd kN
def aip:Cx:=cX [] [] []
def akZ:y9 aip:=aE1<|AI
def dW(x:aE2):Option ((v7)×D):=if U (x.2.1=1) then if !decide (x.1=0) then let a:=(w64<|(w64<|B0 60 x.1)+10);I ((a,()),()) else G else if !decide ((w64<|x.2.1 * (w64<|x.2.1 - 1))=0) then let b:=(w64<|B0 60<|w64<|x.2.1 * (w64<|x.2.1 - 1));I ((b,()),()) else G
def wq:Ent:=(261,G,⟨[j6,j6],[j6],dW⟩)
def afN:y8 wq:=sk (v:= .nil) (fn:=f261) akZ kN
def ai3:Cx:=cX [WB,sP,wq] [] []
def rp:y9 ai3:=aE1<|gC dX<|gC adR<|gC afN<|AI
def UW(x:aE7):Rnd (aE7) (v7) (v7):=if U (x.2.2.1<x.1) then(dW (x.1,x.2.2)).bind λa=>if U ((w64<|x.2.1 - a.1.1)<0) then I (.inr<|.inl x.2.2) else I (.inl (x.1,(w64<|x.2.1 - a.1.1),(w64<|x.2.2.1+1),())) else I (.inr<|.inr (x.1,()))
def aX:=AW UW
def adt:Loop:=⟨[(0,j6),(7,j6),(8,j6)],[(0,j6)],2,[(4,j6)],aX⟩
def ahI:LF f251 [] [1,1,1,1,1,1,0,1,0,0] adt:=sq (v:= .nil) rp (b:=UW) kN
def uK(x:Int×aE7):Rnd (Int×aE7) D (aE7):=if U (x.2.2.2.1<=x.1) then(dW (x.1,x.2.2.2)).bind λa=>I (.inl (x.1,x.2.1,(w64<|x.2.2.1+a.1.1),(w64<|x.2.2.2.1+1),())) else I (.inr<|.inr (x.1,x.2.1,x.2.2.1,()))
def aY:=AW uK
def adu:Loop:=⟨[(0,j6),(1,j6),(5,j6),(6,j6)],[(0,j6),(1,j6),(5,j6)],0,[],aY⟩
def ahP:LF f251 [] [1,1,1,1,0,1,0,0] adu:=sq (v:= .nil) rp (b:=uK) kN
def cQ(x:aE2):Option ((v7)×D):=(MR x).bind λc=>if !c.1.1 then I ((0,()),()) else if U (x.2.1<x.1) then I ((1,()),()) else(AO (aY (x.1,x.2.1,0,1,())) (λ_=>G) (λa=>(PL ((w64<|(w64<|a.2.1 * 31)+a.1),())).bind λd=>(PL d.1).bind λe=>if !decide (a.2.2.1=0) then let f:=(BK (w64<|B0 e.1.1 16) a.2.2.1);(AO (aX (a.1,f,1,())) (λb=>I (b,())) λb=>I (b,())) else G))
def vz:Ent:=(251,G,⟨[j6,j6],[j6],cQ⟩)
def aeF:y8 vz:=sk (v:=t1<|t1<|t1<|t1<|.two (t1<|.one<|.loop adu)<|t1<|.two (t1<|.one<|.loop adt) .nil) (fn:=f251) rp<|kC ahP<|kC ahI kN
def aoB:Cx:=cX [WB,sP,vz] [] []
def fp:y9 aoB:=aE1<|gC dX<|gC adR<|gC aeF<|AI
def Vj(x:Int×List Int×List Bool×aE7):Rnd (Int×List Int×List Bool×aE7) D (Int×List Int×List Bool×aE7):=if inb x.2.2.2.2.2.1 x.2.2.1.length then if rd aFj x.2.2.1 x.2.2.2.2.2.1 then if !decide (x.1=0) then let a:=(BK (w64<|x.2.2.2.2.2.1+1) x.1);I (.inl (x.1,x.2.1,x.2.2.1,x.2.2.2.1,x.2.2.2.2.1,a,())) else G else I (.inr<|.inr x) else G
def cP:=AW Vj
def xi:Loop:=⟨[(0,j6),(5,.row 3 .int),(6,.row 4 .bool),(7,j6),(8,j6),(9,j6)],[(0,j6),(5,.row 3 .int),(6,.row 4 .bool),(7,j6),(8,j6),(9,j6)],2,[],cP⟩
def aoY:LF f227 [] [1,1,1,1,1,1,0,1,0,0,1,0,0,1,1,0,0,0] xi:=sq (v:= .nil) fp (b:=Vj) kN
def fL(x:Int×List Int×List Bool×v7):Rnd (Int×List Int×List Bool×v7) D (List Int×D):=if U (x.2.2.2.1<x.1) then if inb x.2.2.2.1 x.2.2.1.length then if rd aFj x.2.2.1 x.2.2.2.1 then if Ac (x.2.1.length+([x.2.2.2.1]:List Int).length) then I (.inl (x.1,(x.2.1++([x.2.2.2.1]:List Int)),x.2.2.1,(w64<|x.2.2.2.1+1),())) else G else I (.inl (x.1,x.2.1,x.2.2.1,(w64<|x.2.2.2.1+1),())) else G else I (.inr<|.inr (x.2.1,()))
def rL:=AW fL
def xh:Loop:=⟨[(0,j6),(5,.row 3 .int),(6,.row 4 .bool),(10,j6)],[(5,.row 3 .int)],4,[],rL⟩
def aoV:LF f227 [] [1,1,1,1,1,1,1,0,1,0,0] xh:=sq (v:= .nil) fp (b:=fL) kN
def iL(x:Int×List Int×List Bool×aE2):Rnd (Int×List Int×List Bool×aE2) D (Int×List Int×List Bool×D):=if U (0<x.2.2.2.2.1) then(PL (x.2.2.2.1,())).bind λb=>if !decide (x.1=0) then let c:=(BK (w64<|B0 b.1.1 16) x.1);(AO (cP (x.1,x.2.1,x.2.2.1,b.1.1,x.2.2.2.2.1,c,())) (λ_=>I<|.inr<|.inl ()) λa=>(if inb a.2.2.2.2.2.1 a.2.2.1.length then let d:=(w64<|a.2.2.2.2.1 - 1);I (.inl (a.1,a.2.1,(Bq a.2.2.1 (AK a.2.2.2.2.2.1) Y),a.2.2.2.1,d,())) else G)) else G else I (.inr<|.inr (x.1,x.2.1,x.2.2.1,()))
def rM:=AW iL
def xj:Loop:=⟨[(0,j6),(5,.row 3 .int),(6,.row 4 .bool),(7,j6),(8,j6)],[(0,j6),(5,.row 3 .int),(6,.row 4 .bool)],0,[],rM⟩
def aod:LF f227 [] [1,1,1,1,1,1,0,1,0,0] xj:=sq (v:=t1<|.two (.one<|t1<|t1<|.two (.one<|.loop xi) .nil) .nil) fp (b:=iL)<|kC aoY kN
def Vv(x:aE2):Option ((List Int×D)×D):=(MR x).bind λb=>if !b.1.1 then I ((([]:List Int),()),()) else if U (x.2.1<x.1) then if Ac (([]:List Int).length+([x.2.1]:List Int).length) then I (((([]:List Int)++([x.2.1]:List Int)),()),()) else G else if U (0<=x.1)&&U (x.1<=4294967296) then(PL ((w64<|(w64<|x.2.1 * 7)+1),())).bind λc=>(cQ x).bind λd=>(AO (rM (x.1,([]:List Int),(BS (AK x.1)<|dfl .bool),c.1.1,d.1)) (λ_=>G) λa=>(AO (rL (a.1,a.2.1,a.2.2.1,0,())) (λ_=>G) λe=>I (e,()))) else G
def iZ:Ent:=(227,G,⟨[j6,j6],[.row 3 .int],Vv⟩)
def um:y8 iZ:=sk (v:=t1<|t1<|t1<|t1<|t1<|t1<|.two (t1<|.one<|.loop xj)<|.two (t1<|.one<|.loop xh) .nil) (fn:=f227) fp<|kC aod<|kC aoV kN
def aoA:Cx:=cX [] [] []
def aAM:y9 aoA:=aE1<|AI
def zV(x:A1×A1×List Int×v7):Rnd (A1×A1×List Int×v7) D (List Int×D):=if U (x.2.2.2.1<4) then if inb x.2.2.2.1 x.1.size then if inb x.2.2.2.1 x.2.1.size then if Ac (x.2.2.1.length+([(Dt .u8 (bt x.1 x.2.2.2.1)<|bt x.2.1 x.2.2.2.1)]:List Int).length) then I (.inl (x.1,x.2.1,(x.2.2.1++([(Dt .u8 (bt x.1 x.2.2.2.1)<|bt x.2.1 x.2.2.2.1)]:List Int)),(w64<|x.2.2.2.1+1),())) else G else G else G else I (.inr<|.inr (x.2.2.1,()))
def rK:=AW zV
def xe:Loop:=⟨[(0,.str),(1,.str),(5,.row 5 .u8),(6,j6)],[(5,.row 5 .u8)],0,[],rK⟩
def aoc:LF f229 [] [1,1,0,1,0,0] xe:=sq (v:= .nil) aAM (b:=zV) kN
def Vu(x:A1×A1×D):Option ((A1×D)×D):=(AO (rK (x.1,x.2.1,([]:List Int),0,())) (λ_=>G) λa=>I (((BH a.1),()),()))
def iY:Ent:=(229,G,⟨[.str,.str],[.str],Vu⟩)
def vG:y8 iY:=sk (v:=t1<|t1<|.two (t1<|.one<|.loop xe) .nil) (fn:=f229) aAM<|kC aoc kN
def an0:Cx:=cX [iZ,iY] [] []
def yu:y9 an0:=aE1<|gC um<|gC vG<|AI
def VV(x:List A1×List Int×A1×List Int×v7):Rnd (List A1×List Int×A1×List Int×v7) D (List Int×A1×D):=if U (x.2.2.2.2.1<(j8 x.2.2.2.1:Int)) then if inb x.2.2.2.2.1 x.2.2.2.1.length then if inb (rd aE8 x.2.2.2.1 x.2.2.2.2.1) x.1.length then if U ((rd aFf x.1<|rd aE8 x.2.2.2.1 x.2.2.2.2.1)=noB) then if inb x.2.2.2.2.1 x.2.2.2.1.length then if Ac (x.2.1.length+([(rd aE8 x.2.2.2.1 x.2.2.2.2.1)]:List Int).length) then I (.inl (x.1,(x.2.1++([(rd aE8 x.2.2.2.1 x.2.2.2.2.1)]:List Int)),x.2.2.1,x.2.2.2.1,(w64<|x.2.2.2.2.1+1),())) else G else G else if inb x.2.2.2.2.1 x.2.2.2.1.length then if inb (rd aE8 x.2.2.2.1 x.2.2.2.2.1) x.1.length then(Vu (x.2.2.1,(rd aFf x.1<|rd aE8 x.2.2.2.1 x.2.2.2.2.1),())).bind λa=>I (.inl (x.1,x.2.1,a.1.1,x.2.2.2.1,(w64<|x.2.2.2.2.1+1),())) else G else G else G else G else I (.inr<|.inr (x.2.1,x.2.2.1,()))
def bf:=AW VV
def wK:Loop:=⟨[(2,.sl .str),(8,.row 3 .int),(9,.str),(10,.row 3 .int),(11,j6)],[(8,.row 3 .int),(9,.str)],0,[],bf⟩
def amS:LF f260 [] [1,1,1,1,0,1,0,0] wK:=sq (v:= .nil) yu (b:=VV) kN
def fF(x:Int×Y8×List A1×D):Option ((List Int×A1×D)×D):=(Vv (x.1,x.2.1.1,())).bind λa=>(AO (bf (x.2.2.1,([]:List Int),x.2.1.2.1,a.1.1,0,())) (λ_=>G) λb=>I (b,()))
def yz:Ent:=(260,G,⟨[j6,Z16,.fz .str],[.row 3 .int,.str],fF⟩)
def agr:y8 yz:=sk (v:=t1<|t1<|t1<|t1<|.two (t1<|.one<|.loop wK) .nil) (fn:=f260) yu<|kC amS kN
def alS:Cx:=cX [Gr,fw,yz] [] []
def gQ:y9 alS:=aE1<|gC HI<|gC adl<|gC agr<|AI
def PM(x:Int×List AN×List A1×Bool×v7):Rnd (Int×List AN×List A1×Bool×v7) D (Int×List AN×List A1×Bool×D):=if U (x.2.2.2.2.1<(j8 x.2.1:Int)) then if inb x.2.2.2.2.1 x.2.1.length then(Rg (x.1,((rd aFh x.2.1 x.2.2.2.2.1).nu,(rd aFh x.2.1 x.2.2.2.2.1).da,()),())).bind λb=>if !b.1.1 then I (.inl (x.1,x.2.1,x.2.2.1,x.2.2.2.1,(w64<|x.2.2.2.2.1+1),())) else if inb x.2.2.2.2.1 x.2.1.length then(fF (x.1,((rd aFh x.2.1 x.2.2.2.2.1).nu,(rd aFh x.2.1 x.2.2.2.2.1).da,()),x.2.2.1,())).bind λa=>if U ((j8 a.1.1:Int)=1) then if inb 0 a.1.1.length then if inb (rd aE8 a.1.1 0) x.2.2.1.length then I (.inl (x.1,x.2.1,(Bq x.2.2.1 (AK<|rd aE8 a.1.1 0) a.1.2.1),Y,(w64<|x.2.2.2.2.1+1),())) else G else G else I (.inl (x.1,x.2.1,x.2.2.1,x.2.2.2.1,(w64<|x.2.2.2.2.1+1),())) else G else G else I (.inr<|.inr (x.1,x.2.1,x.2.2.1,x.2.2.2.1,()))
def UK:=AW PM
def vU:Loop:=⟨[(0,j6),(1,.sl .mixed),(5,.row 9 .str),(6,.bool),(7,j6)],[(0,j6),(1,.sl .mixed),(5,.row 9 .str),(6,.bool)],2,[],UK⟩
def ajw:LF f249 [] [1,1,1,1,0,0,0,1,0,1,1,0,0] vU:=sq (v:= .nil) gQ (b:=PM) kN
def sB(x:Int×List AN×List A1×Bool×D):Rnd (Int×List AN×List A1×Bool×D) D (List A1×D):=if x.2.2.2.1 then(AO (UK (x.1,x.2.1,x.2.2.1,A0,0,())) (λ_=>I<|.inr<|.inl ()) λa=>I<|.inl a) else I (.inr<|.inr (x.2.2.1,()))
def qa:=AW sB
def uk:Loop:=⟨[(0,j6),(1,.sl .mixed),(5,.row 9 .str),(6,.bool)],[(5,.row 9 .str)],0,[],qa⟩
def akC:LF f249 [] [1,1,1,1,0,0,0] uk:=sq (v:=t1<|.one<|t1<|t1<|.one<|.loop vU) gQ (b:=sB)<|kC ajw kN
def eC(x:Int×List AN×D):Option ((List A1×D)×D):=(D9 (x.1,1,6,())).bind λa=>if !a.1.1 then I ((([]:List A1),()),()) else if U (0<=x.1)&&U (x.1<=4294967296) then(AO (qa (x.1,x.2.1,(BS (AK x.1)<|dfl .str),Y,())) (λ_=>G) λb=>I (b,())) else G
def xz:Ent:=(249,G,⟨[j6,.fz .mixed],[.row 9 .str],eC⟩)
def afi:y8 xz:=sk (v:=t1<|t1<|t1<|t1<|.two (.one<|.loop uk) .nil) (fn:=f249) gQ<|kC akC kN
def alR:Cx:=cX [Gr,VI,xz] [] []
def gP:y9 alR:=aE1<|gC HI<|gC ah<|gC afi<|AI
def dB(x:Int×A1×v7):Rnd (Int×A1×v7) (A1×Bool×D) (Int×A1×D):=if U (x.2.2.1<(x.2.1.size:Int)) then if inb x.2.2.1 x.2.1.size then if !decide ((bt x.2.1 x.2.2.1)=0) then I (.inr<|.inl (noB,A0,())) else I (.inl (x.1,x.2.1,(w64<|x.2.2.1+1),())) else G else I (.inr<|.inr (x.1,x.2.1,()))
def qZ:=AW dB
def vS:Loop:=⟨[(0,j6),(7,.str),(9,j6)],[(0,j6),(7,.str)],2,[(4,.str),(5,.bool)],qZ⟩
def ajv:LF f224 [] [1,1,1,1,1,0,1,0,0] vS:=sq (v:= .nil) gP (b:=dB) kN
def VB(x:Int×List A1×A1×v7):Rnd (Int×List A1×A1×v7) (A1×Bool×D) (Int×A1×D):=if U (x.2.2.2.1<(j8 x.2.1:Int)) then if inb x.2.2.2.1 x.2.1.length then if U ((rd aFf x.2.1 x.2.2.2.1)=noB) then I (.inr<|.inl (noB,A0,())) else if inb x.2.2.2.1 x.2.1.length then if U (x.2.2.1.size+(rd aFf x.2.1 x.2.2.2.1).size<=4611686018427387904) then let a:=(x.2.2.1++(rd aFf x.2.1 x.2.2.2.1));I (.inl (x.1,x.2.1,a,(w64<|x.2.2.2.1+1),())) else G else G else G else I (.inr<|.inr (x.1,x.2.2.1,()))
def bX:=AW VB
def vT:Loop:=⟨[(0,j6),(6,.row 9 .str),(7,.str),(8,j6)],[(0,j6),(7,.str)],0,[(4,.str),(5,.bool)],bX⟩
def akB:LF f224 [] [1,1,1,1,0,1,0,0] vT:=sq (v:= .nil) gP (b:=VB) kN
def eB(x:Int×List AN×D):Option ((A1×Bool×D)×D):=(D9 (x.1,1,24,())).bind λc=>if !c.1.1 then I ((noB,A0,()),()) else(LS (x.1,())).bind λd=>(eC (d.1.1,x.2)).bind λe=>(AO (bX (x.1,e.1.1,noB,0,())) (λb=>I (b,())) λb=>(AO (qZ (b.1,b.2.1,b.1,())) (λa=>I (a,())) λa=>(if U (0<=a.1)&&U (a.1<=(a.2.1.size:Int)) then let f:=(a.2.1.extract (0)<|AK a.1);I ((f,Y,()),()) else G)))
def xy:Ent:=(224,G,⟨[j6,.fz .mixed],[.str,.bool],eB⟩)
def afh:y8 xy:=sk (v:=t1<|t1<|t1<|t1<|.two (t1<|.one<|.loop vT)<|.two (t1<|.one<|.loop vS) .nil) (fn:=f224) gP<|kC akB<|kC ajv kN
def aio:Cx:=cX [Ix,VI,cB,Uq,WB,MQ,RV,VX,vt,z6,xy,fy] [] [(39,46),(62,68)]
def al6:y9 aio:=aE1<|gC JX<|gC ah<|gC pG<|gC aW<|gC dX<|gC NU<|gC UA<|gC bU<|gC aeC<|gC ags<|gC afh<|gC ado<|AI
def V9(x:Y1×Y6×D):Option ((Y1×List Frame×D)×D):=(G5 (x.1,())).bind λe=>if U (x.2.1.2.2.2.2.2.2.1<=e.1.1.2.1) then(cK (3,x.2)).bind λb=>I ((x.1,([(Frame.mk b.1.1.1 b.1.1.2.1 b.1.1.2.2.1 b.1.1.2.2.2.1 b.1.1.2.2.2.2.1 b.1.1.2.2.2.2.2.1 b.1.1.2.2.2.2.2.2.1 b.1.1.2.2.2.2.2.2.2.1 b.1.1.2.2.2.2.2.2.2.2.1 b.1.1.2.2.2.2.2.2.2.2.2.1)]:List Frame),()),()) else(G2 (e.1.1.2.2.2.1,x.2.1.2.2.2.1,x.2.1.2.2.2.2.1,())).bind λh=>if Al (!(U<|0<=h.1.1)) ((KM (e.1.1.2.2.2.2.1,x.2.1.2.2.2.1,x.2.1.2.2.2.2.1,())).isSome) then if(U<|0<=h.1.1)||(U<|0<=((KM (e.1.1.2.2.2.2.1,x.2.1.2.2.2.1,x.2.1.2.2.2.2.1,())).getD ((0,()),())).1.1) then(PD ((x.1.2.2.1,x.1.2.2.2.1,()),())).bind λi=>(cK (2,x.2)).bind λc=>I (((x.1.1,x.1.2.1,i.1.1.1,i.1.1.2.1,x.1.2.2.2.2),([(Frame.mk c.1.1.1 c.1.1.2.1 c.1.1.2.2.1 c.1.1.2.2.2.1 c.1.1.2.2.2.2.1 c.1.1.2.2.2.2.2.1 c.1.1.2.2.2.2.2.2.1 c.1.1.2.2.2.2.2.2.2.1 c.1.1.2.2.2.2.2.2.2.2.1 c.1.1.2.2.2.2.2.2.2.2.2.1)]:List Frame),()),()) else if Al (!(U<|x.2.1.2.2.2.1=x.1.1)) ((LS (x.2.1.2.2.2.2.2.2.2.1,())).isSome) then if Al (!(U<|x.2.1.2.2.2.1=x.1.1)) ((MR (((LS (x.2.1.2.2.2.2.2.2.2.1,())).getD ((0,()),())).1.1,x.2.1.2.2.2.2.2.2.2.2.1,())).isSome) then if(U<|x.2.1.2.2.2.1=x.1.1)||(!(((MR (((LS (x.2.1.2.2.2.2.2.2.2.1,())).getD ((0,()),())).1.1,x.2.1.2.2.2.2.2.2.2.2.1,())).getD ((A0,()),())).1.1)) then I ((x.1,([]:List Frame),()),()) else(fG x).bind λa=>if U (a.1.2.1<0) then I ((a.1.1,([]:List Frame),()),()) else if inb a.1.2.1 a.1.1.2.2.2.2.1.length then(eB (x.2.1.2.2.2.2.2.2.2.1,(rd aE6 a.1.1.2.2.2.2.1 a.1.2.1).got,())).bind λj=>if !j.1.2.1 then I ((a.1.1,([]:List Frame),()),()) else(PS (a.1.1.2.2.2.2.1,a.1.2)).bind λk=>(MM ((x.2.1.2.2.2.1,x.2.1.2.2.2.2.1,x.2.1.2.2.2.2.2.1,x.2.1.2.2.2.2.2.2.1,j.1.1,()),())).bind λf=>if U (f.1.1=noB) then I (((a.1.1.1,a.1.1.2.1,a.1.1.2.2.1,a.1.1.2.2.2.1,k.1),([]:List Frame),()),()) else if U ((B [116,97,107,101,32]).size+f.1.1.size<=4611686018427387904) then(KN ((a.1.1.1,a.1.1.2.1,a.1.1.2.2.1,a.1.1.2.2.2.1,k.1),((B [116,97,107,101,32])++f.1.1),Y,())).bind λg=>if !g.1.2.1 then I ((g.1.1,([]:List Frame),()),()) else(cK (2,x.2)).bind λd=>I ((g.1.1,([(Frame.mk d.1.1.1 d.1.1.2.1 d.1.1.2.2.1 d.1.1.2.2.2.1 d.1.1.2.2.2.2.1 d.1.1.2.2.2.2.2.1 d.1.1.2.2.2.2.2.2.1 d.1.1.2.2.2.2.2.2.2.1 d.1.1.2.2.2.2.2.2.2.2.1 d.1.1.2.2.2.2.2.2.2.2.2.1)]:List Frame),()),()) else G else G else G else G else G
def wm:Ent:=(174,G,⟨[Z1,Z13],[Z12,.fz .frame],V9⟩)
def afM:y8 wm:=sk (v:= .nil) (fn:=f174) al6 kN
def ag5:Cx:=cX [Ix,KO,MP,sL,gA,wm,MQ,RV] [] []
def ahs:y9 ag5:=aE1<|gC JX<|gC LI<|gC NX<|gC adL<|gC adh<|gC afM<|gC NU<|gC UA<|AI
def Ua(x:Y1×Y6×D):Option ((Y1×List Frame×D)×D):=(Iu (x.1,())).bind λf=>if !f.1.1 then I (((0,A0,noB,0,([]:List AE),()),([]:List Frame),()),()) else(Gq (x.1,())).bind λa=>if !x.1.2.1 then I ((a.1.1,([]:List Frame),()),()) else(VO x.2).bind λg=>if !g.1.1 then I ((a.1.1,([]:List Frame),()),()) else if !decide (x.2.1.2.2.1=x.1.1) then I ((a.1.1,([]:List Frame),()),()) else if U (x.2.1.1=1) then(V9 (a.1.1,x.2)).bind λd=>(Gq (d.1.1,())).bind λh=>I ((h.1.1,d.1.2),()) else(G5 (x.1,())).bind λb=>(G2 (b.1.1.2.2.2.1,x.2.1.2.2.2.1,x.2.1.2.2.2.2.1,())).bind λc=>if !decide (x.2.1.1=2) then I ((a.1.1,([]:List Frame),()),()) else if U (c.1.1<0) then I ((a.1.1,([]:List Frame),()),()) else if inb c.1.1 b.1.1.2.2.2.1.length then if !decide ((rd aE3 b.1.1.2.2.2.1 c.1.1).un=x.2.1.2.2.2.2.2.2.1) then I ((a.1.1,([]:List Frame),()),()) else if inb c.1.1 b.1.1.2.2.2.1.length then if !decide ((rd aE3 b.1.1.2.2.2.1 c.1.1).to=x.2.1.2.2.2.2.2.1) then I ((a.1.1,([]:List Frame),()),()) else(V8 (x.2.1.2.2.2.1,x.2.1.2.2.2.2.1,x.2.1.2.2.2.2.2.2.1,())).bind λe=>if U ((B [108,101,116,32]).size+e.1.1.size<=4611686018427387904) then(KN (a.1.1,((B [108,101,116,32])++e.1.1),A0,())).bind λi=>I ((i.1.1,([]:List Frame),()),()) else G else G else G
def rU:Ent:=(135,G,⟨[Z12,Z13],[Z12,.fz .frame],Ua⟩)
def ad0:y8 rU:=sk (v:= .nil) (fn:=f135) ahs kN
def alB:Cx:=cX [re] [] [(11,13)]
def ye:y9 alB:=aE1<|gC ad6<|AI
def V6(x:List AL×List Frame×v7):Rnd (List AL×List Frame×v7) D (List AL×D):=if(U<|x.2.2.1<(j8 x.2.1:Int))&&(U<|(j8 x.1:Int)<30) then if inb x.2.2.1 x.2.1.length then if inb x.2.2.1 x.2.1.length then if inb x.2.2.1 x.2.1.length then(PH (((rd aFg x.2.1 x.2.2.1).ki,(rd aFg x.2.1 x.2.2.1).src,(rd aFg x.2.1 x.2.2.1).dst,(rd aFg x.2.1 x.2.2.1).fr,(rd aFg x.2.1 x.2.2.1).nu,(rd aFg x.2.1 x.2.2.1).to,(rd aFg x.2.1 x.2.2.1).un,(rd aFg x.2.1 x.2.2.1).sz,(rd aFg x.2.1 x.2.2.1).mix,(rd aFg x.2.1 x.2.2.1).da,()),())).bind λa=>if Ac (x.1.length+([(AL.mk ((rd aFg x.2.1 x.2.2.1).src) ((rd aFg x.2.1 x.2.2.1).dst) (BH a.1.1) A0)]:List AL).length) then I (.inl ((x.1++([(AL.mk ((rd aFg x.2.1 x.2.2.1).src) ((rd aFg x.2.1 x.2.2.1).dst) (BH a.1.1) A0)]:List AL)),x.2.1,(w64<|x.2.2.1+1),())) else G else G else G else G else I (.inr<|.inr (x.1,()))
def q8:=AW V6
def vE:Loop:=⟨[(0,.row 59 .Ak),(1,.sl .frame),(5,j6)],[(0,.row 59 .Ak)],0,[],q8⟩
def ak3:LF f136 [] [1,0,1,0,0] vE:=sq (v:= .nil) ye (b:=V6) kN
def Rf(x:List AL×List Frame×D):Option ((List AL×D)×D):=(AO (q8 (x.1,x.2.1,0,())) (λ_=>G) λa=>I (a,()))
def fu:Ent:=(136,G,⟨[.row 59 .Ak,.fz .frame],[.row 59 .Ak],Rf⟩)
def adj:y8 fu:=sk (v:=t1<|.two (t1<|.one<|.loop vE) .nil) (fn:=f136) ye<|kC ak3 kN
def ai4:Cx:=cX [Ix,KO,MP,Uq,RV] [] [(37,38)]
def ajZ:y9 ai4:=aE1<|gC JX<|gC LI<|gC NX<|gC aW<|gC UA<|AI
def Uf(x:Y1×Int×Int×A1×D):Option ((Y1×v7)×D):=(Iu (x.1,())).bind λd=>if !d.1.1 then I (((0,A0,noB,0,([]:List AE),()),0,()),()) else(G5 (x.1,())).bind λb=>(MM ((x.1.1,b.1.1.2.2.1,x.2),())).bind λa=>if(!x.1.2.1)||(U<|a.1.1=noB) then(Gq (x.1,())).bind λe=>I ((e.1.1,0,()),()) else(Gq (x.1,())).bind λf=>if U ((B [111,119,110,32]).size+a.1.1.size<=4611686018427387904) then(KN (f.1.1,((B [111,119,110,32])++a.1.1),Y,())).bind λc=>if !c.1.2.1 then(Gq (x.1,())).bind λg=>I ((g.1.1,0,()),()) else I ((c.1.1,b.1.1.2.2.1,()),()) else G
def rY:Ent:=(177,G,⟨[Z12,j6,j6,.str],[Z12,j6],Uf⟩)
def adK:y8 rY:=sk (v:= .nil) (fn:=f177) ajZ kN
def ag2:Cx:=cX [Ix,KO,MP,Nq,RV] [] [(19,21)]
def ahp:y9 ag2:=aE1<|gC JX<|gC LI<|gC NX<|gC PG<|gC UA<|AI
def UX(x:Y1×D):Option ((Y1×Bool×D)×D):=(Iu x).bind λc=>if !c.1.1 then I (((0,A0,noB,0,([]:List AE),()),A0,()),()) else(G5 x).bind λa=>if(!x.1.2.1)||(U<|999<=a.1.1.2.1) then(Gq x).bind λd=>I ((d.1.1,A0,()),()) else(Gq x).bind λe=>(DN ((w64<|a.1.1.2.1+1),())).bind λb=>if U ((B [116,105,109,101,32]).size+b.1.1.size<=4611686018427387904) then(KN (e.1.1,((B [116,105,109,101,32])++b.1.1),Y,())).bind λf=>I (f.1,()) else G
def rR:Ent:=(138,G,⟨[Z12],[Z12,.bool],UX⟩)
def acx:y8 rR:=sk (v:= .nil) (fn:=f138) ahp kN
def amf:Cx:=cX [VI] [] [(12,14)]
def iO:y9 amf:=aE1<|gC ah<|AI
def eF(x:A1×List A1×Int×List Int×v7):Rnd (A1×List A1×Int×List Int×v7) D (A1×List A1×Int×List Int×D):=if U (x.2.2.2.2.1<(w64<|(w64<|x.2.2.1+1) * 4)) then if U (x.2.2.2.2.1<(x.1.size:Int)) then if inb x.2.2.2.2.1 x.1.size then if Ac (x.2.2.2.1.length+([(bt x.1 x.2.2.2.2.1)]:List Int).length) then I (.inl (x.1,x.2.1,x.2.2.1,(x.2.2.2.1++([(bt x.1 x.2.2.2.2.1)]:List Int)),(w64<|x.2.2.2.2.1+1),())) else G else G else if Ac (x.2.2.2.1.length+([0]:List Int).length) then I (.inl (x.1,x.2.1,x.2.2.1,(x.2.2.2.1++([0]:List Int)),(w64<|x.2.2.2.2.1+1),())) else G else I (.inr<|.inr (x.1,x.2.1,x.2.2.1,x.2.2.2.1,()))
def qo:=AW eF
def xH:Loop:=⟨[(0,.str),(3,.row 9 .str),(4,j6),(5,.row 5 .u8),(6,j6)],[(0,.str),(3,.row 9 .str),(4,j6),(5,.row 5 .u8)],2,[],qo⟩
def amM:LF f226 [] [1,1,1,0,1,0,0,1,0,0,1,0,1,0,0] xH:=sq (v:= .nil) iO (b:=eF) kN
def eG(x:A1×List A1×v7):Rnd (A1×List A1×v7) D (List A1×D):=(LS ((x.1.size:Int),())).bind λb=>if U (x.2.2.1<b.1.1) then(AO (qo (x.1,x.2.1,x.2.2.1,([]:List Int),(w64<|x.2.2.1 * 4),())) (λ_=>I<|.inr<|.inl ()) λa=>(if Ac (a.2.1.length+([(BH a.2.2.2.1)]:List A1).length) then I (.inl (a.1,(a.2.1++([(BH a.2.2.2.1)]:List A1)),(w64<|a.2.2.1+1),())) else G)) else I (.inr<|.inr (x.2.1,()))
def qp:=AW eG
def xI:Loop:=⟨[(0,.str),(3,.row 9 .str),(4,j6)],[(3,.row 9 .str)],0,[],qp⟩
def am0:LF f226 [] [1,1,1,0,1,0,0] xI:=sq (v:=t1<|.two (.one<|t1<|.two (t1<|.one<|.loop xH) .nil) .nil) iO (b:=eG)<|kC amM kN
def fM(x:A1×D):Option ((List A1×D)×D):=if(U<|(x.1.size:Int)<1)||(U<|24<(x.1.size:Int)) then I ((([]:List A1),()),()) else(AO (qp (x.1,([]:List A1),0,())) (λ_=>G) λa=>I (a,()))
def zE:Ent:=(226,G,⟨[.str],[.row 9 .str],fM⟩)
def agi:y8 zE:=sk (v:=t1<|t1<|t1<|.two (t1<|.one<|.loop xI) .nil) (fn:=f226) iO<|kC am0 kN
def amz:Cx:=cX [] [] []
def ano:y9 amz:=aE1<|AI
def iI(x:D):Option ((A1×D)×D):=if U (0<=4)&&U (4<=4294967296) then let a:=(BH<|BS (AK 4)<|dfl .u8);I ((a,()),()) else G
def yy:Ent:=(228,G,⟨[],[.str],iI⟩)
def agq:y8 yy:=sk (v:= .nil) (fn:=f228) ano kN
def alT:Cx:=cX [zE,iZ,yy,iY] [] [(19,21)]
def yk:y9 alT:=aE1<|gC agi<|gC um<|gC agq<|gC vG<|AI
def dC(x:List A1×List Int×A1×v7):Rnd (List A1×List Int×A1×v7) D (A1×D):=if U (x.2.2.2.1<(j8 x.2.1:Int)) then if inb x.2.2.2.1 x.2.1.length then if inb (rd aE8 x.2.1 x.2.2.2.1) x.1.length then(Vu (x.2.2.1,(rd aFf x.1<|rd aE8 x.2.1 x.2.2.2.1),())).bind λa=>I (.inl (x.1,x.2.1,a.1.1,(w64<|x.2.2.2.1+1),())) else G else G else I (.inr<|.inr (x.2.2.1,()))
def bY:=AW dC
def uo:Loop:=⟨[(5,.row 9 .str),(6,.row 3 .int),(7,.str),(8,j6)],[(7,.str)],0,[],bY⟩
def akD:LF f178 [] [1,1,1,1,1,0,1,0,0] uo:=sq (v:= .nil) yk (b:=dC) kN
def eE(x:A1×v7):Option ((A1×D)×D):=(fM (x.1,())).bind λa=>(Vv ((j8 a.1.1:Int),x.2)).bind λb=>if(U<|(j8 a.1.1:Int)=0)||(U<|(j8 b.1.1:Int)=0) then I ((noB,()),()) else(iI ()).bind λc=>(AO (bY (a.1.1,b.1.1,c.1.1,0,())) (λ_=>G) λd=>I (d,()))
def y0:Ent:=(178,G,⟨[.str,j6],[.str],eE⟩)
def afj:y8 y0:=sk (v:=t1<|t1<|t1<|t1<|t1<|.two (t1<|.one<|.loop uo) .nil) (fn:=f178) yk<|kC akD kN
def ai5:Cx:=cX [Ix,Gr,KO,sQ,MQ,y0] [] [(18,20),(36,38)]
def aja:y9 ai5:=aE1<|gC JX<|gC HI<|gC LI<|gC adS<|gC NU<|gC afj<|AI
def Ug(x:Y1×aE7):Option ((Y6×Bool×D)×D):=(Iu (x.1,())).bind λe=>if(!e.1.1)||(!x.1.2.1) then I (((0,0,0,0,0,0,0,0,0,noB,()),A0,()),()) else(G5 (x.1,())).bind λb=>(G2 (b.1.1.2.2.2.1,x.2.1,x.2.2.1,())).bind λa=>if Al (!(U<|a.1.1<0)) ((D9 (x.2.2.2.1,0,999,())).isSome) then if(U<|a.1.1<0)||(!(((D9 (x.2.2.2.1,0,999,())).getD ((A0,()),())).1.1)) then I (((0,0,0,0,0,0,0,0,0,noB,()),A0,()),()) else if inb a.1.1 b.1.1.2.2.2.1.length then let f:=(rd aE3 b.1.1.2.2.2.1 a.1.1).fr;let g:=(rd aE3 b.1.1.2.2.2.1 a.1.1).nu;let c:=(rd aE3 b.1.1.2.2.2.1 a.1.1).to;let h:=(rd aE3 b.1.1.2.2.2.1 a.1.1).un;let d:=(rd aE3 b.1.1.2.2.2.1 a.1.1).tx;(RZ (x.1.1,c,())).bind λi=>(eE (d,x.2.2.2)).bind λj=>I (((1,x.1.1,i.1.1,f,g,c,h,(d.size:Int),x.2.2.2.1,j.1),Y,()),()) else G else G
def rZ:Ent:=(139,G,⟨[Z12,j6,j6,j6],[Z13,.bool],Ug⟩)
def ad4:y8 rZ:=sk (v:= .nil) (fn:=f139) aja kN
def ai0:Cx:=cX [Up,Rk] [] []
def ajX:y9 ai0:=aE1<|gC aT<|gC UI<|AI
def cN(x:Y7×v7):Option ((Y7×D)×D):=(Na (x.1,())).bind λd=>if !d.1.1 then I (((noB,0,()),()),()) else(BT (X:=Int×Y7×Y7×v7) (λb=>(BT (X:=Y7×Y7×v7) (λa=>if U (0<=a.2.2.1)&&U (a.2.2.1<=(a.1.1.size:Int)) then(LJ ((a.1.1.extract (0)<|AK a.2.2.1),())).bind λc=>if U (0<=c.1.2.1)&&U (c.1.2.1<=(a.1.1.size:Int)) then let e:=(a.1.1.extract (0)<|AK c.1.2.1);I (((e,c.1.2),()),()) else G else G)<|(if U (0<b.1) then let f:=(w64<|b.2.2.2.1+b.1);I (.inr (b.2.1,b.2.2.1,f,())) else I (.inr b.2))))<|(if U ((w64<|(x.1.1.size:Int) - x.1.2.1)<x.2.1) then let g:=(w64<|(x.1.1.size:Int) - x.1.2.1);I (.inr (g,x.1,(noB,0,()),x.1.2)) else I (.inr (x.2.1,x.1,(noB,0,()),x.1.2))))
def vu:Ent:=(179,G,⟨[Z15,j6],[Z15],cN⟩)
def aeD:y8 vu:=sk (v:=t1<|t1<|t1<|.join [(1,j6),(2,Z21),(4,Z21),(5,j6)] .nil<|.join [(2,Z21),(4,Z21),(5,j6)] .nil .nil) (fn:=f179) ajX kN
def ag6:Cx:=cX [KO,vu] [] []
def aht:y9 ag6:=aE1<|gC LI<|gC aeD<|AI
def Ub(x:Y1×v7):Option ((Y1×D)×D):=(Iu (x.1,())).bind λb=>if !b.1.1 then I (((0,A0,noB,0,([]:List AE),()),()),()) else(cN ((x.1.2.2.1,x.1.2.2.2.1,()),x.2)).bind λa=>I (((x.1.1,A0,a.1.1.1,a.1.1.2.1,([]:List AE),()),()),())
def rV:Ent:=(140,G,⟨[Z12,j6],[Z1],Ub⟩)
def ad1:y8 rV:=sk (v:= .nil) (fn:=f140) aht kN
def ag3:Cx:=cX [KO,MP] [] []
def ahq:y9 ag3:=aE1<|gC LI<|gC NX<|AI
def UY(x:Y1×D):Option ((Y1×D)×D):=(Iu x).bind λa=>if !a.1.1 then I (((0,A0,noB,0,([]:List AE),()),()),()) else if x.1.2.1 then(Gq x).bind λb=>I (b.1,()) else I (((x.1.1,Y,x.1.2.2.1,x.1.2.2.2.1,([]:List AE),()),()),())
def rS:Ent:=(141,G,⟨[Z12],[Z1],UY⟩)
def acy:y8 rS:=sk (v:= .nil) (fn:=f141) ahq kN
def ai6:Cx:=cX [Ix,KO,MP,sL,MQ,RV] [] [(33,34)]
def ajb:y9 ai6:=aE1<|gC JX<|gC LI<|gC NX<|gC adL<|gC NU<|gC UA<|AI
def Uh(x:Y1×aE2):Option ((Y1×Y4×Bool×D)×D):=(Iu (x.1,())).bind λe=>if !e.1.1 then I (((0,A0,noB,0,([]:List AE),()),(0,0,0,0,noB,()),A0,()),()) else(G5 (x.1,())).bind λa=>(G2 (a.1.1.2.2.2.2.2.1,x.2)).bind λb=>if(!x.1.2.1)||(U<|b.1.1<0) then(Gq (x.1,())).bind λf=>I ((f.1.1,(0,0,0,0,noB,()),A0,()),()) else(Gq (x.1,())).bind λg=>if inb b.1.1 a.1.1.2.2.2.2.2.1.length then(V8 (x.2.1,x.2.2.1,(rd aE3 a.1.1.2.2.2.2.2.1 b.1.1).un,())).bind λc=>if U ((B [101,97,116,32]).size+c.1.1.size<=4611686018427387904) then(KN (g.1.1,((B [101,97,116,32])++c.1.1),Y,())).bind λd=>if !d.1.2.1 then(Gq (x.1,())).bind λh=>I ((h.1.1,(0,0,0,0,noB,()),A0,()),()) else if inb b.1.1 a.1.1.2.2.2.2.2.1.length then let i:=(rd aE3 a.1.1.2.2.2.2.2.1 b.1.1).fr;let j:=(rd aE3 a.1.1.2.2.2.2.2.1 b.1.1).nu;let k:=(rd aE3 a.1.1.2.2.2.2.2.1 b.1.1).to;let l:=(rd aE3 a.1.1.2.2.2.2.2.1 b.1.1).un;let m:=(rd aE3 a.1.1.2.2.2.2.2.1 b.1.1).tx;I ((d.1.1,(i,j,k,l,m,()),Y,()),()) else G else G else G
def rb:Ent:=(142,G,⟨[Z12,j6,j6],[Z12,Z6,.bool],Uh⟩)
def ad5:y8 rb:=sk (v:= .nil) (fn:=f142) ajb kN
def ag4:Cx:=cX [Ix,KO,MP,rX,sR] [] [(32,33)]
def ahr:y9 ag4:=aE1<|gC JX<|gC LI<|gC NX<|gC adJ<|gC adT<|AI
def UZ(x:Y1×D):Option ((Y1×Bool×D)×D):=(Iu x).bind λc=>if !c.1.1 then I (((0,A0,noB,0,([]:List AE),()),A0,()),()) else(Gq x).bind λa=>(G5 x).bind λd=>(VC (d.1.1,())).bind λe=>(RS ((x.1.2.2.1,x.1.2.2.2.1,()),e.1)).bind λb=>if(!x.1.2.1)||(!b.1.2.1) then I ((a.1.1,A0,()),()) else I (((a.1.1.1,a.1.1.2.1,b.1.1.1,b.1.1.2.1,a.1.1.2.2.2.2),Y,()),())
def rT:Ent:=(143,G,⟨[Z12],[Z12,.bool],UZ⟩)
def acz:y8 rT:=sk (v:= .nil) (fn:=f143) ahr kN
def afK:Cx:=cX [KO,MP,cB] [] [(15,22)]
def agI:y9 afK:=aE1<|gC LI<|gC NX<|gC pG<|AI
def UM(x:Y1×D):Option ((Y1×Bool×D)×D):=(Iu x).bind λc=>if !c.1.1 then I (((0,A0,noB,0,([]:List AE),()),A0,()),()) else(Gq x).bind λa=>if(!x.1.2.1)||(U<|x.1.2.2.2.1=(x.1.2.2.1.size:Int)) then I ((a.1.1,A0,()),()) else(PD ((x.1.2.2.1,x.1.2.2.2.1,()),())).bind λb=>I (((a.1.1.1,a.1.1.2.1,b.1.1.1,b.1.1.2.1,a.1.1.2.2.2.2),Y,()),())
def qU:Ent:=(144,G,⟨[Z12],[Z12,.bool],UM⟩)
def acp:y8 qU:=sk (v:= .nil) (fn:=f144) agI kN
def yq:Cx:=cX [Gr,IP,fv,qV,rU,fu,rR,rZ,rV,rS,rb,rT,qU,rY] [] []
def ap6:OKC prog yq (NC yq 2):=abl 2 mixed<|gC HI<|gC Iw<|gC adk<|gC aco<|gC ad0<|gC adj<|gC acx<|gC ad4<|gC ad1<|gC acy<|gC ad5<|gC acz<|gC acp<|gC adK<|AI
abbrev ZE:Type:=Int×Int×Int×Int×Int×Int×Int×Int×Int×A1×D
def Qo{Ω:Type}(a:List A7)(c:List AL)(e:ZE)(p:AL)(K:List A7->List AL->Option Ω):Option Ω:=
 if(U<|e.1=5) then
 K a c
 else
 if Ac p.data.size then
 (bZ ((BA p.data),())).bind λr=>
 if(!r.1.2.1) then
 K a c
 else
 if(!decide (r.1.1.2.1=p.src)) then
 K a c
 else
 if(!decide (r.1.1.2.2.1=p.dst)) then
 K a c
 else
 if inb p.dst a.length then
 (Ua (((rd aE5 a p.dst).id,(rd aE5 a p.dst).up,(rd aE5 a p.dst).log,(rd aE5 a p.dst).fo,(rd aE5 a p.dst).AH,()),r.1.1,())).bind λq=>
 if inb p.dst a.length then
 (Rf (c,q.1.2)).bind λs=>
 K (Bq a (AK p.dst)<|A7.mk q.1.1.1 q.1.1.2.1 q.1.1.2.2.1 q.1.1.2.2.2.1 q.1.1.2.2.2.2.1) s.1.1
 else G
 else G
 else G
def Zl{Ω:Type}(a:List A7)(c:List AL)(e:ZE)(p:AL)(K:List A7->List AL->Option Ω):Option Ω:=
 if(U (0<=e.2.2.2.2.1)&&U (e.2.2.2.2.1<=(j8 c:Int))) then
 if Ac (([]:List AL).length+(BR (AK e.2.2.2.2.1) c).length) then
 if(U (0<=(w64<|e.2.2.2.2.1+1))&&U ((w64<|e.2.2.2.2.1+1)<=(j8 c:Int))) then
 if Ac ((([]:List AL)++(BR (AK e.2.2.2.2.1) c)).length+(Bp (AK<|w64<|e.2.2.2.2.1+1) c).length) then
 Qo a ((([]:List AL)++(BR (AK e.2.2.2.2.1) c))++(Bp (AK<|w64<|e.2.2.2.2.1+1) c)) e p K
 else G
 else G
 else G
 else G
def Zk{Ω:Type}(a:List A7)(c:List AL)(e:ZE)(p:AL)(K:List A7->List AL->Option Ω):Option Ω:=
 if(U<|e.1=5) then
 Zl a c e p K
 else
 if(U<|e.2.2.2.2.2.2.1=0) then
 Zl a c e p K
 else
 Qo a c e p K
def Qp{Ω:Type}(a:List A7)(b:List Bool)(c:List AL)(e:ZE)(K:List A7->List AL->Option Ω)(F:Option Ω):Option Ω:=
 (D9 (e.2.2.2.2.1,0,(w64<|(j8 c:Int) - 1),())).bind λr=>
 if(!r.1.1) then
 F
 else
 if inb e.2.2.2.2.1 c.length then
 if(U<|e.1=6) then
 if(rd aFa c e.2.2.2.2.1).sp then
 F
 else
 (D9 (e.2.2.2.2.2.1,0,(w64<|((rd aFa c e.2.2.2.2.1).data.size:Int) - 1),())).bind λr=>
 if(!r.1.1) then
 F
 else
 (D9 (e.2.2.2.2.2.2.1,1,255,())).bind λr=>
 if(!r.1.1) then
 F
 else
 if Ac (rd aFa c e.2.2.2.2.1).data.size then
 if inb e.2.2.2.2.2.1 ((BA (rd aFa c e.2.2.2.2.1).data).length) then
 if inb e.2.2.2.2.2.1 ((BA (rd aFa c e.2.2.2.2.1).data).length) then
 if inb e.2.2.2.2.1 c.length then
 if inb e.2.2.2.2.1 ((Bq c (AK e.2.2.2.2.1)<|AL.mk ((rd aFa c e.2.2.2.2.1).src) ((rd aFa c e.2.2.2.2.1).dst) (BH<|Bq (BA (rd aFa c e.2.2.2.2.1).data) (AK e.2.2.2.2.2.1)<|Dt .u8 (rd aFd (BA (rd aFa c e.2.2.2.2.1).data) e.2.2.2.2.2.1)<|w8 e.2.2.2.2.2.2.1)<|(rd aFa c e.2.2.2.2.1).sp).length) then
 K a (Bq (Bq c (AK e.2.2.2.2.1)<|AL.mk ((rd aFa c e.2.2.2.2.1).src) ((rd aFa c e.2.2.2.2.1).dst) (BH<|Bq (BA (rd aFa c e.2.2.2.2.1).data) (AK e.2.2.2.2.2.1)<|Dt .u8 (rd aFd (BA (rd aFa c e.2.2.2.2.1).data) e.2.2.2.2.2.1)<|w8 e.2.2.2.2.2.2.1)<|(rd aFa c e.2.2.2.2.1).sp) (AK e.2.2.2.2.1)<|AL.mk ((rd aFa (Bq c (AK e.2.2.2.2.1)<|AL.mk ((rd aFa c e.2.2.2.2.1).src) ((rd aFa c e.2.2.2.2.1).dst) (BH<|Bq (BA (rd aFa c e.2.2.2.2.1).data) (AK e.2.2.2.2.2.1)<|Dt .u8 (rd aFd (BA (rd aFa c e.2.2.2.2.1).data) e.2.2.2.2.2.1)<|w8 e.2.2.2.2.2.2.1)<|(rd aFa c e.2.2.2.2.1).sp) e.2.2.2.2.1).src) ((rd aFa (Bq c (AK e.2.2.2.2.1)<|AL.mk ((rd aFa c e.2.2.2.2.1).src) ((rd aFa c e.2.2.2.2.1).dst) (BH<|Bq (BA (rd aFa c e.2.2.2.2.1).data) (AK e.2.2.2.2.2.1)<|Dt .u8 (rd aFd (BA (rd aFa c e.2.2.2.2.1).data) e.2.2.2.2.2.1)<|w8 e.2.2.2.2.2.2.1)<|(rd aFa c e.2.2.2.2.1).sp) e.2.2.2.2.1).dst) ((rd aFa (Bq c (AK e.2.2.2.2.1)<|AL.mk ((rd aFa c e.2.2.2.2.1).src) ((rd aFa c e.2.2.2.2.1).dst) (BH<|Bq (BA (rd aFa c e.2.2.2.2.1).data) (AK e.2.2.2.2.2.1)<|Dt .u8 (rd aFd (BA (rd aFa c e.2.2.2.2.1).data) e.2.2.2.2.2.1)<|w8 e.2.2.2.2.2.2.1)<|(rd aFa c e.2.2.2.2.1).sp) e.2.2.2.2.1).data) Y)
 else G
 else G
 else G
 else G
 else G
 else
 if(U<|e.1=4) then
 (dp ((rd aFa c e.2.2.2.2.1).src,(rd aFa c e.2.2.2.2.1).dst,())).bind λr=>
 if inb r.1.1 b.length then
 if(!(rd aFj b r.1.1)) then
 F
 else
 Zk a c e (rd aFa c e.2.2.2.2.1) K
 else G
 else
 Zk a c e (rd aFa c e.2.2.2.2.1) K
 else G
def Tn{Ω:Type}(b:List Bool)(e:ZE)(K:List Bool->Option Ω)(F:Option Ω):Option Ω:=
 (D9 (e.2.1,0,(w64<|(j8 b:Int) - 1),())).bind λr=>
 if(!r.1.1) then
 F
 else
 if inb e.2.1 b.length then
 if(U<|(rd aFj b e.2.1)=(U<|e.1=9)) then
 F
 else
 if inb e.2.1 b.length then
 K (Bq b (AK e.2.1)<|U<|e.1=9)
 else G
 else G
def nc{Ω:Type}(a:List A7)(c:List AL)(d g:List A3)(e:ZE)(K:List A7->List A3->List A3->Option Ω)(F:Option Ω)(Kv:List A7->Bool->Option Ω)(Km:List AL->Bool->Option Ω)(Kz:Bool->Option Ω):Option Ω:=
 (FR (e.2.1,())).bind λr=>
 if(!r.1.1) then
 F
 else
 if inb e.2.1 a.length then
 if(U<|e.1=1) then
 if(U<|6<=(j8 d:Int)) then
 F
 else
 if inb e.2.1 a.length then
 (Uf (((rd aE5 a e.2.1).id,(rd aE5 a e.2.1).up,(rd aE5 a e.2.1).log,(rd aE5 a e.2.1).fo,(rd aE5 a e.2.1).AH,()),e.2.2.2.2.2.2.2)).bind λr=>
 if(U<|r.1.2.1=0) then
 F
 else
 if inb e.2.1 a.length then
 if Ac (d.length+([(A3.mk e.2.1 r.1.2.1 e.2.2.2.2.2.2.2.1 e.2.2.2.2.2.2.2.2.1 e.2.2.2.2.2.2.2.2.2.1)]:List A3).length) then
 K (Bq a (AK e.2.1)<|A7.mk r.1.1.1 r.1.1.2.1 r.1.1.2.2.1 r.1.1.2.2.2.1 r.1.1.2.2.2.2.1) (d++([(A3.mk e.2.1 r.1.2.1 e.2.2.2.2.2.2.2.1 e.2.2.2.2.2.2.2.2.1 e.2.2.2.2.2.2.2.2.2.1)]:List A3)) g
 else G
 else G
 else G
 else
 if(U<|e.1=2) then
 (UX (((rd aE5 a e.2.1).id,(rd aE5 a e.2.1).up,(rd aE5 a e.2.1).log,(rd aE5 a e.2.1).fo,(rd aE5 a e.2.1).AH,()),())).bind λr=>
 if inb e.2.1 a.length then
 Kv (Bq a (AK e.2.1)<|A7.mk r.1.1.1 r.1.1.2.1 r.1.1.2.2.1 r.1.1.2.2.2.1 r.1.1.2.2.2.2.1) r.1.2.1
 else G
 else
 if(U<|e.1=3) then
 (Ug (((rd aE5 a e.2.1).id,(rd aE5 a e.2.1).up,(rd aE5 a e.2.1).log,(rd aE5 a e.2.1).fo,(rd aE5 a e.2.1).AH,()),e.2.2.1,e.2.2.2.1,e.2.2.2.2.2.1,())).bind λr=>
 if r.1.2.1 then
 (Rf (c,([(Frame.mk r.1.1.1 r.1.1.2.1 r.1.1.2.2.1 r.1.1.2.2.2.1 r.1.1.2.2.2.2.1 r.1.1.2.2.2.2.2.1 r.1.1.2.2.2.2.2.2.1 r.1.1.2.2.2.2.2.2.2.1 r.1.1.2.2.2.2.2.2.2.2.1 r.1.1.2.2.2.2.2.2.2.2.2.1)]:List Frame),())).bind λs=>
 Km s.1.1 r.1.2.1
 else
 Kz r.1.2.1
 else
 if(U<|e.1=7) then
 (Ub (((rd aE5 a e.2.1).id,(rd aE5 a e.2.1).up,(rd aE5 a e.2.1).log,(rd aE5 a e.2.1).fo,(rd aE5 a e.2.1).AH,()),e.2.2.2.2.2.2.1,())).bind λr=>
 if inb e.2.1 a.length then
 Kv (Bq a (AK e.2.1)<|A7.mk r.1.1.1 r.1.1.2.1 r.1.1.2.2.1 r.1.1.2.2.2.1 r.1.1.2.2.2.2.1) (rd aE5 a e.2.1).up
 else G
 else
 if(U<|e.1=8) then
 (UY (((rd aE5 a e.2.1).id,(rd aE5 a e.2.1).up,(rd aE5 a e.2.1).log,(rd aE5 a e.2.1).fo,(rd aE5 a e.2.1).AH,()),())).bind λr=>
 if inb e.2.1 a.length then
 Kv (Bq a (AK e.2.1)<|A7.mk r.1.1.1 r.1.1.2.1 r.1.1.2.2.1 r.1.1.2.2.2.1 r.1.1.2.2.2.2.1) (!(rd aE5 a e.2.1).up)
 else G
 else
 if(U<|e.1=11) then
 (Uh (((rd aE5 a e.2.1).id,(rd aE5 a e.2.1).up,(rd aE5 a e.2.1).log,(rd aE5 a e.2.1).fo,(rd aE5 a e.2.1).AH,()),e.2.2.1,e.2.2.2.1,())).bind λr=>
 if r.1.2.2.1 then
 if(U<|(j8 g:Int)<6) then
 if inb e.2.1 a.length then
 if Ac (g.length+([(A3.mk r.1.2.1.1 r.1.2.1.2.1 r.1.2.1.2.2.1 r.1.2.1.2.2.2.1 r.1.2.1.2.2.2.2.1)]:List A3).length) then
 K (Bq a (AK e.2.1)<|A7.mk r.1.1.1 r.1.1.2.1 r.1.1.2.2.1 r.1.1.2.2.2.1 r.1.1.2.2.2.2.1) d (g++([(A3.mk r.1.2.1.1 r.1.2.1.2.1 r.1.2.1.2.2.1 r.1.2.1.2.2.2.1 r.1.2.1.2.2.2.2.1)]:List A3))
 else G
 else G
 else
 F
 else
 F
 else
 if(U<|e.1=12) then
 (UZ (((rd aE5 a e.2.1).id,(rd aE5 a e.2.1).up,(rd aE5 a e.2.1).log,(rd aE5 a e.2.1).fo,(rd aE5 a e.2.1).AH,()),())).bind λr=>
 if inb e.2.1 a.length then
 Kv (Bq a (AK e.2.1)<|A7.mk r.1.1.1 r.1.1.2.1 r.1.1.2.2.1 r.1.1.2.2.2.1 r.1.1.2.2.2.2.1) r.1.2.1
 else G
 else
 if(U<|e.1=13) then
 (UM (((rd aE5 a e.2.1).id,(rd aE5 a e.2.1).up,(rd aE5 a e.2.1).log,(rd aE5 a e.2.1).fo,(rd aE5 a e.2.1).AH,()),())).bind λr=>
 if inb e.2.1 a.length then
 Kv (Bq a (AK e.2.1)<|A7.mk r.1.1.1 r.1.1.2.1 r.1.1.2.2.1 r.1.1.2.2.2.1 r.1.1.2.2.2.2.1) r.1.2.1
 else G
 else
 F
 else G
def doK{Ω:Type}(a:List A7)(b:List Bool)(c:List AL)(d g:List A3)(e:ZE)(K:List A7->List Bool->List AL->List A3->List A3->Option Ω)(F:Option Ω)(Kv:List A7->Bool->Option Ω)(Km:List AL->Bool->Option Ω)(Kz:Bool->Option Ω):Option Ω:=
 if(U<|e.1=4) then
 Qp a b c e (λx y=>K x b y d g) F
 else
 if(U<|e.1=5) then
 Qp a b c e (λx y=>K x b y d g) F
 else
 if(U<|e.1=6) then
 Qp a b c e (λx y=>K x b y d g) F
 else
 if(U<|e.1=9) then
 Tn b e (λy=>K a y c d g) F
 else
 if(U<|e.1=10) then
 Tn b e (λy=>K a y c d g) F
 else
 nc a c d g e (λx y z=>K x b c y z) F Kv Km Kz
def Vt(x:Y2×Y6×D):Option ((Y2×Bool×D)×D):=(doK x.1.2.1 x.1.2.2.1 x.1.2.2.2.1 x.1.2.2.2.2.1 x.1.2.2.2.2.2.1 x.2.1 (λk l r s g=>I ((((w64<|x.1.1+1),k,l,r,s,g,()),Y,()),())) (I ((((w64<|x.1.1+1),x.1.2),A0,()),())) (λk b=>I ((((w64<|x.1.1+1),k,x.1.2.2.1,x.1.2.2.2.1,x.1.2.2.2.2.1,x.1.2.2.2.2.2.1,()),b,()),())) (λr b=>I ((((w64<|x.1.1+1),x.1.2.1,x.1.2.2.1,r,x.1.2.2.2.2.1,x.1.2.2.2.2.2.1,()),b,()),())) λb=>I ((((w64<|x.1.1+1),x.1.2.1,x.1.2.2.1,x.1.2.2.2.1,x.1.2.2.2.2.1,x.1.2.2.2.2.2.1,()),b,()),()))
def aAB:Ent:=(65,G,⟨[Z3,Z13],[Z3,.bool],Vt⟩)
def aiS:y8 aAB:=sk (v:= .nil) (fn:=f65) ap6 kN
def RG:Cx:=cX [Gr,IP,fv,qV,rU,fu,rR,rZ,rV,rS,rb,rT,qU,rY] [] []
def ajU:OKC prog RG (NC RG 3):=abl 3 mixed<|gC HI<|gC Iw<|gC adk<|gC aco<|gC ad0<|gC adj<|gC acx<|gC ad4<|gC ad1<|gC acy<|gC ad5<|gC acz<|gC acp<|gC adK<|AI
def Fl(x:Y10×Y6×D):Option ((Bool×D)×Y10×D):=(doK x.1.2.2.1 x.1.2.2.2.1 x.1.2.2.2.2.1 x.1.2.2.2.2.2.1 x.1.2.2.2.2.2.2.1 x.2.1 (λk l r s g=>if Ac (x.1.2.2.2.2.2.2.2.1.length+([(Event.mk x.2.1.1 x.2.1.2.1 x.2.1.2.2.1 x.2.1.2.2.2.1 x.2.1.2.2.2.2.1 x.2.1.2.2.2.2.2.1 x.2.1.2.2.2.2.2.2.1 x.2.1.2.2.2.2.2.2.2.1 x.2.1.2.2.2.2.2.2.2.2.1 x.2.1.2.2.2.2.2.2.2.2.2.1)]:List Event).length) then I ((Y,()),((x.1.1,(w64<|x.1.2.1+1),k,l,r,s,g,(x.1.2.2.2.2.2.2.2.1++([(Event.mk x.2.1.1 x.2.1.2.1 x.2.1.2.2.1 x.2.1.2.2.2.1 x.2.1.2.2.2.2.1 x.2.1.2.2.2.2.2.1 x.2.1.2.2.2.2.2.2.1 x.2.1.2.2.2.2.2.2.2.1 x.2.1.2.2.2.2.2.2.2.2.1 x.2.1.2.2.2.2.2.2.2.2.2.1)]:List Event)),()),())) else G) (I ((A0,()),(x.1,()))) (λk b=>if b then if Ac (x.1.2.2.2.2.2.2.2.1.length+([(Event.mk x.2.1.1 x.2.1.2.1 x.2.1.2.2.1 x.2.1.2.2.2.1 x.2.1.2.2.2.2.1 x.2.1.2.2.2.2.2.1 x.2.1.2.2.2.2.2.2.1 x.2.1.2.2.2.2.2.2.2.1 x.2.1.2.2.2.2.2.2.2.2.1 x.2.1.2.2.2.2.2.2.2.2.2.1)]:List Event).length) then I ((b,()),((x.1.1,(w64<|x.1.2.1+1),k,x.1.2.2.2.1,x.1.2.2.2.2.1,x.1.2.2.2.2.2.1,x.1.2.2.2.2.2.2.1,(x.1.2.2.2.2.2.2.2.1++([(Event.mk x.2.1.1 x.2.1.2.1 x.2.1.2.2.1 x.2.1.2.2.2.1 x.2.1.2.2.2.2.1 x.2.1.2.2.2.2.2.1 x.2.1.2.2.2.2.2.2.1 x.2.1.2.2.2.2.2.2.2.1 x.2.1.2.2.2.2.2.2.2.2.1 x.2.1.2.2.2.2.2.2.2.2.2.1)]:List Event)),()),())) else G else I ((b,()),((x.1.1,x.1.2.1,k,x.1.2.2.2),()))) (λr b=>if b then if Ac (x.1.2.2.2.2.2.2.2.1.length+([(Event.mk x.2.1.1 x.2.1.2.1 x.2.1.2.2.1 x.2.1.2.2.2.1 x.2.1.2.2.2.2.1 x.2.1.2.2.2.2.2.1 x.2.1.2.2.2.2.2.2.1 x.2.1.2.2.2.2.2.2.2.1 x.2.1.2.2.2.2.2.2.2.2.1 x.2.1.2.2.2.2.2.2.2.2.2.1)]:List Event).length) then I ((b,()),((x.1.1,(w64<|x.1.2.1+1),x.1.2.2.1,x.1.2.2.2.1,r,x.1.2.2.2.2.2.1,x.1.2.2.2.2.2.2.1,(x.1.2.2.2.2.2.2.2.1++([(Event.mk x.2.1.1 x.2.1.2.1 x.2.1.2.2.1 x.2.1.2.2.2.1 x.2.1.2.2.2.2.1 x.2.1.2.2.2.2.2.1 x.2.1.2.2.2.2.2.2.1 x.2.1.2.2.2.2.2.2.2.1 x.2.1.2.2.2.2.2.2.2.2.1 x.2.1.2.2.2.2.2.2.2.2.2.1)]:List Event)),()),())) else G else G) λb=>if b then if Ac (x.1.2.2.2.2.2.2.2.1.length+([(Event.mk x.2.1.1 x.2.1.2.1 x.2.1.2.2.1 x.2.1.2.2.2.1 x.2.1.2.2.2.2.1 x.2.1.2.2.2.2.2.1 x.2.1.2.2.2.2.2.2.1 x.2.1.2.2.2.2.2.2.2.1 x.2.1.2.2.2.2.2.2.2.2.1 x.2.1.2.2.2.2.2.2.2.2.2.1)]:List Event).length) then I ((b,()),((x.1.1,(w64<|x.1.2.1+1),x.1.2.2.1,x.1.2.2.2.1,x.1.2.2.2.2.1,x.1.2.2.2.2.2.1,x.1.2.2.2.2.2.2.1,(x.1.2.2.2.2.2.2.2.1++([(Event.mk x.2.1.1 x.2.1.2.1 x.2.1.2.2.1 x.2.1.2.2.2.1 x.2.1.2.2.2.2.1 x.2.1.2.2.2.2.2.1 x.2.1.2.2.2.2.2.2.1 x.2.1.2.2.2.2.2.2.2.1 x.2.1.2.2.2.2.2.2.2.2.1 x.2.1.2.2.2.2.2.2.2.2.2.1)]:List Event)),()),())) else G else I ((b,()),(x.1,())))
def LM:Ent:=(85,G,⟨[Z22,Z13],[.bool],Fl⟩)
end Go.VS
end
