/- Part 4. -/
import Derived.Shelf.Utf8.RuneCount
import Derived.Shelf.Strconv.Itoa0
import Derived.Shelf.Strconv.Itoa1
import Derived.Shelf.LaysM
import Derived.Shelf.Strconv.Itoa2
import Derived.Shelf.Strconv.Itoa3
import Derived.Shelf.Strings.Search1
import Derived.Shelf.Strings.Search2
import Derived.Shelf.Strings.Search3
import Derived.Shelf.Strings.Cut
import Derived.Shelf.Strings.Count
import Derived.Shelf.Strings.Shaped
import Derived.Shelf.Strings.Split
import Derived.Shelf.Strings.SplitShaped
import Derived.Shelf.Unicode.Decode
import Derived.Shelf.Strings.RuneCount
import Derived.Shelf.Strings.Explode
import Derived.Shelf.Unicode.DecodeSlow
import Derived.Shelf.Unicode.DecodeAny
import Derived.Test.YtcdeafiabojglaaGreatDoorProg
import Derived.Test.YtcdeafiabojglaaGreatDoorQAI
open Bool renaming false->A0,true->Y
open Decidable renaming decide->U
open Go.Lib renaming TabIs->MU,cellsOf->Zx,countB->NS,cut->FO,itoa->B6,pow10Tab->NT,splitB->J6
open Go.Shelf renaming Ren->Tz
open Go.Value renaming string->Zu
open Int renaming tdiv->Ay,tmod->BJ,toNat->AJ
open List renaming drop->Bp,length->j8,replicate->BZ,set->Bq,take->BV
open Option renaming none->G,some->I
set_option linter.all false
noncomputable section
namespace Go.Proofs
open Go.Shelf
def Tryz.az4:Tz:=⟨fun|171=>158|243=>194|246=>221|283=>234|284=>235|285=>236|286=>237|129=>248|317=>247|318=>249|319=>250|320=>251|337=>255|338=>256|n=>n,fun|3=>3|9=>9|2=>2|4=>4|171=>219|0=>0|53=>220|37=>22|5=>5|173=>223|212=>231|51=>232|20=>20|213=>233|46=>226|232=>242|233=>243|n=>n,fun|17=>1|18=>4|19=>5|n=>n⟩
def Tryz.azH:Go.Proofs.LaysM.n171 prog Tryz.az4:={
 mixed:=by kernel_rfl
 f129:=func248.trans (congrArg I VS.aHf)
 f171:=func158.trans (congrArg I VS.aHf)
 f243:=func194.trans (congrArg I VS.aHf)
 f246:=func221.trans (congrArg I VS.aHf)
 f283:=func234.trans (congrArg I VS.aHf)
 f284:=func235.trans (congrArg I VS.aHf)
 f285:=func236.trans (congrArg I VS.aHf)
 f286:=func237.trans (congrArg I VS.aHf)
 f317:=func247.trans (congrArg I VS.aHf)
 f318:=func249.trans (congrArg I VS.aHf)
 f319:=func250.trans (congrArg I VS.aHf)
 f320:=func251.trans (congrArg I VS.aHf)
 f337:=func255.trans (congrArg I VS.aHf)
 f338:=func256.trans (congrArg I VS.aHf)
 t0:=Tryz.underlying0
 a0:=Tryz.isAgg0
 z0:=Tryz.sizeOf0
 v0:=Tryz.zeroValue0
 t2:=Tryz.underlying2
 a2:=Tryz.isAgg2
 z2:=Tryz.sizeOf2
 v2:=Tryz.zeroValue2
 t3:=Tryz.underlying3
 a3:=Tryz.isAgg3
 z3:=Tryz.sizeOf3
 v3:=Tryz.zeroValue3
 t4:=Tryz.underlying4
 a4:=Tryz.isAgg4
 z4:=Tryz.sizeOf4
 v4:=Tryz.zeroValue4
 t5:=Tryz.underlying5
 a5:=Tryz.isAgg5
 z5:=Tryz.sizeOf5
 v5:=Tryz.zeroValue5
 t9:=Tryz.underlying9
 a9:=Tryz.isAgg9
 z9:=Tryz.sizeOf9
 v9:=Tryz.zeroValue9
 t20:=Tryz.underlying20
 a20:=Tryz.isAgg20
 z20:=Tryz.sizeOf20
 v20:=Tryz.zeroValue20
 t37:=Tryz.underlying22
 a37:=Tryz.isAgg22
 z37:=Tryz.sizeOf22
 v37:=Tryz.zeroValue22
 t46:=Tryz.underlying226
 a46:=Tryz.isAgg226
 z46:=Tryz.sizeOf226
 v46:=Tryz.zeroValue226
 t51:=Tryz.underlying232
 a51:=Tryz.isAgg232
 z51:=Tryz.sizeOf232
 v51:=Tryz.zeroValue232
 t53:=Tryz.underlying220
 a53:=Tryz.isAgg220
 z53:=Tryz.sizeOf220
 v53:=Tryz.zeroValue220
 t171:=Tryz.underlying219
 a171:=Tryz.isAgg219
 z171:=Tryz.sizeOf219
 v171:=Tryz.zeroValue219
 t173:=Tryz.underlying223
 a173:=Tryz.isAgg223
 z173:=Tryz.sizeOf223
 v173:=Tryz.zeroValue223
 t212:=Tryz.underlying231
 a212:=Tryz.isAgg231
 z212:=Tryz.sizeOf231
 v212:=Tryz.zeroValue231
 t213:=Tryz.underlying233
 a213:=Tryz.isAgg233
 z213:=Tryz.sizeOf233
 t232:=Tryz.underlying242
 a232:=Tryz.isAgg242
 z232:=Tryz.sizeOf242
 v232:=Tryz.zeroValue242
 t233:=Tryz.underlying243
 a233:=Tryz.isAgg243
 z233:=Tryz.sizeOf243
 v233:=Tryz.zeroValue243
 g17:=by kernel_rfl
 g18:=by kernel_rfl
 g19:=by kernel_rfl
 i0:=by kernel_rfl
 i2:=by kernel_rfl
 i3:=by kernel_rfl
 i4:=by kernel_rfl
 i5:=by kernel_rfl
 i9:=by kernel_rfl
 i20:=by kernel_rfl
 i37:=by kernel_rfl
 i46:=by kernel_rfl
 i51:=by kernel_rfl
 i53:=by kernel_rfl
 i171:=by kernel_rfl
 i173:=by kernel_rfl
 i212:=by kernel_rfl
 i232:=by kernel_rfl
 i233:=by kernel_rfl
 m17:=by kernel_rfl
 m18:=by kernel_rfl
 m19:=by kernel_rfl }
def Tryz.az8:Tz:=⟨fun|145=>168|220=>202|219=>226|217=>238|225=>239|224=>240|267=>241|266=>252|314=>253|n=>n,fun|9=>9|4=>4|59=>183|3=>3|5=>5|46=>226|146=>235|51=>232|n=>n,fun|1=>0|n=>n⟩
def Tryz.azE:Go.Proofs.Lays.n145 prog Tryz.az8:={
 mixed:=by kernel_rfl
 f145:=func168.trans (congrArg I VS.aHf)
 f217:=func238.trans (congrArg I VS.aHf)
 f219:=func226.trans (congrArg I VS.aHf)
 f220:=func202.trans (congrArg I VS.aHf)
 f224:=func240.trans (congrArg I VS.aHf)
 f225:=func239.trans (congrArg I VS.aHf)
 f266:=func252.trans (congrArg I VS.aHf)
 f267:=func241.trans (congrArg I VS.aHf)
 f314:=func253.trans (congrArg I VS.aHf)
 t3:=Tryz.underlying3
 a3:=Tryz.isAgg3
 z3:=Tryz.sizeOf3
 v3:=Tryz.zeroValue3
 t4:=Tryz.underlying4
 a4:=Tryz.isAgg4
 z4:=Tryz.sizeOf4
 v4:=Tryz.zeroValue4
 t5:=Tryz.underlying5
 a5:=Tryz.isAgg5
 z5:=Tryz.sizeOf5
 v5:=Tryz.zeroValue5
 t9:=Tryz.underlying9
 a9:=Tryz.isAgg9
 z9:=Tryz.sizeOf9
 v9:=Tryz.zeroValue9
 t46:=Tryz.underlying226
 a46:=Tryz.isAgg226
 z46:=Tryz.sizeOf226
 v46:=Tryz.zeroValue226
 t51:=Tryz.underlying232
 a51:=Tryz.isAgg232
 z51:=Tryz.sizeOf232
 v51:=Tryz.zeroValue232
 t59:=Tryz.underlying183
 a59:=Tryz.isAgg183
 z59:=Tryz.sizeOf183
 v59:=Tryz.zeroValue183
 t146:=Tryz.underlying235
 a146:=Tryz.isAgg235
 z146:=Tryz.sizeOf235
 v146:=Tryz.zeroValue235
 g1:=by kernel_rfl }
def Tryz.az5:Tz:=⟨fun|145=>168|220=>202|219=>226|217=>238|225=>239|224=>240|267=>241|266=>252|314=>253|n=>n,fun|9=>9|4=>4|59=>183|3=>3|5=>5|46=>226|146=>235|51=>232|n=>n,fun|1=>0|n=>n⟩
def Tryz.pF:Go.Proofs.LaysM.n145 prog Tryz.az5:={
 mixed:=by kernel_rfl
 f145:=func168.trans (congrArg I VS.aHf)
 f217:=func238.trans (congrArg I VS.aHf)
 f219:=func226.trans (congrArg I VS.aHf)
 f220:=func202.trans (congrArg I VS.aHf)
 f224:=func240.trans (congrArg I VS.aHf)
 f225:=func239.trans (congrArg I VS.aHf)
 f266:=func252.trans (congrArg I VS.aHf)
 f267:=func241.trans (congrArg I VS.aHf)
 f314:=func253.trans (congrArg I VS.aHf)
 t3:=Tryz.underlying3
 a3:=Tryz.isAgg3
 z3:=Tryz.sizeOf3
 v3:=Tryz.zeroValue3
 t4:=Tryz.underlying4
 a4:=Tryz.isAgg4
 z4:=Tryz.sizeOf4
 v4:=Tryz.zeroValue4
 t5:=Tryz.underlying5
 a5:=Tryz.isAgg5
 z5:=Tryz.sizeOf5
 v5:=Tryz.zeroValue5
 t9:=Tryz.underlying9
 a9:=Tryz.isAgg9
 z9:=Tryz.sizeOf9
 v9:=Tryz.zeroValue9
 t46:=Tryz.underlying226
 a46:=Tryz.isAgg226
 z46:=Tryz.sizeOf226
 v46:=Tryz.zeroValue226
 t51:=Tryz.underlying232
 a51:=Tryz.isAgg232
 z51:=Tryz.sizeOf232
 v51:=Tryz.zeroValue232
 t59:=Tryz.underlying183
 a59:=Tryz.isAgg183
 z59:=Tryz.sizeOf183
 v59:=Tryz.zeroValue183
 t146:=Tryz.underlying235
 a146:=Tryz.isAgg235
 z146:=Tryz.sizeOf235
 v146:=Tryz.zeroValue235
 g1:=by kernel_rfl
 i3:=by kernel_rfl
 i4:=by kernel_rfl
 i5:=by kernel_rfl
 i9:=by kernel_rfl
 i46:=by kernel_rfl
 i51:=by kernel_rfl
 i59:=by kernel_rfl
 i146:=by kernel_rfl
 m1:=by kernel_rfl
 s1_3:=λw h=>Go.Proofs.cell_of_shapedOpen_int (zero:= #[.int .i64 0]) (t:=3) h (of_decide_eq_true VS.aHf) VS.aHf rfl VS.aHf VS.aHf Tryz.underlying3 }
def Tryz.az7:Tz:=⟨fun|146=>173|221=>207|268=>227|138=>228|143=>229|195=>242|197=>243|218=>244|219=>226|260=>254|217=>238|225=>239|224=>240|267=>241|266=>252|314=>253|n=>n,fun|9=>9|31=>82|3=>3|4=>4|0=>0|105=>227|21=>21|5=>5|46=>226|119=>238|139=>241|138=>240|146=>235|51=>232|n=>n,fun|1=>0|3=>2|4=>3|n=>n⟩
def Tryz.azD:Go.Proofs.Lays.n146 prog Tryz.az7:={
 mixed:=by kernel_rfl
 f138:=func228.trans (congrArg I VS.aHf)
 f143:=func229.trans (congrArg I VS.aHf)
 f146:=func173.trans (congrArg I VS.aHf)
 f195:=func242.trans (congrArg I VS.aHf)
 f197:=func243.trans (congrArg I VS.aHf)
 f217:=func238.trans (congrArg I VS.aHf)
 f218:=func244.trans (congrArg I VS.aHf)
 f219:=func226.trans (congrArg I VS.aHf)
 f221:=func207.trans (congrArg I VS.aHf)
 f224:=func240.trans (congrArg I VS.aHf)
 f225:=func239.trans (congrArg I VS.aHf)
 f260:=func254.trans (congrArg I VS.aHf)
 f266:=func252.trans (congrArg I VS.aHf)
 f267:=func241.trans (congrArg I VS.aHf)
 f268:=func227.trans (congrArg I VS.aHf)
 f314:=func253.trans (congrArg I VS.aHf)
 t0:=Tryz.underlying0
 a0:=Tryz.isAgg0
 z0:=Tryz.sizeOf0
 v0:=Tryz.zeroValue0
 t3:=Tryz.underlying3
 a3:=Tryz.isAgg3
 z3:=Tryz.sizeOf3
 v3:=Tryz.zeroValue3
 t4:=Tryz.underlying4
 a4:=Tryz.isAgg4
 z4:=Tryz.sizeOf4
 v4:=Tryz.zeroValue4
 t5:=Tryz.underlying5
 a5:=Tryz.isAgg5
 z5:=Tryz.sizeOf5
 v5:=Tryz.zeroValue5
 t9:=Tryz.underlying9
 a9:=Tryz.isAgg9
 z9:=Tryz.sizeOf9
 v9:=Tryz.zeroValue9
 t21:=Tryz.underlying21
 a21:=Tryz.isAgg21
 z21:=Tryz.sizeOf21
 v21:=Tryz.zeroValue21
 t31:=Tryz.underlying82
 a31:=Tryz.isAgg82
 z31:=Tryz.sizeOf82
 v31:=Tryz.zeroValue82
 t46:=Tryz.underlying226
 a46:=Tryz.isAgg226
 z46:=Tryz.sizeOf226
 v46:=Tryz.zeroValue226
 t51:=Tryz.underlying232
 a51:=Tryz.isAgg232
 z51:=Tryz.sizeOf232
 v51:=Tryz.zeroValue232
 t105:=Tryz.underlying227
 a105:=Tryz.isAgg227
 z105:=Tryz.sizeOf227
 v105:=Tryz.zeroValue227
 t119:=Tryz.underlying238
 a119:=Tryz.isAgg238
 z119:=Tryz.sizeOf238
 t138:=Tryz.underlying240
 a138:=Tryz.isAgg240
 z138:=Tryz.sizeOf240
 v138:=Tryz.zeroValue240
 t139:=Tryz.underlying241
 a139:=Tryz.isAgg241
 z139:=Tryz.sizeOf241
 v139:=Tryz.zeroValue241
 t146:=Tryz.underlying235
 a146:=Tryz.isAgg235
 z146:=Tryz.sizeOf235
 v146:=Tryz.zeroValue235
 g1:=by kernel_rfl
 g3:=by kernel_rfl
 g4:=by kernel_rfl }
def Tryz.az6:Tz:=⟨fun|147=>204|221=>207|268=>227|138=>228|143=>229|195=>242|197=>243|218=>244|219=>226|260=>254|217=>238|225=>239|224=>240|267=>241|266=>252|314=>253|n=>n,fun|9=>9|3=>3|31=>82|4=>4|0=>0|105=>227|21=>21|5=>5|46=>226|119=>238|139=>241|138=>240|146=>235|51=>232|n=>n,fun|1=>0|3=>2|4=>3|n=>n⟩
def Tryz.azC:Go.Proofs.Lays.n147 prog Tryz.az6:={
 mixed:=by kernel_rfl
 f138:=func228.trans (congrArg I VS.aHf)
 f143:=func229.trans (congrArg I VS.aHf)
 f147:=func204.trans (congrArg I VS.aHf)
 f195:=func242.trans (congrArg I VS.aHf)
 f197:=func243.trans (congrArg I VS.aHf)
 f217:=func238.trans (congrArg I VS.aHf)
 f218:=func244.trans (congrArg I VS.aHf)
 f219:=func226.trans (congrArg I VS.aHf)
 f221:=func207.trans (congrArg I VS.aHf)
 f224:=func240.trans (congrArg I VS.aHf)
 f225:=func239.trans (congrArg I VS.aHf)
 f260:=func254.trans (congrArg I VS.aHf)
 f266:=func252.trans (congrArg I VS.aHf)
 f267:=func241.trans (congrArg I VS.aHf)
 f268:=func227.trans (congrArg I VS.aHf)
 f314:=func253.trans (congrArg I VS.aHf)
 t0:=Tryz.underlying0
 a0:=Tryz.isAgg0
 z0:=Tryz.sizeOf0
 v0:=Tryz.zeroValue0
 t3:=Tryz.underlying3
 a3:=Tryz.isAgg3
 z3:=Tryz.sizeOf3
 v3:=Tryz.zeroValue3
 t4:=Tryz.underlying4
 a4:=Tryz.isAgg4
 z4:=Tryz.sizeOf4
 v4:=Tryz.zeroValue4
 t5:=Tryz.underlying5
 a5:=Tryz.isAgg5
 z5:=Tryz.sizeOf5
 v5:=Tryz.zeroValue5
 t9:=Tryz.underlying9
 a9:=Tryz.isAgg9
 z9:=Tryz.sizeOf9
 v9:=Tryz.zeroValue9
 t21:=Tryz.underlying21
 a21:=Tryz.isAgg21
 z21:=Tryz.sizeOf21
 v21:=Tryz.zeroValue21
 t31:=Tryz.underlying82
 a31:=Tryz.isAgg82
 z31:=Tryz.sizeOf82
 v31:=Tryz.zeroValue82
 t46:=Tryz.underlying226
 a46:=Tryz.isAgg226
 z46:=Tryz.sizeOf226
 v46:=Tryz.zeroValue226
 t51:=Tryz.underlying232
 a51:=Tryz.isAgg232
 z51:=Tryz.sizeOf232
 v51:=Tryz.zeroValue232
 t105:=Tryz.underlying227
 a105:=Tryz.isAgg227
 z105:=Tryz.sizeOf227
 v105:=Tryz.zeroValue227
 t119:=Tryz.underlying238
 a119:=Tryz.isAgg238
 z119:=Tryz.sizeOf238
 t138:=Tryz.underlying240
 a138:=Tryz.isAgg240
 z138:=Tryz.sizeOf240
 v138:=Tryz.zeroValue240
 t139:=Tryz.underlying241
 a139:=Tryz.isAgg241
 z139:=Tryz.sizeOf241
 v139:=Tryz.zeroValue241
 t146:=Tryz.underlying235
 a146:=Tryz.isAgg235
 z146:=Tryz.sizeOf235
 v146:=Tryz.zeroValue235
 g1:=by kernel_rfl
 g3:=by kernel_rfl
 g4:=by kernel_rfl }
open Go.RowKit Go.Sort Go.Lib in
theorem Tryz.strconv_Itoa (n:Int) (h0: -9223372036854775808<=n) (h1:n<=9223372036854775807) (w:World) (bY:MU prog w "internal/strconv.uint64pow10" .u64 NT):
  Calls prog 158 #[.int .i64 n] w λe w'=>e= .returned (.string ⟨(B6 n).toArray⟩)/\ ∃k os,w'=grow (w.drewN k) os:=Any.strconv_Itoa Tryz.azH n h0 h1 w bY
open Go.RowKit Go.Lib in
theorem Tryz.strings_Cut (s sep:ByteArray) (m:Int) (w:World) (hs:s.size<4294967281) (hm:w.cell? ⟨0,0,G⟩=I (.int .i64 m)):
  Calls prog 168 #[.string s,.string sep] w λe w'=>e= .returned (.tuple #[.string ⟨(FO s.data.toList sep.data.toList).1.toArray⟩,.string ⟨(FO s.data.toList sep.data.toList).2.1.toArray⟩,.bool (FO s.data.toList sep.data.toList).2.2])/\ ∃n,w'=w.drewN n:=Any.strings_Cut Tryz.azE s sep m w hs hm
open Go.RowKit Go.Lib in
theorem Tryz.strings_Split (s sep:ByteArray) (m:Int) (w:World) (hs:s.size<4294967281) (hm:w.cell? ⟨0,0,G⟩=I (.int .i64 m)) (h1:1<=sep.size):
  Calls prog 173 #[.string s,.string sep] w λe w'=>
   e= .returned (.slice (I ⟨w.heap.size,0,G⟩) (NS s sep+1)<|NS s sep+1)/\w'=w.alloc (.cells ((J6 sep 0 (NS s sep) s).map Zu).toArray 9):=Any.strings_Split Tryz.azD VS.aHf s sep m w hs hm h1
open Go.RowKit Go.Lib in
theorem Tryz.strings_SplitN (s sep:ByteArray) (n:Nat) (m:Int) (w:World) (hs:s.size<4294967281) (hm:w.cell? ⟨0,0,G⟩=I (.int .i64 m)) (h1:1<=sep.size) (hn:1<=n) (aCw:n<=9223372036854775807):
  Calls prog 204 #[.string s,.string sep,.int .i64 n] w λe w'=>
   e= .returned (.slice (I ⟨w.heap.size,0,G⟩) (J6 sep 0 (min n (s.size+1) - 1) s).length<|min n<|s.size+1)/\w'=w.alloc (.cells (Zx (J6 sep 0 (min n (s.size+1) - 1) s)<|min n<|s.size+1) 9):=Any.strings_SplitN Tryz.azC VS.aHf s sep n m w hs hm h1 hn aCw
end Go.Proofs
namespace Go.VS
open Go Go.Proofs Tryz
set_option linter.unusedVariables false
set_option maxRecDepth 100000
abbrev aG8:=dfl .AN
abbrev aHe:=dfl .Ai
abbrev aHm:=dfl .bool
abbrev aHk:=dfl .frame
abbrev aHa:=dfl .half
abbrev aHb:=dfl .int
abbrev aHg:=dfl .mark
abbrev aHl:=dfl .mixed
abbrev aG6:=dfl .note
abbrev aHj:=dfl .str
abbrev aHh:=dfl .u8
abbrev j6:Sh:=.int .i64
abbrev y7(e:Ent):Prop:=SQ Tryz.prog e
abbrev v7:=Int×D
abbrev aG7:=Int×v7
abbrev aHc:=Int×aG7
abbrev t1(v:Adv):Adv:= .two .nil v
def sk{P:Program}{C:Cx}{inl:(Ω:Type)->Inl Ω}{f:Nat}{d:Option Nat}{fn:Func}{m:DZ}{v:Adv}{ls:List (Code×Loop)}(hC:OKC P C inl)(hl:LpK P fn.ntmps (Dy 0 m.ps) ls)
  (hf:fnB P f fn m=(I fn,A0,Y,Y):=by kernel_rfl)(hb:fn.body=I (LA fn):=by kernel_rfl)(h:Fp (LA fn) v=ls:=by kernel_rfl)(hg:∀x,aq C inl fn v m x=m.g x:=by intro _;kernel_rfl):SQ P (f,d,m):=
 so hC hf hb h hl hg
def sq{P:Program}{C:Cx}{inl:(Ω:Type)->Inl Ω}(hC:OKC P C inl){n:Nat}{pins:List Nat}{body:Code}{v:Adv}{l:Loop}{b:Lv l.sch->Option (Lv l.sch ⊕ (Lv l.KU ⊕ Lv l.KV))}{ls:List (Code×Loop)}
  (hl:LpK P n pins ls)(hb:∀x,evL C inl n pins body v l x=b x:=by intro _;kernel_rfl)(hr:l.run=AT b:=by rfl)(h:Fp body v=ls:=by kernel_rfl):LpK P n pins [(body,l)]:=lk hC hb hr h hl
def kd:TypeId->Option K
 | 2=>I .int
 | 3=>I .int
 | 4=>I .bool
 | 5=>I .u8
 | 9=>I .str
 | 10=>I .str
 | 11=>I .str
 | 35=>I .keep
 | 41=>I .AN
 | 59=>I .note
 | 70=>I .Ai
 | 81=>I .Hq
 | 95=>I .mark
 | 99=>I .half
 | 119=>I .mixed
 | 135=>I .frame
 | _=>G
abbrev Y0:Type:=Int×Int×Int×List A3×List Mark×List A3×D
abbrev Z0:Sh:= .agg [j6,j6,j6,.row 59 .note,.row 95 .mark,.row 59 .note]
abbrev Y1:Type:=Int×Int×Int×Int×A1×D
abbrev Z1:Sh:= .box 59 [j6,j6,j6,j6,.str]
abbrev Z2:Sh:= .agg [j6,j6,j6,j6,.str]
abbrev Z3:Sh:= .box 35 [j6,j6,j6,.sl .note,.sl .mark,.sl .note]
abbrev Z4:Sh:= .agg [j6,j6,j6,.fz .note,.fz .mark,.fz .note]
abbrev Z5:Sh:= .box 35 [j6,j6,j6,.row 59 .note,.row 95 .mark,.row 59 .note]
abbrev Y2:Type:=aHc
abbrev Z6:Sh:= .box 95 [j6,j6,j6]
abbrev Z7:Sh:= .agg [j6,j6,j6]
abbrev Y3:Type:=Int×Bool×A1×Int×List AD×D
abbrev Z8:Sh:= .agg [j6,.bool,.str,j6,.fz .half]
abbrev Y4:Type:=A1×v7
abbrev Z9:Sh:= .agg [.str,j6]
abbrev Y5:Type:=Int×A1×D
abbrev Z10:Sh:= .agg [j6,.str]
abbrev Y6:Type:=Int×Int×Int×Int×Int×List AQ×D
abbrev Z11:Sh:= .box 99 [j6,j6,j6,j6,j6,.sl .mixed]
abbrev Z12:Sh:= .agg [j6,j6,j6,j6,j6,.fz .mixed]
abbrev Z13:Sh:= .box 41 [j6,.bool,.str,j6,.sl .half]
abbrev Y7:Type:=Int×List A7×List Bool×List AK×List A3×List A3×D
abbrev Z14:Sh:= .box 28 [j6,.sl .AN,.sl .bool,.sl .Ai,.sl .note,.sl .note]
abbrev Z15:Sh:= .agg [j6,.fz .AN,.fz .bool,.fz .Ai,.fz .note,.fz .note]
abbrev Z16:Sh:= .box 41 [j6,.bool,.str,j6,.row 99 .half]
abbrev Z17:Sh:= .agg [j6,.bool,.str,j6,.row 99 .half]
abbrev Z18:Sh:= .box 28 [j6,.row 41 .AN,.row 4 .bool,.row 70 .Ai,.row 59 .note,.row 59 .note]
abbrev Z19:Sh:= .agg [j6,.row 41 .AN,.row 4 .bool,.row 70 .Ai,.row 59 .note,.row 59 .note]
abbrev Y8:Type:=Int×Int×Int×Int×Int×Int×Int×Int×Int×A1×D
abbrev Z20:Sh:= .agg [j6,j6,j6,j6,j6,j6,j6,j6,j6,.str]
abbrev Z21:Sh:= .box 135 [j6,j6,j6,j6,j6,j6,j6,j6,j6,.str]
abbrev Z22:Sh:= .box 38 [.str,j6]
abbrev Y9:Type:=List Int×v7
abbrev Z23:Sh:= .box 76 [.fz .u8,j6]
abbrev Y10:Type:=Y9×Int×List A7×List Bool×List AK×List A3×List A3×List Event×D
abbrev Z24:Sh:= .box 53 [Z23,j6,.row 41 .AN,.row 4 .bool,.row 70 .Ai,.row 59 .note,.row 59 .note,.row 81 .Hq]
abbrev Z25:Sh:= .box 76 [.sl .u8,j6]
abbrev Z26:Sh:= .box 53 [Z25,j6,.row 41 .AN,.row 4 .bool,.row 70 .Ai,.row 59 .note,.row 59 .note,.row 81 .Hq]
abbrev Z27:Sh:= .box 81 [j6,j6,j6,j6,j6,j6,j6,j6,j6,.str]
abbrev Y11:Type:=D×Int×List A7×List Bool×List AK×List A3×List A3×List Event×D
abbrev Z30:Sh:= .box 53 [.same 0,j6,.row 41 .AN,.row 4 .bool,.row 70 .Ai,.row 59 .note,.row 59 .note,.row 81 .Hq]
abbrev Z32:Sh:= .box 35 [j6,j6,j6,.row 59 .note,.row 95 .mark,.sl .note]
abbrev Z33:Sh:= .box 119 [j6,.str]
abbrev Y12:Type:=Int×Int×A1×Bool×D
abbrev Z34:Sh:= .box 70 [j6,j6,.str,.bool]
abbrev Z35:Sh:= .box 41 [j6,.bool,.str,j6,.fz .half]
abbrev Z36:Sh:= .box 28 [j6,.fz .AN,.fz .bool,.fz .Ai,.fz .note,.fz .note]
abbrev Rnd(a b c:Type):=Option<|a ⊕ (b ⊕ c)
noncomputable abbrev cX(l:List Ent)(cz sp:List (Nat×Nat)):Cx:=⟨prog,kd,gam l,inR cz,inR sp⟩
abbrev LF(fn:Func)(pins path:List Nat)(l:Loop):=LpK prog fn.ntmps pins [(PE path<|LA fn,l)]
def mixed:prog.follows .mixedOrders=Y:=by kernel_rfl
def JC:(v7)->Option ((A1×D)×D):=UQ
def SI:Ent:=(158,G,⟨[j6],[.str],JC⟩)
def VC:y7 SI:=⟨arY (ON func158 aHf (by kernel_rfl:f158.body=I (LA f158))) aHf Tryz.strconv_Itoa,by kernel_rfl⟩
def Wr:(A1×A1×D)->Option ((A1×A1×Bool×D)×D):=PM
def aBA:Ent:=(168,G,⟨[.str,.str],[.str,.str,.bool],Wr⟩)
def agd:y7 aBA:=⟨atj (gm:=0) (ON func168 aHf (by kernel_rfl:f168.body=I (LA f168))) (BW aHf) (λw h=>Tryz.pF.s1_3 w h) Tryz.strings_Cut,by kernel_rfl⟩
def eS:(A1×A1×D)->Option ((List A1×D)×D):=Th
def yN:Ent:=(173,G,⟨[.str,.str],[.row 9 .str],eS⟩)
def aef:y7 yN:=⟨aqy (gm:=0) (ON func173 aHf (by kernel_rfl:f173.body=I (LA f173))) (BW aHf) (λw h=>Tryz.pF.s1_3 w h) Tryz.strings_Split,by kernel_rfl⟩
def tA:(A1×A1×v7)->Option ((List A1×D)×D):=TQ
def xg:Ent:=(204,G,⟨[.str,.str,j6],[.row 9 .str],tA⟩)
def aeA:y7 xg:=⟨aqM (gm:=0) (ON func204 aHf (by kernel_rfl:f204.body=I (LA f204))) (BW aHf) (λw h=>Tryz.pF.s1_3 w h) Tryz.strings_SplitN,by kernel_rfl⟩
def aqn:Cx:=cX [] [] [(11,13)]
abbrev y9(C:Cx):Prop:=OKC prog C AF
def aG5{kd:TypeId->Option K}{l:List Ent}{cz sp:Nat->Bool}(h:RF prog l):OKC prog ⟨prog,kd,gam l,cz,sp⟩ AF:=okc mixed h
def ar8:y9 aqn:=aG5<|AI
def DC(x:aHc):Option ((Bool×D)×D):=let a:=((U<|x.2.1<=x.1)&&(U<|x.1<=x.2.2.1));I ((a,()),())
def Gv:Ent:=(32,G,⟨[j6,j6,j6],[.bool],DC⟩)
def HQ:y7 Gv:=sk (v:= .nil) (fn:=f32) ar8 kN
def GW(abm:(v7)->Option ((A1×D)×D))(x:v7):Option ((A1×D)×D):=
 if U (x.1<(-9223372036854775807)) then
 let v2:=(B [45,57,50,50,51,51,55,50,48,51,54,56,53,52,55,55,53,56,48,56])
 I ((v2,()),())
 else
 if U (x.1<0) then
 (abm ((w64<|0 - x.1),())).bind λr4=>
 if U ((B [45]).size+r4.1.1.size<=4611686018427387904) then
 I ((((B [45])++r4.1.1),()),())
 else G
 else
 if U (x.1<10) then
 let v6:=(BF ([(w8<|w64<|48+x.1)]:List Int))
 I ((v6,()),())
 else
 (abm ((w64<|Ay x.1 10),())).bind λr7=>
 if U (r7.1.1.size+(BF ([(w8<|w64<|48+(BJ x.1 10))]:List Int)).size<=4611686018427387904) then
 let v8:=(r7.1.1++(BF ([(w8<|w64<|48+(BJ x.1 10))]:List Int)))
 I ((v8,()),())
 else G
def DK:=Nj GW
def aq9(g:(v7)->Option ((A1×D)×D)):Cx:=cX [(120,G,⟨[j6],[.str],g⟩)] [] []
def aqX(g:(v7)->Option ((A1×D)×D))(h:SQ prog (120,G,⟨[j6],[.str],g⟩)):OKC prog (aq9 g) AF:=okc mixed<|gC h<|AI
def Mu:Ent:=(120,G,⟨[j6],[.str],DK⟩)
def Nv:y7 Mu:=soR (ON (by kernel_rfl:prog.funcs[120]? =I f120) aHf (by kernel_rfl:f120.body=I (LA f120))) (λ_=>by kernel_rfl) λg h=>so (v:= .nil) (fn:=f120) (aqX g h) aHf aHf aHf kN λ_=>by kernel_rfl
def aqA:Cx:=cX [Mu] [] [(9,11),(24,27)]
def aBz:y9 aqA:=aG5<|gC Nv<|AI
def ga(x:A1×aG7):Rnd (A1×aG7) (v7) (A1×v7):=if U (x.2.2.1<(x.1.size:Int)) then if inb x.2.2.1 x.1.size then if Ak (!(U<|(bt x.1 x.2.2.1)<48)) (inb x.2.2.1 x.1.size) then if(U<|(bt x.1 x.2.2.1)<48)||(U<|57<(bt x.1 x.2.2.1)) then I (.inr<|.inl ((-1),())) else if inb x.2.2.1 x.1.size then let a:=(w64<|(w64<|x.2.1 * 10)+(w64<|w8<|(bt x.1 x.2.2.1) - 48));I (.inl (x.1,a,(w64<|x.2.2.1+1),())) else G else G else G else I (.inr<|.inr (x.1,x.2.1,()))
def tI:=AT ga
def zC:Loop:=⟨[(0,.str),(3,j6),(4,j6)],[(0,.str),(3,j6)],0,[(2,j6)],tI⟩
def aoh:LF f98 [] [1,1,1,0,1,0,0] zC:=sq (v:= .nil) aBz (b:=ga) kN
def Q1(x:A1×D):Option ((v7)×D):=if(U<|(x.1.size:Int)<1)||(U<|4<(x.1.size:Int)) then I (((-1),()),()) else(AP (tI (x.1,0,0,())) (λa=>I (a,())) λa=>(DK a.2).bind λb=>if !decide (b.1.1=a.1) then I (((-1),()),()) else I (a.2,()))
def XS:Ent:=(98,G,⟨[.str],[j6],Q1⟩)
def tH:y7 XS:=sk (v:=t1<|t1<|t1<|.two (t1<|.one<|.loop zC) .nil) (fn:=f98) aBz<|kC aoh kN
def aoN:Cx:=cX [XS] [] [(11,12)]
def aBZ:y9 aoN:=aG5<|gC tH<|AI
def O2(x:A1×v7):Rnd (A1×v7) (A1×v7) D:=if(U<|x.2.1<(x.1.size:Int))&&(U<|x.2.1<3) then if inb x.2.1 x.1.size then if !decide ((bt x.1 x.2.1)=58) then I (.inl (x.1,(w64<|x.2.1+1),())) else if U (0<=x.2.1)&&U (x.2.1<=(x.1.size:Int)) then(Q1 ((x.1.extract (0)<|AJ x.2.1),())).bind λa=>if U (a.1.1<1) then I (.inr<|.inl (noB,0,())) else if U (60<a.1.1) then I (.inr<|.inl (noB,0,())) else if U ((x.1.size:Int)<(w64<|(w64<|x.2.1+2)+a.1.1)) then I (.inr<|.inl (noB,0,())) else if inb (w64<|(w64<|x.2.1+1)+a.1.1) x.1.size then if !decide ((bt x.1<|w64<|(w64<|x.2.1+1)+a.1.1)=59) then I (.inr<|.inl (noB,0,())) else if(U (0<=(w64<|(w64<|x.2.1+1)+a.1.1))&&U ((w64<|(w64<|x.2.1+1)+a.1.1)<=(x.1.size:Int)))&&(U (0<=(w64<|x.2.1+1))&&U ((w64<|x.2.1+1)<=(w64<|(w64<|x.2.1+1)+a.1.1))) then let b:=(x.1.extract (AJ<|w64<|x.2.1+1)<|AJ<|w64<|(w64<|x.2.1+1)+a.1.1);let c:=(w64<|(w64<|x.2.1+2)+a.1.1);I (.inr<|.inl (b,c,())) else G else G else G else G else I (.inr<|.inr ())
def sP:=AT O2
def yz:Loop:=⟨[(0,.str),(4,j6)],[],0,[(2,.str),(3,j6)],sP⟩
def anV:LF f77 [] [1,0,1,0,0] yz:=sq (v:= .nil) aBZ (b:=O2) kN
def gn(x:A1×D):Option ((A1×v7)×D):=(AP (sP (x.1,0,())) (λa=>I (a,())) λa=>I ((noB,0,()),()))
def aAo:Ent:=(77,G,⟨[.str],[.str,j6],gn⟩)
def agL:y7 aAo:=sk (v:=t1<|.two (t1<|.one<|.loop yz) .nil) (fn:=f77) aBZ<|kC anV kN
def ahd:Cx:=cX [aAo] [] []
def xU:y9 ahd:=aG5<|gC agL<|AI
def Ro(x:A1×List A1×v7):Rnd (A1×List A1×v7) (List A1×v7) (List A1×v7):=if U (x.2.2.1<(x.1.size:Int)) then if U (0<=x.2.2.1)&&U (x.2.2.1<=(x.1.size:Int)) then(gn ((x.1.extract (AJ x.2.2.1)<|x.1.size),())).bind λa=>if U (a.1.2.1=0) then I (.inr<|.inl x.2) else if Ab (x.2.1.length+([a.1.1]:List A1).length) then let b:=(w64<|x.2.2.1+a.1.2.1);I (.inl (x.1,(x.2.1++([a.1.1]:List A1)),b,())) else G else G else I (.inr<|.inr x.2)
def ql:=AT Ro
def uX:Loop:=⟨[(0,.str),(4,.row 9 .str),(5,j6)],[(4,.row 9 .str),(5,j6)],0,[(2,.row 9 .str),(3,j6)],ql⟩
def ago:LF f46 [] [1,1,1,0,0,0] uX:=sq (v:= .nil) xU (b:=Ro) kN
def Lg(x:A1×D):Option ((List A1×v7)×D):=(AP (ql (x.1,([]:List A1),0,())) (λa=>I (a,())) λa=>I (a,()))
def VZ:Ent:=(46,G,⟨[.str],[.row 9 .str,j6],Lg⟩)
def cB:y7 VZ:=sk (v:=t1<|t1<|t1<|.two (.one<|.loop uX) .nil) (fn:=f46) xU<|kC ago kN
def ajB:Cx:=cX [Gv] [] []
def alP:y9 ajB:=aG5<|gC HQ<|AI
def FQ(x:v7):Option ((Bool×D)×D):=(DC (x.1,0,3,())).bind λa=>I (a.1,())
def IV:Ent:=(34,G,⟨[j6],[.bool],FQ⟩)
def JA:y7 IV:=sk (v:= .nil) (fn:=f34) alP kN
def ahL:Cx:=cX [IV] [] []
def aj3:y9 ahL:=aG5<|gC JA<|AI
def eF(x:v7):Option ((Y0×D)×D):=(FQ x).bind λa=>if !a.1.1 then I (((0,0,0,([]:List A3),([]:List Mark),([]:List A3),()),()),()) else I (((x.1,0,1,([]:List A3),([]:List Mark),([]:List A3),()),()),())
def xm:Ent:=(78,G,⟨[j6],[Z0],eF⟩)
def aeP:y7 xm:=sk (v:= .nil) (fn:=f78) aj3 kN
def aoO:Cx:=cX [Gv,IV] [] [(51,55)]
def aBa:y9 aoO:=aG5<|gC HQ<|gC JA<|AI
def fl(x:Y1×v7):Rnd (Y1×v7) (Bool×D) D:=if U (x.2.1<(x.1.2.2.2.2.1.size:Int)) then if inb x.2.1 x.1.2.2.2.2.1.size then if Ak (!(U<|(bt x.1.2.2.2.2.1 x.2.1)<32)) (inb x.2.1 x.1.2.2.2.2.1.size) then if(U<|(bt x.1.2.2.2.2.1 x.2.1)<32)||(U<|126<(bt x.1.2.2.2.2.1 x.2.1)) then I (.inr<|.inl (A0,())) else I (.inl (x.1,(w64<|x.2.1+1),())) else G else G else I (.inr<|.inr ())
def sQ:=AT fl
def z7:Loop:=⟨[(1,Z1),(3,j6)],[],0,[(2,.bool)],sQ⟩
def anW:LF f35 [] [1,1,0,1,0,0] z7:=sq (v:= .nil) aBa (b:=fl) kN
def O8(x:Y1×D):Option ((Bool×D)×D):=(FQ (x.1.1,())).bind λb=>if !b.1.1 then I ((A0,()),()) else(FQ (x.1.2.2.1,())).bind λc=>if !c.1.1 then I ((A0,()),()) else(DC (x.1.2.1,1,99,())).bind λd=>if !d.1.1 then I ((A0,()),()) else(DC (x.1.2.2.2.1,1,999,())).bind λe=>if !e.1.1 then I ((A0,()),()) else if U ((x.1.2.2.2.2.1.size:Int)<1) then I ((A0,()),()) else if U (24<(x.1.2.2.2.2.1.size:Int)) then I ((A0,()),()) else(AP (sQ (x.1,0,())) (λa=>I (a,())) λa=>I ((Y,()),()))
def Wo:Ent:=(35,G,⟨[Z2],[.bool],O8⟩)
def dL:y7 Wo:=sk (v:=t1<|t1<|.two (t1<|.one<|.loop z7) .nil) (fn:=f35) aBa<|kC anW kN
def ajy:Cx:=cX [] [] [(13,20)]
def aoH:y9 ajy:=aG5<|AI
def Mr(x:Int×aHc):Option ((Bool×D)×D):=let a:=((U<|x.1<x.2.2.1)||((U<|x.1=x.2.2.1)&&(U<|x.2.1<x.2.2.2.1)));I ((a,()),())
def WE:Ent:=(186,G,⟨[j6,j6,j6,j6],[.bool],Mr⟩)
def cd:y7 WE:=sk (v:= .nil) (fn:=f186) aoH kN
def ajH:Cx:=cX [Wo,WE] [] [(23,50)]
def zc:y9 ajH:=aG5<|gC dL<|gC cd<|AI
def dx(x:List A3×v7):Rnd (List A3×v7) (Bool×D) D:=if U (x.2.1<(j8 x.1:Int)) then if inb x.2.1 x.1.length then(O8 (((rd aG6 x.1 x.2.1).fr,(rd aG6 x.1 x.2.1).nu,(rd aG6 x.1 x.2.1).to,(rd aG6 x.1 x.2.1).un,(rd aG6 x.1 x.2.1).tx,()),())).bind λa=>if Ak ((!(!a.1.1))&&(U<|0<x.2.1)) (inb (w64<|x.2.1 - 1) x.1.length) then if Ak ((!(!a.1.1))&&(U<|0<x.2.1)) (inb (w64<|x.2.1 - 1) x.1.length) then if Ak ((!(!a.1.1))&&(U<|0<x.2.1)) (inb x.2.1 x.1.length) then if Ak ((!(!a.1.1))&&(U<|0<x.2.1)) (inb x.2.1 x.1.length) then if Ak ((!(!a.1.1))&&(U<|0<x.2.1)) ((Mr ((rd aG6 x.1<|w64<|x.2.1 - 1).fr,(rd aG6 x.1<|w64<|x.2.1 - 1).nu,(rd aG6 x.1 x.2.1).fr,(rd aG6 x.1 x.2.1).nu,())).isSome) then if(!a.1.1)||((U<|0<x.2.1)&&(!(((Mr ((rd aG6 x.1<|w64<|x.2.1 - 1).fr,(rd aG6 x.1<|w64<|x.2.1 - 1).nu,(rd aG6 x.1 x.2.1).fr,(rd aG6 x.1 x.2.1).nu,())).getD ((A0,()),())).1.1))) then I (.inr<|.inl (A0,())) else I (.inl (x.1,(w64<|x.2.1+1),())) else G else G else G else G else G else G else I (.inr<|.inr ())
def qw:=AT dx
def vk:Loop:=⟨[(0,.sl .note),(5,j6)],[],0,[(4,.bool)],qw⟩
def aiY:LF f136 [] [1,1,0,1,0,0] vk:=sq (v:= .nil) zc (b:=dx) kN
def W8(x:List A3×v7):Option ((Bool×D)×D):=if U (x.2.1<(j8 x.1:Int)) then I ((A0,()),()) else(AP (qw (x.1,0,())) (λa=>I (a,())) λa=>I ((Y,()),()))
def zJ:Ent:=(136,G,⟨[.fz .note,j6],[.bool],W8⟩)
def aem:y7 zJ:=sk (v:=t1<|t1<|.two (t1<|.one<|.loop vk) .nil) (fn:=f136) zc<|kC aiY kN
def ajI:Cx:=cX [Gv,IV,WE] [] []
def zd:y9 ajI:=aG5<|gC HQ<|gC JA<|gC cd<|AI
def dy(x:List Mark×v7):Rnd (List Mark×v7) (Bool×D) D:=if U (x.2.1<(j8 x.1:Int)) then if inb x.2.1 x.1.length then let a:=(rd aHg x.1 x.2.1).mf;let b:=(rd aHg x.1 x.2.1).mn;let c:=(rd aHg x.1 x.2.1).mu;(FQ (a,())).bind λd=>if !d.1.1 then I (.inr<|.inl (A0,())) else(DC (b,1,99,())).bind λe=>if !e.1.1 then I (.inr<|.inl (A0,())) else(DC (c,1,999,())).bind λf=>if !f.1.1 then I (.inr<|.inl (A0,())) else if U (0<x.2.1) then if inb (w64<|x.2.1 - 1) x.1.length then if inb (w64<|x.2.1 - 1) x.1.length then(Mr ((rd aHg x.1<|w64<|x.2.1 - 1).mf,(rd aHg x.1<|w64<|x.2.1 - 1).mn,a,b,())).bind λg=>if !g.1.1 then I (.inr<|.inl (A0,())) else I (.inl (x.1,(w64<|x.2.1+1),())) else G else G else I (.inl (x.1,(w64<|x.2.1+1),())) else G else I (.inr<|.inr ())
def qx:=AT dy
def vl:Loop:=⟨[(0,.sl .mark),(3,j6)],[],0,[(2,.bool)],qx⟩
def aiZ:LF f137 [] [1,1,0,1,0,0] vl:=sq (v:= .nil) zd (b:=dy) kN
def eR(x:List Mark×D):Option ((Bool×D)×D):=if U (12<(j8 x.1:Int)) then I ((A0,()),()) else(AP (qx (x.1,0,())) (λa=>I (a,())) λa=>I ((Y,()),()))
def zL:Ent:=(137,G,⟨[.fz .mark],[.bool],eR⟩)
def aen:y7 zL:=sk (v:=t1<|t1<|.two (t1<|.one<|.loop vl) .nil) (fn:=f137) zd<|kC aiZ kN
def aoI:Cx:=cX [] [] [(16,25)]
def apg:y9 aoI:=aG5<|AI
def gh(x:Y1×v7):Option ((Bool×D)×D):=if U (x.1.1<=x.2.1) then let a:=((U<|x.2.1<x.1.2.2.1)||((U<|x.1.2.2.1<x.2.1)&&(U<|x.2.1<=x.1.1)));I ((a,()),()) else let b:=((U<|x.1.2.2.1<x.2.1)&&(U<|x.2.1<=x.1.1));I ((b,()),())
def aAk:Ent:=(138,G,⟨[Z2,j6],[.bool],gh⟩)
def agH:y7 aAk:=sk (v:= .nil) (fn:=f138) apg kN
def ajx:Cx:=cX [] [] [(22,28)]
def aAL:y9 ajx:=aG5<|AI
def fK(x:List Mark×aHc):Rnd (List Mark×aHc) (v7) D:=if U (x.2.2.2.1<(j8 x.1:Int)) then if inb x.2.2.2.1 x.1.length then if Ak (U<|(rd aHg x.1 x.2.2.2.1).mf=x.2.1) (inb x.2.2.2.1 x.1.length) then if(U<|(rd aHg x.1 x.2.2.2.1).mf=x.2.1)&&(U<|(rd aHg x.1 x.2.2.2.1).mn=x.2.2.1) then I (.inr<|.inl x.2.2.2) else I (.inl (x.1,x.2.1,x.2.2.1,(w64<|x.2.2.2.1+1),())) else G else G else I (.inr<|.inr ())
def rL:=AT fK
def x8:Loop:=⟨[(0,.sl .mark),(1,j6),(2,j6),(7,j6)],[],0,[(6,j6)],rL⟩
def akW:LF f139 [] [1,0,1,0,0] x8:=sq (v:= .nil) aAL (b:=fK) kN
def Ko(x:List Mark×aG7):Option ((v7)×D):=(AP (rL (x.1,x.2.1,x.2.2.1,0,())) (λa=>I (a,())) λa=>I (((-1),()),()))
def WU:Ent:=(139,G,⟨[.fz .mark,j6,j6],[j6],Ko⟩)
def cc:y7 WU:=sk (v:=t1<|.two (t1<|.one<|.loop x8) .nil) (fn:=f139) aAL<|kC akW kN
def aoQ:Cx:=cX [Gv,IV,zJ,zL,aAk,WU] [] [(109,120)]
def iC:y9 aoQ:=aG5<|gC HQ<|gC JA<|gC aem<|gC aen<|gC agH<|gC cc<|AI
def fa(x:Y0×v7):Rnd (Y0×v7) (Bool×D) D:=if U (x.2.1<(j8 x.1.2.2.2.2.2.1:Int)) then if inb x.2.1 x.1.2.2.2.2.2.1.length then let pq:=(rd aG6 x.1.2.2.2.2.2.1 x.2.1).fr;let a:=(rd aG6 x.1.2.2.2.2.2.1 x.2.1).nu;let po:=(rd aG6 x.1.2.2.2.2.2.1 x.2.1).to;let b:=(rd aG6 x.1.2.2.2.2.2.1 x.2.1).un;let acN:=(rd aG6 x.1.2.2.2.2.2.1 x.2.1).tx;(if !decide (po=x.1.1) then I (.inr<|.inl (A0,())) else if U (pq=x.1.1) then if U (x.1.2.2.1<=a) then I (.inr<|.inl (A0,())) else if U (x.1.2.1<b) then(Ko (x.1.2.2.2.2.1,pq,a,())).bind λbT=>if U (bT.1.1<0) then I (.inr<|.inl (A0,())) else I (.inl (x.1,(w64<|x.2.1+1),())) else I (.inl (x.1,(w64<|x.2.1+1),())) else if U (x.1.2.1<b) then(Ko (x.1.2.2.2.2.1,pq,a,())).bind λamE=>if U (amE.1.1<0) then I (.inr<|.inl (A0,())) else I (.inl (x.1,(w64<|x.2.1+1),())) else I (.inl (x.1,(w64<|x.2.1+1),()))) else G else I (.inr<|.inr ())
def sU:=AT fa
def yT:Loop:=⟨[(1,Z3),(7,j6)],[],4,[(2,.bool)],sU⟩
def alb:LF f99 [] [1,1,1,1,0,1,0,0] yT:=sq (v:= .nil) iC (b:=fa) kN
def fb(x:Y0×v7):Rnd (Y0×v7) (Bool×D) (Y0×D):=if U (x.2.1<(j8 x.1.2.2.2.2.1:Int)) then if inb x.2.1 x.1.2.2.2.2.1.length then let a:=(rd aHg x.1.2.2.2.2.1 x.2.1).mf;let b:=(rd aHg x.1.2.2.2.2.1 x.2.1).mn;let c:=(rd aHg x.1.2.2.2.2.1 x.2.1).mu;if(U<|c<=x.1.2.1)||((U<|a=x.1.1)&&(U<|x.1.2.2.1<=b)) then I (.inr<|.inl (A0,())) else I (.inl (x.1,(w64<|x.2.1+1),())) else G else I (.inr<|.inr (x.1,()))
def sJ:=AT fb
def yU:Loop:=⟨[(1,Z3),(5,j6)],[(1,Z3)],2,[(2,.bool)],sJ⟩
def ale:LF f99 [] [1,1,1,0,1,0,0] yU:=sq (v:= .nil) iC (b:=fb) kN
def fc(x:Y0×v7):Rnd (Y0×v7) (Bool×D) (Y0×D):=if U (x.2.1<(j8 x.1.2.2.2.1:Int)) then if inb x.2.1 x.1.2.2.2.1.length then let a:=(rd aG6 x.1.2.2.2.1 x.2.1).fr;let b:=(rd aG6 x.1.2.2.2.1 x.2.1).nu;let d:=(rd aG6 x.1.2.2.2.1 x.2.1).to;let c:=(rd aG6 x.1.2.2.2.1 x.2.1).un;let e:=(rd aG6 x.1.2.2.2.1 x.2.1).tx;if U (c<=x.1.2.1) then I (.inr<|.inl (A0,())) else(gh ((a,b,d,c,e,()),x.1.1,())).bind λf=>if !f.1.1 then I (.inr<|.inl (A0,())) else if U (a=x.1.1) then if U (x.1.2.2.1<=b) then I (.inr<|.inl (A0,())) else(Ko (x.1.2.2.2.2.1,a,b,())).bind λg=>if U (0<=g.1.1) then I (.inr<|.inl (A0,())) else I (.inl (x.1,(w64<|x.2.1+1),())) else(Ko (x.1.2.2.2.2.1,a,b,())).bind λh=>if U (0<=h.1.1) then I (.inr<|.inl (A0,())) else I (.inl (x.1,(w64<|x.2.1+1),())) else G else I (.inr<|.inr (x.1,()))
def sK:=AT fc
def yV:Loop:=⟨[(1,Z3),(3,j6)],[(1,Z3)],0,[(2,.bool)],sK⟩
def anY:LF f99 [] [1,1,0,1,0,0] yV:=sq (v:= .nil) iC (b:=fc) kN
def Px(x:Y0×D):Option ((Bool×D)×D):=(FQ (x.1.1,())).bind λc=>if !c.1.1 then I ((A0,()),()) else(DC (x.1.2.1,0,999,())).bind λd=>if !d.1.1 then I ((A0,()),()) else(DC (x.1.2.2.1,1,100,())).bind λe=>if !e.1.1 then I ((A0,()),()) else(W8 (x.1.2.2.2.1,6,())).bind λf=>if !f.1.1 then I ((A0,()),()) else(eR (x.1.2.2.2.2.1,())).bind λg=>if !g.1.1 then I ((A0,()),()) else(W8 (x.1.2.2.2.2.2.1,6,())).bind λh=>if !h.1.1 then I ((A0,()),()) else(AP (sK (x.1,0,())) (λa=>I (a,())) λa=>(AP (sJ (a.1,0,())) (λb=>I (b,())) λb=>(AP (sU (b.1,0,())) (λacL=>I (acL,())) λacL=>I ((Y,()),()))))
def jS:Ent:=(99,G,⟨[Z4],[.bool],Px⟩)
def vu:y7 jS:=sk (v:=t1<|t1<|.two (t1<|.one<|.loop yV)<|.two (t1<|.one<|.loop yU)<|.two (t1<|.one<|.loop yT) .nil) (fn:=f99) iC<|kC anY<|kC ale<|kC alb kN
def anB:Cx:=cX [] [] []
def aBV:y9 anB:=aG5<|AI
def fY(x:A1×v7):Rnd (A1×v7) (A1×A1×D) (A1×D):=if U (x.2.1<(x.1.size:Int)) then if inb x.2.1 x.1.size then if U ((bt x.1 x.2.1)=32) then if U (0<=x.2.1)&&U (x.2.1<=(x.1.size:Int)) then if U (0<=(w64<|x.2.1+1))&&U ((w64<|x.2.1+1)<=(x.1.size:Int)) then let a:=(x.1.extract (0)<|AJ x.2.1);let b:=(x.1.extract (AJ<|w64<|x.2.1+1)<|x.1.size);I (.inr<|.inl (a,b,())) else G else G else I (.inl (x.1,(w64<|x.2.1+1),())) else G else I (.inr<|.inr (x.1,()))
def sC:=AT fY
def yu:Loop:=⟨[(0,.str),(4,j6)],[(0,.str)],0,[(2,.str),(3,.str)],sC⟩
def anR:LF f140 [] [1,0,1,0,0] yu:=sq (v:= .nil) aBV (b:=fY) kN
def O6(x:A1×D):Option ((A1×A1×D)×D):=(AP (sC (x.1,0,())) (λa=>I (a,())) λa=>I ((a.1,noB,()),()))
def jQ:Ent:=(140,G,⟨[.str],[.str,.str],O6⟩)
def vi:y7 jQ:=sk (v:=t1<|.two (t1<|.one<|.loop yu) .nil) (fn:=f140) aBV<|kC anR kN
def ajv:Cx:=cX [] [] []
def ia:y9 ajv:=aG5<|AI
def eP(x:Int×Y0×Y0×List A3×List Mark×v7):Rnd (Int×Y0×Y0×List A3×List Mark×v7) D (Int×Y0×Y0×List A3×List Mark×D):=if U (x.2.2.2.2.2.1<(j8 x.2.1.2.2.2.2.1:Int)) then if inb x.2.2.2.2.2.1 x.2.1.2.2.2.2.1.length then if U (x.1<(rd aHg x.2.1.2.2.2.2.1 x.2.2.2.2.2.1).mu) then if inb x.2.2.2.2.2.1 x.2.1.2.2.2.2.1.length then if Ab (x.2.2.2.2.1.length+([(rd aHg x.2.1.2.2.2.2.1 x.2.2.2.2.2.1)]:List Mark).length) then let a:=(w64<|x.2.2.2.2.2.1+1);I (.inl (x.1,x.2.1,x.2.2.1,x.2.2.2.1,(x.2.2.2.2.1++([(rd aHg x.2.1.2.2.2.2.1 x.2.2.2.2.2.1)]:List Mark)),a,())) else G else G else let b:=(w64<|x.2.2.2.2.2.1+1);I (.inl (x.1,x.2.1,x.2.2.1,x.2.2.2.1,x.2.2.2.2.1,b,())) else G else I (.inr<|.inr (x.1,x.2.1,x.2.2.1,x.2.2.2.1,x.2.2.2.2.1,()))
def rJ:=AT eP
def wy:Loop:=⟨[(1,j6),(2,Z3),(4,Z5),(5,.row 59 .note),(7,.row 95 .mark),(8,j6)],[(1,j6),(2,Z3),(4,Z5),(5,.row 59 .note),(7,.row 95 .mark)],2,[],rJ⟩
def ajb:LF f141 [] [1,1,1,1,0,1,0,0] wy:=sq (v:= .nil) ia (b:=eP) kN
def eQ(x:Int×Y0×Y0×List A3×v7):Rnd (Int×Y0×Y0×List A3×v7) D (Int×Y0×Y0×List A3×D):=if U (x.2.2.2.2.1<(j8 x.2.1.2.2.2.1:Int)) then if inb x.2.2.2.2.1 x.2.1.2.2.2.1.length then if U (x.1<(rd aG6 x.2.1.2.2.2.1 x.2.2.2.2.1).un) then if inb x.2.2.2.2.1 x.2.1.2.2.2.1.length then if Ab (x.2.2.2.1.length+([(rd aG6 x.2.1.2.2.2.1 x.2.2.2.2.1)]:List A3).length) then I (.inl (x.1,x.2.1,x.2.2.1,(x.2.2.2.1++([(rd aG6 x.2.1.2.2.2.1 x.2.2.2.2.1)]:List A3)),(w64<|x.2.2.2.2.1+1),())) else G else G else I (.inl (x.1,x.2.1,x.2.2.1,x.2.2.2.1,(w64<|x.2.2.2.2.1+1),())) else G else I (.inr<|.inr (x.1,x.2.1,x.2.2.1,x.2.2.2.1,()))
def rK:=AT eQ
def wz:Loop:=⟨[(1,j6),(2,Z3),(4,Z5),(5,.row 59 .note),(6,j6)],[(1,j6),(2,Z3),(4,Z5),(5,.row 59 .note)],0,[],rK⟩
def akV:LF f141 [] [1,1,0,1,0,0] wz:=sq (v:= .nil) ia (b:=eQ) kN
def fj(x:Y0×v7):Option ((Y0×D)×D):=(AP (rK (x.2.1,x.1,(0,0,0,([]:List A3),([]:List Mark),([]:List A3),()),([]:List A3),0,())) (λ_=>G) λb=>(AP (rJ (b.1,b.2.1,b.2.2.1,b.2.2.2.1,([]:List Mark),0,())) (λ_=>G) λa=>I (((a.2.1.1,a.1,a.2.1.2.2.1,a.2.2.2.1,a.2.2.2.2.1,a.2.1.2.2.2.2.2),()),())))
def aAY:Ent:=(141,G,⟨[Z4,j6],[Z4],fj⟩)
def afK:y7 aAY:=sk (v:=t1<|t1<|.two (t1<|.one<|.loop wz)<|t1<|.two (t1<|.one<|.loop wy) .nil) (fn:=f141) ia<|kC akV<|kC ajb kN
def ahG:Cx:=cX [Wo,Mu] [] []
def aiz:y9 ahG:=aG5<|gC dL<|gC Nv<|AI
def KZ(x:Y1×D):Option ((A1×D)×D):=(O8 x).bind λe=>if !e.1.1 then I ((noB,()),()) else(DK (x.1.1,())).bind λa=>if U (a.1.1.size+(B [32]).size<=4611686018427387904) then(DK (x.1.2.1,())).bind λb=>if U ((a.1.1++(B [32])).size+b.1.1.size<=4611686018427387904) then if U (((a.1.1++(B [32]))++b.1.1).size+(B [32]).size<=4611686018427387904) then(DK (x.1.2.2.1,())).bind λc=>if U ((((a.1.1++(B [32]))++b.1.1)++(B [32])).size+c.1.1.size<=4611686018427387904) then if U (((((a.1.1++(B [32]))++b.1.1)++(B [32]))++c.1.1).size+(B [32]).size<=4611686018427387904) then(DK (x.1.2.2.2.1,())).bind λd=>if U ((((((a.1.1++(B [32]))++b.1.1)++(B [32]))++c.1.1)++(B [32])).size+d.1.1.size<=4611686018427387904) then if U (((((((a.1.1++(B [32]))++b.1.1)++(B [32]))++c.1.1)++(B [32]))++d.1.1).size+(B [32]).size<=4611686018427387904) then if U ((((((((a.1.1++(B [32]))++b.1.1)++(B [32]))++c.1.1)++(B [32]))++d.1.1)++(B [32])).size+x.1.2.2.2.2.1.size<=4611686018427387904) then let f:=((((((((a.1.1++(B [32]))++b.1.1)++(B [32]))++c.1.1)++(B [32]))++d.1.1)++(B [32]))++x.1.2.2.2.2.1);I ((f,()),()) else G else G else G else G else G else G else G else G
def S2:Ent:=(122,G,⟨[Z2],[.str],KZ⟩)
def Uy:y7 S2:=sk (v:= .nil) (fn:=f122) aiz kN
def anC:Cx:=cX [XS,jQ] [] []
def aBW:y9 anC:=aG5<|gC tH<|gC vi<|AI
def ff(x:A1×Int×List Int×v7):Rnd (A1×Int×List Int×v7) D (A1×List Int×D):=if U (x.2.2.2.1<x.2.1) then(O6 (x.1,())).bind λa=>(Q1 (a.1.1,())).bind λb=>if Ab (x.2.2.1.length+([b.1.1]:List Int).length) then I (.inl (a.1.2.1,x.2.1,(x.2.2.1++([b.1.1]:List Int)),(w64<|x.2.2.2.1+1),())) else G else I (.inr<|.inr (x.1,x.2.2.1,()))
def sE:=AT ff
def yv:Loop:=⟨[(0,.str),(1,j6),(6,.row 3 .int),(7,j6)],[(0,.str),(6,.row 3 .int)],0,[],sE⟩
def anS:LF f146 [] [1,1,0,1,0,0] yv:=sq (v:= .nil) aBW (b:=ff) kN
def Pw(x:A1×v7):Option ((List Int×A1×D)×D):=(AP (sE (x.1,x.2.1,([]:List Int),0,())) (λ_=>G) λa=>I ((a.2.1,a.1,()),()))
def jR:Ent:=(146,G,⟨[.str,j6],[.row 3 .int,.str],Pw⟩)
def vj:y7 jR:=sk (v:=t1<|t1<|.two (t1<|.one<|.loop yv) .nil) (fn:=f146) aBW<|kC anS kN
def ajN:Cx:=cX [S2,jR] [] [(29,32)]
def akq:y9 ajN:=aG5<|gC Uy<|gC vj<|AI
def S6(x:A1×D):Option ((Y1×Bool×D)×D):=(Pw (x.1,4,())).bind λa=>if inb 0 a.1.1.length then if inb 1 a.1.1.length then if inb 2 a.1.1.length then if inb 3 a.1.1.length then if Ak (!(U<|x.1=noB)) ((KZ (((rd aHb a.1.1 0),(rd aHb a.1.1 1),(rd aHb a.1.1 2),(rd aHb a.1.1 3),a.1.2),())).isSome) then if(U<|x.1=noB)||(!decide (((KZ (((rd aHb a.1.1 0),(rd aHb a.1.1 1),(rd aHb a.1.1 2),(rd aHb a.1.1 3),a.1.2),())).getD ((noB,()),())).1.1=x.1)) then I (((0,0,0,0,noB,()),A0,()),()) else I ((((rd aHb a.1.1 0),(rd aHb a.1.1 1),(rd aHb a.1.1 2),(rd aHb a.1.1 3),a.1.2),Y,()),()) else G else G else G else G else G
def zO:Ent:=(142,G,⟨[.str],[Z2,.bool],S6⟩)
def aep:y7 zO:=sk (v:= .nil) (fn:=f142) akq kN
def afn:Cx:=cX [WE] [] [(18,32)]
def wK:y9 afn:=aG5<|gC cd<|AI
def cZ(x:List A3×Y1×List A3×Bool×v7):Rnd (List A3×Y1×List A3×Bool×v7) D (Y1×List A3×Bool×D):=if U (x.2.2.2.2.1<(j8 x.1:Int)) then(BU (X:=List A3×Y1×List A3×Bool×v7) (λa=>if inb a.2.2.2.2.1 a.1.length then if Ab (a.2.2.1.length+([(rd aG6 a.1 a.2.2.2.2.1)]:List A3).length) then I (.inl (a.1,a.2.1,(a.2.2.1++([(rd aG6 a.1 a.2.2.2.2.1)]:List A3)),a.2.2.2.1,(w64<|a.2.2.2.2.1+1),())) else G else G)<|(if Ak (!x.2.2.2.1) (inb x.2.2.2.2.1 x.1.length) then if Ak (!x.2.2.2.1) (inb x.2.2.2.2.1 x.1.length) then if Ak (!x.2.2.2.1) ((Mr (x.2.1.1,x.2.1.2.1,(rd aG6 x.1 x.2.2.2.2.1).fr,(rd aG6 x.1 x.2.2.2.2.1).nu,())).isSome) then if(!x.2.2.2.1)&&(((Mr (x.2.1.1,x.2.1.2.1,(rd aG6 x.1 x.2.2.2.2.1).fr,(rd aG6 x.1 x.2.2.2.2.1).nu,())).getD ((A0,()),())).1.1) then if Ab (x.2.2.1.length+([(A3.mk x.2.1.1 x.2.1.2.1 x.2.1.2.2.1 x.2.1.2.2.2.1 x.2.1.2.2.2.2.1)]:List A3).length) then I (.inr (x.1,x.2.1,(x.2.2.1++([(A3.mk x.2.1.1 x.2.1.2.1 x.2.1.2.2.1 x.2.1.2.2.2.1 x.2.1.2.2.2.2.1)]:List A3)),Y,x.2.2.2.2)) else G else I (.inr x) else G else G else G)) else I (.inr<|.inr (x.2.1,x.2.2.1,x.2.2.2.1,()))
def qQ:=AT cZ
def adL:Loop:=⟨[(0,.sl .note),(3,Z1),(5,.row 59 .note),(6,.bool),(7,j6)],[(3,Z1),(5,.row 59 .note),(6,.bool)],0,[],qQ⟩
def ag5:LF f145 [] [1,1,1,0,1,0,0] adL:=sq (v:=t1<|.two (.one<|.join [(0,.sl .note),(3,Z1),(5,.row 59 .note),(6,.bool),(7,j6)] .nil .nil) .nil) wK (b:=cZ) kN
def Pe(x:List A3×Y1×D):Option ((List A3×D)×D):=(AP (qQ (x.1,x.2.1,([]:List A3),A0,0,())) (λ_=>G) λa=>(if !a.2.2.1 then if Ab (a.2.1.length+([(A3.mk a.1.1 a.1.2.1 a.1.2.2.1 a.1.2.2.2.1 a.1.2.2.2.2.1)]:List A3).length) then I (((a.2.1++([(A3.mk a.1.1 a.1.2.1 a.1.2.2.1 a.1.2.2.2.1 a.1.2.2.2.2.1)]:List A3)),()),()) else G else I ((a.2.1,()),())))
def sd:Ent:=(145,G,⟨[.fz .note,Z2],[.row 59 .note],Pe⟩)
def acm:y7 sd:=sk (v:=t1<|t1<|t1<|.two (t1<|.one<|.loop adL) .nil) (fn:=f145) wK<|kC ag5 kN
def afo:Cx:=cX [WE] [] [(18,32)]
def wL:y9 afo:=aG5<|gC cd<|AI
def cb(x:List Mark×Y2×List Mark×Bool×v7):Rnd (List Mark×Y2×List Mark×Bool×v7) D (Y2×List Mark×Bool×D):=if U (x.2.2.2.2.1<(j8 x.1:Int)) then(BU (X:=List Mark×Y2×List Mark×Bool×v7) (λa=>if inb a.2.2.2.2.1 a.1.length then if Ab (a.2.2.1.length+([(rd aHg a.1 a.2.2.2.2.1)]:List Mark).length) then I (.inl (a.1,a.2.1,(a.2.2.1++([(rd aHg a.1 a.2.2.2.2.1)]:List Mark)),a.2.2.2.1,(w64<|a.2.2.2.2.1+1),())) else G else G)<|(if Ak (!x.2.2.2.1) (inb x.2.2.2.2.1 x.1.length) then if Ak (!x.2.2.2.1) (inb x.2.2.2.2.1 x.1.length) then if Ak (!x.2.2.2.1) ((Mr (x.2.1.1,x.2.1.2.1,(rd aHg x.1 x.2.2.2.2.1).mf,(rd aHg x.1 x.2.2.2.2.1).mn,())).isSome) then if(!x.2.2.2.1)&&(((Mr (x.2.1.1,x.2.1.2.1,(rd aHg x.1 x.2.2.2.2.1).mf,(rd aHg x.1 x.2.2.2.2.1).mn,())).getD ((A0,()),())).1.1) then if Ab (x.2.2.1.length+([(Mark.mk x.2.1.1 x.2.1.2.1 x.2.1.2.2.1)]:List Mark).length) then I (.inr (x.1,x.2.1,(x.2.2.1++([(Mark.mk x.2.1.1 x.2.1.2.1 x.2.1.2.2.1)]:List Mark)),Y,x.2.2.2.2)) else G else I (.inr x) else G else G else G)) else I (.inr<|.inr (x.2.1,x.2.2.1,x.2.2.2.1,()))
def qS:=AT cb
def adM:Loop:=⟨[(0,.sl .mark),(3,Z6),(5,.row 95 .mark),(6,.bool),(7,j6)],[(3,Z6),(5,.row 95 .mark),(6,.bool)],0,[],qS⟩
def ag6:LF f149 [] [1,1,1,0,1,0,0] adM:=sq (v:=t1<|.two (.one<|.join [(0,.sl .mark),(3,Z6),(5,.row 95 .mark),(6,.bool),(7,j6)] .nil .nil) .nil) wL (b:=cb) kN
def Rm(x:List Mark×Y2×D):Option ((List Mark×D)×D):=(AP (qS (x.1,x.2.1,([]:List Mark),A0,0,())) (λ_=>G) λa=>(if !a.2.2.1 then if Ab (a.2.1.length+([(Mark.mk a.1.1 a.1.2.1 a.1.2.2.1)]:List Mark).length) then I (((a.2.1++([(Mark.mk a.1.1 a.1.2.1 a.1.2.2.1)]:List Mark)),()),()) else G else I ((a.2.1,()),())))
def dR:Ent:=(149,G,⟨[.fz .mark,Z7],[.row 95 .mark],Rm⟩)
def qR:y7 dR:=sk (v:=t1<|t1<|t1<|.two (t1<|.one<|.loop adM) .nil) (fn:=f149) wL<|kC ag6 kN
def ajz:Cx:=cX [] [] [(22,28)]
def aAM:y9 ajz:=aG5<|AI
def fL(x:List A3×aHc):Rnd (List A3×aHc) (v7) D:=if U (x.2.2.2.1<(j8 x.1:Int)) then if inb x.2.2.2.1 x.1.length then if Ak (U<|(rd aG6 x.1 x.2.2.2.1).fr=x.2.1) (inb x.2.2.2.1 x.1.length) then if(U<|(rd aG6 x.1 x.2.2.2.1).fr=x.2.1)&&(U<|(rd aG6 x.1 x.2.2.2.1).nu=x.2.2.1) then I (.inr<|.inl x.2.2.2) else I (.inl (x.1,x.2.1,x.2.2.1,(w64<|x.2.2.2.1+1),())) else G else G else I (.inr<|.inr ())
def ru:=AT fL
def x9:Loop:=⟨[(0,.sl .note),(1,j6),(2,j6),(7,j6)],[],0,[(6,j6)],ru⟩
def akX:LF f144 [] [1,0,1,0,0] x9:=sq (v:= .nil) aAM (b:=fL) kN
def G5(x:List A3×aG7):Option ((v7)×D):=(AP (ru (x.1,x.2.1,x.2.2.1,0,())) (λa=>I (a,())) λa=>I (((-1),()),()))
def Mq:Ent:=(144,G,⟨[.fz .note,j6,j6],[j6],G5⟩)
def Nw:y7 Mq:=sk (v:=t1<|.two (t1<|.one<|.loop x9) .nil) (fn:=f144) aAM<|kC akX kN
def ajJ:Cx:=cX [Wo,WU,Mq] [] [(35,42)]
def akm:y9 ajJ:=aG5<|gC dL<|gC cc<|gC Nw<|AI
def fM(x:Y0×Y1×D):Option ((Bool×D)×D):=(O8 x.2).bind λb=>if b.1.1 then if U (x.1.2.1<x.2.1.2.2.2.1) then(G5 (x.1.2.2.2.1,x.2.1.1,x.2.1.2.1,())).bind λc=>if U (c.1.1<0) then(Ko (x.1.2.2.2.2.1,x.2.1.1,x.2.1.2.1,())).bind λa=>if Ak (U<|a.1.1<0) ((G5 (x.1.2.2.2.2.2.1,x.2.1.1,x.2.1.2.1,())).isSome) then let d:=((U<|a.1.1<0)&&(U<|((G5 (x.1.2.2.2.2.2.1,x.2.1.1,x.2.1.2.1,())).getD ((0,()),())).1.1<0));I ((d,()),()) else G else if Ak A0 ((G5 (x.1.2.2.2.2.2.1,x.2.1.1,x.2.1.2.1,())).isSome) then I ((A0,()),()) else G else if Ak A0 ((G5 (x.1.2.2.2.2.2.1,x.2.1.1,x.2.1.2.1,())).isSome) then I ((A0,()),()) else G else if Ak A0 ((G5 (x.1.2.2.2.2.2.1,x.2.1.1,x.2.1.2.1,())).isSome) then I ((A0,()),()) else G
def zM:Ent:=(187,G,⟨[Z4,Z2],[.bool],fM⟩)
def aeo:y7 zM:=sk (v:= .nil) (fn:=f187) akm kN
def ajw:Cx:=cX [sd,dR,zM] [] []
def aoG:y9 ajw:=aG5<|gC acm<|gC qR<|gC aeo<|AI
def WX(x:Y0×Y1×D):Option ((Y0×Bool×D)×D):=(fM x).bind λc=>if !c.1.1 then I ((x.1,A0,()),()) else if !decide (x.2.1.2.2.1=x.1.1) then(Pe (x.1.2.2.2.1,x.2)).bind λa=>let d:=(U<|(w64<|(j8 a.1.1:Int)+(j8 x.1.2.2.2.2.1:Int))<=12);I (((x.1.1,x.1.2.1,x.1.2.2.1,a.1.1,x.1.2.2.2.2),d,()),()) else(Pe (x.1.2.2.2.2.2.1,x.2)).bind λe=>(Rm (x.1.2.2.2.2.1,(x.2.1.1,x.2.1.2.1,x.2.1.2.2.2.1,()),())).bind λb=>let f:=(U<|(w64<|(j8 x.1.2.2.2.1:Int)+(j8 b.1.1:Int))<=12);I (((x.1.1,x.1.2.1,x.1.2.2.1,x.1.2.2.2.1,b.1.1,e.1),f,()),())
def aAZ:Ent:=(143,G,⟨[Z4,Z2],[Z4,.bool],WX⟩)
def afL:y7 aAZ:=sk (v:= .nil) (fn:=f143) aoG kN
def aoK:Cx:=cX [Mq,dR] [] []
def api:y9 aoK:=aG5<|gC Nw<|gC qR<|AI
def gi(x:Y0×aG7):Option ((Y0×Bool×D)×D):=(G5 (x.1.2.2.2.1,x.2)).bind λa=>if U (a.1.1<0) then I ((x.1,A0,()),()) else if inb a.1.1 x.1.2.2.2.1.length then let d:=(rd aG6 x.1.2.2.2.1 a.1.1).fr;let e:=(rd aG6 x.1.2.2.2.1 a.1.1).nu;let f:=(rd aG6 x.1.2.2.2.1 a.1.1).to;let b:=(rd aG6 x.1.2.2.2.1 a.1.1).un;let g:=(rd aG6 x.1.2.2.2.1 a.1.1).tx;if U (0<=a.1.1)&&U (a.1.1<=(j8 x.1.2.2.2.1:Int)) then if Ab (([]:List A3).length+(BV (AJ a.1.1) x.1.2.2.2.1).length) then if U (0<=(w64<|a.1.1+1))&&U ((w64<|a.1.1+1)<=(j8 x.1.2.2.2.1:Int)) then if Ab ((([]:List A3)++(BV (AJ a.1.1) x.1.2.2.2.1)).length+(Bp (AJ<|w64<|a.1.1+1) x.1.2.2.2.1).length) then(Rm (x.1.2.2.2.2.1,(x.2.1,x.2.2.1,b,()),())).bind λc=>I (((x.1.1,x.1.2.1,x.1.2.2.1,((([]:List A3)++(BV (AJ a.1.1) x.1.2.2.2.1))++(Bp (AJ<|w64<|a.1.1+1) x.1.2.2.2.1)),c.1.1,x.1.2.2.2.2.2),Y,()),()) else G else G else G else G else G
def aAm:Ent:=(147,G,⟨[Z4,j6,j6],[Z4,.bool],gi⟩)
def agJ:y7 aAm:=sk (v:= .nil) (fn:=f147) api kN
def aoL:Cx:=cX [Mq] [] []
def apj:y9 aoL:=aG5<|gC Nw<|AI
def gj(x:Y0×aG7):Option ((Y0×Bool×D)×D):=(G5 (x.1.2.2.2.2.2.1,x.2)).bind λa=>if U (a.1.1<0) then I ((x.1,A0,()),()) else if U (0<=a.1.1)&&U (a.1.1<=(j8 x.1.2.2.2.2.2.1:Int)) then if Ab (([]:List A3).length+(BV (AJ a.1.1) x.1.2.2.2.2.2.1).length) then if U (0<=(w64<|a.1.1+1))&&U ((w64<|a.1.1+1)<=(j8 x.1.2.2.2.2.2.1:Int)) then if Ab ((([]:List A3)++(BV (AJ a.1.1) x.1.2.2.2.2.2.1)).length+(Bp (AJ<|w64<|a.1.1+1) x.1.2.2.2.2.2.1).length) then I (((x.1.1,x.1.2.1,x.1.2.2.1,x.1.2.2.2.1,x.1.2.2.2.2.1,((([]:List A3)++(BV (AJ a.1.1) x.1.2.2.2.2.2.1))++(Bp (AJ<|w64<|a.1.1+1) x.1.2.2.2.2.2.1)),()),Y,()),()) else G else G else G else G
def aAn:Ent:=(148,G,⟨[Z4,j6,j6],[Z4,.bool],gj⟩)
def agK:y7 aAn:=sk (v:= .nil) (fn:=f148) apj kN
def aoJ:Cx:=cX [XS,Mu,WU,jQ,aAY,zO,aAZ,Mq,sd,jR,aAm,aAn,dR] [] [(81,85),(157,174),(192,201),(228,237)]
def aph:y9 aoJ:=aG5<|gC tH<|gC Nv<|gC cc<|gC vi<|gC afK<|gC aep<|gC afL<|gC Nw<|gC acm<|gC vj<|gC agJ<|gC agK<|gC qR<|AI
def Wu(x:Y0×A1×D):Option ((Y0×Bool×D)×D):=(O6 x.2).bind λc=>let l:=(U<|c.1.1=(B [116,105,109,101]));(if l then(Q1 c.1.2).bind λi=>if U (i.1.1<=x.1.2.1) then I ((x.1,A0,()),()) else(fj (x.1,i.1)).bind λm=>I ((m.1.1,Y,()),()) else let n:=(U<|c.1.1=(B [111,119,110]));(if n then(S6 c.1.2).bind λg=>if !g.1.2.1 then I ((x.1,A0,()),()) else if !decide (g.1.1.1=x.1.1) then I ((x.1,A0,()),()) else if !decide (g.1.1.2.1=x.1.2.2.1) then I ((x.1,A0,()),()) else(WX ((x.1.1,x.1.2.1,(w64<|x.1.2.2.1+1),x.1.2.2.2),g.1.1,())).bind λo=>I (o.1,()) else let p:=(U<|c.1.1=(B [116,97,107,101]));(if p then(S6 c.1.2).bind λh=>if(!h.1.2.1)||(U<|h.1.1.1=x.1.1) then I ((x.1,A0,()),()) else(WX (x.1,h.1.1,())).bind λq=>I (q.1,()) else let r:=(U<|c.1.1=(B [110,101,120,116]));(if r then(Q1 c.1.2).bind λj=>if U (j.1.1<=x.1.2.2.1) then I ((x.1,A0,()),()) else I (((x.1.1,x.1.2.1,j.1.1,x.1.2.2.2),Y,()),()) else(BU (X:=Y0×Y0×A1×A1×Bool×D) (λb=>if b.2.2.2.2.1 then(S6 (b.2.2.2.1,())).bind λd=>if !d.1.2.1 then I ((b.1,A0,()),()) else(G5 (b.1.2.2.2.1,d.1.1.1,d.1.1.2.1,())).bind λs=>if U (0<=s.1.1) then I ((b.1,A0,()),()) else(G5 (b.1.2.2.2.2.2.1,d.1.1.1,d.1.1.2.1,())).bind λt=>if U (0<=t.1.1) then I ((b.1,A0,()),()) else if U (b.2.2.1=(B [104,101,108,100])) then(Pe (b.1.2.2.2.1,d.1.1,())).bind λu=>I (((b.1.1,b.1.2.1,b.1.2.2.1,u.1.1,b.1.2.2.2.2),Y,()),()) else(Pe (b.1.2.2.2.2.2.1,d.1.1,())).bind λv=>I (((b.1.1,b.1.2.1,b.1.2.2.1,b.1.2.2.2.1,b.1.2.2.2.2.1,v.1),Y,()),()) else(Pw (b.2.2.2.1,3,())).bind λa=>if Ak (!(!decide (a.1.2.1=noB))) (inb 0 a.1.1.length) then if Ak (!(!decide (a.1.2.1=noB))) ((DK ((rd aHb a.1.1 0),())).isSome) then if Ak (!(!decide (a.1.2.1=noB))) (U<|(((DK ((rd aHb a.1.1 0),())).getD ((noB,()),())).1.1).size+(B [32]).size<=4611686018427387904) then if Ak (!(!decide (a.1.2.1=noB))) (inb 1 a.1.1.length) then if Ak (!(!decide (a.1.2.1=noB))) ((DK ((rd aHb a.1.1 1),())).isSome) then if Ak (!(!decide (a.1.2.1=noB))) (U<|((((DK ((rd aHb a.1.1 0),())).getD ((noB,()),())).1.1)++(B [32])).size+(((DK ((rd aHb a.1.1 1),())).getD ((noB,()),())).1.1).size<=4611686018427387904) then if Ak (!(!decide (a.1.2.1=noB))) (U<|(((((DK ((rd aHb a.1.1 0),())).getD ((noB,()),())).1.1)++(B [32]))++(((DK ((rd aHb a.1.1 1),())).getD ((noB,()),())).1.1)).size+(B [32]).size<=4611686018427387904) then if Ak (!(!decide (a.1.2.1=noB))) (inb 2 a.1.1.length) then if Ak (!(!decide (a.1.2.1=noB))) ((DK ((rd aHb a.1.1 2),())).isSome) then if Ak (!(!decide (a.1.2.1=noB))) (U<|((((((DK ((rd aHb a.1.1 0),())).getD ((noB,()),())).1.1)++(B [32]))++(((DK ((rd aHb a.1.1 1),())).getD ((noB,()),())).1.1))++(B [32])).size+(((DK ((rd aHb a.1.1 2),())).getD ((noB,()),())).1.1).size<=4611686018427387904) then if(!decide (a.1.2.1=noB))||(!decide (b.2.2.2.1=(((((((DK ((rd aHb a.1.1 0),())).getD ((noB,()),())).1.1)++(B [32]))++(((DK ((rd aHb a.1.1 1),())).getD ((noB,()),())).1.1))++(B [32]))++(((DK ((rd aHb a.1.1 2),())).getD ((noB,()),())).1.1)))) then I ((b.1,A0,()),()) else let w:=(U<|b.2.2.1=(B [108,101,116]));(if w then if inb 0 a.1.1.length then if inb 1 a.1.1.length then(G5 (b.1.2.2.2.1,(rd aHb a.1.1 0),(rd aHb a.1.1 1),())).bind λe=>if Ak (!(U<|e.1.1<0)) (inb e.1.1 b.1.2.2.2.1.length) then if Ak (!(U<|e.1.1<0)) (inb 2 a.1.1.length) then if(U<|e.1.1<0)||(!decide ((rd aG6 b.1.2.2.2.1 e.1.1).un=(rd aHb a.1.1 2))) then I ((b.1,A0,()),()) else if inb 0 a.1.1.length then if inb 1 a.1.1.length then(gi (b.1,(rd aHb a.1.1 0),(rd aHb a.1.1 1),())).bind λy=>I (y.1,()) else G else G else G else G else G else G else let z:=(U<|b.2.2.1=(B [101,97,116]));(if z then if inb 0 a.1.1.length then if inb 1 a.1.1.length then(G5 (b.1.2.2.2.2.2.1,(rd aHb a.1.1 0),(rd aHb a.1.1 1),())).bind λf=>if Ak (!(U<|f.1.1<0)) (inb f.1.1 b.1.2.2.2.2.2.1.length) then if Ak (!(U<|f.1.1<0)) (inb 2 a.1.1.length) then if(U<|f.1.1<0)||(!decide ((rd aG6 b.1.2.2.2.2.2.1 f.1.1).un=(rd aHb a.1.1 2))) then I ((b.1,A0,()),()) else if inb 0 a.1.1.length then if inb 1 a.1.1.length then(gj (b.1,(rd aHb a.1.1 0),(rd aHb a.1.1 1),())).bind λA=>I (A.1,()) else G else G else G else G else G else G else let C:=(U<|b.2.2.1=(B [109,97,114,107]));(if C then if inb 0 a.1.1.length then if inb 1 a.1.1.length then(Ko (b.1.2.2.2.2.1,(rd aHb a.1.1 0),(rd aHb a.1.1 1),())).bind λE=>if U (0<=E.1.1) then I ((b.1,A0,()),()) else if inb 0 a.1.1.length then if inb 1 a.1.1.length then if inb 2 a.1.1.length then(Rm (b.1.2.2.2.2.1,((rd aHb a.1.1 0),(rd aHb a.1.1 1),(rd aHb a.1.1 2),()),())).bind λF=>I (((b.1.1,b.1.2.1,b.1.2.2.1,b.1.2.2.2.1,F.1.1,b.1.2.2.2.2.2),Y,()),()) else G else G else G else G else G else I ((b.1,A0,()),())))) else G else G else G else G else G else G else G else G else G else G) (let k:=(U<|c.1.1=(B [104,101,108,100]));(if k then I (.inr (x.1,(0,0,0,([]:List A3),([]:List Mark),([]:List A3),()),c.1.1,c.1.2.1,k,())) else let H:=(U<|c.1.1=(B [105,110,98,111,120]));I (.inr (x.1,(0,0,0,([]:List A3),([]:List Mark),([]:List A3),()),c.1.1,c.1.2.1,H,())))))))))
def aAl:Ent:=(100,G,⟨[Z4,.str],[Z4,.bool],Wu⟩)
def agI:y7 aAl:=sk (v:=t1<|t1<|.two (t1<|.one<|t1<|t1<|t1<|t1<|t1<|t1<|t1<|t1<|.join [(2,Z3),(4,Z5),(6,.str),(7,.str),(105,.bool)] .nil .nil) .nil) (fn:=f100) aph kN
def ak0:Cx:=cX [] [] []
def ano:y9 ak0:=aG5<|AI
def SG(x:Y0×D):Option ((Y0×D)×D):=if Ab (([]:List A3).length+x.1.2.2.2.1.length) then if Ab (([]:List Mark).length+x.1.2.2.2.2.1.length) then if Ab (([]:List A3).length+x.1.2.2.2.2.2.1.length) then I (((x.1.1,x.1.2.1,x.1.2.2.1,(([]:List A3)++x.1.2.2.2.1),(([]:List Mark)++x.1.2.2.2.2.1),(([]:List A3)++x.1.2.2.2.2.2.1),()),()),()) else G else G else G
def aAa:Ent:=(101,G,⟨[Z4],[Z0],SG⟩)
def afM:y7 aAa:=sk (v:= .nil) (fn:=f101) ano kN
def aoS:Cx:=cX [jS,aAl,aAa] [] [(22,24)]
def apl:y9 aoS:=aG5<|gC vu<|gC agI<|gC afM<|AI
def SP(x:Y0×A1×D):Option ((Y0×Bool×D)×D):=(Px (x.1,())).bind λb=>if !b.1.1 then I (((0,0,0,([]:List A3),([]:List Mark),([]:List A3),()),A0,()),()) else(SG (x.1,())).bind λc=>(Wu (c.1.1,x.2)).bind λa=>if Ak (!(!a.1.2.1)) ((Px (a.1.1,())).isSome) then if(!a.1.2.1)||(!(((Px (a.1.1,())).getD ((A0,()),())).1.1)) then(SG (x.1,())).bind λd=>I ((d.1.1,A0,()),()) else(SG (a.1.1,())).bind λe=>I ((e.1.1,Y,()),()) else G
def jU:Ent:=(79,G,⟨[Z4,.str],[Z0,.bool],SP⟩)
def vz:y7 jU:=sk (v:= .nil) (fn:=f79) apl kN
def aoR:Cx:=cX [IV,xm,jU] [] []
def aBb:y9 aoR:=aG5<|gC JA<|gC aeP<|gC vz<|AI
def WI(x:List A1×Y0×Y0×v7):Rnd (List A1×Y0×Y0×v7) (Y0×Bool×D) (Y0×Y0×D):=if U (x.2.2.2.1<(j8 x.1:Int)) then if inb x.2.2.2.1 x.1.length then(SP (x.2.2.1,(rd aHj x.1 x.2.2.2.1),())).bind λa=>if !a.1.2.1 then I (.inr<|.inl ((0,0,0,([]:List A3),([]:List Mark),([]:List A3),()),A0,())) else I (.inl (x.1,x.2.1,a.1.1,(w64<|x.2.2.2.1+1),())) else G else I (.inr<|.inr (x.2.1,x.2.2.1,()))
def sL:=AT WI
def yW:Loop:=⟨[(1,.sl .str),(4,Z5),(6,Z5),(7,j6)],[(4,Z5),(6,Z5)],0,[(4,Z5),(5,.bool)],sL⟩
def anZ:LF f47 [] [1,1,1,0,1,0,0] yW:=sq (v:= .nil) aBb (b:=WI) kN
def SO(x:Int×List A1×D):Option ((Y0×Bool×D)×D):=(eF (x.1,())).bind λb=>(FQ (x.1,())).bind λc=>if !c.1.1 then I ((b.1.1,A0,()),()) else(AP (sL (x.2.1,(0,0,0,([]:List A3),([]:List Mark),([]:List A3),()),b.1.1,0,())) (λa=>I (a,())) λa=>I ((a.2.1,Y,()),()))
def jT:Ent:=(47,G,⟨[j6,.fz .str],[Z0,.bool],SO⟩)
def vw:y7 jT:=sk (v:=t1<|t1<|t1<|.two (t1<|.one<|.loop yW) .nil) (fn:=f47) aBb<|kC anZ kN
def anF:Cx:=cX [VZ,jT] [] []
def ape:y9 anF:=aG5<|gC cB<|gC vw<|AI
def FA(x:Y3×D):Option ((Y0×Bool×D)×D):=(Lg (x.1.2.2.1,())).bind λa=>(SO (x.1.1,a.1.1,())).bind λb=>I (b.1,())
def HP:Ent:=(20,G,⟨[Z8],[Z0,.bool],FA⟩)
def Hx:y7 HP:=sk (v:= .nil) (fn:=f20) ape kN
def ak1:Cx:=cX [Gv,VZ] [] [(12,18),(41,44)]
def anp:y9 ak1:=aG5<|gC HQ<|gC cB<|AI
def O3(x:Y4×D):Option ((Bool×D)×D):=if Ak (!(U<|2400<(x.1.1.size:Int))) ((DC (x.1.2.1,0,(x.1.1.size:Int),())).isSome) then if(U<|2400<(x.1.1.size:Int))||(!(((DC (x.1.2.1,0,(x.1.1.size:Int),())).getD ((A0,()),())).1.1)) then I ((A0,()),()) else(Lg (x.1.1,())).bind λa=>if U (0<=x.1.2.1)&&U (x.1.2.1<=(x.1.1.size:Int)) then(Lg ((x.1.1.extract (0)<|AJ x.1.2.1),())).bind λb=>let c:=((U<|a.1.2.1=(x.1.1.size:Int))&&(U<|b.1.2.1=x.1.2.1));I ((c,()),()) else G else G
def SM:Ent:=(69,G,⟨[Z9],[.bool],O3⟩)
def VF:y7 SM:=sk (v:= .nil) (fn:=f69) anp kN
def ajC:Cx:=cX [] [] []
def alQ:y9 ajC:=aG5<|AI
def Kb(x:v7):Option ((v7)×D):=let a:=(w64<|Ay (w64<|(w64<|x.1+4) - 1) 4);I ((a,()),())
def SC:Ent:=(93,G,⟨[j6],[j6],Kb⟩)
def V5:y7 SC:=sk (v:= .nil) (fn:=f93) alQ kN
def aqo:Cx:=cX [Gv] [] [(8,9)]
def ar9:y9 aqo:=aG5<|gC HQ<|AI
def Mv(x:aG7):Option ((Bool×D)×D):=(DC (x.1,1,6,())).bind λa=>if Ak a.1.1 ((DC (x.2.1,0,999,())).isSome) then let b:=(a.1.1&&(((DC (x.2.1,0,999,())).getD ((A0,()),())).1.1));I ((b,()),()) else G
def XE:Ent:=(123,G,⟨[j6,j6],[.bool],Mv⟩)
def eO:y7 XE:=sk (v:= .nil) (fn:=f123) ar9 kN
def akL:Cx:=cX [XE] [] [(10,13)]
def aoE:y9 akL:=aG5<|gC eO<|AI
def SL(x:Int×Y5×D):Option ((Bool×D)×D):=(Mv (x.1,x.2.1.1,())).bind λa=>let b:=(a.1.1&&(U<|(x.2.1.2.1.size:Int)=4));I ((b,()),())
def iM:Ent:=(94,G,⟨[j6,Z10],[.bool],SL⟩)
def um:y7 iM:=sk (v:= .nil) (fn:=f94) aoE kN
def ahb:Cx:=cX [Gv,IV,SC,iM] [] []
def tX:y9 ahb:=aG5<|gC HQ<|gC JA<|gC V5<|gC um<|AI
def dD(x:Y6×aG7):Rnd (Y6×aG7) (Bool×D) (Y6×v7):=if U (x.2.2.1<x.2.1) then if inb x.2.2.1 x.1.2.2.2.2.2.1.length then if inb x.2.1 x.1.2.2.2.2.2.1.length then if U ((rd aHl x.1.2.2.2.2.2.1 x.2.2.1).nu=(rd aHl x.1.2.2.2.2.2.1 x.2.1).nu) then I (.inr<|.inl (A0,())) else I (.inl (x.1,x.2.1,(w64<|x.2.2.1+1),())) else G else G else I (.inr<|.inr (x.1,x.2.1,()))
def qj:=AT dD
def uU:Loop:=⟨[(1,Z11),(3,j6),(4,j6)],[(1,Z11),(3,j6)],2,[(2,.bool)],qj⟩
def ah8:LF f70 [] [1,1,0,1,0,0,1,0,0,1,1,0,0] uU:=sq (v:= .nil) tX (b:=dD) kN
def dE(x:Y6×v7):Rnd (Y6×v7) (Bool×D) D:=if U (x.2.1<(j8 x.1.2.2.2.2.2.1:Int)) then(Kb (x.1.2.2.2.2.1,())).bind λb=>if inb x.2.1 x.1.2.2.2.2.2.1.length then(SL (b.1.1,((rd aHl x.1.2.2.2.2.2.1 x.2.1).nu,(rd aHl x.1.2.2.2.2.2.1 x.2.1).da,()),())).bind λc=>if !c.1.1 then I (.inr<|.inl (A0,())) else(AP (qj (x.1,x.2.1,0,())) (λa=>I<|.inr<|.inl a) λa=>I<|.inl (a.1,(w64<|a.2.1+1),())) else G else I (.inr<|.inr ())
def qk:=AT dE
def uV:Loop:=⟨[(1,Z11),(3,j6)],[],0,[(2,.bool)],qk⟩
def agn:LF f70 [] [1,1,0,1,0,0] uV:=sq (v:=t1<|.two (.one<|t1<|t1<|.one<|.loop uU) .nil) tX (b:=dE)<|kC ah8 kN
def dV(x:Y6×D):Option ((Bool×D)×D):=(FQ (x.1.1,())).bind λb=>if !b.1.1 then I ((A0,()),()) else(FQ (x.1.2.2.1,())).bind λc=>if !c.1.1 then I ((A0,()),()) else(DC (x.1.2.1,1,99,())).bind λd=>if !d.1.1 then I ((A0,()),()) else(DC (x.1.2.2.2.1,1,999,())).bind λe=>if !e.1.1 then I ((A0,()),()) else(DC (x.1.2.2.2.2.1,1,24,())).bind λf=>if !f.1.1 then I ((A0,()),()) else if U (14<(j8 x.1.2.2.2.2.2.1:Int)) then I ((A0,()),()) else(AP (qk (x.1,0,())) (λa=>I (a,())) λa=>I ((Y,()),()))
def xi:Ent:=(70,G,⟨[Z12],[.bool],dV⟩)
def ads:y7 xi:=sk (v:=t1<|t1<|.two (t1<|.one<|.loop uV) .nil) (fn:=f70) tX<|kC agn kN
def ajP:Cx:=cX [HP,IV,VZ,jT,SM,xi] [] [(64,65),(100,112)]
def uA:y9 ajP:=aG5<|gC Hx<|gC JA<|gC cB<|gC vw<|gC VF<|gC ads<|AI
def eC(x:Y3×aG7):Rnd (Y3×aG7) (Bool×D) (Y3×v7):=if U (x.2.2.1<x.2.1) then if inb x.2.2.1 x.1.2.2.2.2.1.length then if inb x.2.1 x.1.2.2.2.2.1.length then if Ak (U<|(rd aHa x.1.2.2.2.2.1 x.2.2.1).fr=(rd aHa x.1.2.2.2.2.1 x.2.1).fr) (inb x.2.2.1 x.1.2.2.2.2.1.length) then if Ak (U<|(rd aHa x.1.2.2.2.2.1 x.2.2.1).fr=(rd aHa x.1.2.2.2.2.1 x.2.1).fr) (inb x.2.1 x.1.2.2.2.2.1.length) then if(U<|(rd aHa x.1.2.2.2.2.1 x.2.2.1).fr=(rd aHa x.1.2.2.2.2.1 x.2.1).fr)&&(U<|(rd aHa x.1.2.2.2.2.1 x.2.2.1).nu=(rd aHa x.1.2.2.2.2.1 x.2.1).nu) then I (.inr<|.inl (A0,())) else I (.inl (x.1,x.2.1,(w64<|x.2.2.1+1),())) else G else G else G else G else I (.inr<|.inr (x.1,x.2.1,()))
def qz:=AT eC
def vn:Loop:=⟨[(1,Z13),(9,j6),(10,j6)],[(1,Z13),(9,j6)],2,[(2,.bool)],qz⟩
def aiP:LF f33 [] [1,1,1,1,1,1,0,1,0,0,1,0,0,1,1,0,0] vn:=sq (v:= .nil) uA (b:=eC) kN
def eE(x:Y3×v7):Rnd (Y3×v7) (Bool×D) D:=if U (x.2.1<(j8 x.1.2.2.2.2.1:Int)) then if inb x.2.1 x.1.2.2.2.2.1.length then(dV (((rd aHa x.1.2.2.2.2.1 x.2.1).fr,(rd aHa x.1.2.2.2.2.1 x.2.1).nu,(rd aHa x.1.2.2.2.2.1 x.2.1).to,(rd aHa x.1.2.2.2.2.1 x.2.1).un,(rd aHa x.1.2.2.2.2.1 x.2.1).sz,(rd aHa x.1.2.2.2.2.1 x.2.1).got,()),())).bind λb=>if !b.1.1 then I (.inr<|.inl (A0,())) else(AP (qz (x.1,x.2.1,0,())) (λa=>I<|.inr<|.inl a) λa=>I<|.inl (a.1,(w64<|a.2.1+1),())) else G else I (.inr<|.inr ())
def br:=AT eE
def vo:Loop:=⟨[(1,Z13),(9,j6)],[],0,[(2,.bool)],br⟩
def aia:LF f33 [] [1,1,1,1,1,1,0,1,0,0] vo:=sq (v:=t1<|.two (.one<|t1<|t1<|.one<|.loop vn) .nil) uA (b:=eE)<|kC aiP kN
def J9(x:Y3×D):Option ((Bool×D)×D):=(BU (X:=Y3×D) (λa=>if U (0<=a.1.2.2.2.1)&&U (a.1.2.2.2.1<=(a.1.2.2.1.size:Int)) then(Lg ((a.1.2.2.1.extract (0)<|AJ a.1.2.2.2.1),())).bind λc=>(SO (a.1.1,c.1.1,())).bind λd=>(FA a).bind λe=>if(!e.1.2.1)||(!d.1.2.1) then I ((A0,()),()) else(AP (br (a.1,0,())) (λb=>I (b,())) λb=>I ((Y,()),())) else G)<|(FQ (x.1.1,())).bind λf=>if !f.1.1 then I (.inl ((A0,()),())) else(O3 ((x.1.2.2.1,x.1.2.2.2.1,()),())).bind λg=>if !g.1.1 then I (.inl ((A0,()),())) else if U (3<(j8 x.1.2.2.2.2.1:Int)) then I (.inl ((A0,()),())) else if !x.1.2.1 then if U (0<(j8 x.1.2.2.2.2.1:Int)) then I (.inl ((A0,()),())) else I (.inr x) else I (.inr x))
def Kd:Ent:=(33,G,⟨[Z8],[.bool],J9⟩)
def Le:y7 Kd:=sk (v:=t1<|.join [(1,Z13)] .nil<|t1<|t1<|t1<|t1<|.two (t1<|.one<|.loop vo) .nil) (fn:=f33) uA<|kC aia kN
def al3:Cx:=cX [Gv,Kd,IV,Wo] [] [(57,64)]
def WH:y9 al3:=aG5<|gC HQ<|gC Le<|gC JA<|gC dL<|AI
def fO(x:Y7×v7):Rnd (Y7×v7) (Bool×D) D:=if U (x.2.1<(j8 x.1.2.2.2.2.2.1:Int)) then if inb x.2.1 x.1.2.2.2.2.2.1.length then(O8 (((rd aG6 x.1.2.2.2.2.2.1 x.2.1).fr,(rd aG6 x.1.2.2.2.2.2.1 x.2.1).nu,(rd aG6 x.1.2.2.2.2.2.1 x.2.1).to,(rd aG6 x.1.2.2.2.2.2.1 x.2.1).un,(rd aG6 x.1.2.2.2.2.2.1 x.2.1).tx,()),())).bind λa=>if !a.1.1 then I (.inr<|.inl (A0,())) else I (.inl (x.1,(w64<|x.2.1+1),())) else G else I (.inr<|.inr ())
def rz:=AT fO
def xC:Loop:=⟨[(1,Z14),(7,j6)],[],6,[(2,.bool)],rz⟩
def ajX:LF f13 [] [1,1,1,1,1,0,1,0,0] xC:=sq (v:= .nil) WH (b:=fO) kN
def fP(x:Y7×v7):Rnd (Y7×v7) (Bool×D) (Y7×D):=if U (x.2.1<(j8 x.1.2.2.2.2.1:Int)) then if inb x.2.1 x.1.2.2.2.2.1.length then(O8 (((rd aG6 x.1.2.2.2.2.1 x.2.1).fr,(rd aG6 x.1.2.2.2.2.1 x.2.1).nu,(rd aG6 x.1.2.2.2.2.1 x.2.1).to,(rd aG6 x.1.2.2.2.2.1 x.2.1).un,(rd aG6 x.1.2.2.2.2.1 x.2.1).tx,()),())).bind λa=>if !a.1.1 then I (.inr<|.inl (A0,())) else I (.inl (x.1,(w64<|x.2.1+1),())) else G else I (.inr<|.inr (x.1,()))
def s6:=AT fP
def xD:Loop:=⟨[(1,Z14),(6,j6)],[(1,Z14)],4,[(2,.bool)],s6⟩
def ajY:LF f13 [] [1,1,1,1,0,1,0,0] xD:=sq (v:= .nil) WH (b:=fP) kN
def fQ(x:Y7×v7):Rnd (Y7×v7) (Bool×D) (Y7×D):=if U (x.2.1<(j8 x.1.2.2.2.1:Int)) then if inb x.2.1 x.1.2.2.2.1.length then let a:=(rd aHe x.1.2.2.2.1 x.2.1).src;let b:=(rd aHe x.1.2.2.2.1 x.2.1).dst;let c:=(rd aHe x.1.2.2.2.1 x.2.1).data;let f:=(rd aHe x.1.2.2.2.1 x.2.1).sp;(FQ (a,())).bind λd=>if !d.1.1 then I (.inr<|.inl (A0,())) else(FQ (b,())).bind λe=>if !e.1.1 then I (.inr<|.inl (A0,())) else if !decide ((w64<|a - b)=1) then if !decide ((w64<|b - a)=1) then I (.inr<|.inl (A0,())) else if U (40<(c.size:Int)) then I (.inr<|.inl (A0,())) else I (.inl (x.1,(w64<|x.2.1+1),())) else if U (40<(c.size:Int)) then I (.inr<|.inl (A0,())) else I (.inl (x.1,(w64<|x.2.1+1),())) else G else I (.inr<|.inr (x.1,()))
def s7:=AT fQ
def xE:Loop:=⟨[(1,Z14),(4,j6)],[(1,Z14)],2,[(2,.bool)],s7⟩
def ajc:LF f13 [] [1,1,1,0,1,0,0] xE:=sq (v:= .nil) WH (b:=fQ) kN
def fR(x:Y7×v7):Rnd (Y7×v7) (Bool×D) (Y7×D):=if U (x.2.1<(j8 x.1.2.1:Int)) then if inb x.2.1 x.1.2.1.length then(J9 (((rd aG8 x.1.2.1 x.2.1).id,(rd aG8 x.1.2.1 x.2.1).up,(rd aG8 x.1.2.1 x.2.1).log,(rd aG8 x.1.2.1 x.2.1).fo,(rd aG8 x.1.2.1 x.2.1).AG,()),())).bind λa=>if Ak (!(!a.1.1)) (inb x.2.1 x.1.2.1.length) then if(!a.1.1)||(!decide ((rd aG8 x.1.2.1 x.2.1).id=x.2.1)) then I (.inr<|.inl (A0,())) else I (.inl (x.1,(w64<|x.2.1+1),())) else G else G else I (.inr<|.inr (x.1,()))
def s8:=AT fR
def xF:Loop:=⟨[(1,Z14),(3,j6)],[(1,Z14)],0,[(2,.bool)],s8⟩
def akY:LF f13 [] [1,1,0,1,0,0] xF:=sq (v:= .nil) WH (b:=fR) kN
def Ms(x:Y7×D):Option ((Bool×D)×D):=(DC (x.1.1,0,99999,())).bind λe=>if !e.1.1 then I ((A0,()),()) else if !decide ((j8 x.1.2.1:Int)=4) then I ((A0,()),()) else if !decide ((j8 x.1.2.2.1:Int)=3) then I ((A0,()),()) else if U (30<(j8 x.1.2.2.2.1:Int)) then I ((A0,()),()) else if U (6<(j8 x.1.2.2.2.2.1:Int)) then I ((A0,()),()) else if U (6<(j8 x.1.2.2.2.2.2.1:Int)) then I ((A0,()),()) else(AP (s8 (x.1,0,())) (λa=>I (a,())) λa=>(AP (s7 (a.1,0,())) (λb=>I (b,())) λb=>(AP (s6 (b.1,0,())) (λc=>I (c,())) λc=>(AP (rz (c.1,0,())) (λd=>I (d,())) λd=>I ((Y,()),())))))
def gI:Ent:=(13,G,⟨[Z15],[.bool],Ms⟩)
def ry:y7 gI:=sk (v:=t1<|t1<|.two (t1<|.one<|.loop xF)<|.two (t1<|.one<|.loop xE)<|.two (t1<|.one<|.loop xD)<|.two (t1<|.one<|.loop xC) .nil) (fn:=f13) WH<|kC akY<|kC ajc<|kC ajY<|kC ajX kN
def aju:Cx:=cX [] [] []
def aAK:y9 aju:=aG5<|AI
def eY(x:Y3×Y3×List AD×v7):Rnd (Y3×Y3×List AD×v7) D (Y3×Y3×List AD×D):=if U (x.2.2.2.1<(j8 x.1.2.2.2.2.1:Int)) then if inb x.2.2.2.1 x.1.2.2.2.2.1.length then let b:=(rd aHa x.1.2.2.2.2.1 x.2.2.2.1).fr;let c:=(rd aHa x.1.2.2.2.2.1 x.2.2.2.1).nu;let d:=(rd aHa x.1.2.2.2.2.1 x.2.2.2.1).to;let e:=(rd aHa x.1.2.2.2.2.1 x.2.2.2.1).un;let f:=(rd aHa x.1.2.2.2.2.1 x.2.2.2.1).sz;let a:=(rd aHa x.1.2.2.2.2.1 x.2.2.2.1).got;if Ab (([]:List AQ).length+a.length) then if Ab (x.2.2.1.length+([(AD.mk b c d e f<|([]:List AQ)++a)]:List AD).length) then I (.inl (x.1,x.2.1,(x.2.2.1++([(AD.mk b c d e f<|([]:List AQ)++a)]:List AD)),(w64<|x.2.2.2.1+1),())) else G else G else G else I (.inr<|.inr (x.1,x.2.1,x.2.2.1,()))
def rI:=AT eY
def wx:Loop:=⟨[(1,Z13),(2,Z16),(3,.row 99 .half),(4,j6)],[(1,Z13),(2,Z16),(3,.row 99 .half)],0,[],rI⟩
def akU:LF f65 [] [1,1,0,1,0,0] wx:=sq (v:= .nil) aAK (b:=eY) kN
def G4(x:Y3×D):Option ((Y3×D)×D):=(AP (rI (x.1,(0,A0,noB,0,([]:List AD),()),([]:List AD),0,())) (λ_=>G) λa=>I (((a.1.1,a.1.2.1,a.1.2.2.1,a.1.2.2.2.1,a.2.2),()),()))
def Ll:Ent:=(65,G,⟨[Z8],[Z17],G4⟩)
def Mk:y7 Ll:=sk (v:=t1<|t1<|.two (t1<|.one<|.loop wx) .nil) (fn:=f65) aAK<|kC akU kN
def akK:Cx:=cX [Ll] [] []
def aAI:y9 akK:=aG5<|gC Mk<|AI
def eW(x:Y7×Y7×Y7×v7):Rnd (Y7×Y7×Y7×v7) D (Y7×Y7×D):=if U (x.2.2.2.1<(j8 x.1.2.1:Int)) then if inb x.2.2.2.1 x.1.2.1.length then(G4 (((rd aG8 x.1.2.1 x.2.2.2.1).id,(rd aG8 x.1.2.1 x.2.2.2.1).up,(rd aG8 x.1.2.1 x.2.2.2.1).log,(rd aG8 x.1.2.1 x.2.2.2.1).fo,(rd aG8 x.1.2.1 x.2.2.2.1).AG,()),())).bind λa=>if Ab (x.2.2.1.2.1.length+([(A7.mk a.1.1.1 a.1.1.2.1 a.1.1.2.2.1 a.1.1.2.2.2.1 a.1.1.2.2.2.2.1)]:List A7).length) then I (.inl (x.1,x.2.1,(x.2.2.1.1,(x.2.2.1.2.1++([(A7.mk a.1.1.1 a.1.1.2.1 a.1.1.2.2.1 a.1.1.2.2.2.1 a.1.1.2.2.2.2.1)]:List A7)),x.2.2.1.2.2),(w64<|x.2.2.2.1+1),())) else G else G else I (.inr<|.inr (x.2.1,x.2.2.1,()))
def cY:=AT eW
def wu:Loop:=⟨[(1,Z14),(2,Z18),(3,Z18),(4,j6)],[(2,Z18),(3,Z18)],0,[],cY⟩
def akS:LF f30 [] [1,1,0,1,0,0] wu:=sq (v:= .nil) aAI (b:=eW) kN
def Kn(x:Y7×D):Option ((Y7×D)×D):=if Ab (([]:List Bool).length+x.1.2.2.1.length) then if Ab (([]:List AK).length+x.1.2.2.2.1.length) then if Ab (([]:List A3).length+x.1.2.2.2.2.1.length) then if Ab (([]:List A3).length+x.1.2.2.2.2.2.1.length) then(AP (cY (x.1,(0,([]:List A7),([]:List Bool),([]:List AK),([]:List A3),([]:List A3),()),(x.1.1,([]:List A7),(([]:List Bool)++x.1.2.2.1),(([]:List AK)++x.1.2.2.2.1),(([]:List A3)++x.1.2.2.2.2.1),(([]:List A3)++x.1.2.2.2.2.2.1),()),0,())) (λ_=>G) λa=>I (a.2,())) else G else G else G else G
def iL:Ent:=(30,G,⟨[Z15],[Z19],Kn⟩)
def uk:y7 iL:=sk (v:=t1<|t1<|.two (t1<|.one<|.loop wu) .nil) (fn:=f30) aAI<|kC akS kN
def akJ:Cx:=cX [] [] []
def aoD:y9 akJ:=aG5<|AI
def fX(x:aG7):Option ((v7)×D):=if U (x.1<x.2.1) then I ((x.1,()),()) else I (x.2,())
def iK:Ent:=(124,G,⟨[j6,j6],[j6],fX⟩)
def uj:y7 iK:=sk (v:= .nil) (fn:=f124) aoD kN
def ajO:Cx:=cX [IV] [] []
def akr:y9 ajO:=aG5<|gC JA<|AI
def Pm(x:aG7):Option ((v7)×D):=(BU (X:=Int×Int×Bool×D) (λa=>if a.2.2.1 then I (((-1),()),()) else if U (a.1<a.2.1) then I (((w64<|a.1+1),()),()) else I (((w64<|a.1 - 1),()),()))<|(FQ (x.1,())).bind λb=>if !b.1.1 then I (.inr (x.1,x.2.1,Y,())) else(FQ x.2).bind λc=>if !c.1.1 then I (.inr (x.1,x.2.1,Y,())) else I (.inr (x.1,x.2.1,(U<|x.1=x.2.1),())))
def fG:Ent:=(48,G,⟨[j6,j6],[j6],Pm⟩)
def qy:y7 fG:=sk (v:=t1<|.two (.one<|.join [(0,j6),(1,j6),(5,.bool)] .nil .nil) .nil) (fn:=f48) akr kN
def al7:Cx:=cX [Gv,IV,fG] [] [(65,67),(88,91)]
def anq:y9 al7:=aG5<|gC HQ<|gC JA<|gC qy<|AI
def WJ(x:Y8×D):Option ((Bool×D)×D):=(DC (x.1.1,1,3,())).bind λa=>if !a.1.1 then I ((A0,()),()) else(FQ (x.1.2.1,())).bind λb=>if !b.1.1 then I ((A0,()),()) else(FQ (x.1.2.2.1,())).bind λc=>if !c.1.1 then I ((A0,()),()) else(FQ (x.1.2.2.2.1,())).bind λd=>if !d.1.1 then I ((A0,()),()) else(FQ (x.1.2.2.2.2.2.1,())).bind λe=>if !e.1.1 then I ((A0,()),()) else(DC (x.1.2.2.2.2.1,1,99,())).bind λf=>if !f.1.1 then I ((A0,()),()) else(DC (x.1.2.2.2.2.2.2.1,1,999,())).bind λg=>if !g.1.1 then I ((A0,()),()) else if !decide (x.1.1=1) then(Pm (x.1.2.2.1,x.1.2.2.2.2.2.1,())).bind λh=>if U (h.1.1=x.1.2.1) then if U (x.1.2.2.2.2.2.2.2.1=0) then let i:=((U<|x.1.2.2.2.2.2.2.2.2.1=0)&&(U<|x.1.2.2.2.2.2.2.2.2.2.1=noB));I ((i,()),()) else I ((A0,()),()) else I ((A0,()),()) else(Pm (x.1.2.1,x.1.2.2.2.2.2.1,())).bind λj=>if U (j.1.1=x.1.2.2.1) then(DC (x.1.2.2.2.2.2.2.2.1,1,24,())).bind λk=>if k.1.1 then(DC (x.1.2.2.2.2.2.2.2.2.1,0,999,())).bind λl=>let m:=(l.1.1&&(U<|(x.1.2.2.2.2.2.2.2.2.2.1.size:Int)=4));I ((m,()),()) else I ((A0,()),()) else I ((A0,()),())
def iO:Ent:=(178,G,⟨[Z20],[.bool],WJ⟩)
def ue:y7 iO:=sk (v:= .nil) (fn:=f178) anq kN
def anH:Cx:=cX [] [] []
def apf:y9 anH:=aG5<|AI
def O7(x:List Int×v7):Option ((List Int×D)×D):=if Ab (x.1.length+([(w8<|w64<|Ay x.2.1 256),(w8<|BJ x.2.1 256)]:List Int).length) then I (((x.1++([(w8<|w64<|Ay x.2.1 256),(w8<|BJ x.2.1 256)]:List Int)),()),()) else G
def aBE:Ent:=(210,G,⟨[.row 5 .u8,j6],[.row 5 .u8],O7⟩)
def agG:y7 aBE:=sk (v:= .nil) (fn:=f210) apf kN
def ajR:Cx:=cX [] [] []
def ze:y9 ajR:=aG5<|AI
def eL(x:List Int×aG7):Rnd (List Int×aG7) D (v7):=if U (x.2.2.1<(j8 x.1:Int)) then if inb x.2.2.1 x.1.length then let a:=(BJ (w64<|x.2.1+(w64<|(w64<|(BJ x.2.2.1 1000)+1) * (w64<|rd aHh x.1 x.2.2.1))) 65521);I (.inl (x.1,a,(w64<|x.2.2.1+1),())) else G else I (.inr<|.inr (x.2.1,()))
def c8:=AT eL
def wA:Loop:=⟨[(0,.sl .u8),(3,j6),(4,j6)],[(3,j6)],0,[],c8⟩
def aic:LF f211 [] [1,1,0,1,0,0] wA:=sq (v:= .nil) ze (b:=eL) kN
def S7(x:List Int×D):Option ((v7)×D):=(AP (c8 (x.1,0,0,())) (λ_=>G) λa=>I (a,()))
def zP:Ent:=(211,G,⟨[.fz .u8],[j6],S7⟩)
def aeq:y7 zP:=sk (v:=t1<|t1<|.two (t1<|.one<|.loop wA) .nil) (fn:=f211) ze<|kC aic kN
def ahM:Cx:=cX [iO,aBE,zP] [] []
def aj4:y9 ahM:=aG5<|gC ue<|gC agG<|gC aeq<|AI
def Pf(x:Y8×D):Option ((List Int×D)×D):=(WJ x).bind λc=>if !c.1.1 then I ((([]:List Int),()),()) else if Ab (([]:List Int).length+([(w8 x.1.1),(w8 x.1.2.1),(w8 x.1.2.2.1),(w8 x.1.2.2.2.1),(w8 x.1.2.2.2.2.1),(w8 x.1.2.2.2.2.2.1)]:List Int).length) then(O7 ((([]:List Int)++([(w8 x.1.1),(w8 x.1.2.1),(w8 x.1.2.2.1),(w8 x.1.2.2.2.1),(w8 x.1.2.2.2.2.1),(w8 x.1.2.2.2.2.2.1)]:List Int)),x.1.2.2.2.2.2.2.1,())).bind λa=>if U (x.1.1=1) then if Ab (a.1.1.length+([(w8 x.1.2.2.2.2.2.2.2.1)]:List Int).length) then(O7 ((a.1.1++([(w8 x.1.2.2.2.2.2.2.2.1)]:List Int)),x.1.2.2.2.2.2.2.2.2.1,())).bind λb=>if Ab x.1.2.2.2.2.2.2.2.2.2.1.size then if Ab (b.1.1.length+(B9 x.1.2.2.2.2.2.2.2.2.2.1).length) then(S7 ((b.1.1++(B9 x.1.2.2.2.2.2.2.2.2.2.1)),())).bind λd=>(O7 ((b.1.1++(B9 x.1.2.2.2.2.2.2.2.2.2.1)),d.1)).bind λe=>I (e.1,()) else G else G else G else(S7 a.1).bind λf=>(O7 (a.1.1,f.1)).bind λg=>I (g.1,()) else G
def tu:Ent:=(177,G,⟨[Z20],[.row 5 .u8],Pf⟩)
def adD:y7 tu:=sk (v:= .nil) (fn:=f177) aj4 kN
def af3:Cx:=cX [tu] [] [(9,11)]
def agU:y9 af3:=aG5<|gC adD<|AI
def cq(x:List Int×D):Option ((Y8×Bool×D)×D):=if(!decide ((j8 x.1:Int)=10))&&(!decide ((j8 x.1:Int)=17)) then I (((0,0,0,0,0,0,0,0,0,noB,()),A0,()),()) else if inb 0 x.1.length then if inb 1 x.1.length then if inb 2 x.1.length then if inb 3 x.1.length then if inb 4 x.1.length then if inb 5 x.1.length then if inb 6 x.1.length then if inb 7 x.1.length then let b:=(w64<|rd aHh x.1 0);let c:=(w64<|rd aHh x.1 1);let d:=(w64<|rd aHh x.1 2);let e:=(w64<|rd aHh x.1 3);let f:=(w64<|rd aHh x.1 4);let g:=(w64<|rd aHh x.1 5);let h:=(w64<|(w64<|(w64<|rd aHh x.1 6) * 256)+(w64<|rd aHh x.1 7));(BU (X:=List Int×Y8×Y8×D) (λa=>(Pf a.2.2).bind λi=>if !decide ((BF i.1.1)=(BF a.1)) then I (((0,0,0,0,0,0,0,0,0,noB,()),A0,()),()) else I ((a.2.2.1,Y,()),()))<|(if U (10<(j8 x.1:Int)) then if inb 8 x.1.length then let j:=(w64<|rd aHh x.1 8);(if inb 9 x.1.length then if inb 10 x.1.length then let k:=(w64<|(w64<|(w64<|rd aHh x.1 9) * 256)+(w64<|rd aHh x.1 10));(if(U (0<=15)&&U (15<=(j8 x.1:Int)))&&(U (0<=11)&&U (11<=15)) then let l:=(BF<|Bp (AJ 11)<|BV (AJ 15) x.1);I (.inr (x.1,(0,0,0,0,0,0,0,0,0,noB,()),(b,c,d,e,f,g,h,j,k,l,()),())) else G) else G else G) else G else I (.inr (x.1,(0,0,0,0,0,0,0,0,0,noB,()),(b,c,d,e,f,g,h,0,0,noB,()),())))) else G else G else G else G else G else G else G else G
def rO:Ent:=(125,G,⟨[.fz .u8],[Z20,.bool],cq⟩)
def acf:y7 rO:=sk (v:=t1<|t1<|t1<|.join [(0,.sl .u8),(2,Z21),(4,Z21)] .nil .nil) (fn:=f125) agU kN
def ajE:Cx:=cX [Mu] [] []
def akj:y9 ajE:=aG5<|gC Nv<|AI
def Nz(x:aHc):Option ((A1×D)×D):=(DK (x.1,())).bind λa=>if U (a.1.1.size+(B [32]).size<=4611686018427387904) then(DK (x.2.1,())).bind λb=>if U ((a.1.1++(B [32])).size+b.1.1.size<=4611686018427387904) then if U (((a.1.1++(B [32]))++b.1.1).size+(B [32]).size<=4611686018427387904) then(DK x.2.2).bind λc=>if U ((((a.1.1++(B [32]))++b.1.1)++(B [32])).size+c.1.1.size<=4611686018427387904) then let d:=((((a.1.1++(B [32]))++b.1.1)++(B [32]))++c.1.1);I ((d,()),()) else G else G else G else G
def fF:Ent:=(121,G,⟨[j6,j6,j6],[.str],Nz⟩)
def qp:y7 fF:=sk (v:= .nil) (fn:=f121) akj kN
def afp:Cx:=cX [SM] [] []
def aho:y9 afp:=aG5<|gC VF<|AI
def Nu(x:Y4×D):Option ((Y4×D)×D):=(O3 x).bind λa=>if !a.1.1 then I (((noB,0,()),()),()) else I (((x.1.1,(x.1.1.size:Int),()),()),())
def VP:Ent:=(118,G,⟨[Z9],[Z9],Nu⟩)
def bh:y7 VP:=sk (v:= .nil) (fn:=f118) aho kN
def aoM:Cx:=cX [Mu] [] []
def apk:y9 aoM:=aG5<|gC Nv<|AI
def Kh(x:A1×D):Option ((A1×D)×D):=(DK ((x.1.size:Int),())).bind λa=>if U (a.1.1.size+(B [58]).size<=4611686018427387904) then if U ((a.1.1++(B [58])).size+x.1.size<=4611686018427387904) then if U (((a.1.1++(B [58]))++x.1).size+(B [59]).size<=4611686018427387904) then let b:=(((a.1.1++(B [58]))++x.1)++(B [59]));I ((b,()),()) else G else G else G
def Wn:Ent:=(90,G,⟨[.str],[.str],Kh⟩)
def dH:y7 Wn:=sk (v:= .nil) (fn:=f90) apk kN
def ajK:Cx:=cX [Gv] [] []
def akn:y9 ajK:=aG5<|gC HQ<|AI
def fN(x:A1×D):Option ((Bool×D)×D):=(DC ((x.1.size:Int),1,60,())).bind λa=>I (a.1,())
def uK:Ent:=(176,G,⟨[.str],[.bool],fN⟩)
def adN:y7 uK:=sk (v:= .nil) (fn:=f176) akn kN
def ajL:Cx:=cX [SM,Wn,uK] [] [(14,21)]
def ako:y9 ajL:=aG5<|gC VF<|gC dH<|gC adN<|AI
def O0(x:Y4×A1×D):Option ((Y4×Bool×D)×D):=(O3 (x.1,())).bind λc=>if !c.1.1 then I (((noB,0,()),A0,()),()) else(fN x.2).bind λa=>if Ak (!(!a.1.1)) ((Kh x.2).isSome) then if(!a.1.1)||(U<|2400<(w64<|(x.1.1.size:Int)+((((Kh x.2).getD ((noB,()),())).1.1).size:Int))) then I ((x.1,A0,()),()) else(Kh x.2).bind λb=>if U (x.1.1.size+b.1.1.size<=4611686018427387904) then I ((((x.1.1++b.1.1),x.1.2),Y,()),()) else G else G
def uL:Ent:=(117,G,⟨[Z9,.str],[Z9,.bool],O0⟩)
def adO:y7 uL:=sk (v:= .nil) (fn:=f117) ako kN
def ahe:Cx:=cX [SM,Wn,uK] [] []
def xV:y9 ahe:=aG5<|gC VF<|gC dH<|gC adN<|AI
def Rp(x:List A1×Y4×Y4×A1×v7):Rnd (List A1×Y4×Y4×A1×v7) (Y4×Bool×D) (Y4×Y4×A1×D):=if U (x.2.2.2.2.1<(j8 x.1:Int)) then if inb x.2.2.2.2.1 x.1.length then(fN ((rd aHj x.1 x.2.2.2.2.1),())).bind λb=>if !b.1.1 then I (.inr<|.inl (x.2.1,A0,())) else if inb x.2.2.2.2.1 x.1.length then(Kh ((rd aHj x.1 x.2.2.2.2.1),())).bind λa=>if U (x.2.2.2.1.size+a.1.1.size<=4611686018427387904) then I (.inl (x.1,x.2.1,x.2.2.1,(x.2.2.2.1++a.1.1),(w64<|x.2.2.2.2.1+1),())) else G else G else G else I (.inr<|.inr (x.2.1,x.2.2.1,x.2.2.2.1,()))
def cC:=AT Rp
def uY:Loop:=⟨[(1,.sl .str),(2,Z22),(4,Z22),(6,.str),(7,j6)],[(2,Z22),(4,Z22),(6,.str)],0,[(4,Z22),(5,.bool)],cC⟩
def agp:LF f184 [] [1,1,1,0,1,0,0] uY:=sq (v:= .nil) xV (b:=Rp) kN
def Rw(x:Y4×List A1×D):Option ((Y4×Bool×D)×D):=(O3 (x.1,())).bind λb=>if !b.1.1 then I (((noB,0,()),A0,()),()) else(AP (cC (x.2.1,x.1,(noB,0,()),noB,0,())) (λa=>I (a,())) λa=>(if U (2400<(a.2.2.1.size:Int)) then I ((a.1,A0,()),()) else I (((a.2.2.1,(a.2.2.1.size:Int),()),Y,()),())))
def tl:Ent:=(184,G,⟨[Z9,.fz .str],[Z9,.bool],Rw⟩)
def ad8:y7 tl:=sk (v:=t1<|t1<|t1<|.two (t1<|.one<|.loop uY) .nil) (fn:=f184) xV<|kC agp kN
def ajQ:Cx:=cX [jS,Mu,S2] [] []
def fI:y9 ajQ:=aG5<|gC vu<|gC Nv<|gC Uy<|AI
def eG(x:Y0×List A1×v7):Rnd (Y0×List A1×v7) D (List A1×D):=if U (x.2.2.1<(j8 x.1.2.2.2.2.2.1:Int)) then if inb x.2.2.1 x.1.2.2.2.2.2.1.length then(KZ (((rd aG6 x.1.2.2.2.2.2.1 x.2.2.1).fr,(rd aG6 x.1.2.2.2.2.2.1 x.2.2.1).nu,(rd aG6 x.1.2.2.2.2.2.1 x.2.2.1).to,(rd aG6 x.1.2.2.2.2.2.1 x.2.2.1).un,(rd aG6 x.1.2.2.2.2.2.1 x.2.2.1).tx,()),())).bind λa=>if U ((B [105,110,98,111,120,32]).size+a.1.1.size<=4611686018427387904) then if Ab (x.2.1.length+([((B [105,110,98,111,120,32])++a.1.1)]:List A1).length) then I (.inl (x.1,(x.2.1++([((B [105,110,98,111,120,32])++a.1.1)]:List A1)),(w64<|x.2.2.1+1),())) else G else G else G else I (.inr<|.inr (x.2.1,()))
def bu:=AT eG
def vq:Loop:=⟨[(1,Z3),(3,.row 9 .str),(7,j6)],[(3,.row 9 .str)],4,[],bu⟩
def aiK:LF f185 [] [1,1,1,1,1,1,1,0,1,0,0] vq:=sq (v:= .nil) fI (b:=eG) kN
def eH(x:Y0×List A1×v7):Rnd (Y0×List A1×v7) D (Y0×List A1×D):=if U (x.2.2.1<(j8 x.1.2.2.2.1:Int)) then if inb x.2.2.1 x.1.2.2.2.1.length then(KZ (((rd aG6 x.1.2.2.2.1 x.2.2.1).fr,(rd aG6 x.1.2.2.2.1 x.2.2.1).nu,(rd aG6 x.1.2.2.2.1 x.2.2.1).to,(rd aG6 x.1.2.2.2.1 x.2.2.1).un,(rd aG6 x.1.2.2.2.1 x.2.2.1).tx,()),())).bind λa=>if U ((B [104,101,108,100,32]).size+a.1.1.size<=4611686018427387904) then if Ab (x.2.1.length+([((B [104,101,108,100,32])++a.1.1)]:List A1).length) then I (.inl (x.1,(x.2.1++([((B [104,101,108,100,32])++a.1.1)]:List A1)),(w64<|x.2.2.1+1),())) else G else G else G else I (.inr<|.inr (x.1,x.2.1,()))
def bw:=AT eH
def vr:Loop:=⟨[(1,Z3),(3,.row 9 .str),(6,j6)],[(1,Z3),(3,.row 9 .str)],2,[],bw⟩
def aiQ:LF f185 [] [1,1,1,1,1,1,0,1,0,0] vr:=sq (v:= .nil) fI (b:=eH) kN
def eJ(x:Y0×List A1×v7):Rnd (Y0×List A1×v7) D (Y0×List A1×D):=if U (x.2.2.1<(j8 x.1.2.2.2.2.1:Int)) then if inb x.2.2.1 x.1.2.2.2.2.1.length then let d:=(rd aHg x.1.2.2.2.2.1 x.2.2.1).mf;let e:=(rd aHg x.1.2.2.2.2.1 x.2.2.1).mn;let f:=(rd aHg x.1.2.2.2.2.1 x.2.2.1).mu;(DK (d,())).bind λa=>if U ((B [109,97,114,107,32]).size+a.1.1.size<=4611686018427387904) then if U (((B [109,97,114,107,32])++a.1.1).size+(B [32]).size<=4611686018427387904) then(DK (e,())).bind λb=>if U ((((B [109,97,114,107,32])++a.1.1)++(B [32])).size+b.1.1.size<=4611686018427387904) then if U (((((B [109,97,114,107,32])++a.1.1)++(B [32]))++b.1.1).size+(B [32]).size<=4611686018427387904) then(DK (f,())).bind λc=>if U ((((((B [109,97,114,107,32])++a.1.1)++(B [32]))++b.1.1)++(B [32])).size+c.1.1.size<=4611686018427387904) then if Ab (x.2.1.length+([((((((B [109,97,114,107,32])++a.1.1)++(B [32]))++b.1.1)++(B [32]))++c.1.1)]:List A1).length) then I (.inl (x.1,(x.2.1++([((((((B [109,97,114,107,32])++a.1.1)++(B [32]))++b.1.1)++(B [32]))++c.1.1)]:List A1)),(w64<|x.2.2.1+1),())) else G else G else G else G else G else G else G else I (.inr<|.inr (x.1,x.2.1,()))
def bz:=AT eJ
def vt:Loop:=⟨[(1,Z3),(3,.row 9 .str),(4,j6)],[(1,Z3),(3,.row 9 .str)],0,[],bz⟩
def aib:LF f185 [] [1,1,1,1,1,0,1,0,0] vt:=sq (v:= .nil) fI (b:=eJ) kN
def WA(x:Y0×D):Option ((List A1×D)×D):=(Px x).bind λg=>if !g.1.1 then I ((([]:List A1),()),()) else(BU (X:=Y0×List A1×D) (λa=>(BU (X:=Y0×List A1×D) (λd=>(AP (bz (d.1,d.2.1,0,())) (λ_=>G) λe=>(AP (bw (e.1,e.2.1,0,())) (λ_=>G) λf=>(AP (bu (f.1,f.2.1,0,())) (λ_=>G) λh=>I (h,())))))<|(if U (1<a.1.2.2.1) then(DK (a.1.2.2.1,())).bind λb=>if U ((B [110,101,120,116,32]).size+b.1.1.size<=4611686018427387904) then if Ab (a.2.1.length+([((B [110,101,120,116,32])++b.1.1)]:List A1).length) then I (.inr (a.1,(a.2.1++([((B [110,101,120,116,32])++b.1.1)]:List A1)),())) else G else G else I (.inr a))))<|(if U (0<x.1.2.1) then(DK (x.1.2.1,())).bind λc=>if U ((B [116,105,109,101,32]).size+c.1.1.size<=4611686018427387904) then if Ab (([]:List A1).length+([((B [116,105,109,101,32])++c.1.1)]:List A1).length) then I (.inr (x.1,(([]:List A1)++([((B [116,105,109,101,32])++c.1.1)]:List A1)),())) else G else G else I (.inr (x.1,([]:List A1),()))))
def uN:Ent:=(185,G,⟨[Z4],[.row 9 .str],WA⟩)
def adV:y7 uN:=sk (v:=t1<|t1<|t1<|.join [(1,Z3),(3,.row 9 .str)] .nil<|.join [(1,Z3),(3,.row 9 .str)] .nil<|.two (t1<|.one<|.loop vt)<|.two (t1<|.one<|.loop vr)<|.two (t1<|.one<|.loop vq) .nil) (fn:=f185) fI<|kC aib<|kC aiQ<|kC aiK kN
def ajD:Cx:=cX [HP,jU,uL,VP,tl,uN] [] []
def alR:y9 ajD:=aG5<|gC Hx<|gC vz<|gC adO<|gC bh<|gC ad8<|gC adV<|AI
def Kc(x:Y3×A1×Bool×D):Option ((Y3×Bool×D)×D):=(FA (x.1,())).bind λb=>(SP (b.1.1,x.2.1,())).bind λe=>if !e.1.2.1 then I ((x.1,A0,()),()) else(O0 ((x.1.2.2.1,x.1.2.2.2.1,()),x.2.1,())).bind λc=>(BU (X:=Bool×Y3×Y3×Y4×Bool×D) (λa=>if !a.2.2.2.2.1 then I ((a.2.1,A0,()),()) else if a.1 then(Nu (a.2.2.2.1,())).bind λd=>I (((a.2.1.1,a.2.1.2.1,d.1.1.1,d.1.1.2.1,a.2.1.2.2.2.2),Y,()),()) else I (((a.2.1.1,a.2.1.2.1,a.2.2.2.1.1,a.2.2.2.1.2.1,a.2.1.2.2.2.2),Y,()),()))<|(if !c.1.2.1 then(WA (b.1.1,())).bind λf=>(Rw ((x.1.2.2.1,x.1.2.2.2.1,()),f.1)).bind λg=>(O0 (g.1.1,x.2.1,())).bind λh=>I (.inr (x.2.2.1,x.1,(0,A0,noB,0,([]:List AD),()),h.1)) else I (.inr (x.2.2.1,x.1,(0,A0,noB,0,([]:List AD),()),c.1))))
def SD:Ent:=(180,G,⟨[Z8,.str,.bool],[Z8,.bool],Kc⟩)
def V2:y7 SD:=sk (v:=t1<|t1<|t1<|t1<|t1<|.join [(2,.bool),(3,Z13),(6,Z16),(12,Z22),(13,.bool)] .nil .nil) (fn:=f180) alR kN
def ahc:Cx:=cX [] [] []
def aix:y9 ahc:=aG5<|AI
def dw(x:Int×Y8×D):Option ((Y8×D)×D):=I (((x.1,x.2.1.2.2.1,x.2.1.2.1,x.2.1.2.2.2.1,x.2.1.2.2.2.2.1,x.2.1.2.2.2.2.2.1,x.2.1.2.2.2.2.2.2.1,0,0,noB,()),()),())
def xj:Ent:=(212,G,⟨[j6,Z20],[Z20],dw⟩)
def adt:y7 xj:=sk (v:= .nil) (fn:=f212) aix kN
def ajt:Cx:=cX [] [] []
def aoF:y9 ajt:=aG5<|AI
def Ps(x:List AD×v7):Option ((List AD×D)×D):=if U (0<=x.2.1)&&U (x.2.1<=(j8 x.1:Int)) then if Ab (([]:List AD).length+(BV (AJ x.2.1) x.1).length) then if U (0<=(w64<|x.2.1+1))&&U ((w64<|x.2.1+1)<=(j8 x.1:Int)) then if Ab ((([]:List AD)++(BV (AJ x.2.1) x.1)).length+(Bp (AJ<|w64<|x.2.1+1) x.1).length) then I ((((([]:List AD)++(BV (AJ x.2.1) x.1))++(Bp (AJ<|w64<|x.2.1+1) x.1)),()),()) else G else G else G else G
def iN:Ent:=(215,G,⟨[.fz .half,j6],[.row 99 .half],Ps⟩)
def uW:y7 iN:=sk (v:= .nil) (fn:=f215) aoF kN
def ajs:Cx:=cX [] [] [(22,28)]
def aAJ:y9 ajs:=aG5<|AI
def eX(x:List AD×aHc):Rnd (List AD×aHc) (v7) D:=if U (x.2.2.2.1<(j8 x.1:Int)) then if inb x.2.2.2.1 x.1.length then if Ak (U<|(rd aHa x.1 x.2.2.2.1).fr=x.2.1) (inb x.2.2.2.1 x.1.length) then if(U<|(rd aHa x.1 x.2.2.2.1).fr=x.2.1)&&(U<|(rd aHa x.1 x.2.2.2.1).nu=x.2.2.1) then I (.inr<|.inl x.2.2.2) else I (.inl (x.1,x.2.1,x.2.2.1,(w64<|x.2.2.2.1+1),())) else G else G else I (.inr<|.inr ())
def rH:=AT eX
def ww:Loop:=⟨[(0,.sl .half),(1,j6),(2,j6),(7,j6)],[],0,[(6,j6)],rH⟩
def akT:LF f230 [] [1,0,1,0,0] ww:=sq (v:= .nil) aAJ (b:=eX) kN
def fg(x:List AD×aG7):Option ((v7)×D):=(AP (rH (x.1,x.2.1,x.2.2.1,0,())) (λa=>I (a,())) λa=>I (((-1),()),()))
def aAX:Ent:=(230,G,⟨[.fz .half,j6,j6],[j6],fg⟩)
def afJ:y7 aAX:=sk (v:=t1<|.two (t1<|.one<|.loop ww) .nil) (fn:=f230) aAJ<|kC akT kN
def anG:Cx:=cX [iN,aAX] [] []
def aBY:y9 anG:=aG5<|gC uW<|gC afJ<|AI
def fh(x:Y3×Y8×Y3×Int×Y6×List AQ×v7):Rnd (Y3×Y8×Y3×Int×Y6×List AQ×v7) D (Y3×Y8×Y3×Int×Y6×List AQ×D):=if U (x.2.2.2.2.2.2.1<(j8 x.2.2.2.2.1.2.2.2.2.2.1:Int)) then if inb x.2.2.2.2.2.2.1 x.2.2.2.2.1.2.2.2.2.2.1.length then if !decide ((rd aHl x.2.2.2.2.1.2.2.2.2.2.1 x.2.2.2.2.2.2.1).nu=x.2.1.2.2.2.2.2.2.2.2.1) then if inb x.2.2.2.2.2.2.1 x.2.2.2.2.1.2.2.2.2.2.1.length then if Ab (x.2.2.2.2.2.1.length+([(rd aHl x.2.2.2.2.1.2.2.2.2.2.1 x.2.2.2.2.2.2.1)]:List AQ).length) then let a:=(w64<|x.2.2.2.2.2.2.1+1);I (.inl (x.1,x.2.1,x.2.2.1,x.2.2.2.1,x.2.2.2.2.1,(x.2.2.2.2.2.1++([(rd aHl x.2.2.2.2.1.2.2.2.2.2.1 x.2.2.2.2.2.2.1)]:List AQ)),a,())) else G else G else let b:=(w64<|x.2.2.2.2.2.2.1+1);I (.inl (x.1,x.2.1,x.2.2.1,x.2.2.2.1,x.2.2.2.2.1,x.2.2.2.2.2.1,b,())) else G else I (.inr<|.inr (x.1,x.2.1,x.2.2.1,x.2.2.2.1,x.2.2.2.2.1,x.2.2.2.2.2.1,()))
def dF:=AT fh
def yx:Loop:=⟨[(2,Z16),(3,Z21),(4,Z16),(6,j6),(7,Z11),(8,.row 119 .mixed),(9,j6)],[(2,Z16),(3,Z21),(4,Z16),(6,j6),(7,Z11),(8,.row 119 .mixed)],0,[],dF⟩
def anU:LF f213 [] [1,1,1,1,1,1,0,1,0,0] yx:=sq (v:= .nil) aBY (b:=fh) kN
def gf(x:Y3×Y8×D):Option ((Y3×v7)×D):=(fg (x.1.2.2.2.2.1,x.2.1.2.2.2.1,x.2.1.2.2.2.2.1,())).bind λe=>(BU (X:=Y3×Y8×Y3×v7) (λa=>if inb a.2.2.2.1 a.1.2.2.2.2.1.length then let i:=(rd aHa a.1.2.2.2.2.1 a.2.2.2.1).fr;let j:=(rd aHa a.1.2.2.2.2.1 a.2.2.2.1).nu;let f:=(rd aHa a.1.2.2.2.2.1 a.2.2.2.1).to;let g:=(rd aHa a.1.2.2.2.2.1 a.2.2.2.1).un;let h:=(rd aHa a.1.2.2.2.2.1 a.2.2.2.1).sz;let k:=(rd aHa a.1.2.2.2.2.1 a.2.2.2.1).got;if !decide (f=a.2.1.2.2.2.2.2.1) then I ((a.1,(-1),()),()) else if !decide (g=a.2.1.2.2.2.2.2.2.1) then I ((a.1,(-1),()),()) else if !decide (h=a.2.1.2.2.2.2.2.2.2.1) then I ((a.1,(-1),()),()) else(AP (dF (a.1,a.2.1,a.2.2.1,a.2.2.2.1,(i,j,f,g,h,k,()),([]:List AQ),0,())) (λ_=>G) λd=>(BU (X:=Y3×Y8×Y3×Int×Y6×List AQ×D) (λc=>if Ab (c.2.2.2.2.2.1.length+([(AQ.mk c.2.1.2.2.2.2.2.2.2.2.1 c.2.1.2.2.2.2.2.2.2.2.2.1)]:List AQ).length) then if inb c.2.2.2.1 c.1.2.2.2.2.1.length then I (((c.1.1,c.1.2.1,c.1.2.2.1,c.1.2.2.2.1,(Bq c.1.2.2.2.2.1 (AJ c.2.2.2.1)<|AD.mk c.2.2.2.2.1.1 c.2.2.2.2.1.2.1 c.2.2.2.2.1.2.2.1 c.2.2.2.2.1.2.2.2.1 c.2.2.2.2.1.2.2.2.2.1<|c.2.2.2.2.2.1++([(AQ.mk c.2.1.2.2.2.2.2.2.2.2.1 c.2.1.2.2.2.2.2.2.2.2.2.1)]:List AQ)),()),c.2.2.2.1,()),()) else G else G)<|(if U (14<=(j8 d.2.2.2.2.2.1:Int)) then if U (0<=1)&&U (1<=(j8 d.2.2.2.2.2.1:Int)) then if Ab (([]:List AQ).length+(Bp (AJ 1) d.2.2.2.2.2.1).length) then I (.inr (d.1,d.2.1,d.2.2.1,d.2.2.2.1,d.2.2.2.2.1,(([]:List AQ)++(Bp (AJ 1) d.2.2.2.2.2.1)),())) else G else G else I (.inr d)))) else G)<|(if U (e.1.1<0) then(BU (X:=Y3×Y8×Y3×D) (λb=>if Ab (b.1.2.2.2.2.1.length+([(AD.mk b.2.1.2.2.2.1 b.2.1.2.2.2.2.1 b.2.1.2.2.2.2.2.1 b.2.1.2.2.2.2.2.2.1 b.2.1.2.2.2.2.2.2.2.1 ([]:List AQ))]:List AD).length) then let l:=(w64<|((b.1.2.2.2.2.1++([(AD.mk b.2.1.2.2.2.1 b.2.1.2.2.2.2.1 b.2.1.2.2.2.2.2.1 b.2.1.2.2.2.2.2.2.1 b.2.1.2.2.2.2.2.2.2.1 ([]:List AQ))]:List AD)).length:Int) - 1);I (.inr ((b.1.1,b.1.2.1,b.1.2.2.1,b.1.2.2.2.1,(b.1.2.2.2.2.1++([(AD.mk b.2.1.2.2.2.1 b.2.1.2.2.2.2.1 b.2.1.2.2.2.2.2.1 b.2.1.2.2.2.2.2.2.1 b.2.1.2.2.2.2.2.2.2.1 ([]:List AQ))]:List AD)),()),b.2.1,b.2.2.1,l,())) else G)<|(if U (3<=(j8 x.1.2.2.2.2.1:Int)) then(Ps (x.1.2.2.2.2.1,0,())).bind λm=>I (.inr ((x.1.1,x.1.2.1,x.1.2.2.1,x.1.2.2.2.1,m.1),x.2.1,(0,A0,noB,0,([]:List AD),()),())) else I (.inr (x.1,x.2.1,(0,A0,noB,0,([]:List AD),()),())))) else I (.inr (x.1,x.2.1,(0,A0,noB,0,([]:List AD),()),e.1))))
def aBD:Ent:=(213,G,⟨[Z17,Z20],[Z17,j6],gf⟩)
def agF:y7 aBD:=sk (v:=t1<|t1<|.join [(2,Z16),(3,Z21),(4,Z16),(6,j6)] (t1<|.two (.join [(2,Z16),(3,Z21),(4,Z16)] .nil .nil) .nil)<|t1<|t1<|t1<|.two (t1<|.one<|.loop yx)<|.join [(2,Z16),(3,Z21),(4,Z16),(6,j6),(7,Z11),(8,.row 119 .mixed)] .nil .nil) (fn:=f213) aBY<|kC anU kN
def ajM:Cx:=cX [Gv] [] []
def akp:y9 ajM:=aG5<|gC HQ<|AI
def Pl(x:v7):Option ((v7)×D):=(DC (x.1,0,65535,())).bind λa=>if !a.1.1 then I ((0,()),()) else let b:=(BJ (w64<|(w64<|x.1 * 25173)+13849) 65536);I ((b,()),())
def uM:Ent:=(232,G,⟨[j6],[j6],Pl⟩)
def adU:y7 uM:=sk (v:= .nil) (fn:=f232) akp kN
def ajG:Cx:=cX [] [] []
def akl:y9 ajG:=aG5<|AI
def eZ(x:aG7):Option ((v7)×D):=if U (x.2.1=1) then if !decide (x.1=0) then let a:=(w64<|(w64<|Ay 60 x.1)+10);I ((a,()),()) else G else if !decide ((w64<|x.2.1 * (w64<|x.2.1 - 1))=0) then let b:=(w64<|Ay 60<|w64<|x.2.1 * (w64<|x.2.1 - 1));I ((b,()),()) else G
def zI:Ent:=(246,G,⟨[j6,j6],[j6],eZ⟩)
def ael:y7 zI:=sk (v:= .nil) (fn:=f246) akl kN
def ahH:Cx:=cX [XE,uM,zI] [] []
def tY:y9 ahH:=aG5<|gC eO<|gC adU<|gC ael<|AI
def VQ(x:aHc):Rnd (aHc) (v7) (v7):=if U (x.2.2.1<x.1) then(eZ (x.1,x.2.2)).bind λa=>if U ((w64<|x.2.1 - a.1.1)<0) then I (.inr<|.inl x.2.2) else I (.inl (x.1,(w64<|x.2.1 - a.1.1),(w64<|x.2.2.1+1),())) else I (.inr<|.inr (x.1,()))
def cD:=AT VQ
def ua:Loop:=⟨[(0,j6),(7,j6),(8,j6)],[(0,j6)],2,[(4,j6)],cD⟩
def ah9:LF f233 [] [1,1,1,1,1,1,0,1,0,0] ua:=sq (v:= .nil) tY (b:=VQ) kN
def vm(x:Int×aHc):Rnd (Int×aHc) D (aHc):=if U (x.2.2.2.1<=x.1) then(eZ (x.1,x.2.2.2)).bind λa=>I (.inl (x.1,x.2.1,(w64<|x.2.2.1+a.1.1),(w64<|x.2.2.2.1+1),())) else I (.inr<|.inr (x.1,x.2.1,x.2.2.1,()))
def cE:=AT vm
def ub:Loop:=⟨[(0,j6),(1,j6),(5,j6),(6,j6)],[(0,j6),(1,j6),(5,j6)],0,[],cE⟩
def agr:LF f233 [] [1,1,1,1,0,1,0,0] ub:=sq (v:= .nil) tY (b:=vm) kN
def eB(x:aG7):Option ((v7)×D):=(Mv x).bind λc=>if !c.1.1 then I ((0,()),()) else if U (x.2.1<x.1) then I ((1,()),()) else(AP (cE (x.1,x.2.1,0,1,())) (λ_=>G) (λa=>(Pl ((w64<|(w64<|a.2.1 * 31)+a.1),())).bind λd=>(Pl d.1).bind λe=>if !decide (a.2.2.1=0) then let f:=(BJ (w64<|Ay e.1.1 16) a.2.2.1);(AP (cD (a.1,f,1,())) (λb=>I (b,())) λb=>I (b,())) else G))
def xl:Ent:=(233,G,⟨[j6,j6],[j6],eB⟩)
def aeO:y7 xl:=sk (v:=t1<|t1<|t1<|t1<|.two (t1<|.one<|.loop ub)<|t1<|.two (t1<|.one<|.loop ua) .nil) (fn:=f233) tY<|kC agr<|kC ah9 kN
def aqC:Cx:=cX [XE,uM,xl] [] []
def XG:y9 aqC:=aG5<|gC eO<|gC adU<|gC aeO<|AI
def Ww(x:Int×List Int×List Bool×aHc):Rnd (Int×List Int×List Bool×aHc) D (Int×List Int×List Bool×aHc):=if inb x.2.2.2.2.2.1 x.2.2.1.length then if rd aHm x.2.2.1 x.2.2.2.2.2.1 then if !decide (x.1=0) then let a:=(BJ (w64<|x.2.2.2.2.2.1+1) x.1);I (.inl (x.1,x.2.1,x.2.2.1,x.2.2.2.1,x.2.2.2.2.1,a,())) else G else I (.inr<|.inr x) else G
def eA:=AT Ww
def zz:Loop:=⟨[(0,j6),(5,.row 3 .int),(6,.row 4 .bool),(7,j6),(8,j6),(9,j6)],[(0,j6),(5,.row 3 .int),(6,.row 4 .bool),(7,j6),(8,j6),(9,j6)],2,[],eA⟩
def apE:LF f217 [] [1,1,1,1,1,1,0,1,0,0,1,0,0,1,1,0,0,0] zz:=sq (v:= .nil) XG (b:=Ww) kN
def gq(x:Int×List Int×List Bool×v7):Rnd (Int×List Int×List Bool×v7) D (List Int×D):=if U (x.2.2.2.1<x.1) then if inb x.2.2.2.1 x.2.2.1.length then if rd aHm x.2.2.1 x.2.2.2.1 then if Ab (x.2.1.length+([x.2.2.2.1]:List Int).length) then I (.inl (x.1,(x.2.1++([x.2.2.2.1]:List Int)),x.2.2.1,(w64<|x.2.2.2.1+1),())) else G else I (.inl (x.1,x.2.1,x.2.2.1,(w64<|x.2.2.2.1+1),())) else G else I (.inr<|.inr (x.2.1,()))
def tL:=AT gq
def zy:Loop:=⟨[(0,j6),(5,.row 3 .int),(6,.row 4 .bool),(10,j6)],[(5,.row 3 .int)],4,[],tL⟩
def apB:LF f217 [] [1,1,1,1,1,1,1,0,1,0,0] zy:=sq (v:= .nil) XG (b:=gq) kN
def jB(x:Int×List Int×List Bool×aG7):Rnd (Int×List Int×List Bool×aG7) D (Int×List Int×List Bool×D):=if U (0<x.2.2.2.2.1) then(Pl (x.2.2.2.1,())).bind λb=>if !decide (x.1=0) then let c:=(BJ (w64<|Ay b.1.1 16) x.1);(AP (eA (x.1,x.2.1,x.2.2.1,b.1.1,x.2.2.2.2.1,c,())) (λ_=>I<|.inr<|.inl ()) λa=>(if inb a.2.2.2.2.2.1 a.2.2.1.length then let d:=(w64<|a.2.2.2.2.1 - 1);I (.inl (a.1,a.2.1,(Bq a.2.2.1 (AJ a.2.2.2.2.2.1) Y),a.2.2.2.1,d,())) else G)) else G else I (.inr<|.inr (x.1,x.2.1,x.2.2.1,()))
def tM:=AT jB
def aA0:Loop:=⟨[(0,j6),(5,.row 3 .int),(6,.row 4 .bool),(7,j6),(8,j6)],[(0,j6),(5,.row 3 .int),(6,.row 4 .bool)],0,[],tM⟩
def aoj:LF f217 [] [1,1,1,1,1,1,0,1,0,0] aA0:=sq (v:=t1<|.two (.one<|t1<|t1<|.two (.one<|.loop zz) .nil) .nil) XG (b:=jB)<|kC apE kN
def X1(x:aG7):Option ((List Int×D)×D):=(Mv x).bind λb=>if !b.1.1 then I ((([]:List Int),()),()) else if U (x.2.1<x.1) then if Ab (([]:List Int).length+([x.2.1]:List Int).length) then I (((([]:List Int)++([x.2.1]:List Int)),()),()) else G else if U (0<=x.1)&&U (x.1<=4294967296) then(Pl ((w64<|(w64<|x.2.1 * 7)+1),())).bind λc=>(eB x).bind λd=>(AP (tM (x.1,([]:List Int),(BZ (AJ x.1)<|dfl .bool),c.1.1,d.1)) (λ_=>G) λa=>(AP (tL (a.1,a.2.1,a.2.2.1,0,())) (λ_=>G) λe=>I (e,()))) else G
def jg:Ent:=(217,G,⟨[j6,j6],[.row 3 .int],X1⟩)
def xL:y7 jg:=sk (v:=t1<|t1<|t1<|t1<|t1<|t1<|.two (t1<|.one<|.loop aA0)<|.two (t1<|.one<|.loop zy) .nil) (fn:=f217) XG<|kC aoj<|kC apB kN
def aqB:Cx:=cX [] [] []
def aC0:y9 aqB:=aG5<|AI
def aAt(x:A1×A1×List Int×v7):Rnd (A1×A1×List Int×v7) D (List Int×D):=if U (x.2.2.2.1<4) then if inb x.2.2.2.1 x.1.size then if inb x.2.2.2.1 x.2.1.size then if Ab (x.2.2.1.length+([(Ds .u8 (bt x.1 x.2.2.2.1)<|bt x.2.1 x.2.2.2.1)]:List Int).length) then I (.inl (x.1,x.2.1,(x.2.2.1++([(Ds .u8 (bt x.1 x.2.2.2.1)<|bt x.2.1 x.2.2.2.1)]:List Int)),(w64<|x.2.2.2.1+1),())) else G else G else G else I (.inr<|.inr (x.2.2.1,()))
def tJ:=AT aAt
def zD:Loop:=⟨[(0,.str),(1,.str),(5,.row 5 .u8),(6,j6)],[(5,.row 5 .u8)],0,[],tJ⟩
def aoi:LF f219 [] [1,1,0,1,0,0] zD:=sq (v:= .nil) aC0 (b:=aAt) kN
def X0(x:A1×A1×D):Option ((A1×D)×D):=(AP (tJ (x.1,x.2.1,([]:List Int),0,())) (λ_=>G) λa=>I (((BF a.1),()),()))
def jf:Ent:=(219,G,⟨[.str,.str],[.str],X0⟩)
def wv:y7 jf:=sk (v:=t1<|t1<|.two (t1<|.one<|.loop zD) .nil) (fn:=f219) aC0<|kC aoi kN
def anE:Cx:=cX [jg,jf] [] []
def aBX:y9 anE:=aG5<|gC xL<|gC wv<|AI
def WW(x:List A1×List Int×A1×List Int×v7):Rnd (List A1×List Int×A1×List Int×v7) D (List Int×A1×D):=if U (x.2.2.2.2.1<(j8 x.2.2.2.1:Int)) then if inb x.2.2.2.2.1 x.2.2.2.1.length then if inb (rd aHb x.2.2.2.1 x.2.2.2.2.1) x.1.length then if U ((rd aHj x.1<|rd aHb x.2.2.2.1 x.2.2.2.2.1)=noB) then if inb x.2.2.2.2.1 x.2.2.2.1.length then if Ab (x.2.1.length+([(rd aHb x.2.2.2.1 x.2.2.2.2.1)]:List Int).length) then I (.inl (x.1,(x.2.1++([(rd aHb x.2.2.2.1 x.2.2.2.2.1)]:List Int)),x.2.2.1,x.2.2.2.1,(w64<|x.2.2.2.2.1+1),())) else G else G else if inb x.2.2.2.2.1 x.2.2.2.1.length then if inb (rd aHb x.2.2.2.1 x.2.2.2.2.1) x.1.length then(X0 (x.2.2.1,(rd aHj x.1<|rd aHb x.2.2.2.1 x.2.2.2.2.1),())).bind λa=>I (.inl (x.1,x.2.1,a.1.1,x.2.2.2.1,(w64<|x.2.2.2.2.1+1),())) else G else G else G else G else I (.inr<|.inr (x.2.1,x.2.2.1,()))
def dC:=AT WW
def yw:Loop:=⟨[(2,.sl .str),(8,.row 3 .int),(9,.str),(10,.row 3 .int),(11,j6)],[(8,.row 3 .int),(9,.str)],0,[],dC⟩
def anT:LF f245 [] [1,1,1,1,0,1,0,0] yw:=sq (v:= .nil) aBX (b:=WW) kN
def gb(x:Int×Y5×List A1×D):Option ((List Int×A1×D)×D):=(X1 (x.1,x.2.1.1,())).bind λa=>(AP (dC (x.2.2.1,([]:List Int),x.2.1.2.1,a.1.1,0,())) (λ_=>G) λb=>I (b,()))
def aBC:Ent:=(245,G,⟨[j6,Z10,.fz .str],[.row 3 .int,.str],gb⟩)
def agE:y7 aBC:=sk (v:=t1<|t1<|t1<|t1<|.two (t1<|.one<|.loop yw) .nil) (fn:=f245) aBX<|kC anT kN
def al5:Cx:=cX [Gv,iM,aBC] [] []
def ic:y9 al5:=aG5<|gC HQ<|gC um<|gC agE<|AI
def Pn(x:Int×List AQ×List A1×Bool×v7):Rnd (Int×List AQ×List A1×Bool×v7) D (Int×List AQ×List A1×Bool×D):=if U (x.2.2.2.2.1<(j8 x.2.1:Int)) then if inb x.2.2.2.2.1 x.2.1.length then(SL (x.1,((rd aHl x.2.1 x.2.2.2.2.1).nu,(rd aHl x.2.1 x.2.2.2.2.1).da,()),())).bind λb=>if !b.1.1 then I (.inl (x.1,x.2.1,x.2.2.1,x.2.2.2.1,(w64<|x.2.2.2.2.1+1),())) else if inb x.2.2.2.2.1 x.2.1.length then(gb (x.1,((rd aHl x.2.1 x.2.2.2.2.1).nu,(rd aHl x.2.1 x.2.2.2.2.1).da,()),x.2.2.1,())).bind λa=>if U ((j8 a.1.1:Int)=1) then if inb 0 a.1.1.length then if inb (rd aHb a.1.1 0) x.2.2.1.length then I (.inl (x.1,x.2.1,(Bq x.2.2.1 (AJ<|rd aHb a.1.1 0) a.1.2.1),Y,(w64<|x.2.2.2.2.1+1),())) else G else G else I (.inl (x.1,x.2.1,x.2.2.1,x.2.2.2.1,(w64<|x.2.2.2.2.1+1),())) else G else G else I (.inr<|.inr (x.1,x.2.1,x.2.2.1,x.2.2.2.1,()))
def VH:=AT Pn
def xJ:Loop:=⟨[(0,j6),(1,.sl .mixed),(5,.row 9 .str),(6,.bool),(7,j6)],[(0,j6),(1,.sl .mixed),(5,.row 9 .str),(6,.bool)],2,[],VH⟩
def aje:LF f231 [] [1,1,1,1,0,0,0,1,0,1,1,0,0] xJ:=sq (v:= .nil) ic (b:=Pn) kN
def uC(x:Int×List AQ×List A1×Bool×D):Rnd (Int×List AQ×List A1×Bool×D) D (List A1×D):=if x.2.2.2.1 then(AP (VH (x.1,x.2.1,x.2.2.1,A0,0,())) (λ_=>I<|.inr<|.inl ()) λa=>I<|.inl a) else I (.inr<|.inr (x.2.2.1,()))
def sA:=AT uC
def xK:Loop:=⟨[(0,j6),(1,.sl .mixed),(5,.row 9 .str),(6,.bool)],[(5,.row 9 .str)],0,[],sA⟩
def aka:LF f231 [] [1,1,1,1,0,0,0] xK:=sq (v:=t1<|.one<|t1<|t1<|.one<|.loop xJ) ic (b:=uC)<|kC aje kN
def fq(x:Int×List AQ×D):Option ((List A1×D)×D):=(DC (x.1,1,6,())).bind λa=>if !a.1.1 then I ((([]:List A1),()),()) else if U (0<=x.1)&&U (x.1<=4294967296) then(AP (sA (x.1,x.2.1,(BZ (AJ x.1)<|dfl .str),Y,())) (λ_=>G) λb=>I (b,())) else G
def aAc:Ent:=(231,G,⟨[j6,.fz .mixed],[.row 9 .str],fq⟩)
def afO:y7 aAc:=sk (v:=t1<|t1<|t1<|t1<|.two (.one<|.loop xK) .nil) (fn:=f231) ic<|kC aka kN
def al4:Cx:=cX [Gv,SC,aAc] [] []
def ib:y9 al4:=aG5<|gC HQ<|gC V5<|gC afO<|AI
def fT(x:Int×A1×v7):Rnd (Int×A1×v7) (A1×Bool×D) (Int×A1×D):=if U (x.2.2.1<(x.2.1.size:Int)) then if inb x.2.2.1 x.2.1.size then if !decide ((bt x.2.1 x.2.2.1)=0) then I (.inr<|.inl (noB,A0,())) else I (.inl (x.1,x.2.1,(w64<|x.2.2.1+1),())) else G else I (.inr<|.inr (x.1,x.2.1,()))
def s9:=AT fT
def xH:Loop:=⟨[(0,j6),(7,.str),(9,j6)],[(0,j6),(7,.str)],2,[(4,.str),(5,.bool)],s9⟩
def ajd:LF f214 [] [1,1,1,1,1,0,1,0,0] xH:=sq (v:= .nil) ib (b:=fT) kN
def W9(x:Int×List A1×A1×v7):Rnd (Int×List A1×A1×v7) (A1×Bool×D) (Int×A1×D):=if U (x.2.2.2.1<(j8 x.2.1:Int)) then if inb x.2.2.2.1 x.2.1.length then if U ((rd aHj x.2.1 x.2.2.2.1)=noB) then I (.inr<|.inl (noB,A0,())) else if inb x.2.2.2.1 x.2.1.length then if U (x.2.2.1.size+(rd aHj x.2.1 x.2.2.2.1).size<=4611686018427387904) then let a:=(x.2.2.1++(rd aHj x.2.1 x.2.2.2.1));I (.inl (x.1,x.2.1,a,(w64<|x.2.2.2.1+1),())) else G else G else G else I (.inr<|.inr (x.1,x.2.2.1,()))
def ck:=AT W9
def xI:Loop:=⟨[(0,j6),(6,.row 9 .str),(7,.str),(8,j6)],[(0,j6),(7,.str)],0,[(4,.str),(5,.bool)],ck⟩
def akZ:LF f214 [] [1,1,1,1,0,1,0,0] xI:=sq (v:= .nil) ib (b:=W9) kN
def fp(x:Int×List AQ×D):Option ((A1×Bool×D)×D):=(DC (x.1,1,24,())).bind λc=>if !c.1.1 then I ((noB,A0,()),()) else(Kb (x.1,())).bind λd=>(fq (d.1.1,x.2)).bind λe=>(AP (ck (x.1,e.1.1,noB,0,())) (λb=>I (b,())) λb=>(AP (s9 (b.1,b.2.1,b.1,())) (λa=>I (a,())) λa=>(if U (0<=a.1)&&U (a.1<=(a.2.1.size:Int)) then let f:=(a.2.1.extract (0)<|AJ a.1);I ((f,Y,()),()) else G)))
def aAb:Ent:=(214,G,⟨[j6,.fz .mixed],[.str,.bool],fp⟩)
def afN:y7 aAb:=sk (v:=t1<|t1<|t1<|t1<|.two (t1<|.one<|.loop xI)<|.two (t1<|.one<|.loop xH) .nil) (fn:=f214) ib<|kC akZ<|kC ajd kN
def ajF:Cx:=cX [HP,SC,VP,S2,XE,WU,Mq,SD,xj,aBD,aAb,iN] [] [(39,46),(62,68)]
def akk:y9 ajF:=aG5<|gC Hx<|gC V5<|gC bh<|gC Uy<|gC eO<|gC cc<|gC Nw<|gC V2<|gC adt<|gC agF<|gC afN<|gC uW<|AI
def W7(x:Y3×Y8×D):Option ((Y3×List Frame×D)×D):=(FA (x.1,())).bind λe=>if U (x.2.1.2.2.2.2.2.2.1<=e.1.1.2.1) then(dw (3,x.2)).bind λb=>I ((x.1,([(Frame.mk b.1.1.1 b.1.1.2.1 b.1.1.2.2.1 b.1.1.2.2.2.1 b.1.1.2.2.2.2.1 b.1.1.2.2.2.2.2.1 b.1.1.2.2.2.2.2.2.1 b.1.1.2.2.2.2.2.2.2.1 b.1.1.2.2.2.2.2.2.2.2.1 b.1.1.2.2.2.2.2.2.2.2.2.1)]:List Frame),()),()) else(G5 (e.1.1.2.2.2.1,x.2.1.2.2.2.1,x.2.1.2.2.2.2.1,())).bind λh=>if Ak (!(U<|0<=h.1.1)) ((Ko (e.1.1.2.2.2.2.1,x.2.1.2.2.2.1,x.2.1.2.2.2.2.1,())).isSome) then if(U<|0<=h.1.1)||(U<|0<=((Ko (e.1.1.2.2.2.2.1,x.2.1.2.2.2.1,x.2.1.2.2.2.2.1,())).getD ((0,()),())).1.1) then(Nu ((x.1.2.2.1,x.1.2.2.2.1,()),())).bind λi=>(dw (2,x.2)).bind λc=>I (((x.1.1,x.1.2.1,i.1.1.1,i.1.1.2.1,x.1.2.2.2.2),([(Frame.mk c.1.1.1 c.1.1.2.1 c.1.1.2.2.1 c.1.1.2.2.2.1 c.1.1.2.2.2.2.1 c.1.1.2.2.2.2.2.1 c.1.1.2.2.2.2.2.2.1 c.1.1.2.2.2.2.2.2.2.1 c.1.1.2.2.2.2.2.2.2.2.1 c.1.1.2.2.2.2.2.2.2.2.2.1)]:List Frame),()),()) else if Ak (!(U<|x.2.1.2.2.2.1=x.1.1)) ((Kb (x.2.1.2.2.2.2.2.2.2.1,())).isSome) then if Ak (!(U<|x.2.1.2.2.2.1=x.1.1)) ((Mv (((Kb (x.2.1.2.2.2.2.2.2.2.1,())).getD ((0,()),())).1.1,x.2.1.2.2.2.2.2.2.2.2.1,())).isSome) then if(U<|x.2.1.2.2.2.1=x.1.1)||(!(((Mv (((Kb (x.2.1.2.2.2.2.2.2.2.1,())).getD ((0,()),())).1.1,x.2.1.2.2.2.2.2.2.2.2.1,())).getD ((A0,()),())).1.1)) then I ((x.1,([]:List Frame),()),()) else(gf x).bind λa=>if U (a.1.2.1<0) then I ((a.1.1,([]:List Frame),()),()) else if inb a.1.2.1 a.1.1.2.2.2.2.1.length then(fp (x.2.1.2.2.2.2.2.2.2.1,(rd aHa a.1.1.2.2.2.2.1 a.1.2.1).got,())).bind λj=>if !j.1.2.1 then I ((a.1.1,([]:List Frame),()),()) else(Ps (a.1.1.2.2.2.2.1,a.1.2)).bind λk=>(KZ ((x.2.1.2.2.2.1,x.2.1.2.2.2.2.1,x.2.1.2.2.2.2.2.1,x.2.1.2.2.2.2.2.2.1,j.1.1,()),())).bind λf=>if U (f.1.1=noB) then I (((a.1.1.1,a.1.1.2.1,a.1.1.2.2.1,a.1.1.2.2.2.1,k.1),([]:List Frame),()),()) else if U ((B [116,97,107,101,32]).size+f.1.1.size<=4611686018427387904) then(Kc ((a.1.1.1,a.1.1.2.1,a.1.1.2.2.1,a.1.1.2.2.2.1,k.1),((B [116,97,107,101,32])++f.1.1),Y,())).bind λg=>if !g.1.2.1 then I ((g.1.1,([]:List Frame),()),()) else(dw (2,x.2)).bind λd=>I ((g.1.1,([(Frame.mk d.1.1.1 d.1.1.2.1 d.1.1.2.2.1 d.1.1.2.2.2.1 d.1.1.2.2.2.2.1 d.1.1.2.2.2.2.2.1 d.1.1.2.2.2.2.2.2.1 d.1.1.2.2.2.2.2.2.2.1 d.1.1.2.2.2.2.2.2.2.2.1 d.1.1.2.2.2.2.2.2.2.2.2.1)]:List Frame),()),()) else G else G else G else G else G
def zH:Ent:=(179,G,⟨[Z17,Z20],[Z8,.fz .frame],W7⟩)
def aek:y7 zH:=sk (v:= .nil) (fn:=f179) akk kN
def afw:Cx:=cX [HP,Kd,Ll,fF,Mq,iO,zH,SD] [] []
def ahs:y9 afw:=aG5<|gC Hx<|gC Le<|gC Mk<|gC qp<|gC Nw<|gC ue<|gC aek<|gC V2<|AI
def VV(x:Y3×Y8×D):Option ((Y3×List Frame×D)×D):=(J9 (x.1,())).bind λf=>if !f.1.1 then I (((0,A0,noB,0,([]:List AD),()),([]:List Frame),()),()) else(G4 (x.1,())).bind λa=>if !x.1.2.1 then I ((a.1.1,([]:List Frame),()),()) else(WJ x.2).bind λg=>if !g.1.1 then I ((a.1.1,([]:List Frame),()),()) else if !decide (x.2.1.2.2.1=x.1.1) then I ((a.1.1,([]:List Frame),()),()) else if U (x.2.1.1=1) then(W7 (a.1.1,x.2)).bind λd=>(G4 (d.1.1,())).bind λh=>I ((h.1.1,d.1.2),()) else(FA (x.1,())).bind λb=>(G5 (b.1.1.2.2.2.1,x.2.1.2.2.2.1,x.2.1.2.2.2.2.1,())).bind λc=>if !decide (x.2.1.1=2) then I ((a.1.1,([]:List Frame),()),()) else if U (c.1.1<0) then I ((a.1.1,([]:List Frame),()),()) else if inb c.1.1 b.1.1.2.2.2.1.length then if !decide ((rd aG6 b.1.1.2.2.2.1 c.1.1).un=x.2.1.2.2.2.2.2.2.1) then I ((a.1.1,([]:List Frame),()),()) else if inb c.1.1 b.1.1.2.2.2.1.length then if !decide ((rd aG6 b.1.1.2.2.2.1 c.1.1).to=x.2.1.2.2.2.2.2.1) then I ((a.1.1,([]:List Frame),()),()) else(Nz (x.2.1.2.2.2.1,x.2.1.2.2.2.2.1,x.2.1.2.2.2.2.2.2.1,())).bind λe=>if U ((B [108,101,116,32]).size+e.1.1.size<=4611686018427387904) then(Kc (a.1.1,((B [108,101,116,32])++e.1.1),A0,())).bind λi=>I ((i.1.1,([]:List Frame),()),()) else G else G else G
def tO:Ent:=(126,G,⟨[Z8,Z20],[Z8,.fz .frame],VV⟩)
def acq:y7 tO:=sk (v:= .nil) (fn:=f126) ahs kN
def akI:Cx:=cX [tu] [] [(11,13)]
def aAH:y9 akI:=aG5<|gC adD<|AI
def W4(x:List AK×List Frame×v7):Rnd (List AK×List Frame×v7) D (List AK×D):=if(U<|x.2.2.1<(j8 x.2.1:Int))&&(U<|(j8 x.1:Int)<30) then if inb x.2.2.1 x.2.1.length then if inb x.2.2.1 x.2.1.length then if inb x.2.2.1 x.2.1.length then(Pf (((rd aHk x.2.1 x.2.2.1).ki,(rd aHk x.2.1 x.2.2.1).src,(rd aHk x.2.1 x.2.2.1).dst,(rd aHk x.2.1 x.2.2.1).fr,(rd aHk x.2.1 x.2.2.1).nu,(rd aHk x.2.1 x.2.2.1).to,(rd aHk x.2.1 x.2.2.1).un,(rd aHk x.2.1 x.2.2.1).sz,(rd aHk x.2.1 x.2.2.1).mix,(rd aHk x.2.1 x.2.2.1).da,()),())).bind λa=>if Ab (x.1.length+([(AK.mk ((rd aHk x.2.1 x.2.2.1).src) ((rd aHk x.2.1 x.2.2.1).dst) (BF a.1.1) A0)]:List AK).length) then I (.inl ((x.1++([(AK.mk ((rd aHk x.2.1 x.2.2.1).src) ((rd aHk x.2.1 x.2.2.1).dst) (BF a.1.1) A0)]:List AK)),x.2.1,(w64<|x.2.2.1+1),())) else G else G else G else G else I (.inr<|.inr (x.1,()))
def rG:=AT W4
def xQ:Loop:=⟨[(0,.row 70 .Ai),(1,.sl .frame),(5,j6)],[(0,.row 70 .Ai)],0,[],rG⟩
def akR:LF f127 [] [1,0,1,0,0] xQ:=sq (v:= .nil) aAH (b:=W4) kN
def SK(x:List AK×List Frame×D):Option ((List AK×D)×D):=(AP (rG (x.1,x.2.1,0,())) (λ_=>G) λa=>I (a,()))
def iJ:Ent:=(127,G,⟨[.row 70 .Ai,.fz .frame],[.row 70 .Ai],SK⟩)
def ui:y7 iJ:=sk (v:=t1<|.two (t1<|.one<|.loop xQ) .nil) (fn:=f127) aAH<|kC akR kN
def ahI:Cx:=cX [HP,Kd,Ll,S2,SD] [] [(37,38)]
def aj0:y9 ahI:=aG5<|gC Hx<|gC Le<|gC Mk<|gC Uy<|gC V2<|AI
def Vb(x:Y3×Int×Int×A1×D):Option ((Y3×v7)×D):=(J9 (x.1,())).bind λd=>if !d.1.1 then I (((0,A0,noB,0,([]:List AD),()),0,()),()) else(FA (x.1,())).bind λb=>(KZ ((x.1.1,b.1.1.2.2.1,x.2),())).bind λa=>if(!x.1.2.1)||(U<|a.1.1=noB) then(G4 (x.1,())).bind λe=>I ((e.1.1,0,()),()) else(G4 (x.1,())).bind λf=>if U ((B [111,119,110,32]).size+a.1.1.size<=4611686018427387904) then(Kc (f.1.1,((B [111,119,110,32])++a.1.1),Y,())).bind λc=>if !c.1.2.1 then(G4 (x.1,())).bind λg=>I ((g.1.1,0,()),()) else I ((c.1.1,b.1.1.2.2.1,()),()) else G
def tp:Ent:=(181,G,⟨[Z8,j6,j6,.str],[Z8,j6],Vb⟩)
def adA:y7 tp:=sk (v:= .nil) (fn:=f181) aj0 kN
def afs:Cx:=cX [HP,Kd,Ll,Mu,SD] [] [(19,21)]
def ahp:y9 afs:=aG5<|gC Hx<|gC Le<|gC Mk<|gC Nv<|gC V2<|AI
def VR(x:Y3×D):Option ((Y3×Bool×D)×D):=(J9 x).bind λc=>if !c.1.1 then I (((0,A0,noB,0,([]:List AD),()),A0,()),()) else(FA x).bind λa=>if(!x.1.2.1)||(U<|999<=a.1.1.2.1) then(G4 x).bind λd=>I ((d.1.1,A0,()),()) else(G4 x).bind λe=>(DK ((w64<|a.1.1.2.1+1),())).bind λb=>if U ((B [116,105,109,101,32]).size+b.1.1.size<=4611686018427387904) then(Kc (e.1.1,((B [116,105,109,101,32])++b.1.1),Y,())).bind λf=>I (f.1,()) else G
def sf:Ent:=(129,G,⟨[Z8],[Z8,.bool],VR⟩)
def acn:y7 sf:=sk (v:= .nil) (fn:=f129) ahp kN
def aoP:Cx:=cX [SC] [] [(12,14)]
def jc:y9 aoP:=aG5<|gC V5<|AI
def fu(x:A1×List A1×Int×List Int×v7):Rnd (A1×List A1×Int×List Int×v7) D (A1×List A1×Int×List Int×D):=if U (x.2.2.2.2.1<(w64<|(w64<|x.2.2.1+1) * 4)) then if U (x.2.2.2.2.1<(x.1.size:Int)) then if inb x.2.2.2.2.1 x.1.size then if Ab (x.2.2.2.1.length+([(bt x.1 x.2.2.2.2.1)]:List Int).length) then I (.inl (x.1,x.2.1,x.2.2.1,(x.2.2.2.1++([(bt x.1 x.2.2.2.2.1)]:List Int)),(w64<|x.2.2.2.2.1+1),())) else G else G else if Ab (x.2.2.2.1.length+([0]:List Int).length) then I (.inl (x.1,x.2.1,x.2.2.1,(x.2.2.2.1++([0]:List Int)),(w64<|x.2.2.2.2.1+1),())) else G else I (.inr<|.inr (x.1,x.2.1,x.2.2.1,x.2.2.2.1,()))
def sR:=AT fu
def z8:Loop:=⟨[(0,.str),(3,.row 9 .str),(4,j6),(5,.row 5 .u8),(6,j6)],[(0,.str),(3,.row 9 .str),(4,j6),(5,.row 5 .u8)],2,[],sR⟩
def ald:LF f216 [] [1,1,1,0,1,0,0,1,0,0,1,0,1,0,0] z8:=sq (v:= .nil) jc (b:=fu) kN
def fv(x:A1×List A1×v7):Rnd (A1×List A1×v7) D (List A1×D):=(Kb ((x.1.size:Int),())).bind λb=>if U (x.2.2.1<b.1.1) then(AP (sR (x.1,x.2.1,x.2.2.1,([]:List Int),(w64<|x.2.2.1 * 4),())) (λ_=>I<|.inr<|.inl ()) λa=>(if Ab (a.2.1.length+([(BF a.2.2.2.1)]:List A1).length) then I (.inl (a.1,(a.2.1++([(BF a.2.2.2.1)]:List A1)),(w64<|a.2.2.1+1),())) else G)) else I (.inr<|.inr (x.2.1,()))
def sS:=AT fv
def zA:Loop:=⟨[(0,.str),(3,.row 9 .str),(4,j6)],[(3,.row 9 .str)],0,[],sS⟩
def anX:LF f216 [] [1,1,1,0,1,0,0] zA:=sq (v:=t1<|.two (.one<|t1<|.two (t1<|.one<|.loop z8) .nil) .nil) jc (b:=fv)<|kC ald kN
def gr(x:A1×D):Option ((List A1×D)×D):=if(U<|(x.1.size:Int)<1)||(U<|24<(x.1.size:Int)) then I ((([]:List A1),()),()) else(AP (sS (x.1,([]:List A1),0,())) (λ_=>G) λa=>I (a,()))
def aAp:Ent:=(216,G,⟨[.str],[.row 9 .str],gr⟩)
def agN:y7 aAp:=sk (v:=t1<|t1<|t1<|.two (t1<|.one<|.loop zA) .nil) (fn:=f216) jc<|kC anX kN
def anD:Cx:=cX [] [] []
def apd:y9 anD:=aG5<|AI
def iz(x:D):Option ((A1×D)×D):=if U (0<=4)&&U (4<=4294967296) then let a:=(BF<|BZ (AJ 4)<|dfl .u8);I ((a,()),()) else G
def aBB:Ent:=(218,G,⟨[],[.str],iz⟩)
def agD:y7 aBB:=sk (v:= .nil) (fn:=f218) apd kN
def al6:Cx:=cX [aAp,jg,aBB,jf] [] [(19,21)]
def aAN:y9 al6:=aG5<|gC agN<|gC xL<|gC agD<|gC wv<|AI
def fU(x:List A1×List Int×A1×v7):Rnd (List A1×List Int×A1×v7) D (A1×D):=if U (x.2.2.2.1<(j8 x.2.1:Int)) then if inb x.2.2.2.1 x.2.1.length then if inb (rd aHb x.2.1 x.2.2.2.1) x.1.length then(X0 (x.2.2.1,(rd aHj x.1<|rd aHb x.2.1 x.2.2.2.1),())).bind λa=>I (.inl (x.1,x.2.1,a.1.1,(w64<|x.2.2.2.1+1),())) else G else G else I (.inr<|.inr (x.2.2.1,()))
def cn:=AT fU
def xM:Loop:=⟨[(5,.row 9 .str),(6,.row 3 .int),(7,.str),(8,j6)],[(7,.str)],0,[],cn⟩
def akb:LF f182 [] [1,1,1,1,1,0,1,0,0] xM:=sq (v:= .nil) aAN (b:=fU) kN
def ft(x:A1×v7):Option ((A1×D)×D):=(gr (x.1,())).bind λa=>(X1 ((j8 a.1.1:Int),x.2)).bind λb=>if(U<|(j8 a.1.1:Int)=0)||(U<|(j8 b.1.1:Int)=0) then I ((noB,()),()) else(iz ()).bind λc=>(AP (cn (a.1.1,b.1.1,c.1.1,0,())) (λ_=>G) λd=>I (d,()))
def aAd:Ent:=(182,G,⟨[.str,j6],[.str],ft⟩)
def afP:y7 aAd:=sk (v:=t1<|t1<|t1<|t1<|t1<|.two (t1<|.one<|.loop xM) .nil) (fn:=f182) aAN<|kC akb kN
def ahJ:Cx:=cX [HP,Gv,Kd,fG,Mq,aAd] [] [(18,20),(36,38)]
def aj1:y9 ahJ:=aG5<|gC Hx<|gC HQ<|gC Le<|gC qy<|gC Nw<|gC afP<|AI
def Vc(x:Y3×aHc):Option ((Y8×Bool×D)×D):=(J9 (x.1,())).bind λe=>if(!e.1.1)||(!x.1.2.1) then I (((0,0,0,0,0,0,0,0,0,noB,()),A0,()),()) else(FA (x.1,())).bind λb=>(G5 (b.1.1.2.2.2.1,x.2.1,x.2.2.1,())).bind λa=>if Ak (!(U<|a.1.1<0)) ((DC (x.2.2.2.1,0,999,())).isSome) then if(U<|a.1.1<0)||(!(((DC (x.2.2.2.1,0,999,())).getD ((A0,()),())).1.1)) then I (((0,0,0,0,0,0,0,0,0,noB,()),A0,()),()) else if inb a.1.1 b.1.1.2.2.2.1.length then let f:=(rd aG6 b.1.1.2.2.2.1 a.1.1).fr;let g:=(rd aG6 b.1.1.2.2.2.1 a.1.1).nu;let c:=(rd aG6 b.1.1.2.2.2.1 a.1.1).to;let h:=(rd aG6 b.1.1.2.2.2.1 a.1.1).un;let d:=(rd aG6 b.1.1.2.2.2.1 a.1.1).tx;(Pm (x.1.1,c,())).bind λi=>(ft (d,x.2.2.2)).bind λj=>I (((1,x.1.1,i.1.1,f,g,c,h,(d.size:Int),x.2.2.2.1,j.1),Y,()),()) else G else G
def tq:Ent:=(130,G,⟨[Z8,j6,j6,j6],[Z20,.bool],Vc⟩)
def adB:y7 tq:=sk (v:= .nil) (fn:=f130) aj1 kN
def ahf:Cx:=cX [VZ,SM] [] []
def aiy:y9 ahf:=aG5<|gC cB<|gC VF<|AI
def dz(x:Y4×v7):Option ((Y4×D)×D):=(O3 (x.1,())).bind λd=>if !d.1.1 then I (((noB,0,()),()),()) else(BU (X:=Int×Y4×Y4×v7) (λb=>(BU (X:=Y4×Y4×v7) (λa=>if U (0<=a.2.2.1)&&U (a.2.2.1<=(a.1.1.size:Int)) then(Lg ((a.1.1.extract (0)<|AJ a.2.2.1),())).bind λc=>if U (0<=c.1.2.1)&&U (c.1.2.1<=(a.1.1.size:Int)) then let e:=(a.1.1.extract (0)<|AJ c.1.2.1);I (((e,c.1.2),()),()) else G else G)<|(if U (0<b.1) then let f:=(w64<|b.2.2.2.1+b.1);I (.inr (b.2.1,b.2.2.1,f,())) else I (.inr b.2))))<|(if U ((w64<|(x.1.1.size:Int) - x.1.2.1)<x.2.1) then let g:=(w64<|(x.1.1.size:Int) - x.1.2.1);I (.inr (g,x.1,(noB,0,()),x.1.2)) else I (.inr (x.2.1,x.1,(noB,0,()),x.1.2))))
def xk:Ent:=(183,G,⟨[Z9,j6],[Z9],dz⟩)
def adu:y7 xk:=sk (v:=t1<|t1<|t1<|.join [(1,j6),(2,Z22),(4,Z22),(5,j6)] .nil<|.join [(2,Z22),(4,Z22),(5,j6)] .nil .nil) (fn:=f183) aiy kN
def afx:Cx:=cX [Kd,xk] [] []
def aht:y9 afx:=aG5<|gC Le<|gC adu<|AI
def VW(x:Y3×v7):Option ((Y3×D)×D):=(J9 (x.1,())).bind λb=>if !b.1.1 then I (((0,A0,noB,0,([]:List AD),()),()),()) else(dz ((x.1.2.2.1,x.1.2.2.2.1,()),x.2)).bind λa=>I (((x.1.1,A0,a.1.1.1,a.1.1.2.1,([]:List AD),()),()),())
def tP:Ent:=(131,G,⟨[Z8,j6],[Z17],VW⟩)
def acr:y7 tP:=sk (v:= .nil) (fn:=f131) aht kN
def afu:Cx:=cX [Kd,Ll] [] []
def ahq:y9 afu:=aG5<|gC Le<|gC Mk<|AI
def VT(x:Y3×D):Option ((Y3×D)×D):=(J9 x).bind λa=>if !a.1.1 then I (((0,A0,noB,0,([]:List AD),()),()),()) else if x.1.2.1 then(G4 x).bind λb=>I (b.1,()) else I (((x.1.1,Y,x.1.2.2.1,x.1.2.2.2.1,([]:List AD),()),()),())
def sg:Ent:=(132,G,⟨[Z8],[Z17],VT⟩)
def aco:y7 sg:=sk (v:= .nil) (fn:=f132) ahq kN
def ahK:Cx:=cX [HP,Kd,Ll,fF,Mq,SD] [] [(33,34)]
def aj2:y9 ahK:=aG5<|gC Hx<|gC Le<|gC Mk<|gC qp<|gC Nw<|gC V2<|AI
def Vd(x:Y3×aG7):Option ((Y3×Y1×Bool×D)×D):=(J9 (x.1,())).bind λe=>if !e.1.1 then I (((0,A0,noB,0,([]:List AD),()),(0,0,0,0,noB,()),A0,()),()) else(FA (x.1,())).bind λa=>(G5 (a.1.1.2.2.2.2.2.1,x.2)).bind λb=>if(!x.1.2.1)||(U<|b.1.1<0) then(G4 (x.1,())).bind λf=>I ((f.1.1,(0,0,0,0,noB,()),A0,()),()) else(G4 (x.1,())).bind λg=>if inb b.1.1 a.1.1.2.2.2.2.2.1.length then(Nz (x.2.1,x.2.2.1,(rd aG6 a.1.1.2.2.2.2.2.1 b.1.1).un,())).bind λc=>if U ((B [101,97,116,32]).size+c.1.1.size<=4611686018427387904) then(Kc (g.1.1,((B [101,97,116,32])++c.1.1),Y,())).bind λd=>if !d.1.2.1 then(G4 (x.1,())).bind λh=>I ((h.1.1,(0,0,0,0,noB,()),A0,()),()) else if inb b.1.1 a.1.1.2.2.2.2.2.1.length then let i:=(rd aG6 a.1.1.2.2.2.2.2.1 b.1.1).fr;let j:=(rd aG6 a.1.1.2.2.2.2.2.1 b.1.1).nu;let k:=(rd aG6 a.1.1.2.2.2.2.2.1 b.1.1).to;let l:=(rd aG6 a.1.1.2.2.2.2.2.1 b.1.1).un;let m:=(rd aG6 a.1.1.2.2.2.2.2.1 b.1.1).tx;I ((d.1.1,(i,j,k,l,m,()),Y,()),()) else G else G else G
def tr:Ent:=(133,G,⟨[Z8,j6,j6],[Z8,Z2,.bool],Vd⟩)
def adC:y7 tr:=sk (v:= .nil) (fn:=f133) aj2 kN
def afv:Cx:=cX [HP,Kd,Ll,tl,uN] [] [(32,33)]
def ahr:y9 afv:=aG5<|gC Hx<|gC Le<|gC Mk<|gC ad8<|gC adV<|AI
def VU(x:Y3×D):Option ((Y3×Bool×D)×D):=(J9 x).bind λc=>if !c.1.1 then I (((0,A0,noB,0,([]:List AD),()),A0,()),()) else(G4 x).bind λa=>(FA x).bind λd=>(WA (d.1.1,())).bind λe=>(Rw ((x.1.2.2.1,x.1.2.2.2.1,()),e.1)).bind λb=>if(!x.1.2.1)||(!b.1.2.1) then I ((a.1.1,A0,()),()) else I (((a.1.1.1,a.1.1.2.1,b.1.1.1,b.1.1.2.1,a.1.1.2.2.2.2),Y,()),())
def si:Ent:=(134,G,⟨[Z8],[Z8,.bool],VU⟩)
def acp:y7 si:=sk (v:= .nil) (fn:=f134) ahr kN
def af2:Cx:=cX [Kd,Ll,VP] [] [(15,22)]
def agT:y9 af2:=aG5<|gC Le<|gC Mk<|gC bh<|AI
def VJ(x:Y3×D):Option ((Y3×Bool×D)×D):=(J9 x).bind λc=>if !c.1.1 then I (((0,A0,noB,0,([]:List AD),()),A0,()),()) else(G4 x).bind λa=>if(!x.1.2.1)||(U<|x.1.2.2.2.1=(x.1.2.2.1.size:Int)) then I ((a.1.1,A0,()),()) else(Nu ((x.1.2.2.1,x.1.2.2.2.1,()),())).bind λb=>I (((a.1.1.1,a.1.1.2.1,b.1.1.1,b.1.1.2.1,a.1.1.2.2.2.2),Y,()),())
def rN:Ent:=(135,G,⟨[Z8],[Z8,.bool],VJ⟩)
def acg:y7 rN:=sk (v:= .nil) (fn:=f135) agT kN
abbrev ZE:Type:=Int×Int×Int×Int×Int×Int×Int×Int×Int×A1×D
def RQ{Ω:Type}(a:List A7)(c:List AK)(e:ZE)(p:AK)(K:List A7->List AK->Option Ω):Option Ω:=
 if(U<|e.1=5) then
 K a c
 else
 if Ab p.data.size then
 (cq ((B9 p.data),())).bind λr=>
 if(!r.1.2.1) then
 K a c
 else
 if(!decide (r.1.1.2.1=p.src)) then
 K a c
 else
 if(!decide (r.1.1.2.2.1=p.dst)) then
 K a c
 else
 if inb p.dst a.length then
 (VV (((rd aG8 a p.dst).id,(rd aG8 a p.dst).up,(rd aG8 a p.dst).log,(rd aG8 a p.dst).fo,(rd aG8 a p.dst).AG,()),r.1.1,())).bind λq=>
 if inb p.dst a.length then
 (SK (c,q.1.2)).bind λs=>
 K (Bq a (AJ p.dst)<|A7.mk q.1.1.1 q.1.1.2.1 q.1.1.2.2.1 q.1.1.2.2.2.1 q.1.1.2.2.2.2.1) s.1.1
 else G
 else G
 else G
def av{Ω:Type}(a:List A7)(c:List AK)(e:ZE)(p:AK)(K:List A7->List AK->Option Ω):Option Ω:=
 if(U (0<=e.2.2.2.2.1)&&U (e.2.2.2.2.1<=(j8 c:Int))) then
 if Ab (([]:List AK).length+(BV (AJ e.2.2.2.2.1) c).length) then
 if(U (0<=(w64<|e.2.2.2.2.1+1))&&U ((w64<|e.2.2.2.2.1+1)<=(j8 c:Int))) then
 if Ab ((([]:List AK)++(BV (AJ e.2.2.2.2.1) c)).length+(Bp (AJ<|w64<|e.2.2.2.2.1+1) c).length) then
 RQ a ((([]:List AK)++(BV (AJ e.2.2.2.2.1) c))++(Bp (AJ<|w64<|e.2.2.2.2.1+1) c)) e p K
 else G
 else G
 else G
 else G
def au{Ω:Type}(a:List A7)(c:List AK)(e:ZE)(p:AK)(K:List A7->List AK->Option Ω):Option Ω:=
 if(U<|e.1=5) then
 av a c e p K
 else
 if(U<|e.2.2.2.2.2.2.1=0) then
 av a c e p K
 else
 RQ a c e p K
def RR{Ω:Type}(a:List A7)(b:List Bool)(c:List AK)(e:ZE)(K:List A7->List AK->Option Ω)(F:Option Ω):Option Ω:=
 (DC (e.2.2.2.2.1,0,(w64<|(j8 c:Int) - 1),())).bind λr=>
 if(!r.1.1) then
 F
 else
 if inb e.2.2.2.2.1 c.length then
 if(U<|e.1=6) then
 if(rd aHe c e.2.2.2.2.1).sp then
 F
 else
 (DC (e.2.2.2.2.2.1,0,(w64<|((rd aHe c e.2.2.2.2.1).data.size:Int) - 1),())).bind λr=>
 if(!r.1.1) then
 F
 else
 (DC (e.2.2.2.2.2.2.1,1,255,())).bind λr=>
 if(!r.1.1) then
 F
 else
 if Ab (rd aHe c e.2.2.2.2.1).data.size then
 if inb e.2.2.2.2.2.1 ((B9 (rd aHe c e.2.2.2.2.1).data).length) then
 if inb e.2.2.2.2.2.1 ((B9 (rd aHe c e.2.2.2.2.1).data).length) then
 if inb e.2.2.2.2.1 c.length then
 if inb e.2.2.2.2.1 ((Bq c (AJ e.2.2.2.2.1)<|AK.mk ((rd aHe c e.2.2.2.2.1).src) ((rd aHe c e.2.2.2.2.1).dst) (BF<|Bq (B9 (rd aHe c e.2.2.2.2.1).data) (AJ e.2.2.2.2.2.1)<|Ds .u8 (rd aHh (B9 (rd aHe c e.2.2.2.2.1).data) e.2.2.2.2.2.1)<|w8 e.2.2.2.2.2.2.1)<|(rd aHe c e.2.2.2.2.1).sp).length) then
 K a (Bq (Bq c (AJ e.2.2.2.2.1)<|AK.mk ((rd aHe c e.2.2.2.2.1).src) ((rd aHe c e.2.2.2.2.1).dst) (BF<|Bq (B9 (rd aHe c e.2.2.2.2.1).data) (AJ e.2.2.2.2.2.1)<|Ds .u8 (rd aHh (B9 (rd aHe c e.2.2.2.2.1).data) e.2.2.2.2.2.1)<|w8 e.2.2.2.2.2.2.1)<|(rd aHe c e.2.2.2.2.1).sp) (AJ e.2.2.2.2.1)<|AK.mk ((rd aHe (Bq c (AJ e.2.2.2.2.1)<|AK.mk ((rd aHe c e.2.2.2.2.1).src) ((rd aHe c e.2.2.2.2.1).dst) (BF<|Bq (B9 (rd aHe c e.2.2.2.2.1).data) (AJ e.2.2.2.2.2.1)<|Ds .u8 (rd aHh (B9 (rd aHe c e.2.2.2.2.1).data) e.2.2.2.2.2.1)<|w8 e.2.2.2.2.2.2.1)<|(rd aHe c e.2.2.2.2.1).sp) e.2.2.2.2.1).src) ((rd aHe (Bq c (AJ e.2.2.2.2.1)<|AK.mk ((rd aHe c e.2.2.2.2.1).src) ((rd aHe c e.2.2.2.2.1).dst) (BF<|Bq (B9 (rd aHe c e.2.2.2.2.1).data) (AJ e.2.2.2.2.2.1)<|Ds .u8 (rd aHh (B9 (rd aHe c e.2.2.2.2.1).data) e.2.2.2.2.2.1)<|w8 e.2.2.2.2.2.2.1)<|(rd aHe c e.2.2.2.2.1).sp) e.2.2.2.2.1).dst) ((rd aHe (Bq c (AJ e.2.2.2.2.1)<|AK.mk ((rd aHe c e.2.2.2.2.1).src) ((rd aHe c e.2.2.2.2.1).dst) (BF<|Bq (B9 (rd aHe c e.2.2.2.2.1).data) (AJ e.2.2.2.2.2.1)<|Ds .u8 (rd aHh (B9 (rd aHe c e.2.2.2.2.1).data) e.2.2.2.2.2.1)<|w8 e.2.2.2.2.2.2.1)<|(rd aHe c e.2.2.2.2.1).sp) e.2.2.2.2.1).data) Y)
 else G
 else G
 else G
 else G
 else G
 else
 if(U<|e.1=4) then
 (fX ((rd aHe c e.2.2.2.2.1).src,(rd aHe c e.2.2.2.2.1).dst,())).bind λr=>
 if inb r.1.1 b.length then
 if(!(rd aHm b r.1.1)) then
 F
 else
 au a c e (rd aHe c e.2.2.2.2.1) K
 else G
 else
 au a c e (rd aHe c e.2.2.2.2.1) K
 else G
def Ua{Ω:Type}(b:List Bool)(e:ZE)(K:List Bool->Option Ω)(F:Option Ω):Option Ω:=
 (DC (e.2.1,0,(w64<|(j8 b:Int) - 1),())).bind λr=>
 if(!r.1.1) then
 F
 else
 if inb e.2.1 b.length then
 if(U<|(rd aHm b e.2.1)=(U<|e.1=9)) then
 F
 else
 if inb e.2.1 b.length then
 K (Bq b (AJ e.2.1)<|U<|e.1=9)
 else G
 else G
def p8{Ω:Type}(a:List A7)(c:List AK)(d g:List A3)(e:ZE)(K:List A7->List A3->List A3->Option Ω)(F:Option Ω)(Kv:List A7->Bool->Option Ω)(Km:List AK->Bool->Option Ω)(Kz:Bool->Option Ω):Option Ω:=
 (FQ (e.2.1,())).bind λr=>
 if(!r.1.1) then
 F
 else
 if inb e.2.1 a.length then
 if(U<|e.1=1) then
 if(U<|6<=(j8 d:Int)) then
 F
 else
 if inb e.2.1 a.length then
 (Vb (((rd aG8 a e.2.1).id,(rd aG8 a e.2.1).up,(rd aG8 a e.2.1).log,(rd aG8 a e.2.1).fo,(rd aG8 a e.2.1).AG,()),e.2.2.2.2.2.2.2)).bind λr=>
 if(U<|r.1.2.1=0) then
 F
 else
 if inb e.2.1 a.length then
 if Ab (d.length+([(A3.mk e.2.1 r.1.2.1 e.2.2.2.2.2.2.2.1 e.2.2.2.2.2.2.2.2.1 e.2.2.2.2.2.2.2.2.2.1)]:List A3).length) then
 K (Bq a (AJ e.2.1)<|A7.mk r.1.1.1 r.1.1.2.1 r.1.1.2.2.1 r.1.1.2.2.2.1 r.1.1.2.2.2.2.1) (d++([(A3.mk e.2.1 r.1.2.1 e.2.2.2.2.2.2.2.1 e.2.2.2.2.2.2.2.2.1 e.2.2.2.2.2.2.2.2.2.1)]:List A3)) g
 else G
 else G
 else G
 else
 if(U<|e.1=2) then
 (VR (((rd aG8 a e.2.1).id,(rd aG8 a e.2.1).up,(rd aG8 a e.2.1).log,(rd aG8 a e.2.1).fo,(rd aG8 a e.2.1).AG,()),())).bind λr=>
 if inb e.2.1 a.length then
 Kv (Bq a (AJ e.2.1)<|A7.mk r.1.1.1 r.1.1.2.1 r.1.1.2.2.1 r.1.1.2.2.2.1 r.1.1.2.2.2.2.1) r.1.2.1
 else G
 else
 if(U<|e.1=3) then
 (Vc (((rd aG8 a e.2.1).id,(rd aG8 a e.2.1).up,(rd aG8 a e.2.1).log,(rd aG8 a e.2.1).fo,(rd aG8 a e.2.1).AG,()),e.2.2.1,e.2.2.2.1,e.2.2.2.2.2.1,())).bind λr=>
 if r.1.2.1 then
 (SK (c,([(Frame.mk r.1.1.1 r.1.1.2.1 r.1.1.2.2.1 r.1.1.2.2.2.1 r.1.1.2.2.2.2.1 r.1.1.2.2.2.2.2.1 r.1.1.2.2.2.2.2.2.1 r.1.1.2.2.2.2.2.2.2.1 r.1.1.2.2.2.2.2.2.2.2.1 r.1.1.2.2.2.2.2.2.2.2.2.1)]:List Frame),())).bind λs=>
 Km s.1.1 r.1.2.1
 else
 Kz r.1.2.1
 else
 if(U<|e.1=7) then
 (VW (((rd aG8 a e.2.1).id,(rd aG8 a e.2.1).up,(rd aG8 a e.2.1).log,(rd aG8 a e.2.1).fo,(rd aG8 a e.2.1).AG,()),e.2.2.2.2.2.2.1,())).bind λr=>
 if inb e.2.1 a.length then
 Kv (Bq a (AJ e.2.1)<|A7.mk r.1.1.1 r.1.1.2.1 r.1.1.2.2.1 r.1.1.2.2.2.1 r.1.1.2.2.2.2.1) (rd aG8 a e.2.1).up
 else G
 else
 if(U<|e.1=8) then
 (VT (((rd aG8 a e.2.1).id,(rd aG8 a e.2.1).up,(rd aG8 a e.2.1).log,(rd aG8 a e.2.1).fo,(rd aG8 a e.2.1).AG,()),())).bind λr=>
 if inb e.2.1 a.length then
 Kv (Bq a (AJ e.2.1)<|A7.mk r.1.1.1 r.1.1.2.1 r.1.1.2.2.1 r.1.1.2.2.2.1 r.1.1.2.2.2.2.1) (!(rd aG8 a e.2.1).up)
 else G
 else
 if(U<|e.1=11) then
 (Vd (((rd aG8 a e.2.1).id,(rd aG8 a e.2.1).up,(rd aG8 a e.2.1).log,(rd aG8 a e.2.1).fo,(rd aG8 a e.2.1).AG,()),e.2.2.1,e.2.2.2.1,())).bind λr=>
 if r.1.2.2.1 then
 if(U<|(j8 g:Int)<6) then
 if inb e.2.1 a.length then
 if Ab (g.length+([(A3.mk r.1.2.1.1 r.1.2.1.2.1 r.1.2.1.2.2.1 r.1.2.1.2.2.2.1 r.1.2.1.2.2.2.2.1)]:List A3).length) then
 K (Bq a (AJ e.2.1)<|A7.mk r.1.1.1 r.1.1.2.1 r.1.1.2.2.1 r.1.1.2.2.2.1 r.1.1.2.2.2.2.1) d (g++([(A3.mk r.1.2.1.1 r.1.2.1.2.1 r.1.2.1.2.2.1 r.1.2.1.2.2.2.1 r.1.2.1.2.2.2.2.1)]:List A3))
 else G
 else G
 else
 F
 else
 F
 else
 if(U<|e.1=12) then
 (VU (((rd aG8 a e.2.1).id,(rd aG8 a e.2.1).up,(rd aG8 a e.2.1).log,(rd aG8 a e.2.1).fo,(rd aG8 a e.2.1).AG,()),())).bind λr=>
 if inb e.2.1 a.length then
 Kv (Bq a (AJ e.2.1)<|A7.mk r.1.1.1 r.1.1.2.1 r.1.1.2.2.1 r.1.1.2.2.2.1 r.1.1.2.2.2.2.1) r.1.2.1
 else G
 else
 if(U<|e.1=13) then
 (VJ (((rd aG8 a e.2.1).id,(rd aG8 a e.2.1).up,(rd aG8 a e.2.1).log,(rd aG8 a e.2.1).fo,(rd aG8 a e.2.1).AG,()),())).bind λr=>
 if inb e.2.1 a.length then
 Kv (Bq a (AJ e.2.1)<|A7.mk r.1.1.1 r.1.1.2.1 r.1.1.2.2.1 r.1.1.2.2.2.1 r.1.1.2.2.2.2.1) r.1.2.1
 else G
 else
 F
 else G
def doK{Ω:Type}(a:List A7)(b:List Bool)(c:List AK)(d g:List A3)(e:ZE)(K:List A7->List Bool->List AK->List A3->List A3->Option Ω)(F:Option Ω)(Kv:List A7->Bool->Option Ω)(Km:List AK->Bool->Option Ω)(Kz:Bool->Option Ω):Option Ω:=
 if(U<|e.1=4) then
 RR a b c e (λx y=>K x b y d g) F
 else
 if(U<|e.1=5) then
 RR a b c e (λx y=>K x b y d g) F
 else
 if(U<|e.1=6) then
 RR a b c e (λx y=>K x b y d g) F
 else
 if(U<|e.1=9) then
 Ua b e (λy=>K a y c d g) F
 else
 if(U<|e.1=10) then
 Ua b e (λy=>K a y c d g) F
 else
 p8 a c d g e (λx y z=>K x b c y z) F Kv Km Kz
def aBT:Cx:=cX [Gv,IV,iK,rO,tO,iJ,sf,tq,tP,sg,tr,si,rN,tp] [] []
def aqY:OKC prog aBT (Nd aBT 3):=abh 3 mixed<|gC HQ<|gC JA<|gC uj<|gC acf<|gC acq<|gC ui<|gC acn<|gC adB<|gC acr<|gC aco<|gC adC<|gC acp<|gC acg<|gC adA<|AI
def Kq(x:Y7×Y8×D):Option ((Y7×D)×D):=(doK x.1.2.1 x.1.2.2.1 x.1.2.2.2.1 x.1.2.2.2.2.1 x.1.2.2.2.2.2.1 x.2.1 (λk l r s g=>I ((((w64<|x.1.1+1),k,l,r,s,g,()),()),())) (I ((x.1,()),())) (λk b=>if(!b) then I (((x.1.1,k,x.1.2.2),()),()) else I ((((w64<|x.1.1+1),k,x.1.2.2),()),())) (λr b=>if(!b) then G else I ((((w64<|x.1.1+1),x.1.2.1,x.1.2.2.1,r,x.1.2.2.2.2),()),())) λb=>if(!b) then I ((x.1,()),()) else I ((((w64<|x.1.1+1),x.1.2),()),()))
def XR:Ent:=(66,G,⟨[Z19,Z20],[Z19],Kq⟩)
def tG:y7 XR:=sk (v:= .nil) (fn:=f66) aqY kN
def ajA:Cx:=cX [XR] [] [(7,10)]
def za:y9 ajA:=aG5<|gC tG<|AI
def Vr(x:Y7×Y7×v7):Rnd (Y7×Y7×v7) D (Y7×Y7×D):=if(U<|x.2.2.1<400)&&(U<|0<(j8 x.1.2.2.2.1:Int)) then(Kq (x.1,(4,0,0,0,0,0,0,0,0,noB,()),())).bind λa=>I (.inl (a.1.1,x.2.1,(w64<|x.2.2.1+1),())) else I (.inr<|.inr (x.1,x.2.1,()))
def V4:=AT Vr
def vh:Loop:=⟨[(1,Z18),(2,Z18),(3,j6)],[(1,Z18),(2,Z18)],0,[],V4⟩
def aiX:LF f67 [] [1,0,1,0,0] vh:=sq (v:= .nil) za (b:=Vr) kN
def S5(x:Y7×D):Option ((Y7×D)×D):=(AP (V4 (x.1,(0,([]:List A7),([]:List Bool),([]:List AK),([]:List A3),([]:List A3),()),0,())) (λ_=>G) λa=>I ((a.1,()),()))
def uJ:Ent:=(67,G,⟨[Z19],[Z19],S5⟩)
def adK:y7 uJ:=sk (v:=t1<|.two (t1<|.one<|.loop vh) .nil) (fn:=f67) za<|kC aiX kN
def aj9:Cx:=cX [HP,XR,uJ,SC] [] []
def uT:y9 aj9:=aG5<|gC Hx<|gC tG<|gC adK<|gC V5<|AI
def Vp(x:Int×Y7×Y7×Y0×Int×Y1×v7):Rnd (Int×Y7×Y7×Y0×Int×Y1×v7) D (Int×Y7×Y7×Y0×v7):=(Kb ((x.2.2.2.2.2.1.2.2.2.2.1.size:Int),())).bind λamI=>if U (x.2.2.2.2.2.2.1<amI.1.1) then(Kq (x.2.1,(3,x.1,x.2.2.2.2.2.1.1,x.2.2.2.2.2.1.2.1,0,x.2.2.2.2.2.2.1,0,0,0,noB,()),())).bind λamG=>(S5 amG.1).bind λamF=>let po:=(w64<|x.2.2.2.2.2.2.1+1);I (.inl (x.1,amF.1.1,x.2.2.1,x.2.2.2.1,x.2.2.2.2.1,x.2.2.2.2.2.1,po,())) else I (.inr<|.inr (x.1,x.2.1,x.2.2.1,x.2.2.2.1,x.2.2.2.2.1,()))
def bp:=AT Vp
def vf:Loop:=⟨[(1,j6),(2,Z18),(4,Z18),(5,Z5),(7,j6),(8,Z1),(9,j6)],[(1,j6),(2,Z18),(4,Z18),(5,Z5),(7,j6)],2,[],bp⟩
def aiO:LF f68 [] [1,1,0,1,0,0,1,0,0,1,1,0,0] vf:=sq (v:= .nil) uT (b:=Vp) kN
def Vq(x:Int×Y7×Y7×Y0×v7):Rnd (Int×Y7×Y7×Y0×v7) D (Y7×Y7×D):=if U (x.2.2.2.2.1<(j8 x.2.2.2.1.2.2.2.1:Int)) then if inb x.2.2.2.2.1 x.2.2.2.1.2.2.2.1.length then let a:=(rd aG6 x.2.2.2.1.2.2.2.1 x.2.2.2.2.1).fr;let ame:=(rd aG6 x.2.2.2.1.2.2.2.1 x.2.2.2.2.1).nu;let amd:=(rd aG6 x.2.2.2.1.2.2.2.1 x.2.2.2.2.1).to;let b:=(rd aG6 x.2.2.2.1.2.2.2.1 x.2.2.2.2.1).un;let amc:=(rd aG6 x.2.2.2.1.2.2.2.1 x.2.2.2.2.1).tx;(AP (bp (x.1,x.2.1,x.2.2.1,x.2.2.2.1,x.2.2.2.2.1,(a,ame,amd,b,amc,()),0,())) (λ_=>I<|.inr<|.inl ()) (λUp=>let acN:=(w64<|Up.2.2.2.2.1+1);I (.inl (Up.1,Up.2.1,Up.2.2.1,Up.2.2.2.1,acN,())))) else G else I (.inr<|.inr (x.2.1,x.2.2.1,()))
def bq:=AT Vq
def vg:Loop:=⟨[(1,j6),(2,Z18),(4,Z18),(5,Z5),(7,j6)],[(2,Z18),(4,Z18)],0,[],bq⟩
def aiW:LF f68 [] [1,1,0,1,0,0] vg:=sq (v:=t1<|.two (.one<|t1<|t1<|.one<|.loop vf) .nil) uT (b:=Vq)<|kC aiO kN
def W3(x:Y7×v7):Option ((Y7×D)×D):=if inb x.2.1 x.1.2.1.length then(FA (((rd aG8 x.1.2.1 x.2.1).id,(rd aG8 x.1.2.1 x.2.1).up,(rd aG8 x.1.2.1 x.2.1).log,(rd aG8 x.1.2.1 x.2.1).fo,(rd aG8 x.1.2.1 x.2.1).AG,()),())).bind λa=>(AP (bq (x.2.1,x.1,(0,([]:List A7),([]:List Bool),([]:List AK),([]:List A3),([]:List A3),()),a.1.1,0,())) (λ_=>G) λamT=>I ((amT.1,()),())) else G
def yR:Ent:=(68,G,⟨[Z19,j6],[Z19],W3⟩)
def aej:y7 yR:=sk (v:=t1<|t1<|.two (t1<|.one<|.loop vg) .nil) (fn:=f68) uT<|kC aiW kN
def aj8:Cx:=cX [XR,uJ,yR] [] []
def uS:y9 aj8:=aG5<|gC tG<|gC adK<|gC aej<|AI
def Vn(x:Y7×Y7×v7):Rnd (Y7×Y7×v7) D (Y7×Y7×D):=if U (x.2.2.1<4) then(W3 (x.1,x.2.2)).bind λa=>I (.inl (a.1.1,x.2.1,(w64<|x.2.2.1+1),())) else I (.inr<|.inr (x.1,x.2.1,()))
def bm:=AT Vn
def vd:Loop:=⟨[(1,Z18),(2,Z18),(4,j6)],[(1,Z18),(2,Z18)],2,[],bm⟩
def aiN:LF f31 [] [1,1,1,0,1,0,0] vd:=sq (v:= .nil) uS (b:=Vn) kN
def Vo(x:Y7×Y7×v7):Rnd (Y7×Y7×v7) D (Y7×Y7×D):=if U (x.2.2.1<4) then(Kq (x.1,(8,x.2.2.1,0,0,0,0,0,0,0,noB,()),())).bind λa=>(Kq (a.1.1,(9,x.2.2.1,0,0,0,0,0,0,0,noB,()),())).bind λb=>I (.inl (b.1.1,x.2.1,(w64<|x.2.2.1+1),())) else I (.inr<|.inr (x.1,x.2.1,()))
def bo:=AT Vo
def ve:Loop:=⟨[(1,Z18),(2,Z18),(3,j6)],[(1,Z18),(2,Z18)],0,[],bo⟩
def aiV:LF f31 [] [1,0,1,0,0] ve:=sq (v:= .nil) uS (b:=Vo) kN
def W2(x:Y7×D):Option ((Y7×D)×D):=(AP (bo (x.1,(0,([]:List A7),([]:List Bool),([]:List AK),([]:List A3),([]:List A3),()),0,())) (λ_=>G) λa=>(S5 (a.1,())).bind λb=>(AP (bm (b.1.1,a.2.1,0,())) (λ_=>G) λc=>I ((c.1,()),())))
def yQ:Ent:=(31,G,⟨[Z19],[Z19],W2⟩)
def aei:y7 yQ:=sk (v:=t1<|.two (t1<|.one<|.loop ve)<|t1<|.two (t1<|.one<|.loop vd) .nil) (fn:=f31) uS<|kC aiV<|kC aiN kN
def ahg:Cx:=cX [gI,iL,yQ] [] [(21,23)]
def xW:y9 ahg:=aG5<|gC ry<|gC uk<|gC aei<|AI
def Rq(x:Int×Y7×Y7×v7):Rnd (Int×Y7×Y7×v7) D (Y7×Y7×D):=if U (x.2.2.2.1<x.1) then if(U<|x.2.2.2.1<20)&&(U<|x.2.2.1.1<79999) then(W2 (x.2.2.1,())).bind λa=>I (.inl (x.1,x.2.1,a.1.1,(w64<|x.2.2.2.1+1),())) else I (.inr<|.inr (x.2.1,x.2.2.1,())) else I (.inr<|.inr (x.2.1,x.2.2.1,()))
def Pb:=AT Rq
def uZ:Loop:=⟨[(1,j6),(4,Z18),(5,Z18),(6,j6)],[(4,Z18),(5,Z18)],0,[],Pb⟩
def agq:LF f12 [] [1,1,1,0,1,0,0] uZ:=sq (v:= .nil) xW (b:=Rq) kN
def Lh(x:Y7×v7):Option ((Y7×D)×D):=(Ms (x.1,())).bind λa=>if !a.1.1 then I (((0,([]:List A7),([]:List Bool),([]:List AK),([]:List A3),([]:List A3),()),()),()) else(Kn (x.1,())).bind λb=>(AP (Pb (x.2.1,(0,([]:List A7),([]:List Bool),([]:List AK),([]:List A3),([]:List A3),()),b.1.1,0,())) (λ_=>G) λc=>(Kn c.2).bind λd=>I (d.1,()))
def tn:Ent:=(12,G,⟨[Z15,j6],[Z19],Lh⟩)
def ad9:y7 tn:=sk (v:=t1<|t1<|t1<|.two (t1<|.one<|.loop uZ) .nil) (fn:=f12) xW<|kC agq kN
def an9:Cx:=cX [] [] []
def apc:y9 an9:=aG5<|AI
def Wt(x:List Int×D):Option ((Y9×D)×D):=if U (2000<(j8 x.1:Int)) then if U (0<=2000)&&U (2000<=(j8 x.1:Int)) then let a:=(BV (AJ 2000) x.1);I (((a,0,()),()),()) else G else I (((x.1,0,()),()),())
def jP:Ent:=(16,G,⟨[.fz .u8],[Z23],Wt⟩)
def vb:y7 jP:=sk (v:= .nil) (fn:=f16) apc kN
def aha:Cx:=cX [] [] [(18,23)]
def aiw:y9 aha:=aG5<|AI
def B0(x:Y9×v7):Option ((v7)×Y9×D):=if(U<|x.2.1<1)||(U<|(j8 x.1.1:Int)=0) then I ((0,()),((x.1.1,(w64<|x.1.2.1+1),()),())) else let a:=(w64<|(w64<|x.1.2.1+1) - 1);(if U (a<(j8 x.1.1:Int)) then if inb a x.1.1.length then if !decide (x.2.1=0) then let c:=(BJ (w64<|rd aHh x.1.1 a) x.2.1);I ((c,()),((x.1.1,(w64<|x.1.2.1+1),()),())) else G else G else if !decide ((j8 x.1.1:Int)=0) then if inb (BJ a (j8 x.1.1:Int)) x.1.1.length then if !decide ((j8 x.1.1:Int)=0) then if inb (BJ (w64<|(w64<|a * 7)+3) (j8 x.1.1:Int)) x.1.1.length then if !decide ((j8 x.1.1:Int)=0) then let b:=(w64<|(w64<|(w64<|(w64<|(w64<|rd aHh x.1.1<|BJ a (j8 x.1.1:Int)) * 131)+(w64<|(w64<|rd aHh x.1.1<|BJ (w64<|(w64<|a * 7)+3) (j8 x.1.1:Int)) * 1117))+(w64<|a * 29))+(w64<|(w64<|Ay a (j8 x.1.1:Int)) * 53));let d:=(Ds .i64 b<|w64<|Ay b 64);(if !decide (x.2.1=0) then I (((BJ d x.2.1),()),((x.1.1,(w64<|x.1.2.1+1),()),())) else G) else G else G else G else G else G)
def GP:Ent:=(18,G,⟨[Z23,j6],[j6],B0⟩)
def Gm:y7 GP:=sk (v:= .nil) (fn:=f18) aiw kN
def S4:Cx:=cX [Gv,IV,iK,rO,tO,iJ,sf,tq,tP,sg,tr,si,rN,tp] [] []
def aiv:OKC prog S4 (Nd S4 3):=abh 3 mixed<|gC HQ<|gC JA<|gC uj<|gC acf<|gC acq<|gC ui<|gC acn<|gC adB<|gC acr<|gC aco<|gC adC<|gC acp<|gC acg<|gC adA<|AI
def FP(x:Y10×Y8×D):Option ((Bool×D)×Y10×D):=(doK x.1.2.2.1 x.1.2.2.2.1 x.1.2.2.2.2.1 x.1.2.2.2.2.2.1 x.1.2.2.2.2.2.2.1 x.2.1 (λk l r s g=>if Ab (x.1.2.2.2.2.2.2.2.1.length+([(Event.mk x.2.1.1 x.2.1.2.1 x.2.1.2.2.1 x.2.1.2.2.2.1 x.2.1.2.2.2.2.1 x.2.1.2.2.2.2.2.1 x.2.1.2.2.2.2.2.2.1 x.2.1.2.2.2.2.2.2.2.1 x.2.1.2.2.2.2.2.2.2.2.1 x.2.1.2.2.2.2.2.2.2.2.2.1)]:List Event).length) then I ((Y,()),((x.1.1,(w64<|x.1.2.1+1),k,l,r,s,g,(x.1.2.2.2.2.2.2.2.1++([(Event.mk x.2.1.1 x.2.1.2.1 x.2.1.2.2.1 x.2.1.2.2.2.1 x.2.1.2.2.2.2.1 x.2.1.2.2.2.2.2.1 x.2.1.2.2.2.2.2.2.1 x.2.1.2.2.2.2.2.2.2.1 x.2.1.2.2.2.2.2.2.2.2.1 x.2.1.2.2.2.2.2.2.2.2.2.1)]:List Event)),()),())) else G) (I ((A0,()),(x.1,()))) (λk b=>if b then if Ab (x.1.2.2.2.2.2.2.2.1.length+([(Event.mk x.2.1.1 x.2.1.2.1 x.2.1.2.2.1 x.2.1.2.2.2.1 x.2.1.2.2.2.2.1 x.2.1.2.2.2.2.2.1 x.2.1.2.2.2.2.2.2.1 x.2.1.2.2.2.2.2.2.2.1 x.2.1.2.2.2.2.2.2.2.2.1 x.2.1.2.2.2.2.2.2.2.2.2.1)]:List Event).length) then I ((b,()),((x.1.1,(w64<|x.1.2.1+1),k,x.1.2.2.2.1,x.1.2.2.2.2.1,x.1.2.2.2.2.2.1,x.1.2.2.2.2.2.2.1,(x.1.2.2.2.2.2.2.2.1++([(Event.mk x.2.1.1 x.2.1.2.1 x.2.1.2.2.1 x.2.1.2.2.2.1 x.2.1.2.2.2.2.1 x.2.1.2.2.2.2.2.1 x.2.1.2.2.2.2.2.2.1 x.2.1.2.2.2.2.2.2.2.1 x.2.1.2.2.2.2.2.2.2.2.1 x.2.1.2.2.2.2.2.2.2.2.2.1)]:List Event)),()),())) else G else I ((b,()),((x.1.1,x.1.2.1,k,x.1.2.2.2),()))) (λr b=>if b then if Ab (x.1.2.2.2.2.2.2.2.1.length+([(Event.mk x.2.1.1 x.2.1.2.1 x.2.1.2.2.1 x.2.1.2.2.2.1 x.2.1.2.2.2.2.1 x.2.1.2.2.2.2.2.1 x.2.1.2.2.2.2.2.2.1 x.2.1.2.2.2.2.2.2.2.1 x.2.1.2.2.2.2.2.2.2.2.1 x.2.1.2.2.2.2.2.2.2.2.2.1)]:List Event).length) then I ((b,()),((x.1.1,(w64<|x.1.2.1+1),x.1.2.2.1,x.1.2.2.2.1,r,x.1.2.2.2.2.2.1,x.1.2.2.2.2.2.2.1,(x.1.2.2.2.2.2.2.2.1++([(Event.mk x.2.1.1 x.2.1.2.1 x.2.1.2.2.1 x.2.1.2.2.2.1 x.2.1.2.2.2.2.1 x.2.1.2.2.2.2.2.1 x.2.1.2.2.2.2.2.2.1 x.2.1.2.2.2.2.2.2.2.1 x.2.1.2.2.2.2.2.2.2.2.1 x.2.1.2.2.2.2.2.2.2.2.2.1)]:List Event)),()),())) else G else G) λb=>if b then if Ab (x.1.2.2.2.2.2.2.2.1.length+([(Event.mk x.2.1.1 x.2.1.2.1 x.2.1.2.2.1 x.2.1.2.2.2.1 x.2.1.2.2.2.2.1 x.2.1.2.2.2.2.2.1 x.2.1.2.2.2.2.2.2.1 x.2.1.2.2.2.2.2.2.2.1 x.2.1.2.2.2.2.2.2.2.2.1 x.2.1.2.2.2.2.2.2.2.2.2.1)]:List Event).length) then I ((b,()),((x.1.1,(w64<|x.1.2.1+1),x.1.2.2.1,x.1.2.2.2.1,x.1.2.2.2.2.1,x.1.2.2.2.2.2.1,x.1.2.2.2.2.2.2.1,(x.1.2.2.2.2.2.2.2.1++([(Event.mk x.2.1.1 x.2.1.2.1 x.2.1.2.2.1 x.2.1.2.2.2.1 x.2.1.2.2.2.2.1 x.2.1.2.2.2.2.2.1 x.2.1.2.2.2.2.2.2.1 x.2.1.2.2.2.2.2.2.2.1 x.2.1.2.2.2.2.2.2.2.2.1 x.2.1.2.2.2.2.2.2.2.2.2.1)]:List Event)),()),())) else G else I ((b,()),(x.1,())))
def Li:Ent:=(44,G,⟨[Z24,Z20],[.bool],FP⟩)
end Go.VS
end
