/- Part 4. -/
import Derived.Shelf.Utf8.RuneCount
import Derived.Shelf.Strconv.Itoa0
import Derived.Shelf.Strconv.Itoa1
import Derived.Shelf.LaysM
import Derived.Shelf.Strconv.Itoa2
import Derived.Shelf.Strconv.Itoa3
import Derived.Shelf.Strings.Search1
import Derived.Shelf.Strings.Search2
import Derived.Shelf.Strings.Search3
import Derived.Shelf.Strings.Cut
import Derived.Shelf.Strings.Count
import Derived.Shelf.Strings.Shaped
import Derived.Shelf.Strings.Split
import Derived.Shelf.Strings.SplitShaped
import Derived.Shelf.Unicode.Decode
import Derived.Shelf.Strings.RuneCount
import Derived.Shelf.Strings.Explode
import Derived.Shelf.Unicode.DecodeSlow
import Derived.Shelf.Unicode.DecodeAny
import Derived.Test.YtnbfoldcjgdomaaGreatDoorProg
import Derived.Test.YtnbfoldcjgdomaaGreatDoorQAI
open Bool renaming false->A0,true->Y
open Decidable renaming decide->U
open Go.Lib renaming TabIs->MP,cellsOf->aD,countB->NN,cut->FV,itoa->B6,pow10Tab->NK,splitB->Iy
open Go.Shelf renaming Ren->U7
open Go.Value renaming string->aF
open Int renaming tdiv->B1,tmod->BL,toNat->AM
open List renaming drop->Br,length->j8,replicate->BS,set->Bq,take->BR
open Option renaming none->G,some->I
set_option linter.all false
noncomputable section
namespace Go.Proofs
open Go.Shelf
def Tryz.azH:U7:=⟨fun|171=>121|243=>157|246=>195|283=>226|284=>227|285=>228|286=>229|129=>239|317=>238|318=>240|319=>241|320=>242|337=>250|338=>251|n=>n,fun|3=>3|9=>9|2=>2|4=>4|171=>210|0=>0|53=>211|37=>22|5=>5|173=>214|212=>221|51=>222|20=>20|213=>223|46=>224|232=>232|233=>233|n=>n,fun|17=>0|18=>2|19=>3|n=>n⟩
def Tryz.azL:Go.Proofs.LaysM.n171 prog Tryz.azH:={
 mixed:=by kernel_rfl
 f129:=func239.trans (congrArg I VS.aIn)
 f171:=func121.trans (congrArg I VS.aIn)
 f243:=func157.trans (congrArg I VS.aIn)
 f246:=func195.trans (congrArg I VS.aIn)
 f283:=func226.trans (congrArg I VS.aIn)
 f284:=func227.trans (congrArg I VS.aIn)
 f285:=func228.trans (congrArg I VS.aIn)
 f286:=func229.trans (congrArg I VS.aIn)
 f317:=func238.trans (congrArg I VS.aIn)
 f318:=func240.trans (congrArg I VS.aIn)
 f319:=func241.trans (congrArg I VS.aIn)
 f320:=func242.trans (congrArg I VS.aIn)
 f337:=func250.trans (congrArg I VS.aIn)
 f338:=func251.trans (congrArg I VS.aIn)
 t0:=Tryz.underlying0
 a0:=Tryz.isAgg0
 z0:=Tryz.sizeOf0
 v0:=Tryz.zeroValue0
 t2:=Tryz.underlying2
 a2:=Tryz.isAgg2
 z2:=Tryz.sizeOf2
 v2:=Tryz.zeroValue2
 t3:=Tryz.underlying3
 a3:=Tryz.isAgg3
 z3:=Tryz.sizeOf3
 v3:=Tryz.zeroValue3
 t4:=Tryz.underlying4
 a4:=Tryz.isAgg4
 z4:=Tryz.sizeOf4
 v4:=Tryz.zeroValue4
 t5:=Tryz.underlying5
 a5:=Tryz.isAgg5
 z5:=Tryz.sizeOf5
 v5:=Tryz.zeroValue5
 t9:=Tryz.underlying9
 a9:=Tryz.isAgg9
 z9:=Tryz.sizeOf9
 v9:=Tryz.zeroValue9
 t20:=Tryz.underlying20
 a20:=Tryz.isAgg20
 z20:=Tryz.sizeOf20
 v20:=Tryz.zeroValue20
 t37:=Tryz.underlying22
 a37:=Tryz.isAgg22
 z37:=Tryz.sizeOf22
 v37:=Tryz.zeroValue22
 t46:=Tryz.underlying224
 a46:=Tryz.isAgg224
 z46:=Tryz.sizeOf224
 v46:=Tryz.zeroValue224
 t51:=Tryz.underlying222
 a51:=Tryz.isAgg222
 z51:=Tryz.sizeOf222
 v51:=Tryz.zeroValue222
 t53:=Tryz.underlying211
 a53:=Tryz.isAgg211
 z53:=Tryz.sizeOf211
 v53:=Tryz.zeroValue211
 t171:=Tryz.underlying210
 a171:=Tryz.isAgg210
 z171:=Tryz.sizeOf210
 v171:=Tryz.zeroValue210
 t173:=Tryz.underlying214
 a173:=Tryz.isAgg214
 z173:=Tryz.sizeOf214
 v173:=Tryz.zeroValue214
 t212:=Tryz.underlying221
 a212:=Tryz.isAgg221
 z212:=Tryz.sizeOf221
 v212:=Tryz.zeroValue221
 t213:=Tryz.underlying223
 a213:=Tryz.isAgg223
 z213:=Tryz.sizeOf223
 t232:=Tryz.underlying232
 a232:=Tryz.isAgg232
 z232:=Tryz.sizeOf232
 v232:=Tryz.zeroValue232
 t233:=Tryz.underlying233
 a233:=Tryz.isAgg233
 z233:=Tryz.sizeOf233
 v233:=Tryz.zeroValue233
 g17:=by kernel_rfl
 g18:=by kernel_rfl
 g19:=by kernel_rfl
 i0:=by kernel_rfl
 i2:=by kernel_rfl
 i3:=by kernel_rfl
 i4:=by kernel_rfl
 i5:=by kernel_rfl
 i9:=by kernel_rfl
 i20:=by kernel_rfl
 i37:=by kernel_rfl
 i46:=by kernel_rfl
 i51:=by kernel_rfl
 i53:=by kernel_rfl
 i171:=by kernel_rfl
 i173:=by kernel_rfl
 i212:=by kernel_rfl
 i232:=by kernel_rfl
 i233:=by kernel_rfl
 m17:=by kernel_rfl
 m18:=by kernel_rfl
 m19:=by kernel_rfl }
def Tryz.azG:U7:=⟨fun|145=>166|220=>202|219=>230|217=>243|225=>244|224=>245|267=>246|266=>252|314=>253|n=>n,fun|9=>9|4=>4|59=>172|3=>3|5=>5|46=>224|146=>230|51=>222|n=>n,fun|1=>1|n=>n⟩
def Tryz.azX:Go.Proofs.Lays.n145 prog Tryz.azG:={
 mixed:=by kernel_rfl
 f145:=func166.trans (congrArg I VS.aIn)
 f217:=func243.trans (congrArg I VS.aIn)
 f219:=func230.trans (congrArg I VS.aIn)
 f220:=func202.trans (congrArg I VS.aIn)
 f224:=func245.trans (congrArg I VS.aIn)
 f225:=func244.trans (congrArg I VS.aIn)
 f266:=func252.trans (congrArg I VS.aIn)
 f267:=func246.trans (congrArg I VS.aIn)
 f314:=func253.trans (congrArg I VS.aIn)
 t3:=Tryz.underlying3
 a3:=Tryz.isAgg3
 z3:=Tryz.sizeOf3
 v3:=Tryz.zeroValue3
 t4:=Tryz.underlying4
 a4:=Tryz.isAgg4
 z4:=Tryz.sizeOf4
 v4:=Tryz.zeroValue4
 t5:=Tryz.underlying5
 a5:=Tryz.isAgg5
 z5:=Tryz.sizeOf5
 v5:=Tryz.zeroValue5
 t9:=Tryz.underlying9
 a9:=Tryz.isAgg9
 z9:=Tryz.sizeOf9
 v9:=Tryz.zeroValue9
 t46:=Tryz.underlying224
 a46:=Tryz.isAgg224
 z46:=Tryz.sizeOf224
 v46:=Tryz.zeroValue224
 t51:=Tryz.underlying222
 a51:=Tryz.isAgg222
 z51:=Tryz.sizeOf222
 v51:=Tryz.zeroValue222
 t59:=Tryz.underlying172
 a59:=Tryz.isAgg172
 z59:=Tryz.sizeOf172
 v59:=Tryz.zeroValue172
 t146:=Tryz.underlying230
 a146:=Tryz.isAgg230
 z146:=Tryz.sizeOf230
 v146:=Tryz.zeroValue230
 g1:=by kernel_rfl }
def Tryz.azI:U7:=⟨fun|145=>166|220=>202|219=>230|217=>243|225=>244|224=>245|267=>246|266=>252|314=>253|n=>n,fun|9=>9|4=>4|59=>172|3=>3|5=>5|46=>224|146=>230|51=>222|n=>n,fun|1=>1|n=>n⟩
def Tryz.qR:Go.Proofs.LaysM.n145 prog Tryz.azI:={
 mixed:=by kernel_rfl
 f145:=func166.trans (congrArg I VS.aIn)
 f217:=func243.trans (congrArg I VS.aIn)
 f219:=func230.trans (congrArg I VS.aIn)
 f220:=func202.trans (congrArg I VS.aIn)
 f224:=func245.trans (congrArg I VS.aIn)
 f225:=func244.trans (congrArg I VS.aIn)
 f266:=func252.trans (congrArg I VS.aIn)
 f267:=func246.trans (congrArg I VS.aIn)
 f314:=func253.trans (congrArg I VS.aIn)
 t3:=Tryz.underlying3
 a3:=Tryz.isAgg3
 z3:=Tryz.sizeOf3
 v3:=Tryz.zeroValue3
 t4:=Tryz.underlying4
 a4:=Tryz.isAgg4
 z4:=Tryz.sizeOf4
 v4:=Tryz.zeroValue4
 t5:=Tryz.underlying5
 a5:=Tryz.isAgg5
 z5:=Tryz.sizeOf5
 v5:=Tryz.zeroValue5
 t9:=Tryz.underlying9
 a9:=Tryz.isAgg9
 z9:=Tryz.sizeOf9
 v9:=Tryz.zeroValue9
 t46:=Tryz.underlying224
 a46:=Tryz.isAgg224
 z46:=Tryz.sizeOf224
 v46:=Tryz.zeroValue224
 t51:=Tryz.underlying222
 a51:=Tryz.isAgg222
 z51:=Tryz.sizeOf222
 v51:=Tryz.zeroValue222
 t59:=Tryz.underlying172
 a59:=Tryz.isAgg172
 z59:=Tryz.sizeOf172
 v59:=Tryz.zeroValue172
 t146:=Tryz.underlying230
 a146:=Tryz.isAgg230
 z146:=Tryz.sizeOf230
 v146:=Tryz.zeroValue230
 g1:=by kernel_rfl
 i3:=by kernel_rfl
 i4:=by kernel_rfl
 i5:=by kernel_rfl
 i9:=by kernel_rfl
 i46:=by kernel_rfl
 i51:=by kernel_rfl
 i59:=by kernel_rfl
 i146:=by kernel_rfl
 m1:=by kernel_rfl
 s1_3:=λw h=>Go.Proofs.cell_of_shapedOpen_int (zero:= #[.int .i64 0]) (t:=3) h (of_decide_eq_true VS.aIn) VS.aIn rfl VS.aIn VS.aIn Tryz.underlying3 }
def Tryz.azF:U7:=⟨fun|146=>171|221=>207|268=>231|138=>232|143=>233|195=>247|197=>248|218=>249|219=>230|260=>254|217=>243|225=>244|224=>245|267=>246|266=>252|314=>253|n=>n,fun|9=>9|31=>92|3=>3|4=>4|0=>0|105=>227|21=>21|5=>5|46=>224|119=>234|139=>237|138=>236|146=>230|51=>222|n=>n,fun|1=>1|3=>4|4=>5|n=>n⟩
def Tryz.azW:Go.Proofs.Lays.n146 prog Tryz.azF:={
 mixed:=by kernel_rfl
 f138:=func232.trans (congrArg I VS.aIn)
 f143:=func233.trans (congrArg I VS.aIn)
 f146:=func171.trans (congrArg I VS.aIn)
 f195:=func247.trans (congrArg I VS.aIn)
 f197:=func248.trans (congrArg I VS.aIn)
 f217:=func243.trans (congrArg I VS.aIn)
 f218:=func249.trans (congrArg I VS.aIn)
 f219:=func230.trans (congrArg I VS.aIn)
 f221:=func207.trans (congrArg I VS.aIn)
 f224:=func245.trans (congrArg I VS.aIn)
 f225:=func244.trans (congrArg I VS.aIn)
 f260:=func254.trans (congrArg I VS.aIn)
 f266:=func252.trans (congrArg I VS.aIn)
 f267:=func246.trans (congrArg I VS.aIn)
 f268:=func231.trans (congrArg I VS.aIn)
 f314:=func253.trans (congrArg I VS.aIn)
 t0:=Tryz.underlying0
 a0:=Tryz.isAgg0
 z0:=Tryz.sizeOf0
 v0:=Tryz.zeroValue0
 t3:=Tryz.underlying3
 a3:=Tryz.isAgg3
 z3:=Tryz.sizeOf3
 v3:=Tryz.zeroValue3
 t4:=Tryz.underlying4
 a4:=Tryz.isAgg4
 z4:=Tryz.sizeOf4
 v4:=Tryz.zeroValue4
 t5:=Tryz.underlying5
 a5:=Tryz.isAgg5
 z5:=Tryz.sizeOf5
 v5:=Tryz.zeroValue5
 t9:=Tryz.underlying9
 a9:=Tryz.isAgg9
 z9:=Tryz.sizeOf9
 v9:=Tryz.zeroValue9
 t21:=Tryz.underlying21
 a21:=Tryz.isAgg21
 z21:=Tryz.sizeOf21
 v21:=Tryz.zeroValue21
 t31:=Tryz.underlying92
 a31:=Tryz.isAgg92
 z31:=Tryz.sizeOf92
 v31:=Tryz.zeroValue92
 t46:=Tryz.underlying224
 a46:=Tryz.isAgg224
 z46:=Tryz.sizeOf224
 v46:=Tryz.zeroValue224
 t51:=Tryz.underlying222
 a51:=Tryz.isAgg222
 z51:=Tryz.sizeOf222
 v51:=Tryz.zeroValue222
 t105:=Tryz.underlying227
 a105:=Tryz.isAgg227
 z105:=Tryz.sizeOf227
 v105:=Tryz.zeroValue227
 t119:=Tryz.underlying234
 a119:=Tryz.isAgg234
 z119:=Tryz.sizeOf234
 t138:=Tryz.underlying236
 a138:=Tryz.isAgg236
 z138:=Tryz.sizeOf236
 v138:=Tryz.zeroValue236
 t139:=Tryz.underlying237
 a139:=Tryz.isAgg237
 z139:=Tryz.sizeOf237
 v139:=Tryz.zeroValue237
 t146:=Tryz.underlying230
 a146:=Tryz.isAgg230
 z146:=Tryz.sizeOf230
 v146:=Tryz.zeroValue230
 g1:=by kernel_rfl
 g3:=by kernel_rfl
 g4:=by kernel_rfl }
def Tryz.azE:U7:=⟨fun|147=>204|221=>207|268=>231|138=>232|143=>233|195=>247|197=>248|218=>249|219=>230|260=>254|217=>243|225=>244|224=>245|267=>246|266=>252|314=>253|n=>n,fun|9=>9|3=>3|31=>92|4=>4|0=>0|105=>227|21=>21|5=>5|46=>224|119=>234|139=>237|138=>236|146=>230|51=>222|n=>n,fun|1=>1|3=>4|4=>5|n=>n⟩
def Tryz.azV:Go.Proofs.Lays.n147 prog Tryz.azE:={
 mixed:=by kernel_rfl
 f138:=func232.trans (congrArg I VS.aIn)
 f143:=func233.trans (congrArg I VS.aIn)
 f147:=func204.trans (congrArg I VS.aIn)
 f195:=func247.trans (congrArg I VS.aIn)
 f197:=func248.trans (congrArg I VS.aIn)
 f217:=func243.trans (congrArg I VS.aIn)
 f218:=func249.trans (congrArg I VS.aIn)
 f219:=func230.trans (congrArg I VS.aIn)
 f221:=func207.trans (congrArg I VS.aIn)
 f224:=func245.trans (congrArg I VS.aIn)
 f225:=func244.trans (congrArg I VS.aIn)
 f260:=func254.trans (congrArg I VS.aIn)
 f266:=func252.trans (congrArg I VS.aIn)
 f267:=func246.trans (congrArg I VS.aIn)
 f268:=func231.trans (congrArg I VS.aIn)
 f314:=func253.trans (congrArg I VS.aIn)
 t0:=Tryz.underlying0
 a0:=Tryz.isAgg0
 z0:=Tryz.sizeOf0
 v0:=Tryz.zeroValue0
 t3:=Tryz.underlying3
 a3:=Tryz.isAgg3
 z3:=Tryz.sizeOf3
 v3:=Tryz.zeroValue3
 t4:=Tryz.underlying4
 a4:=Tryz.isAgg4
 z4:=Tryz.sizeOf4
 v4:=Tryz.zeroValue4
 t5:=Tryz.underlying5
 a5:=Tryz.isAgg5
 z5:=Tryz.sizeOf5
 v5:=Tryz.zeroValue5
 t9:=Tryz.underlying9
 a9:=Tryz.isAgg9
 z9:=Tryz.sizeOf9
 v9:=Tryz.zeroValue9
 t21:=Tryz.underlying21
 a21:=Tryz.isAgg21
 z21:=Tryz.sizeOf21
 v21:=Tryz.zeroValue21
 t31:=Tryz.underlying92
 a31:=Tryz.isAgg92
 z31:=Tryz.sizeOf92
 v31:=Tryz.zeroValue92
 t46:=Tryz.underlying224
 a46:=Tryz.isAgg224
 z46:=Tryz.sizeOf224
 v46:=Tryz.zeroValue224
 t51:=Tryz.underlying222
 a51:=Tryz.isAgg222
 z51:=Tryz.sizeOf222
 v51:=Tryz.zeroValue222
 t105:=Tryz.underlying227
 a105:=Tryz.isAgg227
 z105:=Tryz.sizeOf227
 v105:=Tryz.zeroValue227
 t119:=Tryz.underlying234
 a119:=Tryz.isAgg234
 z119:=Tryz.sizeOf234
 t138:=Tryz.underlying236
 a138:=Tryz.isAgg236
 z138:=Tryz.sizeOf236
 v138:=Tryz.zeroValue236
 t139:=Tryz.underlying237
 a139:=Tryz.isAgg237
 z139:=Tryz.sizeOf237
 v139:=Tryz.zeroValue237
 t146:=Tryz.underlying230
 a146:=Tryz.isAgg230
 z146:=Tryz.sizeOf230
 v146:=Tryz.zeroValue230
 g1:=by kernel_rfl
 g3:=by kernel_rfl
 g4:=by kernel_rfl }
open Go.RowKit Go.Sort Go.Lib in
theorem Tryz.strconv_Itoa (n:Int) (h0: -9223372036854775808<=n) (h1:n<=9223372036854775807) (w:World) (bh:MP prog w "internal/strconv.uint64pow10" .u64 NK):
  Calls prog 121 #[.int .i64 n] w λe w'=>e= .returned (.string ⟨(B6 n).toArray⟩)/\ ∃k os,w'=grow (w.drewN k) os:=Any.strconv_Itoa Tryz.azL n h0 h1 w bh
open Go.RowKit Go.Lib in
theorem Tryz.strings_Cut (s sep:ByteArray) (m:Int) (w:World) (hs:s.size<4294967281) (hm:w.cell? ⟨1,0,G⟩=I (.int .i64 m)):
  Calls prog 166 #[.string s,.string sep] w λe w'=>e= .returned (.tuple #[.string ⟨(FV s.data.toList sep.data.toList).1.toArray⟩,.string ⟨(FV s.data.toList sep.data.toList).2.1.toArray⟩,.bool (FV s.data.toList sep.data.toList).2.2])/\ ∃n,w'=w.drewN n:=Any.strings_Cut Tryz.azX s sep m w hs hm
open Go.RowKit Go.Lib in
theorem Tryz.strings_Split (s sep:ByteArray) (m:Int) (w:World) (hs:s.size<4294967281) (hm:w.cell? ⟨1,0,G⟩=I (.int .i64 m)) (h1:1<=sep.size):
  Calls prog 171 #[.string s,.string sep] w λe w'=>
   e= .returned (.slice (I ⟨w.heap.size,0,G⟩) (NN s sep+1)<|NN s sep+1)/\w'=w.alloc (.cells ((Iy sep 0 (NN s sep) s).map aF).toArray 9):=Any.strings_Split Tryz.azW VS.aIn s sep m w hs hm h1
open Go.RowKit Go.Lib in
theorem Tryz.strings_SplitN (s sep:ByteArray) (n:Nat) (m:Int) (w:World) (hs:s.size<4294967281) (hm:w.cell? ⟨1,0,G⟩=I (.int .i64 m)) (h1:1<=sep.size) (hn:1<=n) (aDZ:n<=9223372036854775807):
  Calls prog 204 #[.string s,.string sep,.int .i64 n] w λe w'=>
   e= .returned (.slice (I ⟨w.heap.size,0,G⟩) (Iy sep 0 (min n (s.size+1) - 1) s).length<|min n<|s.size+1)/\w'=w.alloc (.cells (aD (Iy sep 0 (min n (s.size+1) - 1) s)<|min n<|s.size+1) 9):=Any.strings_SplitN Tryz.azV VS.aIn s sep n m w hs hm h1 hn aDZ
end Go.Proofs
namespace Go.VS
open Go Go.Proofs Tryz
set_option linter.unusedVariables false
set_option maxRecDepth 100000
abbrev aIh:=dfl .AP
abbrev aIl:=dfl .Af
abbrev aIu:=dfl .CR
abbrev aIw:=dfl .bool
abbrev aIs:=dfl .frame
abbrev aIi:=dfl .half
abbrev aIk:=dfl .int
abbrev aIv:=dfl .keep
abbrev aIo:=dfl .mark
abbrev aIt:=dfl .mixed
abbrev y5:=dfl .note
abbrev aIr:=dfl .str
abbrev aIp:=dfl .u8
abbrev j6:Sh:=.int .i64
abbrev y7(e:Ent):Prop:=SQ Tryz.prog e
abbrev v7:=Int×D
abbrev aIf:=Int×v7
abbrev aIj:=Int×aIf
abbrev t1(v:Adv):Adv:= .two .nil v
def sk{P:Program}{C:Cx}{inl:(Ω:Type)->Inl Ω}{f:Nat}{d:Option Nat}{fn:Func}{m:DX}{v:Adv}{ls:List (Code×Loop)}(hC:OKC P C inl)(hl:LpK P fn.ntmps (E5 0 m.ps) ls)
  (hf:fnB P f fn m=(I fn,A0,Y,Y):=by kernel_rfl)(hb:fn.body=I (L4 fn):=by kernel_rfl)(h:Fy (L4 fn) v=ls:=by kernel_rfl)(hg:∀x,bE C inl fn v m x=m.g x:=by intro _;kernel_rfl):SQ P (f,d,m):=
 so hC hf hb h hl hg
def sq{P:Program}{C:Cx}{inl:(Ω:Type)->Inl Ω}(hC:OKC P C inl){n:Nat}{pins:List Nat}{body:Code}{v:Adv}{l:Loop}{b:Lv l.sch->Option (Lv l.sch ⊕ (Lv l.KX ⊕ Lv l.KY))}{ls:List (Code×Loop)}
  (hl:LpK P n pins ls)(hb:∀x,evL C inl n pins body v l x=b x:=by intro _;kernel_rfl)(hr:l.run=AT b:=by rfl)(h:Fy body v=ls:=by kernel_rfl):LpK P n pins [(body,l)]:=lk hC hb hr h hl
def kd:TypeId->Option K
 | 2=>I .int
 | 3=>I .int
 | 4=>I .bool
 | 5=>I .u8
 | 9=>I .str
 | 10=>I .str
 | 11=>I .str
 | 38=>I .CR
 | 42=>I .keep
 | 48=>I .AP
 | 52=>I .Af
 | 54=>I .note
 | 56=>I .mark
 | 97=>I .half
 | 111=>I .frame
 | 127=>I .mixed
 | _=>G
abbrev Y0:Type:=List Int×v7
abbrev Z0:Sh:= .box 79 [.fz .u8,j6]
abbrev Y1:Type:=Int×Bool×A1×Int×List AG×D
abbrev Z1:Sh:= .agg [j6,.bool,.str,j6,.row 97 .half]
abbrev Y2:Type:=Int×List A7×List Bool×List AK×List A3×List A3×D
abbrev Z2:Sh:= .box 30 [j6,.row 48 .AP,.row 4 .bool,.row 52 .Af,.row 54 .note,.row 54 .note]
abbrev Z3:Sh:= .agg [j6,.row 48 .AP,.row 4 .bool,.row 52 .Af,.row 54 .note,.row 54 .note]
abbrev Y3:Type:=Int×Int×Int×List A3×List Mark×List A3×D
abbrev Z4:Sh:= .agg [j6,j6,j6,.row 54 .note,.row 56 .mark,.row 54 .note]
abbrev Y4:Type:=Int×Int×Int×Int×A1×D
abbrev Z5:Sh:= .box 54 [j6,j6,j6,j6,.str]
abbrev Z6:Sh:= .agg [j6,j6,j6,j6,.str]
abbrev Z7:Sh:= .box 42 [j6,j6,j6,.sl .note,.sl .mark,.sl .note]
abbrev Z8:Sh:= .agg [j6,j6,j6,.fz .note,.fz .mark,.fz .note]
abbrev Z9:Sh:= .box 42 [j6,j6,j6,.row 54 .note,.row 56 .mark,.row 54 .note]
abbrev Y5:Type:=aIj
abbrev Z10:Sh:= .box 56 [j6,j6,j6]
abbrev Z11:Sh:= .agg [j6,j6,j6]
abbrev Z12:Sh:= .agg [j6,.bool,.str,j6,.fz .half]
abbrev Y6:Type:=Int×Int×Int×Int×Int×Int×Int×Int×Int×A1×D
abbrev Z13:Sh:= .agg [j6,j6,j6,j6,j6,j6,j6,j6,j6,.str]
abbrev Z14:Sh:= .box 111 [j6,j6,j6,j6,j6,j6,j6,j6,j6,.str]
abbrev Y7:Type:=A1×v7
abbrev Z15:Sh:= .agg [.str,j6]
abbrev Y8:Type:=Int×A1×D
abbrev Z16:Sh:= .agg [j6,.str]
abbrev Y9:Type:=Int×Int×Int×Int×Int×List AQ×D
abbrev Z17:Sh:= .box 97 [j6,j6,j6,j6,j6,.sl .mixed]
abbrev Z18:Sh:= .agg [j6,j6,j6,j6,j6,.fz .mixed]
abbrev Z19:Sh:= .box 48 [j6,.bool,.str,j6,.sl .half]
abbrev Z20:Sh:= .box 48 [j6,.bool,.str,j6,.row 97 .half]
abbrev Z21:Sh:= .box 45 [.str,j6]
abbrev Y10:Type:=Y0×Int×List A7×List Bool×List AK×List A3×List A3×List Event×D
abbrev Z22:Sh:= .box 63 [Z0,j6,.row 48 .AP,.row 4 .bool,.row 52 .Af,.row 54 .note,.row 54 .note,.row 38 .CR]
abbrev Z23:Sh:= .box 79 [.sl .u8,j6]
abbrev Z24:Sh:= .box 63 [Z23,j6,.row 48 .AP,.row 4 .bool,.row 52 .Af,.row 54 .note,.row 54 .note,.row 38 .CR]
abbrev Z25:Sh:= .box 38 [j6,j6,j6,j6,j6,j6,j6,j6,j6,.str]
abbrev Y11:Type:=D×Int×List A7×List Bool×List AK×List A3×List A3×List Event×D
abbrev Z28:Sh:= .box 63 [.same 0,j6,.row 48 .AP,.row 4 .bool,.row 52 .Af,.row 54 .note,.row 54 .note,.row 38 .CR]
abbrev Z29:Sh:= .box 30 [j6,.sl .AP,.sl .bool,.sl .Af,.sl .note,.sl .note]
abbrev Z30:Sh:= .agg [j6,.fz .AP,.fz .bool,.fz .Af,.fz .note,.fz .note]
abbrev Z31:Sh:= .box 42 [j6,j6,j6,.row 54 .note,.row 56 .mark,.sl .note]
abbrev Z32:Sh:= .box 127 [j6,.str]
abbrev Y12:Type:=Int×Int×A1×Bool×D
abbrev Z33:Sh:= .box 52 [j6,j6,.str,.bool]
abbrev Z34:Sh:= .box 48 [j6,.bool,.str,j6,.fz .half]
abbrev Z35:Sh:= .box 30 [j6,.fz .AP,.fz .bool,.fz .Af,.fz .note,.fz .note]
abbrev Rnd(a b c:Type):=Option<|a ⊕ (b ⊕ c)
noncomputable abbrev cX(l:List Ent)(cz sp:List (Nat×Nat)):Cx:=⟨prog,kd,gam l,inR cz,inR sp⟩
abbrev LF(fn:Func)(pins path:List Nat)(l:Loop):=LpK prog fn.ntmps pins [(PQ path<|L4 fn,l)]
def mixed:prog.follows .mixedOrders=Y:=by kernel_rfl
def J6:(v7)->Option ((A1×D)×D):=Ub
def SW:Ent:=(121,G,⟨[j6],[.str],J6⟩)
def VF:y7 SW:=⟨asJ (OP func121 aIn (by kernel_rfl:f121.body=I (L4 f121))) aIn Tryz.strconv_Itoa,by kernel_rfl⟩
def Wp:(A1×A1×D)->Option ((A1×A1×Bool×D)×D):=PO
def aC3:Ent:=(166,G,⟨[.str,.str],[.str,.str,.bool],Wp⟩)
def afh:y7 aC3:=⟨auR (gm:=1) (OP func166 aIn (by kernel_rfl:f166.body=I (L4 f166))) (BZ aIn) (λw h=>Tryz.qR.s1_3 w h) Tryz.strings_Cut,by kernel_rfl⟩
def fw:(A1×A1×D)->Option ((List A1×D)×D):=Ts
def zL:Ent:=(171,G,⟨[.str,.str],[.row 9 .str],fw⟩)
def aeC:y7 zL:=⟨aql (gm:=1) (OP func171 aIn (by kernel_rfl:f171.body=I (L4 f171))) (BZ aIn) (λw h=>Tryz.qR.s1_3 w h) Tryz.strings_Split,by kernel_rfl⟩
def ux:(A1×A1×v7)->Option ((List A1×D)×D):=TW
def yc:Ent:=(204,G,⟨[.str,.str,j6],[.row 9 .str],ux⟩)
def adb:y7 yc:=⟨aqC (gm:=1) (OP func204 aIn (by kernel_rfl:f204.body=I (L4 f204))) (BZ aIn) (λw h=>Tryz.qR.s1_3 w h) Tryz.strings_SplitN,by kernel_rfl⟩
def aoF:Cx:=cX [] [] []
abbrev y9(C:Cx):Prop:=OKC prog C AF
def aIe{kd:TypeId->Option K}{l:List Ent}{cz sp:Nat->Bool}(h:RP prog l):OKC prog ⟨prog,kd,gam l,cz,sp⟩ AF:=okc mixed h
def aoz:y9 aoF:=aIe<|AI
def iH(x:List Int×D):Option ((Y0×D)×D):=if U (2000<(j8 x.1:Int)) then if U (0<=2000)&&U (2000<=(j8 x.1:Int)) then let a:=(BR (AM 2000) x.1);I (((a,0,()),()),()) else G else I (((x.1,0,()),()),())
def aC4:Ent:=(19,G,⟨[.fz .u8],[Z0],iH⟩)
def afi:y7 aC4:=sk (v:= .nil) (fn:=f19) aoz kN
def aga:Cx:=cX [] [] [(18,23)]
def aio:y9 aga:=aIe<|AI
def Cg(x:Y0×v7):Option ((v7)×Y0×D):=if(U<|x.2.1<1)||(U<|(j8 x.1.1:Int)=0) then I ((0,()),((x.1.1,(w64<|x.1.2.1+1),()),())) else let a:=(w64<|(w64<|x.1.2.1+1) - 1);(if U (a<(j8 x.1.1:Int)) then if inb a x.1.1.length then if !decide (x.2.1=0) then let c:=(BL (w64<|rd aIp x.1.1 a) x.2.1);I ((c,()),((x.1.1,(w64<|x.1.2.1+1),()),())) else G else G else if !decide ((j8 x.1.1:Int)=0) then if inb (BL a (j8 x.1.1:Int)) x.1.1.length then if !decide ((j8 x.1.1:Int)=0) then if inb (BL (w64<|(w64<|a * 7)+3) (j8 x.1.1:Int)) x.1.1.length then if !decide ((j8 x.1.1:Int)=0) then let b:=(w64<|(w64<|(w64<|(w64<|(w64<|rd aIp x.1.1<|BL a (j8 x.1.1:Int)) * 131)+(w64<|(w64<|rd aIp x.1.1<|BL (w64<|(w64<|a * 7)+3) (j8 x.1.1:Int)) * 1117))+(w64<|a * 29))+(w64<|(w64<|B1 a (j8 x.1.1:Int)) * 53));let d:=(Dw .i64 b<|w64<|B1 b 64);(if !decide (x.2.1=0) then I (((BL d x.2.1),()),((x.1.1,(w64<|x.1.2.1+1),()),())) else G) else G else G else G else G else G)
def Ld:Ent:=(20,G,⟨[Z0,j6],[j6],Cg⟩)
def Mg:y7 Ld:=sk (v:= .nil) (fn:=f20) aio kN
def aqH:Cx:=cX [] [] [(11,13)]
def arZ:y9 aqH:=aIe<|AI
def DF(x:aIj):Option ((Bool×D)×D):=let a:=((U<|x.2.1<=x.1)&&(U<|x.1<=x.2.2.1));I ((a,()),())
def H7:Ent:=(72,G,⟨[j6,j6,j6],[.bool],DF⟩)
def Ha:y7 H7:=sk (v:= .nil) (fn:=f72) arZ kN
def ai9:Cx:=cX [H7] [] []
def akN:y9 ai9:=aIe<|gC Ha<|AI
def FW(x:v7):Option ((Bool×D)×D):=(DF (x.1,0,3,())).bind λa=>I (a.1,())
def Ia:Ent:=(71,G,⟨[j6],[.bool],FW⟩)
def J2:y7 Ia:=sk (v:= .nil) (fn:=f71) akN kN
def aeo:Cx:=cX [Ia] [] []
def ag3:y9 aeo:=aIe<|gC J2<|AI
def VT(x:v7):Option ((Y1×D)×D):=(FW x).bind λa=>if !a.1.1 then I (((0,A0,noB,0,([]:List AG),()),()),()) else I (((x.1,Y,noB,0,([]:List AG),()),()),())
def wA:Ent:=(40,G,⟨[j6],[Z1],VT⟩)
def adK:y7 wA:=sk (v:= .nil) (fn:=f40) ag3 kN
def afm:Cx:=cX [wA] [] []
def uO:y9 afm:=aIe<|gC adK<|AI
def VQ(x:Y2×Y2×v7):Rnd (Y2×Y2×v7) D (Y2×Y2×D):=if U ((w64<|x.2.2.1+1)<4) then if Ab (x.2.1.2.2.1.length+([Y]:List Bool).length) then I (.inl (x.1,(x.2.1.1,x.2.1.2.1,(x.2.1.2.2.1++([Y]:List Bool)),x.2.1.2.2.2),(w64<|x.2.2.1+1),())) else G else I (.inr<|.inr (x.1,x.2.1,()))
def rS:=AT VQ
def acy:Loop:=⟨[(0,Z2),(1,Z2),(3,j6)],[(0,Z2),(1,Z2)],2,[],rS⟩
def af0:LF f22 [] [1,1,1,0,1,0,0] acy:=sq (v:= .nil) uO (b:=VQ) kN
def dJ(x:Y2×Y2×v7):Rnd (Y2×Y2×v7) D (Y2×Y2×D):=if U (x.2.2.1<4) then(VT x.2.2).bind λa=>if Ab (x.2.1.2.1.length+([(A7.mk a.1.1.1 a.1.1.2.1 a.1.1.2.2.1 a.1.1.2.2.2.1 a.1.1.2.2.2.2.1)]:List A7).length) then I (.inl (x.1,(x.2.1.1,(x.2.1.2.1++([(A7.mk a.1.1.1 a.1.1.2.1 a.1.1.2.2.1 a.1.1.2.2.2.1 a.1.1.2.2.2.2.1)]:List A7)),x.2.1.2.2),(w64<|x.2.2.1+1),())) else G else I (.inr<|.inr (x.1,x.2.1,()))
def rT:=AT dJ
def acz:Loop:=⟨[(0,Z2),(1,Z2),(2,j6)],[(0,Z2),(1,Z2)],0,[],rT⟩
def af4:LF f22 [] [1,1,0,1,0,0] acz:=sq (v:= .nil) uO (b:=dJ) kN
def S2(x:D):Option ((Y2×D)×D):=(AN (rT ((0,([]:List A7),([]:List Bool),([]:List AK),([]:List A3),([]:List A3),()),(0,([]:List A7),([]:List Bool),([]:List AK),([]:List A3),([]:List A3),()),0,())) (λ_=>G) λa=>(AN (rS (a.1,a.2.1,0,())) (λ_=>G) λb=>I (b.2,())))
def uW:Ent:=(22,G,⟨[],[Z3],S2⟩)
def acO:y7 uW:=sk (v:=t1<|t1<|.two (t1<|.one<|.loop acz)<|.two (t1<|.one<|.loop acy) .nil) (fn:=f22) uO<|kC af4<|kC af0 kN
def akZ:Cx:=cX [Ld] [] []
def aoh:y9 akZ:=aIe<|gC Mg<|AI
def gT(x:Y0×List A1×D):Option ((A1×D)×Y0×D):=(Cg (x.1,(j8 x.2.1:Int),())).bind λa=>if inb a.1.1 x.2.1.length then let b:=(rd aIr x.2.1 a.1.1);I ((b,()),a.2) else G
def aBG:Ent:=(65,G,⟨[Z0,.fz .str],[.str],gT⟩)
def aer:y7 aBG:=sk (v:= .nil) (fn:=f65) aoh kN
def Gg(abm:(v7)->Option ((A1×D)×D))(x:v7):Option ((A1×D)×D):=
 if U (x.1<(-9223372036854775807)) then
 let v2:=(B [45,57,50,50,51,51,55,50,48,51,54,56,53,52,55,55,53,56,48,56])
 I ((v2,()),())
 else
 if U (x.1<0) then
 (abm ((w64<|0 - x.1),())).bind λr4=>
 if U ((B [45]).size+r4.1.1.size<=4611686018427387904) then
 I ((((B [45])++r4.1.1),()),())
 else G
 else
 if U (x.1<10) then
 let v6:=(BJ ([(w8<|w64<|48+x.1)]:List Int))
 I ((v6,()),())
 else
 (abm ((w64<|B1 x.1 10),())).bind λr7=>
 if U (r7.1.1.size+(BJ ([(w8<|w64<|48+(BL x.1 10))]:List Int)).size<=4611686018427387904) then
 let v8:=(r7.1.1++(BJ ([(w8<|w64<|48+(BL x.1 10))]:List Int)))
 I ((v8,()),())
 else G
def DT:=NS Gg
def apG(g:(v7)->Option ((A1×D)×D)):Cx:=cX [(143,G,⟨[j6],[.str],g⟩)] [] []
def aqo(g:(v7)->Option ((A1×D)×D))(h:SQ prog (143,G,⟨[j6],[.str],g⟩)):OKC prog (apG g) AF:=okc mixed<|gC h<|AI
def OC:Ent:=(143,G,⟨[j6],[.str],DT⟩)
def Pm:y7 OC:=soR (OP (by kernel_rfl:prog.funcs[143]? =I f143) aIn (by kernel_rfl:f143.body=I (L4 f143))) (λ_=>by kernel_rfl) λg h=>so (v:= .nil) (fn:=f143) (aqo g h) aIn aIn aIn kN λ_=>by kernel_rfl
def apH:Cx:=cX [OC] [] [(9,11),(24,27)]
def aCp:y9 apH:=aIe<|gC Pm<|AI
def iI(x:A1×aIf):Rnd (A1×aIf) (v7) (A1×v7):=if U (x.2.2.1<(x.1.size:Int)) then if inb x.2.2.1 x.1.size then if Ag (!(U<|(bt x.1 x.2.2.1)<48)) (inb x.2.2.1 x.1.size) then if(U<|(bt x.1 x.2.2.1)<48)||(U<|57<(bt x.1 x.2.2.1)) then I (.inr<|.inl ((-1),())) else if inb x.2.2.1 x.1.size then let a:=(w64<|(w64<|x.2.1 * 10)+(w64<|w8<|(bt x.1 x.2.2.1) - 48));I (.inl (x.1,a,(w64<|x.2.2.1+1),())) else G else G else G else I (.inr<|.inr (x.1,x.2.1,()))
def uz:=AT iI
def aA9:Loop:=⟨[(0,.str),(3,j6),(4,j6)],[(0,.str),(3,j6)],0,[(2,j6)],uz⟩
def apf:LF f174 [] [1,1,1,0,1,0,0] aA9:=sq (v:= .nil) aCp (b:=iI) kN
def QB(x:A1×D):Option ((v7)×D):=if(U<|(x.1.size:Int)<1)||(U<|4<(x.1.size:Int)) then I (((-1),()),()) else(AN (uz (x.1,0,0,())) (λa=>I (a,())) λa=>(DT a.2).bind λb=>if !decide (b.1.1=a.1) then I (((-1),()),()) else I (a.2,()))
def XO:Ent:=(174,G,⟨[.str],[j6],QB⟩)
def uy:y7 XO:=sk (v:=t1<|t1<|t1<|.two (t1<|.one<|.loop aA9) .nil) (fn:=f174) aCp<|kC apf kN
def anu:Cx:=cX [XO] [] [(11,12)]
def aBq:y9 anu:=aIe<|gC uy<|AI
def O2(x:A1×v7):Rnd (A1×v7) (A1×v7) D:=if(U<|x.2.1<(x.1.size:Int))&&(U<|x.2.1<3) then if inb x.2.1 x.1.size then if !decide ((bt x.1 x.2.1)=58) then I (.inl (x.1,(w64<|x.2.1+1),())) else if U (0<=x.2.1)&&U (x.2.1<=(x.1.size:Int)) then(QB ((x.1.extract (0)<|AM x.2.1),())).bind λa=>if U (a.1.1<1) then I (.inr<|.inl (noB,0,())) else if U (60<a.1.1) then I (.inr<|.inl (noB,0,())) else if U ((x.1.size:Int)<(w64<|(w64<|x.2.1+2)+a.1.1)) then I (.inr<|.inl (noB,0,())) else if inb (w64<|(w64<|x.2.1+1)+a.1.1) x.1.size then if !decide ((bt x.1<|w64<|(w64<|x.2.1+1)+a.1.1)=59) then I (.inr<|.inl (noB,0,())) else if(U (0<=(w64<|(w64<|x.2.1+1)+a.1.1))&&U ((w64<|(w64<|x.2.1+1)+a.1.1)<=(x.1.size:Int)))&&(U (0<=(w64<|x.2.1+1))&&U ((w64<|x.2.1+1)<=(w64<|(w64<|x.2.1+1)+a.1.1))) then let b:=(x.1.extract (AM<|w64<|x.2.1+1)<|AM<|w64<|(w64<|x.2.1+1)+a.1.1);let c:=(w64<|(w64<|x.2.1+2)+a.1.1);I (.inr<|.inl (b,c,())) else G else G else G else G else I (.inr<|.inr ())
def th:=AT O2
def zy:Loop:=⟨[(0,.str),(4,j6)],[],0,[(2,.str),(3,j6)],th⟩
def anF:LF f131 [] [1,0,1,0,0] zy:=sq (v:= .nil) aBq (b:=O2) kN
def iO(x:A1×D):Option ((A1×v7)×D):=(AN (th (x.1,0,())) (λa=>I (a,())) λa=>I ((noB,0,()),()))
def aCD:Ent:=(131,G,⟨[.str],[.str,j6],iO⟩)
def afZ:y7 aCD:=sk (v:=t1<|.two (t1<|.one<|.loop zy) .nil) (fn:=f131) aBq<|kC anF kN
def agd:Cx:=cX [aCD] [] []
def yO:y9 agd:=aIe<|gC afZ<|AI
def Rz(x:A1×List A1×v7):Rnd (A1×List A1×v7) (List A1×v7) (List A1×v7):=if U (x.2.2.1<(x.1.size:Int)) then if U (0<=x.2.2.1)&&U (x.2.2.1<=(x.1.size:Int)) then(iO ((x.1.extract (AM x.2.2.1)<|x.1.size),())).bind λa=>if U (a.1.2.1=0) then I (.inr<|.inl x.2) else if Ab (x.2.1.length+([a.1.1]:List A1).length) then let b:=(w64<|x.2.2.1+a.1.2.1);I (.inl (x.1,(x.2.1++([a.1.1]:List A1)),b,())) else G else G else I (.inr<|.inr x.2)
def rp:=AT Rz
def vc:Loop:=⟨[(0,.str),(4,.row 9 .str),(5,j6)],[(4,.row 9 .str),(5,j6)],0,[(2,.row 9 .str),(3,j6)],rp⟩
def agP:LF f97 [] [1,1,1,0,0,0] vc:=sq (v:= .nil) yO (b:=Rz) kN
def LZ(x:A1×D):Option ((List A1×v7)×D):=(AN (rp (x.1,([]:List A1),0,())) (λa=>I (a,())) λa=>I (a,()))
def W1:Ent:=(97,G,⟨[.str],[.row 9 .str,j6],LZ⟩)
def cI:y7 W1:=sk (v:=t1<|t1<|t1<|.two (.one<|.loop vc) .nil) (fn:=f97) yO<|kC agP kN
def ahN:Cx:=cX [Ia] [] []
def aiv:y9 ahN:=aIe<|gC J2<|AI
def eV(x:v7):Option ((Y3×D)×D):=(FW x).bind λa=>if !a.1.1 then I (((0,0,0,([]:List A3),([]:List Mark),([]:List A3),()),()),()) else I (((x.1,0,1,([]:List A3),([]:List Mark),([]:List A3),()),()),())
def yh:Ent:=(132,G,⟨[j6],[Z4],eV⟩)
def adO:y7 yh:=sk (v:= .nil) (fn:=f132) aiv kN
def akj:Cx:=cX [] [] [(22,28)]
def aB8:y9 akj:=aIe<|AI
def fT(x:List Mark×aIj):Rnd (List Mark×aIj) (v7) D:=if U (x.2.2.2.1<(j8 x.1:Int)) then if inb x.2.2.2.1 x.1.length then if Ag (U<|(rd aIo x.1 x.2.2.2.1).mf=x.2.1) (inb x.2.2.2.1 x.1.length) then if(U<|(rd aIo x.1 x.2.2.2.1).mf=x.2.1)&&(U<|(rd aIo x.1 x.2.2.2.1).mn=x.2.2.1) then I (.inr<|.inl x.2.2.2) else I (.inl (x.1,x.2.1,x.2.2.1,(w64<|x.2.2.2.1+1),())) else G else G else I (.inr<|.inr ())
def tO:=AT fT
def xw:Loop:=⟨[(0,.sl .mark),(1,j6),(2,j6),(7,j6)],[],0,[(6,j6)],tO⟩
def ajV:LF f182 [] [1,0,1,0,0] xw:=sq (v:= .nil) aB8 (b:=fT) kN
def Kg(x:List Mark×aIf):Option ((v7)×D):=(AN (tO (x.1,x.2.1,x.2.2.1,0,())) (λa=>I (a,())) λa=>I (((-1),()),()))
def Wc:Ent:=(182,G,⟨[.fz .mark,j6,j6],[j6],Kg⟩)
def dH:y7 Wc:=sk (v:=t1<|.two (t1<|.one<|.loop xw) .nil) (fn:=f182) aB8<|kC ajV kN
def anv:Cx:=cX [Ia,H7] [] [(51,55)]
def aBr:y9 anv:=aIe<|gC J2<|gC Ha<|AI
def gI(x:Y4×v7):Rnd (Y4×v7) (Bool×D) D:=if U (x.2.1<(x.1.2.2.2.2.1.size:Int)) then if inb x.2.1 x.1.2.2.2.2.1.size then if Ag (!(U<|(bt x.1.2.2.2.2.1 x.2.1)<32)) (inb x.2.1 x.1.2.2.2.2.1.size) then if(U<|(bt x.1.2.2.2.2.1 x.2.1)<32)||(U<|126<(bt x.1.2.2.2.2.1 x.2.1)) then I (.inr<|.inl (A0,())) else I (.inl (x.1,(w64<|x.2.1+1),())) else G else G else I (.inr<|.inr ())
def tl:=AT gI
def aA1:Loop:=⟨[(1,Z5),(3,j6)],[],0,[(2,.bool)],tl⟩
def anG:LF f74 [] [1,1,0,1,0,0] aA1:=sq (v:= .nil) aBr (b:=gI) kN
def O8(x:Y4×D):Option ((Bool×D)×D):=(FW (x.1.1,())).bind λb=>if !b.1.1 then I ((A0,()),()) else(FW (x.1.2.2.1,())).bind λc=>if !c.1.1 then I ((A0,()),()) else(DF (x.1.2.1,1,99,())).bind λd=>if !d.1.1 then I ((A0,()),()) else(DF (x.1.2.2.2.1,1,999,())).bind λe=>if !e.1.1 then I ((A0,()),()) else if U ((x.1.2.2.2.2.1.size:Int)<1) then I ((A0,()),()) else if U (24<(x.1.2.2.2.2.1.size:Int)) then I ((A0,()),()) else(AN (tl (x.1,0,())) (λa=>I (a,())) λa=>I ((Y,()),()))
def Wz:Ent:=(74,G,⟨[Z6],[.bool],O8⟩)
def dk:y7 Wz:=sk (v:=t1<|t1<|.two (t1<|.one<|.loop aA1) .nil) (fn:=f74) aBr<|kC anG kN
def akk:Cx:=cX [] [] [(13,20)]
def aom:y9 akk:=aIe<|AI
def Mp(x:Int×aIj):Option ((Bool×D)×D):=let a:=((U<|x.1<x.2.2.1)||((U<|x.1=x.2.2.1)&&(U<|x.2.1<x.2.2.2.1)));I ((a,()),())
def Wd:Ent:=(234,G,⟨[j6,j6,j6,j6],[.bool],Mp⟩)
def dI:y7 Wd:=sk (v:= .nil) (fn:=f234) aom kN
def aiF:Cx:=cX [Wz,Wd] [] [(23,50)]
def aAQ:y9 aiF:=aIe<|gC dk<|gC dI<|AI
def eL(x:List A3×v7):Rnd (List A3×v7) (Bool×D) D:=if U (x.2.1<(j8 x.1:Int)) then if inb x.2.1 x.1.length then(O8 (((rd y5 x.1 x.2.1).fr,(rd y5 x.1 x.2.1).nu,(rd y5 x.1 x.2.1).to,(rd y5 x.1 x.2.1).un,(rd y5 x.1 x.2.1).tx,()),())).bind λa=>if Ag ((!(!a.1.1))&&(U<|0<x.2.1)) (inb (w64<|x.2.1 - 1) x.1.length) then if Ag ((!(!a.1.1))&&(U<|0<x.2.1)) (inb (w64<|x.2.1 - 1) x.1.length) then if Ag ((!(!a.1.1))&&(U<|0<x.2.1)) (inb x.2.1 x.1.length) then if Ag ((!(!a.1.1))&&(U<|0<x.2.1)) (inb x.2.1 x.1.length) then if Ag ((!(!a.1.1))&&(U<|0<x.2.1)) ((Mp ((rd y5 x.1<|w64<|x.2.1 - 1).fr,(rd y5 x.1<|w64<|x.2.1 - 1).nu,(rd y5 x.1 x.2.1).fr,(rd y5 x.1 x.2.1).nu,())).isSome) then if(!a.1.1)||((U<|0<x.2.1)&&(!(((Mp ((rd y5 x.1<|w64<|x.2.1 - 1).fr,(rd y5 x.1<|w64<|x.2.1 - 1).nu,(rd y5 x.1 x.2.1).fr,(rd y5 x.1 x.2.1).nu,())).getD ((A0,()),())).1.1))) then I (.inr<|.inl (A0,())) else I (.inl (x.1,(w64<|x.2.1+1),())) else G else G else G else G else G else G else I (.inr<|.inr ())
def sF:=AT eL
def wv:Loop:=⟨[(0,.sl .note),(5,j6)],[],0,[(4,.bool)],sF⟩
def ahe:LF f210 [] [1,1,0,1,0,0] wv:=sq (v:= .nil) aAQ (b:=eL) kN
def W5(x:List A3×v7):Option ((Bool×D)×D):=if U (x.2.1<(j8 x.1:Int)) then I ((A0,()),()) else(AN (sF (x.1,0,())) (λa=>I (a,())) λa=>I ((Y,()),()))
def aAD:Ent:=(210,G,⟨[.fz .note,j6],[.bool],W5⟩)
def aeF:y7 aAD:=sk (v:=t1<|t1<|.two (t1<|.one<|.loop wv) .nil) (fn:=f210) aAQ<|kC ahe kN
def aiG:Cx:=cX [Ia,H7,Wd] [] []
def aAR:y9 aiG:=aIe<|gC J2<|gC Ha<|gC dI<|AI
def eO(x:List Mark×v7):Rnd (List Mark×v7) (Bool×D) D:=if U (x.2.1<(j8 x.1:Int)) then if inb x.2.1 x.1.length then let a:=(rd aIo x.1 x.2.1).mf;let b:=(rd aIo x.1 x.2.1).mn;let c:=(rd aIo x.1 x.2.1).mu;(FW (a,())).bind λd=>if !d.1.1 then I (.inr<|.inl (A0,())) else(DF (b,1,99,())).bind λe=>if !e.1.1 then I (.inr<|.inl (A0,())) else(DF (c,1,999,())).bind λf=>if !f.1.1 then I (.inr<|.inl (A0,())) else if U (0<x.2.1) then if inb (w64<|x.2.1 - 1) x.1.length then if inb (w64<|x.2.1 - 1) x.1.length then(Mp ((rd aIo x.1<|w64<|x.2.1 - 1).mf,(rd aIo x.1<|w64<|x.2.1 - 1).mn,a,b,())).bind λg=>if !g.1.1 then I (.inr<|.inl (A0,())) else I (.inl (x.1,(w64<|x.2.1+1),())) else G else G else I (.inl (x.1,(w64<|x.2.1+1),())) else G else I (.inr<|.inr ())
def sG:=AT eO
def ww:Loop:=⟨[(0,.sl .mark),(3,j6)],[],0,[(2,.bool)],sG⟩
def ahf:LF f211 [] [1,1,0,1,0,0] ww:=sq (v:= .nil) aAR (b:=eO) kN
def fS(x:List Mark×D):Option ((Bool×D)×D):=if U (12<(j8 x.1:Int)) then I ((A0,()),()) else(AN (sG (x.1,0,())) (λa=>I (a,())) λa=>I ((Y,()),()))
def aAE:Ent:=(211,G,⟨[.fz .mark],[.bool],fS⟩)
def aeG:y7 aAE:=sk (v:=t1<|t1<|.two (t1<|.one<|.loop ww) .nil) (fn:=f211) aAR<|kC ahf kN
def anp:Cx:=cX [] [] [(16,25)]
def apq:y9 anp:=aIe<|AI
def iL(x:Y4×v7):Option ((Bool×D)×D):=if U (x.1.1<=x.2.1) then let a:=((U<|x.2.1<x.1.2.2.1)||((U<|x.1.2.2.1<x.2.1)&&(U<|x.2.1<=x.1.1)));I ((a,()),()) else let b:=((U<|x.1.2.2.1<x.2.1)&&(U<|x.2.1<=x.1.1));I ((b,()),())
def aC9:Ent:=(212,G,⟨[Z6,j6],[.bool],iL⟩)
def afV:y7 aC9:=sk (v:= .nil) (fn:=f212) apq kN
def anx:Cx:=cX [Ia,H7,Wc,aAD,aAE,aC9] [] [(109,120)]
def ie:y9 anx:=aIe<|gC J2<|gC Ha<|gC dH<|gC aeF<|gC aeG<|gC afV<|AI
def gO(x:Y3×v7):Rnd (Y3×v7) (Bool×D) D:=if U (x.2.1<(j8 x.1.2.2.2.2.2.1:Int)) then if inb x.2.1 x.1.2.2.2.2.2.1.length then let rD:=(rd y5 x.1.2.2.2.2.2.1 x.2.1).fr;let a:=(rd y5 x.1.2.2.2.2.2.1 x.2.1).nu;let amN:=(rd y5 x.1.2.2.2.2.2.1 x.2.1).to;let b:=(rd y5 x.1.2.2.2.2.2.1 x.2.1).un;let azt:=(rd y5 x.1.2.2.2.2.2.1 x.2.1).tx;(if !decide (amN=x.1.1) then I (.inr<|.inl (A0,())) else if U (rD=x.1.1) then if U (x.1.2.2.1<=a) then I (.inr<|.inl (A0,())) else if U (x.1.2.1<b) then(Kg (x.1.2.2.2.2.1,rD,a,())).bind λcC=>if U (cC.1.1<0) then I (.inr<|.inl (A0,())) else I (.inl (x.1,(w64<|x.2.1+1),())) else I (.inl (x.1,(w64<|x.2.1+1),())) else if U (x.1.2.1<b) then(Kg (x.1.2.2.2.2.1,rD,a,())).bind λals=>if U (als.1.1<0) then I (.inr<|.inl (A0,())) else I (.inl (x.1,(w64<|x.2.1+1),())) else I (.inl (x.1,(w64<|x.2.1+1),()))) else G else I (.inr<|.inr ())
def tq:=AT gO
def zT:Loop:=⟨[(1,Z7),(7,j6)],[],4,[(2,.bool)],tq⟩
def an5:LF f175 [] [1,1,1,1,0,1,0,0] zT:=sq (v:= .nil) ie (b:=gO) kN
def gP(x:Y3×v7):Rnd (Y3×v7) (Bool×D) (Y3×D):=if U (x.2.1<(j8 x.1.2.2.2.2.1:Int)) then if inb x.2.1 x.1.2.2.2.2.1.length then let a:=(rd aIo x.1.2.2.2.2.1 x.2.1).mf;let b:=(rd aIo x.1.2.2.2.2.1 x.2.1).mn;let c:=(rd aIo x.1.2.2.2.2.1 x.2.1).mu;if(U<|c<=x.1.2.1)||((U<|a=x.1.1)&&(U<|x.1.2.2.1<=b)) then I (.inr<|.inl (A0,())) else I (.inl (x.1,(w64<|x.2.1+1),())) else G else I (.inr<|.inr (x.1,()))
def tr:=AT gP
def zU:Loop:=⟨[(1,Z7),(5,j6)],[(1,Z7)],2,[(2,.bool)],tr⟩
def an8:LF f175 [] [1,1,1,0,1,0,0] zU:=sq (v:= .nil) ie (b:=gP) kN
def gQ(x:Y3×v7):Rnd (Y3×v7) (Bool×D) (Y3×D):=if U (x.2.1<(j8 x.1.2.2.2.1:Int)) then if inb x.2.1 x.1.2.2.2.1.length then let a:=(rd y5 x.1.2.2.2.1 x.2.1).fr;let b:=(rd y5 x.1.2.2.2.1 x.2.1).nu;let d:=(rd y5 x.1.2.2.2.1 x.2.1).to;let c:=(rd y5 x.1.2.2.2.1 x.2.1).un;let e:=(rd y5 x.1.2.2.2.1 x.2.1).tx;if U (c<=x.1.2.1) then I (.inr<|.inl (A0,())) else(iL ((a,b,d,c,e,()),x.1.1,())).bind λf=>if !f.1.1 then I (.inr<|.inl (A0,())) else if U (a=x.1.1) then if U (x.1.2.2.1<=b) then I (.inr<|.inl (A0,())) else(Kg (x.1.2.2.2.2.1,a,b,())).bind λg=>if U (0<=g.1.1) then I (.inr<|.inl (A0,())) else I (.inl (x.1,(w64<|x.2.1+1),())) else(Kg (x.1.2.2.2.2.1,a,b,())).bind λh=>if U (0<=h.1.1) then I (.inr<|.inl (A0,())) else I (.inl (x.1,(w64<|x.2.1+1),())) else G else I (.inr<|.inr (x.1,()))
def tu:=AT gQ
def zV:Loop:=⟨[(1,Z7),(3,j6)],[(1,Z7)],0,[(2,.bool)],tu⟩
def anI:LF f175 [] [1,1,0,1,0,0] zV:=sq (v:= .nil) ie (b:=gQ) kN
def Q7(x:Y3×D):Option ((Bool×D)×D):=(FW (x.1.1,())).bind λc=>if !c.1.1 then I ((A0,()),()) else(DF (x.1.2.1,0,999,())).bind λd=>if !d.1.1 then I ((A0,()),()) else(DF (x.1.2.2.1,1,100,())).bind λe=>if !e.1.1 then I ((A0,()),()) else(W5 (x.1.2.2.2.1,6,())).bind λf=>if !f.1.1 then I ((A0,()),()) else(fS (x.1.2.2.2.2.1,())).bind λg=>if !g.1.1 then I ((A0,()),()) else(W5 (x.1.2.2.2.2.2.1,6,())).bind λh=>if !h.1.1 then I ((A0,()),()) else(AN (tu (x.1,0,())) (λa=>I (a,())) λa=>(AN (tr (a.1,0,())) (λb=>I (b,())) λb=>(AN (tq (b.1,0,())) (λaDl=>I (aDl,())) λaDl=>I ((Y,()),()))))
def jv:Ent:=(175,G,⟨[Z8],[.bool],Q7⟩)
def xD:y7 jv:=sk (v:=t1<|t1<|.two (t1<|.one<|.loop zV)<|.two (t1<|.one<|.loop zU)<|.two (t1<|.one<|.loop zT) .nil) (fn:=f175) ie<|kC anI<|kC an8<|kC an5 kN
def akl:Cx:=cX [] [] [(22,28)]
def aB9:y9 akl:=aIe<|AI
def fU(x:List A3×aIj):Rnd (List A3×aIj) (v7) D:=if U (x.2.2.2.1<(j8 x.1:Int)) then if inb x.2.2.2.1 x.1.length then if Ag (U<|(rd y5 x.1 x.2.2.2.1).fr=x.2.1) (inb x.2.2.2.1 x.1.length) then if(U<|(rd y5 x.1 x.2.2.2.1).fr=x.2.1)&&(U<|(rd y5 x.1 x.2.2.2.1).nu=x.2.2.1) then I (.inr<|.inl x.2.2.2) else I (.inl (x.1,x.2.1,x.2.2.1,(w64<|x.2.2.2.1+1),())) else G else G else I (.inr<|.inr ())
def tP:=AT fU
def xy:Loop:=⟨[(0,.sl .note),(1,j6),(2,j6),(7,j6)],[],0,[(6,j6)],tP⟩
def ajW:LF f139 [] [1,0,1,0,0] xy:=sq (v:= .nil) aB9 (b:=fU) kN
def GB(x:List A3×aIf):Option ((v7)×D):=(AN (tP (x.1,x.2.1,x.2.2.1,0,())) (λa=>I (a,())) λa=>I (((-1),()),()))
def Mo:Ent:=(139,G,⟨[.fz .note,j6,j6],[j6],GB⟩)
def Ny:y7 Mo:=sk (v:=t1<|.two (t1<|.one<|.loop xy) .nil) (fn:=f139) aB9<|kC ajW kN
def aoG:Cx:=cX [] [] []
def aBm:y9 aoG:=aIe<|AI
def gV(x:A1×v7):Rnd (A1×v7) (A1×A1×D) (A1×D):=if U (x.2.1<(x.1.size:Int)) then if inb x.2.1 x.1.size then if U ((bt x.1 x.2.1)=32) then if U (0<=x.2.1)&&U (x.2.1<=(x.1.size:Int)) then if U (0<=(w64<|x.2.1+1))&&U ((w64<|x.2.1+1)<=(x.1.size:Int)) then let a:=(x.1.extract (0)<|AM x.2.1);let b:=(x.1.extract (AM<|w64<|x.2.1+1)<|x.1.size);I (.inr<|.inl (a,b,())) else G else G else I (.inl (x.1,(w64<|x.2.1+1),())) else G else I (.inr<|.inr (x.1,()))
def tz:=AT gV
def zt:Loop:=⟨[(0,.str),(4,j6)],[(0,.str)],0,[(2,.str),(3,.str)],tz⟩
def anB:LF f213 [] [1,0,1,0,0] zt:=sq (v:= .nil) aBm (b:=gV) kN
def O6(x:A1×D):Option ((A1×A1×D)×D):=(AN (tz (x.1,0,())) (λa=>I (a,())) λa=>I ((a.1,noB,()),()))
def js:Ent:=(213,G,⟨[.str],[.str,.str],O6⟩)
def wq:y7 js:=sk (v:=t1<|.two (t1<|.one<|.loop zt) .nil) (fn:=f213) aBm<|kC anB kN
def akh:Cx:=cX [] [] []
def jL:y9 akh:=aIe<|AI
def fQ(x:Int×Y3×Y3×List A3×List Mark×v7):Rnd (Int×Y3×Y3×List A3×List Mark×v7) D (Int×Y3×Y3×List A3×List Mark×D):=if U (x.2.2.2.2.2.1<(j8 x.2.1.2.2.2.2.1:Int)) then if inb x.2.2.2.2.2.1 x.2.1.2.2.2.2.1.length then if U (x.1<(rd aIo x.2.1.2.2.2.2.1 x.2.2.2.2.2.1).mu) then if inb x.2.2.2.2.2.1 x.2.1.2.2.2.2.1.length then if Ab (x.2.2.2.2.1.length+([(rd aIo x.2.1.2.2.2.2.1 x.2.2.2.2.2.1)]:List Mark).length) then let a:=(w64<|x.2.2.2.2.2.1+1);I (.inl (x.1,x.2.1,x.2.2.1,x.2.2.2.1,(x.2.2.2.2.1++([(rd aIo x.2.1.2.2.2.2.1 x.2.2.2.2.2.1)]:List Mark)),a,())) else G else G else let b:=(w64<|x.2.2.2.2.2.1+1);I (.inl (x.1,x.2.1,x.2.2.1,x.2.2.2.1,x.2.2.2.2.1,b,())) else G else I (.inr<|.inr (x.1,x.2.1,x.2.2.1,x.2.2.2.1,x.2.2.2.2.1,()))
def tL:=AT fQ
def xu:Loop:=⟨[(1,j6),(2,Z7),(4,Z9),(5,.row 54 .note),(7,.row 56 .mark),(8,j6)],[(1,j6),(2,Z7),(4,Z9),(5,.row 54 .note),(7,.row 56 .mark)],2,[],tL⟩
def ajs:LF f214 [] [1,1,1,1,0,1,0,0] xu:=sq (v:= .nil) jL (b:=fQ) kN
def fR(x:Int×Y3×Y3×List A3×v7):Rnd (Int×Y3×Y3×List A3×v7) D (Int×Y3×Y3×List A3×D):=if U (x.2.2.2.2.1<(j8 x.2.1.2.2.2.1:Int)) then if inb x.2.2.2.2.1 x.2.1.2.2.2.1.length then if U (x.1<(rd y5 x.2.1.2.2.2.1 x.2.2.2.2.1).un) then if inb x.2.2.2.2.1 x.2.1.2.2.2.1.length then if Ab (x.2.2.2.1.length+([(rd y5 x.2.1.2.2.2.1 x.2.2.2.2.1)]:List A3).length) then I (.inl (x.1,x.2.1,x.2.2.1,(x.2.2.2.1++([(rd y5 x.2.1.2.2.2.1 x.2.2.2.2.1)]:List A3)),(w64<|x.2.2.2.2.1+1),())) else G else G else I (.inl (x.1,x.2.1,x.2.2.1,x.2.2.2.1,(w64<|x.2.2.2.2.1+1),())) else G else I (.inr<|.inr (x.1,x.2.1,x.2.2.1,x.2.2.2.1,()))
def tM:=AT fR
def xv:Loop:=⟨[(1,j6),(2,Z7),(4,Z9),(5,.row 54 .note),(6,j6)],[(1,j6),(2,Z7),(4,Z9),(5,.row 54 .note)],0,[],tM⟩
def ajU:LF f214 [] [1,1,0,1,0,0] xv:=sq (v:= .nil) jL (b:=fR) kN
def gZ(x:Y3×v7):Option ((Y3×D)×D):=(AN (tM (x.2.1,x.1,(0,0,0,([]:List A3),([]:List Mark),([]:List A3),()),([]:List A3),0,())) (λ_=>G) λb=>(AN (tL (b.1,b.2.1,b.2.2.1,b.2.2.2.1,([]:List Mark),0,())) (λ_=>G) λa=>I (((a.2.1.1,a.1,a.2.1.2.2.1,a.2.2.2.1,a.2.2.2.2.1,a.2.1.2.2.2.2.2),()),())))
def aBJ:Ent:=(214,G,⟨[Z8,j6],[Z8],gZ⟩)
def aeu:y7 aBJ:=sk (v:=t1<|t1<|.two (t1<|.one<|.loop xv)<|t1<|.two (t1<|.one<|.loop xu) .nil) (fn:=f214) jL<|kC ajU<|kC ajs kN
def ahI:Cx:=cX [Wz,OC] [] []
def air:y9 ahI:=aIe<|gC dk<|gC Pm<|AI
def Mi(x:Y4×D):Option ((A1×D)×D):=(O8 x).bind λe=>if !e.1.1 then I ((noB,()),()) else(DT (x.1.1,())).bind λa=>if U (a.1.1.size+(B [32]).size<=4611686018427387904) then(DT (x.1.2.1,())).bind λb=>if U ((a.1.1++(B [32])).size+b.1.1.size<=4611686018427387904) then if U (((a.1.1++(B [32]))++b.1.1).size+(B [32]).size<=4611686018427387904) then(DT (x.1.2.2.1,())).bind λc=>if U ((((a.1.1++(B [32]))++b.1.1)++(B [32])).size+c.1.1.size<=4611686018427387904) then if U (((((a.1.1++(B [32]))++b.1.1)++(B [32]))++c.1.1).size+(B [32]).size<=4611686018427387904) then(DT (x.1.2.2.2.1,())).bind λd=>if U ((((((a.1.1++(B [32]))++b.1.1)++(B [32]))++c.1.1)++(B [32])).size+d.1.1.size<=4611686018427387904) then if U (((((((a.1.1++(B [32]))++b.1.1)++(B [32]))++c.1.1)++(B [32]))++d.1.1).size+(B [32]).size<=4611686018427387904) then if U ((((((((a.1.1++(B [32]))++b.1.1)++(B [32]))++c.1.1)++(B [32]))++d.1.1)++(B [32])).size+x.1.2.2.2.2.1.size<=4611686018427387904) then let f:=((((((((a.1.1++(B [32]))++b.1.1)++(B [32]))++c.1.1)++(B [32]))++d.1.1)++(B [32]))++x.1.2.2.2.2.1);I ((f,()),()) else G else G else G else G else G else G else G else G
def W2:Ent:=(186,G,⟨[Z6],[.str],Mi⟩)
def cT:y7 W2:=sk (v:= .nil) (fn:=f186) air kN
def aoH:Cx:=cX [XO,js] [] []
def aBn:y9 aoH:=aIe<|gC uy<|gC wq<|AI
def gW(x:A1×Int×List Int×v7):Rnd (A1×Int×List Int×v7) D (A1×List Int×D):=if U (x.2.2.2.1<x.2.1) then(O6 (x.1,())).bind λa=>(QB (a.1.1,())).bind λb=>if Ab (x.2.2.1.length+([b.1.1]:List Int).length) then I (.inl (a.1.2.1,x.2.1,(x.2.2.1++([b.1.1]:List Int)),(w64<|x.2.2.2.1+1),())) else G else I (.inr<|.inr (x.1,x.2.2.1,()))
def u7:=AT gW
def zu:Loop:=⟨[(0,.str),(1,j6),(6,.row 3 .int),(7,j6)],[(0,.str),(6,.row 3 .int)],0,[],u7⟩
def anC:LF f218 [] [1,1,0,1,0,0] zu:=sq (v:= .nil) aBn (b:=gW) kN
def Q5(x:A1×v7):Option ((List Int×A1×D)×D):=(AN (u7 (x.1,x.2.1,([]:List Int),0,())) (λ_=>G) λa=>I ((a.2.1,a.1,()),()))
def jt:Ent:=(218,G,⟨[.str,j6],[.row 3 .int,.str],Q5⟩)
def wu:y7 jt:=sk (v:=t1<|t1<|.two (t1<|.one<|.loop zu) .nil) (fn:=f218) aBn<|kC anC kN
def aiL:Cx:=cX [W2,jt] [] [(29,32)]
def ajy:y9 aiL:=aIe<|gC cT<|gC wu<|AI
def SG(x:A1×D):Option ((Y4×Bool×D)×D):=(Q5 (x.1,4,())).bind λa=>if inb 0 a.1.1.length then if inb 1 a.1.1.length then if inb 2 a.1.1.length then if inb 3 a.1.1.length then if Ag (!(U<|x.1=noB)) ((Mi (((rd aIk a.1.1 0),(rd aIk a.1.1 1),(rd aIk a.1.1 2),(rd aIk a.1.1 3),a.1.2),())).isSome) then if(U<|x.1=noB)||(!decide (((Mi (((rd aIk a.1.1 0),(rd aIk a.1.1 1),(rd aIk a.1.1 2),(rd aIk a.1.1 3),a.1.2),())).getD ((noB,()),())).1.1=x.1)) then I (((0,0,0,0,noB,()),A0,()),()) else I ((((rd aIk a.1.1 0),(rd aIk a.1.1 1),(rd aIk a.1.1 2),(rd aIk a.1.1 3),a.1.2),Y,()),()) else G else G else G else G else G
def aAH:Ent:=(215,G,⟨[.str],[Z6,.bool],SG⟩)
def ae6:y7 aAH:=sk (v:= .nil) (fn:=f215) ajy kN
def afj:Cx:=cX [Wd] [] [(18,32)]
def xQ:y9 afj:=aIe<|gC dI<|AI
def dF(x:List A3×Y4×List A3×Bool×v7):Rnd (List A3×Y4×List A3×Bool×v7) D (Y4×List A3×Bool×D):=if U (x.2.2.2.2.1<(j8 x.1:Int)) then(BT (X:=List A3×Y4×List A3×Bool×v7) (λa=>if inb a.2.2.2.2.1 a.1.length then if Ab (a.2.2.1.length+([(rd y5 a.1 a.2.2.2.2.1)]:List A3).length) then I (.inl (a.1,a.2.1,(a.2.2.1++([(rd y5 a.1 a.2.2.2.2.1)]:List A3)),a.2.2.2.1,(w64<|a.2.2.2.2.1+1),())) else G else G)<|(if Ag (!x.2.2.2.1) (inb x.2.2.2.2.1 x.1.length) then if Ag (!x.2.2.2.1) (inb x.2.2.2.2.1 x.1.length) then if Ag (!x.2.2.2.1) ((Mp (x.2.1.1,x.2.1.2.1,(rd y5 x.1 x.2.2.2.2.1).fr,(rd y5 x.1 x.2.2.2.2.1).nu,())).isSome) then if(!x.2.2.2.1)&&(((Mp (x.2.1.1,x.2.1.2.1,(rd y5 x.1 x.2.2.2.2.1).fr,(rd y5 x.1 x.2.2.2.2.1).nu,())).getD ((A0,()),())).1.1) then if Ab (x.2.2.1.length+([(A3.mk x.2.1.1 x.2.1.2.1 x.2.1.2.2.1 x.2.1.2.2.2.1 x.2.1.2.2.2.2.1)]:List A3).length) then I (.inr (x.1,x.2.1,(x.2.2.1++([(A3.mk x.2.1.1 x.2.1.2.1 x.2.1.2.2.1 x.2.1.2.2.2.1 x.2.1.2.2.2.2.1)]:List A3)),Y,x.2.2.2.2)) else G else I (.inr x) else G else G else G)) else I (.inr<|.inr (x.2.1,x.2.2.1,x.2.2.2.1,()))
def rO:=AT dF
def acv:Loop:=⟨[(0,.sl .note),(3,Z5),(5,.row 54 .note),(6,.bool),(7,j6)],[(3,Z5),(5,.row 54 .note),(6,.bool)],0,[],rO⟩
def af2:LF f217 [] [1,1,1,0,1,0,0] acv:=sq (v:=t1<|.two (.one<|.join [(0,.sl .note),(3,Z5),(5,.row 54 .note),(6,.bool),(7,j6)] .nil .nil) .nil) xQ (b:=dF) kN
def Ph(x:List A3×Y4×D):Option ((List A3×D)×D):=(AN (rO (x.1,x.2.1,([]:List A3),A0,0,())) (λ_=>G) λa=>(if !a.2.2.1 then if Ab (a.2.1.length+([(A3.mk a.1.1 a.1.2.1 a.1.2.2.1 a.1.2.2.2.1 a.1.2.2.2.2.1)]:List A3).length) then I (((a.2.1++([(A3.mk a.1.1 a.1.2.1 a.1.2.2.1 a.1.2.2.2.1 a.1.2.2.2.2.1)]:List A3)),()),()) else G else I ((a.2.1,()),())))
def uV:Ent:=(217,G,⟨[.fz .note,Z6],[.row 54 .note],Ph⟩)
def acN:y7 uV:=sk (v:=t1<|t1<|t1<|.two (t1<|.one<|.loop acv) .nil) (fn:=f217) xQ<|kC af2 kN
def afk:Cx:=cX [Wd] [] [(18,32)]
def xR:y9 afk:=aIe<|gC dI<|AI
def dG(x:List Mark×Y5×List Mark×Bool×v7):Rnd (List Mark×Y5×List Mark×Bool×v7) D (Y5×List Mark×Bool×D):=if U (x.2.2.2.2.1<(j8 x.1:Int)) then(BT (X:=List Mark×Y5×List Mark×Bool×v7) (λa=>if inb a.2.2.2.2.1 a.1.length then if Ab (a.2.2.1.length+([(rd aIo a.1 a.2.2.2.2.1)]:List Mark).length) then I (.inl (a.1,a.2.1,(a.2.2.1++([(rd aIo a.1 a.2.2.2.2.1)]:List Mark)),a.2.2.2.1,(w64<|a.2.2.2.2.1+1),())) else G else G)<|(if Ag (!x.2.2.2.1) (inb x.2.2.2.2.1 x.1.length) then if Ag (!x.2.2.2.1) (inb x.2.2.2.2.1 x.1.length) then if Ag (!x.2.2.2.1) ((Mp (x.2.1.1,x.2.1.2.1,(rd aIo x.1 x.2.2.2.2.1).mf,(rd aIo x.1 x.2.2.2.2.1).mn,())).isSome) then if(!x.2.2.2.1)&&(((Mp (x.2.1.1,x.2.1.2.1,(rd aIo x.1 x.2.2.2.2.1).mf,(rd aIo x.1 x.2.2.2.2.1).mn,())).getD ((A0,()),())).1.1) then if Ab (x.2.2.1.length+([(Mark.mk x.2.1.1 x.2.1.2.1 x.2.1.2.2.1)]:List Mark).length) then I (.inr (x.1,x.2.1,(x.2.2.1++([(Mark.mk x.2.1.1 x.2.1.2.1 x.2.1.2.2.1)]:List Mark)),Y,x.2.2.2.2)) else G else I (.inr x) else G else G else G)) else I (.inr<|.inr (x.2.1,x.2.2.1,x.2.2.2.1,()))
def rQ:=AT dG
def acw:Loop:=⟨[(0,.sl .mark),(3,Z10),(5,.row 56 .mark),(6,.bool),(7,j6)],[(3,Z10),(5,.row 56 .mark),(6,.bool)],0,[],rQ⟩
def af3:LF f221 [] [1,1,1,0,1,0,0] acw:=sq (v:=t1<|.two (.one<|.join [(0,.sl .mark),(3,Z10),(5,.row 56 .mark),(6,.bool),(7,j6)] .nil .nil) .nil) xR (b:=dG) kN
def Ry(x:List Mark×Y5×D):Option ((List Mark×D)×D):=(AN (rQ (x.1,x.2.1,([]:List Mark),A0,0,())) (λ_=>G) λa=>(if !a.2.2.1 then if Ab (a.2.1.length+([(Mark.mk a.1.1 a.1.2.1 a.1.2.2.1)]:List Mark).length) then I (((a.2.1++([(Mark.mk a.1.1 a.1.2.1 a.1.2.2.1)]:List Mark)),()),()) else G else I ((a.2.1,()),())))
def dZ:Ent:=(221,G,⟨[.fz .mark,Z11],[.row 56 .mark],Ry⟩)
def rP:y7 dZ:=sk (v:=t1<|t1<|t1<|.two (t1<|.one<|.loop acw) .nil) (fn:=f221) xR<|kC af3 kN
def aiH:Cx:=cX [Wz,Mo,Wc] [] [(35,42)]
def aju:y9 aiH:=aIe<|gC dk<|gC Ny<|gC dH<|AI
def fV(x:Y3×Y4×D):Option ((Bool×D)×D):=(O8 x.2).bind λb=>if b.1.1 then if U (x.1.2.1<x.2.1.2.2.2.1) then(GB (x.1.2.2.2.1,x.2.1.1,x.2.1.2.1,())).bind λc=>if U (c.1.1<0) then(Kg (x.1.2.2.2.2.1,x.2.1.1,x.2.1.2.1,())).bind λa=>if Ag (U<|a.1.1<0) ((GB (x.1.2.2.2.2.2.1,x.2.1.1,x.2.1.2.1,())).isSome) then let d:=((U<|a.1.1<0)&&(U<|((GB (x.1.2.2.2.2.2.1,x.2.1.1,x.2.1.2.1,())).getD ((0,()),())).1.1<0));I ((d,()),()) else G else if Ag A0 ((GB (x.1.2.2.2.2.2.1,x.2.1.1,x.2.1.2.1,())).isSome) then I ((A0,()),()) else G else if Ag A0 ((GB (x.1.2.2.2.2.2.1,x.2.1.1,x.2.1.2.1,())).isSome) then I ((A0,()),()) else G else if Ag A0 ((GB (x.1.2.2.2.2.2.1,x.2.1.1,x.2.1.2.1,())).isSome) then I ((A0,()),()) else G
def aAF:Ent:=(235,G,⟨[Z8,Z6],[.bool],fV⟩)
def ae4:y7 aAF:=sk (v:= .nil) (fn:=f235) aju kN
def aki:Cx:=cX [uV,dZ,aAF] [] []
def aol:y9 aki:=aIe<|gC acN<|gC rP<|gC ae4<|AI
def WQ(x:Y3×Y4×D):Option ((Y3×Bool×D)×D):=(fV x).bind λc=>if !c.1.1 then I ((x.1,A0,()),()) else if !decide (x.2.1.2.2.1=x.1.1) then(Ph (x.1.2.2.2.1,x.2)).bind λa=>let d:=(U<|(w64<|(j8 a.1.1:Int)+(j8 x.1.2.2.2.2.1:Int))<=12);I (((x.1.1,x.1.2.1,x.1.2.2.1,a.1.1,x.1.2.2.2.2),d,()),()) else(Ph (x.1.2.2.2.2.2.1,x.2)).bind λe=>(Ry (x.1.2.2.2.2.1,(x.2.1.1,x.2.1.2.1,x.2.1.2.2.2.1,()),())).bind λb=>let f:=(U<|(w64<|(j8 x.1.2.2.2.1:Int)+(j8 b.1.1:Int))<=12);I (((x.1.1,x.1.2.1,x.1.2.2.1,x.1.2.2.2.1,b.1.1,e.1),f,()),())
def aBK:Ent:=(216,G,⟨[Z8,Z6],[Z8,.bool],WQ⟩)
def aev:y7 aBK:=sk (v:= .nil) (fn:=f216) aol kN
def anr:Cx:=cX [Mo,dZ] [] []
def aps:y9 anr:=aIe<|gC Ny<|gC rP<|AI
def iM(x:Y3×aIf):Option ((Y3×Bool×D)×D):=(GB (x.1.2.2.2.1,x.2)).bind λa=>if U (a.1.1<0) then I ((x.1,A0,()),()) else if inb a.1.1 x.1.2.2.2.1.length then let d:=(rd y5 x.1.2.2.2.1 a.1.1).fr;let e:=(rd y5 x.1.2.2.2.1 a.1.1).nu;let f:=(rd y5 x.1.2.2.2.1 a.1.1).to;let b:=(rd y5 x.1.2.2.2.1 a.1.1).un;let g:=(rd y5 x.1.2.2.2.1 a.1.1).tx;if U (0<=a.1.1)&&U (a.1.1<=(j8 x.1.2.2.2.1:Int)) then if Ab (([]:List A3).length+(BR (AM a.1.1) x.1.2.2.2.1).length) then if U (0<=(w64<|a.1.1+1))&&U ((w64<|a.1.1+1)<=(j8 x.1.2.2.2.1:Int)) then if Ab ((([]:List A3)++(BR (AM a.1.1) x.1.2.2.2.1)).length+(Br (AM<|w64<|a.1.1+1) x.1.2.2.2.1).length) then(Ry (x.1.2.2.2.2.1,(x.2.1,x.2.2.1,b,()),())).bind λc=>I (((x.1.1,x.1.2.1,x.1.2.2.1,((([]:List A3)++(BR (AM a.1.1) x.1.2.2.2.1))++(Br (AM<|w64<|a.1.1+1) x.1.2.2.2.1)),c.1.1,x.1.2.2.2.2.2),Y,()),()) else G else G else G else G else G
def aCB:Ent:=(219,G,⟨[Z8,j6,j6],[Z8,.bool],iM⟩)
def afX:y7 aCB:=sk (v:= .nil) (fn:=f219) aps kN
def ans:Cx:=cX [Mo] [] []
def apt:y9 ans:=aIe<|gC Ny<|AI
def iN(x:Y3×aIf):Option ((Y3×Bool×D)×D):=(GB (x.1.2.2.2.2.2.1,x.2)).bind λa=>if U (a.1.1<0) then I ((x.1,A0,()),()) else if U (0<=a.1.1)&&U (a.1.1<=(j8 x.1.2.2.2.2.2.1:Int)) then if Ab (([]:List A3).length+(BR (AM a.1.1) x.1.2.2.2.2.2.1).length) then if U (0<=(w64<|a.1.1+1))&&U ((w64<|a.1.1+1)<=(j8 x.1.2.2.2.2.2.1:Int)) then if Ab ((([]:List A3)++(BR (AM a.1.1) x.1.2.2.2.2.2.1)).length+(Br (AM<|w64<|a.1.1+1) x.1.2.2.2.2.2.1).length) then I (((x.1.1,x.1.2.1,x.1.2.2.1,x.1.2.2.2.1,x.1.2.2.2.2.1,((([]:List A3)++(BR (AM a.1.1) x.1.2.2.2.2.2.1))++(Br (AM<|w64<|a.1.1+1) x.1.2.2.2.2.2.1)),()),Y,()),()) else G else G else G else G
def aCC:Ent:=(220,G,⟨[Z8,j6,j6],[Z8,.bool],iN⟩)
def afY:y7 aCC:=sk (v:= .nil) (fn:=f220) apt kN
def anq:Cx:=cX [Mo,OC,XO,Wc,js,aBJ,aAH,aBK,uV,jt,aCB,aCC,dZ] [] [(81,85),(157,174),(192,201),(228,237)]
def apr:y9 anq:=aIe<|gC Ny<|gC Pm<|gC uy<|gC dH<|gC wq<|gC aeu<|gC ae6<|gC aev<|gC acN<|gC wu<|gC afX<|gC afY<|gC rP<|AI
def Wq(x:Y3×A1×D):Option ((Y3×Bool×D)×D):=(O6 x.2).bind λc=>let l:=(U<|c.1.1=(B [116,105,109,101]));(if l then(QB c.1.2).bind λi=>if U (i.1.1<=x.1.2.1) then I ((x.1,A0,()),()) else(gZ (x.1,i.1)).bind λm=>I ((m.1.1,Y,()),()) else let n:=(U<|c.1.1=(B [111,119,110]));(if n then(SG c.1.2).bind λg=>if !g.1.2.1 then I ((x.1,A0,()),()) else if !decide (g.1.1.1=x.1.1) then I ((x.1,A0,()),()) else if !decide (g.1.1.2.1=x.1.2.2.1) then I ((x.1,A0,()),()) else(WQ ((x.1.1,x.1.2.1,(w64<|x.1.2.2.1+1),x.1.2.2.2),g.1.1,())).bind λo=>I (o.1,()) else let p:=(U<|c.1.1=(B [116,97,107,101]));(if p then(SG c.1.2).bind λh=>if(!h.1.2.1)||(U<|h.1.1.1=x.1.1) then I ((x.1,A0,()),()) else(WQ (x.1,h.1.1,())).bind λq=>I (q.1,()) else let r:=(U<|c.1.1=(B [110,101,120,116]));(if r then(QB c.1.2).bind λj=>if U (j.1.1<=x.1.2.2.1) then I ((x.1,A0,()),()) else I (((x.1.1,x.1.2.1,j.1.1,x.1.2.2.2),Y,()),()) else(BT (X:=Y3×Y3×A1×A1×Bool×D) (λb=>if b.2.2.2.2.1 then(SG (b.2.2.2.1,())).bind λd=>if !d.1.2.1 then I ((b.1,A0,()),()) else(GB (b.1.2.2.2.1,d.1.1.1,d.1.1.2.1,())).bind λs=>if U (0<=s.1.1) then I ((b.1,A0,()),()) else(GB (b.1.2.2.2.2.2.1,d.1.1.1,d.1.1.2.1,())).bind λt=>if U (0<=t.1.1) then I ((b.1,A0,()),()) else if U (b.2.2.1=(B [104,101,108,100])) then(Ph (b.1.2.2.2.1,d.1.1,())).bind λu=>I (((b.1.1,b.1.2.1,b.1.2.2.1,u.1.1,b.1.2.2.2.2),Y,()),()) else(Ph (b.1.2.2.2.2.2.1,d.1.1,())).bind λv=>I (((b.1.1,b.1.2.1,b.1.2.2.1,b.1.2.2.2.1,b.1.2.2.2.2.1,v.1),Y,()),()) else(Q5 (b.2.2.2.1,3,())).bind λa=>if Ag (!(!decide (a.1.2.1=noB))) (inb 0 a.1.1.length) then if Ag (!(!decide (a.1.2.1=noB))) ((DT ((rd aIk a.1.1 0),())).isSome) then if Ag (!(!decide (a.1.2.1=noB))) (U<|(((DT ((rd aIk a.1.1 0),())).getD ((noB,()),())).1.1).size+(B [32]).size<=4611686018427387904) then if Ag (!(!decide (a.1.2.1=noB))) (inb 1 a.1.1.length) then if Ag (!(!decide (a.1.2.1=noB))) ((DT ((rd aIk a.1.1 1),())).isSome) then if Ag (!(!decide (a.1.2.1=noB))) (U<|((((DT ((rd aIk a.1.1 0),())).getD ((noB,()),())).1.1)++(B [32])).size+(((DT ((rd aIk a.1.1 1),())).getD ((noB,()),())).1.1).size<=4611686018427387904) then if Ag (!(!decide (a.1.2.1=noB))) (U<|(((((DT ((rd aIk a.1.1 0),())).getD ((noB,()),())).1.1)++(B [32]))++(((DT ((rd aIk a.1.1 1),())).getD ((noB,()),())).1.1)).size+(B [32]).size<=4611686018427387904) then if Ag (!(!decide (a.1.2.1=noB))) (inb 2 a.1.1.length) then if Ag (!(!decide (a.1.2.1=noB))) ((DT ((rd aIk a.1.1 2),())).isSome) then if Ag (!(!decide (a.1.2.1=noB))) (U<|((((((DT ((rd aIk a.1.1 0),())).getD ((noB,()),())).1.1)++(B [32]))++(((DT ((rd aIk a.1.1 1),())).getD ((noB,()),())).1.1))++(B [32])).size+(((DT ((rd aIk a.1.1 2),())).getD ((noB,()),())).1.1).size<=4611686018427387904) then if(!decide (a.1.2.1=noB))||(!decide (b.2.2.2.1=(((((((DT ((rd aIk a.1.1 0),())).getD ((noB,()),())).1.1)++(B [32]))++(((DT ((rd aIk a.1.1 1),())).getD ((noB,()),())).1.1))++(B [32]))++(((DT ((rd aIk a.1.1 2),())).getD ((noB,()),())).1.1)))) then I ((b.1,A0,()),()) else let w:=(U<|b.2.2.1=(B [108,101,116]));(if w then if inb 0 a.1.1.length then if inb 1 a.1.1.length then(GB (b.1.2.2.2.1,(rd aIk a.1.1 0),(rd aIk a.1.1 1),())).bind λe=>if Ag (!(U<|e.1.1<0)) (inb e.1.1 b.1.2.2.2.1.length) then if Ag (!(U<|e.1.1<0)) (inb 2 a.1.1.length) then if(U<|e.1.1<0)||(!decide ((rd y5 b.1.2.2.2.1 e.1.1).un=(rd aIk a.1.1 2))) then I ((b.1,A0,()),()) else if inb 0 a.1.1.length then if inb 1 a.1.1.length then(iM (b.1,(rd aIk a.1.1 0),(rd aIk a.1.1 1),())).bind λy=>I (y.1,()) else G else G else G else G else G else G else let z:=(U<|b.2.2.1=(B [101,97,116]));(if z then if inb 0 a.1.1.length then if inb 1 a.1.1.length then(GB (b.1.2.2.2.2.2.1,(rd aIk a.1.1 0),(rd aIk a.1.1 1),())).bind λf=>if Ag (!(U<|f.1.1<0)) (inb f.1.1 b.1.2.2.2.2.2.1.length) then if Ag (!(U<|f.1.1<0)) (inb 2 a.1.1.length) then if(U<|f.1.1<0)||(!decide ((rd y5 b.1.2.2.2.2.2.1 f.1.1).un=(rd aIk a.1.1 2))) then I ((b.1,A0,()),()) else if inb 0 a.1.1.length then if inb 1 a.1.1.length then(iN (b.1,(rd aIk a.1.1 0),(rd aIk a.1.1 1),())).bind λA=>I (A.1,()) else G else G else G else G else G else G else let C:=(U<|b.2.2.1=(B [109,97,114,107]));(if C then if inb 0 a.1.1.length then if inb 1 a.1.1.length then(Kg (b.1.2.2.2.2.1,(rd aIk a.1.1 0),(rd aIk a.1.1 1),())).bind λE=>if U (0<=E.1.1) then I ((b.1,A0,()),()) else if inb 0 a.1.1.length then if inb 1 a.1.1.length then if inb 2 a.1.1.length then(Ry (b.1.2.2.2.2.1,((rd aIk a.1.1 0),(rd aIk a.1.1 1),(rd aIk a.1.1 2),()),())).bind λF=>I (((b.1.1,b.1.2.1,b.1.2.2.1,b.1.2.2.2.1,F.1.1,b.1.2.2.2.2.2),Y,()),()) else G else G else G else G else G else I ((b.1,A0,()),())))) else G else G else G else G else G else G else G else G else G else G) (let k:=(U<|c.1.1=(B [104,101,108,100]));(if k then I (.inr (x.1,(0,0,0,([]:List A3),([]:List Mark),([]:List A3),()),c.1.1,c.1.2.1,k,())) else let H:=(U<|c.1.1=(B [105,110,98,111,120]));I (.inr (x.1,(0,0,0,([]:List A3),([]:List Mark),([]:List A3),()),c.1.1,c.1.2.1,H,())))))))))
def aCA:Ent:=(176,G,⟨[Z8,.str],[Z8,.bool],Wq⟩)
def afW:y7 aCA:=sk (v:=t1<|t1<|.two (t1<|.one<|t1<|t1<|t1<|t1<|t1<|t1<|t1<|t1<|.join [(2,Z7),(4,Z9),(6,.str),(7,.str),(105,.bool)] .nil .nil) .nil) (fn:=f176) apr kN
def akm:Cx:=cX [] [] []
def aon:y9 akm:=aIe<|AI
def SU(x:Y3×D):Option ((Y3×D)×D):=if Ab (([]:List A3).length+x.1.2.2.2.1.length) then if Ab (([]:List Mark).length+x.1.2.2.2.2.1.length) then if Ab (([]:List A3).length+x.1.2.2.2.2.2.1.length) then I (((x.1.1,x.1.2.1,x.1.2.2.1,(([]:List A3)++x.1.2.2.2.1),(([]:List Mark)++x.1.2.2.2.2.1),(([]:List A3)++x.1.2.2.2.2.2.1),()),()),()) else G else G else G
def aBL:Ent:=(177,G,⟨[Z8],[Z4],SU⟩)
def afJ:y7 aBL:=sk (v:= .nil) (fn:=f177) aon kN
def ao0:Cx:=cX [jv,aCA,aBL] [] [(22,24)]
def apv:y9 ao0:=aIe<|gC xD<|gC afW<|gC afJ<|AI
def Sa(x:Y3×A1×D):Option ((Y3×Bool×D)×D):=(Q7 (x.1,())).bind λb=>if !b.1.1 then I (((0,0,0,([]:List A3),([]:List Mark),([]:List A3),()),A0,()),()) else(SU (x.1,())).bind λc=>(Wq (c.1.1,x.2)).bind λa=>if Ag (!(!a.1.2.1)) ((Q7 (a.1.1,())).isSome) then if(!a.1.2.1)||(!(((Q7 (a.1.1,())).getD ((A0,()),())).1.1)) then(SU (x.1,())).bind λd=>I ((d.1.1,A0,()),()) else(SU (a.1.1,())).bind λe=>I ((e.1.1,Y,()),()) else G
def jy:Ent:=(133,G,⟨[Z8,.str],[Z4,.bool],Sa⟩)
def xF:y7 jy:=sk (v:= .nil) (fn:=f133) apv kN
def anz:Cx:=cX [Ia,yh,jy] [] []
def aBs:y9 anz:=aIe<|gC J2<|gC adO<|gC xF<|AI
def WT(x:List A1×Y3×Y3×v7):Rnd (List A1×Y3×Y3×v7) (Y3×Bool×D) (Y3×Y3×D):=if U (x.2.2.2.1<(j8 x.1:Int)) then if inb x.2.2.2.1 x.1.length then(Sa (x.2.2.1,(rd aIr x.1 x.2.2.2.1),())).bind λa=>if !a.1.2.1 then I (.inr<|.inl ((0,0,0,([]:List A3),([]:List Mark),([]:List A3),()),A0,())) else I (.inl (x.1,x.2.1,a.1.1,(w64<|x.2.2.2.1+1),())) else G else I (.inr<|.inr (x.2.1,x.2.2.1,()))
def tv:=AT WT
def zW:Loop:=⟨[(1,.sl .str),(4,Z9),(6,Z9),(7,j6)],[(4,Z9),(6,Z9)],0,[(4,Z9),(5,.bool)],tv⟩
def anJ:LF f98 [] [1,1,1,0,1,0,0] zW:=sq (v:= .nil) aBs (b:=WT) kN
def SZ(x:Int×List A1×D):Option ((Y3×Bool×D)×D):=(eV (x.1,())).bind λb=>(FW (x.1,())).bind λc=>if !c.1.1 then I ((b.1.1,A0,()),()) else(AN (tv (x.2.1,(0,0,0,([]:List A3),([]:List Mark),([]:List A3),()),b.1.1,0,())) (λa=>I (a,())) λa=>I ((a.2.1,Y,()),()))
def jx:Ent:=(98,G,⟨[j6,.fz .str],[Z4,.bool],SZ⟩)
def xE:y7 jx:=sk (v:=t1<|t1<|t1<|.two (t1<|.one<|.loop zW) .nil) (fn:=f98) aBs<|kC anJ kN
def anm:Cx:=cX [W1,jx] [] []
def ap1:y9 anm:=aIe<|gC cI<|gC xE<|AI
def GC(x:Y1×D):Option ((Y3×Bool×D)×D):=(LZ (x.1.2.2.1,())).bind λa=>(SZ (x.1.1,a.1.1,())).bind λb=>I (b.1,())
def J3:Ent:=(66,G,⟨[Z12],[Z4,.bool],GC⟩)
def Ji:y7 J3:=sk (v:= .nil) (fn:=f66) ap1 kN
def akb:Cx:=cX [] [] []
def aoi:y9 akb:=aIe<|AI
def gU(x:aIf):Option ((v7)×D):=if U (x.1<x.2.1) then I ((x.1,()),()) else I (x.2,())
def ir:Ent:=(102,G,⟨[j6,j6],[j6],gU⟩)
def vh:y7 ir:=sk (v:= .nil) (fn:=f102) aoi kN
def aiM:Cx:=cX [Ia] [] []
def ajz:y9 aiM:=aIe<|gC J2<|AI
def SH(x:aIf):Option ((v7)×D):=(BT (X:=Int×Int×Bool×D) (λa=>if a.2.2.1 then I (((-1),()),()) else if U (a.1<a.2.1) then I (((w64<|a.1+1),()),()) else I (((w64<|a.1 - 1),()),()))<|(FW (x.1,())).bind λb=>if !b.1.1 then I (.inr (x.1,x.2.1,Y,())) else(FW x.2).bind λc=>if !c.1.1 then I (.inr (x.1,x.2.1,Y,())) else I (.inr (x.1,x.2.1,(U<|x.1=x.2.1),())))
def vH:Ent:=(144,G,⟨[j6,j6],[j6],SH⟩)
def acr:y7 vH:=sk (v:=t1<|.two (.one<|.join [(0,j6),(1,j6),(5,.bool)] .nil .nil) .nil) (fn:=f144) ajz kN
def ak5:Cx:=cX [Ia,H7,vH] [] [(65,67),(88,91)]
def aoq:y9 ak5:=aIe<|gC J2<|gC Ha<|gC acr<|AI
def WU(x:Y6×D):Option ((Bool×D)×D):=(DF (x.1.1,1,3,())).bind λa=>if !a.1.1 then I ((A0,()),()) else(FW (x.1.2.1,())).bind λb=>if !b.1.1 then I ((A0,()),()) else(FW (x.1.2.2.1,())).bind λc=>if !c.1.1 then I ((A0,()),()) else(FW (x.1.2.2.2.1,())).bind λd=>if !d.1.1 then I ((A0,()),()) else(FW (x.1.2.2.2.2.2.1,())).bind λe=>if !e.1.1 then I ((A0,()),()) else(DF (x.1.2.2.2.2.1,1,99,())).bind λf=>if !f.1.1 then I ((A0,()),()) else(DF (x.1.2.2.2.2.2.2.1,1,999,())).bind λg=>if !g.1.1 then I ((A0,()),()) else if !decide (x.1.1=1) then(SH (x.1.2.2.1,x.1.2.2.2.2.2.1,())).bind λh=>if U (h.1.1=x.1.2.1) then if U (x.1.2.2.2.2.2.2.2.1=0) then let i:=((U<|x.1.2.2.2.2.2.2.2.2.1=0)&&(U<|x.1.2.2.2.2.2.2.2.2.2.1=noB));I ((i,()),()) else I ((A0,()),()) else I ((A0,()),()) else(SH (x.1.2.1,x.1.2.2.2.2.2.1,())).bind λj=>if U (j.1.1=x.1.2.2.1) then(DF (x.1.2.2.2.2.2.2.2.1,1,24,())).bind λk=>if k.1.1 then(DF (x.1.2.2.2.2.2.2.2.2.1,0,999,())).bind λl=>let m:=(l.1.1&&(U<|(x.1.2.2.2.2.2.2.2.2.2.1.size:Int)=4));I ((m,()),()) else I ((A0,()),()) else I ((A0,()),())
def iw:Ent:=(137,G,⟨[Z13],[.bool],WU⟩)
def wZ:y7 iw:=sk (v:= .nil) (fn:=f137) aoq kN
def ano:Cx:=cX [] [] []
def ap2:y9 ano:=aIe<|AI
def O7(x:List Int×v7):Option ((List Int×D)×D):=if Ab (x.1.length+([(w8<|w64<|B1 x.2.1 256),(w8<|BL x.2.1 256)]:List Int).length) then I (((x.1++([(w8<|w64<|B1 x.2.1 256),(w8<|BL x.2.1 256)]:List Int)),()),()) else G
def aC8:Ent:=(179,G,⟨[.row 5 .u8,j6],[.row 5 .u8],O7⟩)
def afU:y7 aC8:=sk (v:= .nil) (fn:=f179) ap2 kN
def aiP:Cx:=cX [] [] []
def aAS:y9 aiP:=aIe<|AI
def eZ(x:List Int×aIf):Rnd (List Int×aIf) D (v7):=if U (x.2.2.1<(j8 x.1:Int)) then if inb x.2.2.1 x.1.length then let a:=(BL (w64<|x.2.1+(w64<|(w64<|(BL x.2.2.1 1000)+1) * (w64<|rd aIp x.1 x.2.2.1))) 65521);I (.inl (x.1,a,(w64<|x.2.2.1+1),())) else G else I (.inr<|.inr (x.2.1,()))
def cf:=AT eZ
def xG:Loop:=⟨[(0,.sl .u8),(3,j6),(4,j6)],[(3,j6)],0,[],cf⟩
def ahi:LF f180 [] [1,1,0,1,0,0] xG:=sq (v:= .nil) aAS (b:=eZ) kN
def SI(x:List Int×D):Option ((v7)×D):=(AN (cf (x.1,0,0,())) (λ_=>G) λa=>I (a,()))
def aAI:Ent:=(180,G,⟨[.fz .u8],[j6],SI⟩)
def ae7:y7 aAI:=sk (v:=t1<|t1<|.two (t1<|.one<|.loop xG) .nil) (fn:=f180) aAS<|kC ahi kN
def ahO:Cx:=cX [iw,aC8,aAI] [] []
def aiw:y9 ahO:=aIe<|gC wZ<|gC afU<|gC ae7<|AI
def Pn(x:Y6×D):Option ((List Int×D)×D):=(WU x).bind λc=>if !c.1.1 then I ((([]:List Int),()),()) else if Ab (([]:List Int).length+([(w8 x.1.1),(w8 x.1.2.1),(w8 x.1.2.2.1),(w8 x.1.2.2.2.1),(w8 x.1.2.2.2.2.1),(w8 x.1.2.2.2.2.2.1)]:List Int).length) then(O7 ((([]:List Int)++([(w8 x.1.1),(w8 x.1.2.1),(w8 x.1.2.2.1),(w8 x.1.2.2.2.1),(w8 x.1.2.2.2.2.1),(w8 x.1.2.2.2.2.2.1)]:List Int)),x.1.2.2.2.2.2.2.1,())).bind λa=>if U (x.1.1=1) then if Ab (a.1.1.length+([(w8 x.1.2.2.2.2.2.2.2.1)]:List Int).length) then(O7 ((a.1.1++([(w8 x.1.2.2.2.2.2.2.2.1)]:List Int)),x.1.2.2.2.2.2.2.2.2.1,())).bind λb=>if Ab x.1.2.2.2.2.2.2.2.2.2.1.size then if Ab (b.1.1.length+(BC x.1.2.2.2.2.2.2.2.2.2.1).length) then(SI ((b.1.1++(BC x.1.2.2.2.2.2.2.2.2.2.1)),())).bind λd=>(O7 ((b.1.1++(BC x.1.2.2.2.2.2.2.2.2.2.1)),d.1)).bind λe=>I (e.1,()) else G else G else G else(SI a.1).bind λf=>(O7 (a.1.1,f.1)).bind λg=>I (g.1,()) else G
def um:Ent:=(136,G,⟨[Z13],[.row 5 .u8],Pn⟩)
def acj:y7 um:=sk (v:= .nil) (fn:=f136) aiw kN
def aeH:Cx:=cX [um] [] [(9,11)]
def ag5:y9 aeH:=aIe<|gC acj<|AI
def dM(x:List Int×D):Option ((Y6×Bool×D)×D):=if(!decide ((j8 x.1:Int)=10))&&(!decide ((j8 x.1:Int)=17)) then I (((0,0,0,0,0,0,0,0,0,noB,()),A0,()),()) else if inb 0 x.1.length then if inb 1 x.1.length then if inb 2 x.1.length then if inb 3 x.1.length then if inb 4 x.1.length then if inb 5 x.1.length then if inb 6 x.1.length then if inb 7 x.1.length then let b:=(w64<|rd aIp x.1 0);let c:=(w64<|rd aIp x.1 1);let d:=(w64<|rd aIp x.1 2);let e:=(w64<|rd aIp x.1 3);let f:=(w64<|rd aIp x.1 4);let g:=(w64<|rd aIp x.1 5);let h:=(w64<|(w64<|(w64<|rd aIp x.1 6) * 256)+(w64<|rd aIp x.1 7));(BT (X:=List Int×Y6×Y6×D) (λa=>(Pn a.2.2).bind λi=>if !decide ((BJ i.1.1)=(BJ a.1)) then I (((0,0,0,0,0,0,0,0,0,noB,()),A0,()),()) else I ((a.2.2.1,Y,()),()))<|(if U (10<(j8 x.1:Int)) then if inb 8 x.1.length then let j:=(w64<|rd aIp x.1 8);(if inb 9 x.1.length then if inb 10 x.1.length then let k:=(w64<|(w64<|(w64<|rd aIp x.1 9) * 256)+(w64<|rd aIp x.1 10));(if(U (0<=15)&&U (15<=(j8 x.1:Int)))&&(U (0<=11)&&U (11<=15)) then let l:=(BJ<|Br (AM 11)<|BR (AM 15) x.1);I (.inr (x.1,(0,0,0,0,0,0,0,0,0,noB,()),(b,c,d,e,f,g,h,j,k,l,()),())) else G) else G else G) else G else I (.inr (x.1,(0,0,0,0,0,0,0,0,0,noB,()),(b,c,d,e,f,g,h,0,0,noB,()),())))) else G else G else G else G else G else G else G else G
def tZ:Ent:=(103,G,⟨[.fz .u8],[Z13,.bool],dM⟩)
def acB:y7 tZ:=sk (v:=t1<|t1<|t1<|.join [(0,.sl .u8),(2,Z14),(4,Z14)] .nil .nil) (fn:=f103) ag5 kN
def akn:Cx:=cX [H7,W1] [] [(12,18),(41,44)]
def aoo:y9 akn:=aIe<|gC Ha<|gC cI<|AI
def O3(x:Y7×D):Option ((Bool×D)×D):=if Ag (!(U<|2400<(x.1.1.size:Int))) ((DF (x.1.2.1,0,(x.1.1.size:Int),())).isSome) then if(U<|2400<(x.1.1.size:Int))||(!(((DF (x.1.2.1,0,(x.1.1.size:Int),())).getD ((A0,()),())).1.1)) then I ((A0,()),()) else(LZ (x.1.1,())).bind λa=>if U (0<=x.1.2.1)&&U (x.1.2.1<=(x.1.1.size:Int)) then(LZ ((x.1.1.extract (0)<|AM x.1.2.1),())).bind λb=>let c:=((U<|a.1.2.1=(x.1.1.size:Int))&&(U<|b.1.2.1=x.1.2.1));I ((c,()),()) else G else G
def SX:Ent:=(100,G,⟨[Z15],[.bool],O3⟩)
def VP:y7 SX:=sk (v:= .nil) (fn:=f100) aoo kN
def aqI:Cx:=cX [H7] [] [(8,9)]
def ara:y9 aqI:=aIe<|gC Ha<|AI
def Mq(x:aIf):Option ((Bool×D)×D):=(DF (x.1,1,6,())).bind λa=>if Ag a.1.1 ((DF (x.2.1,0,999,())).isSome) then let b:=(a.1.1&&(((DF (x.2.1,0,999,())).getD ((A0,()),())).1.1));I ((b,()),()) else G
def XJ:Ent:=(178,G,⟨[j6,j6],[.bool],Mq⟩)
def fP:y7 XJ:=sk (v:= .nil) (fn:=f178) ara kN
def akd:Cx:=cX [XJ] [] [(10,13)]
def aoj:y9 akd:=aIe<|gC fP<|AI
def SR(x:Int×Y8×D):Option ((Bool×D)×D):=(Mq (x.1,x.2.1.1,())).bind λa=>let b:=(a.1.1&&(U<|(x.2.1.2.1.size:Int)=4));I ((b,()),())
def iu:Ent:=(134,G,⟨[j6,Z16],[.bool],SR⟩)
def vY:y7 iu:=sk (v:= .nil) (fn:=f134) aoj kN
def aiA:Cx:=cX [] [] []
def akO:y9 aiA:=aIe<|AI
def Lh(x:v7):Option ((v7)×D):=let a:=(w64<|B1 (w64<|(w64<|x.1+4) - 1) 4);I ((a,()),())
def WK:Ent:=(135,G,⟨[j6],[j6],Lh⟩)
def cP:y7 WK:=sk (v:= .nil) (fn:=f135) akO kN
def agb:Cx:=cX [Ia,H7,iu,WK] [] []
def ur:y9 agb:=aIe<|gC J2<|gC Ha<|gC vY<|gC cP<|AI
def de(x:Y9×aIf):Rnd (Y9×aIf) (Bool×D) (Y9×v7):=if U (x.2.2.1<x.2.1) then if inb x.2.2.1 x.1.2.2.2.2.2.1.length then if inb x.2.1 x.1.2.2.2.2.2.1.length then if U ((rd aIt x.1.2.2.2.2.2.1 x.2.2.1).nu=(rd aIt x.1.2.2.2.2.2.1 x.2.1).nu) then I (.inr<|.inl (A0,())) else I (.inl (x.1,x.2.1,(w64<|x.2.2.1+1),())) else G else G else I (.inr<|.inr (x.1,x.2.1,()))
def sB:=AT de
def vZ:Loop:=⟨[(1,Z17),(3,j6),(4,j6)],[(1,Z17),(3,j6)],2,[(2,.bool)],sB⟩
def agJ:LF f101 [] [1,1,0,1,0,0,1,0,0,1,1,0,0] vZ:=sq (v:= .nil) ur (b:=de) kN
def df(x:Y9×v7):Rnd (Y9×v7) (Bool×D) D:=if U (x.2.1<(j8 x.1.2.2.2.2.2.1:Int)) then(Lh (x.1.2.2.2.2.1,())).bind λb=>if inb x.2.1 x.1.2.2.2.2.2.1.length then(SR (b.1.1,((rd aIt x.1.2.2.2.2.2.1 x.2.1).nu,(rd aIt x.1.2.2.2.2.2.1 x.2.1).da,()),())).bind λc=>if !c.1.1 then I (.inr<|.inl (A0,())) else(AN (sB (x.1,x.2.1,0,())) (λa=>I<|.inr<|.inl a) λa=>I<|.inl (a.1,(w64<|a.2.1+1),())) else G else I (.inr<|.inr ())
def rk:=AT df
def va:Loop:=⟨[(1,Z17),(3,j6)],[],0,[(2,.bool)],rk⟩
def agO:LF f101 [] [1,1,0,1,0,0] va:=sq (v:=t1<|.two (.one<|t1<|t1<|.one<|.loop vZ) .nil) ur (b:=df)<|kC agJ kN
def eJ(x:Y9×D):Option ((Bool×D)×D):=(FW (x.1.1,())).bind λb=>if !b.1.1 then I ((A0,()),()) else(FW (x.1.2.2.1,())).bind λc=>if !c.1.1 then I ((A0,()),()) else(DF (x.1.2.1,1,99,())).bind λd=>if !d.1.1 then I ((A0,()),()) else(DF (x.1.2.2.2.1,1,999,())).bind λe=>if !e.1.1 then I ((A0,()),()) else(DF (x.1.2.2.2.2.1,1,24,())).bind λf=>if !f.1.1 then I ((A0,()),()) else if U (14<(j8 x.1.2.2.2.2.2.1:Int)) then I ((A0,()),()) else(AN (rk (x.1,0,())) (λa=>I (a,())) λa=>I ((Y,()),()))
def yd:Ent:=(101,G,⟨[Z18],[.bool],eJ⟩)
def ade:y7 yd:=sk (v:=t1<|t1<|.two (t1<|.one<|.loop va) .nil) (fn:=f101) ur<|kC agO kN
def aiN:Cx:=cX [J3,Ia,W1,jx,SX,yd] [] [(64,65),(100,112)]
def vM:y9 aiN:=aIe<|gC Ji<|gC J2<|gC cI<|gC xE<|gC VP<|gC ade<|AI
def eS(x:Y1×aIf):Rnd (Y1×aIf) (Bool×D) (Y1×v7):=if U (x.2.2.1<x.2.1) then if inb x.2.2.1 x.1.2.2.2.2.1.length then if inb x.2.1 x.1.2.2.2.2.1.length then if Ag (U<|(rd aIi x.1.2.2.2.2.1 x.2.2.1).fr=(rd aIi x.1.2.2.2.2.1 x.2.1).fr) (inb x.2.2.1 x.1.2.2.2.2.1.length) then if Ag (U<|(rd aIi x.1.2.2.2.2.1 x.2.2.1).fr=(rd aIi x.1.2.2.2.2.1 x.2.1).fr) (inb x.2.1 x.1.2.2.2.2.1.length) then if(U<|(rd aIi x.1.2.2.2.2.1 x.2.2.1).fr=(rd aIi x.1.2.2.2.2.1 x.2.1).fr)&&(U<|(rd aIi x.1.2.2.2.2.1 x.2.2.1).nu=(rd aIi x.1.2.2.2.2.1 x.2.1).nu) then I (.inr<|.inl (A0,())) else I (.inl (x.1,x.2.1,(w64<|x.2.2.1+1),())) else G else G else G else G else I (.inr<|.inr (x.1,x.2.1,()))
def sJ:=AT eS
def wz:Loop:=⟨[(1,Z19),(9,j6),(10,j6)],[(1,Z19),(9,j6)],2,[(2,.bool)],sJ⟩
def aho:LF f73 [] [1,1,1,1,1,1,0,1,0,0,1,0,0,1,1,0,0] wz:=sq (v:= .nil) vM (b:=eS) kN
def eU(x:Y1×v7):Rnd (Y1×v7) (Bool×D) D:=if U (x.2.1<(j8 x.1.2.2.2.2.1:Int)) then if inb x.2.1 x.1.2.2.2.2.1.length then(eJ (((rd aIi x.1.2.2.2.2.1 x.2.1).fr,(rd aIi x.1.2.2.2.2.1 x.2.1).nu,(rd aIi x.1.2.2.2.2.1 x.2.1).to,(rd aIi x.1.2.2.2.2.1 x.2.1).un,(rd aIi x.1.2.2.2.2.1 x.2.1).sz,(rd aIi x.1.2.2.2.2.1 x.2.1).got,()),())).bind λb=>if !b.1.1 then I (.inr<|.inl (A0,())) else(AN (sJ (x.1,x.2.1,0,())) (λa=>I<|.inr<|.inl a) λa=>I<|.inl (a.1,(w64<|a.2.1+1),())) else G else I (.inr<|.inr ())
def cQ:=AT eU
def x8:Loop:=⟨[(1,Z19),(9,j6)],[],0,[(2,.bool)],cQ⟩
def ahg:LF f73 [] [1,1,1,1,1,1,0,1,0,0] x8:=sq (v:=t1<|.two (.one<|t1<|t1<|.one<|.loop wz) .nil) vM (b:=eU)<|kC aho kN
def J5(x:Y1×D):Option ((Bool×D)×D):=(BT (X:=Y1×D) (λa=>if U (0<=a.1.2.2.2.1)&&U (a.1.2.2.2.1<=(a.1.2.2.1.size:Int)) then(LZ ((a.1.2.2.1.extract (0)<|AM a.1.2.2.2.1),())).bind λc=>(SZ (a.1.1,c.1.1,())).bind λd=>(GC a).bind λe=>if(!e.1.2.1)||(!d.1.2.1) then I ((A0,()),()) else(AN (cQ (a.1,0,())) (λb=>I (b,())) λb=>I ((Y,()),())) else G)<|(FW (x.1.1,())).bind λf=>if !f.1.1 then I (.inl ((A0,()),())) else(O3 ((x.1.2.2.1,x.1.2.2.2.1,()),())).bind λg=>if !g.1.1 then I (.inl ((A0,()),())) else if U (3<(j8 x.1.2.2.2.2.1:Int)) then I (.inl ((A0,()),())) else if !x.1.2.1 then if U (0<(j8 x.1.2.2.2.2.1:Int)) then I (.inl ((A0,()),())) else I (.inr x) else I (.inr x))
def Kc:Ent:=(73,G,⟨[Z12],[.bool],J5⟩)
def LX:y7 Kc:=sk (v:=t1<|.join [(1,Z19)] .nil<|t1<|t1<|t1<|t1<|.two (t1<|.one<|.loop x8) .nil) (fn:=f73) vM<|kC ahg kN
def akg:Cx:=cX [] [] []
def aB7:y9 akg:=aIe<|AI
def gE(x:Y1×Y1×List AG×v7):Rnd (Y1×Y1×List AG×v7) D (Y1×Y1×List AG×D):=if U (x.2.2.2.1<(j8 x.1.2.2.2.2.1:Int)) then if inb x.2.2.2.1 x.1.2.2.2.2.1.length then let b:=(rd aIi x.1.2.2.2.2.1 x.2.2.2.1).fr;let c:=(rd aIi x.1.2.2.2.2.1 x.2.2.2.1).nu;let d:=(rd aIi x.1.2.2.2.2.1 x.2.2.2.1).to;let e:=(rd aIi x.1.2.2.2.2.1 x.2.2.2.1).un;let f:=(rd aIi x.1.2.2.2.2.1 x.2.2.2.1).sz;let a:=(rd aIi x.1.2.2.2.2.1 x.2.2.2.1).got;if Ab (([]:List AQ).length+a.length) then if Ab (x.2.2.1.length+([(AG.mk b c d e f<|([]:List AQ)++a)]:List AG).length) then I (.inl (x.1,x.2.1,(x.2.2.1++([(AG.mk b c d e f<|([]:List AQ)++a)]:List AG)),(w64<|x.2.2.2.1+1),())) else G else G else G else I (.inr<|.inr (x.1,x.2.1,x.2.2.1,()))
def tJ:=AT gE
def xt:Loop:=⟨[(1,Z19),(2,Z20),(3,.row 97 .half),(4,j6)],[(1,Z19),(2,Z20),(3,.row 97 .half)],0,[],tJ⟩
def ajT:LF f75 [] [1,1,0,1,0,0] xt:=sq (v:= .nil) aB7 (b:=gE) kN
def H6(x:Y1×D):Option ((Y1×D)×D):=(AN (tJ (x.1,(0,A0,noB,0,([]:List AG),()),([]:List AG),0,())) (λ_=>G) λa=>I (((a.1.1,a.1.2.1,a.1.2.2.1,a.1.2.2.2.1,a.2.2),()),()))
def Mn:Ent:=(75,G,⟨[Z12],[Z1],H6⟩)
def Nw:y7 Mn:=sk (v:=t1<|t1<|.two (t1<|.one<|.loop xt) .nil) (fn:=f75) aB7<|kC ajT kN
def aiI:Cx:=cX [H7] [] []
def ajv:y9 aiI:=aIe<|gC Ha<|AI
def fW(x:A1×D):Option ((Bool×D)×D):=(DF ((x.1.size:Int),1,60,())).bind λa=>I (a.1,())
def vF:Ent:=(192,G,⟨[.str],[.bool],fW⟩)
def acx:y7 vF:=sk (v:= .nil) (fn:=f192) ajv kN
def ant:Cx:=cX [OC] [] []
def apu:y9 ant:=aIe<|gC Pm<|AI
def Q6(x:A1×D):Option ((A1×D)×D):=(DT ((x.1.size:Int),())).bind λa=>if U (a.1.1.size+(B [58]).size<=4611686018427387904) then if U ((a.1.1++(B [58])).size+x.1.size<=4611686018427387904) then if U (((a.1.1++(B [58]))++x.1).size+(B [59]).size<=4611686018427387904) then let b:=(((a.1.1++(B [58]))++x.1)++(B [59]));I ((b,()),()) else G else G else G
def ju:Ent:=(193,G,⟨[.str],[.str],Q6⟩)
def wx:y7 ju:=sk (v:= .nil) (fn:=f193) apu kN
def age:Cx:=cX [SX,vF,ju] [] []
def yP:y9 age:=aIe<|gC VP<|gC acx<|gC wx<|AI
def S1(x:List A1×Y7×Y7×A1×v7):Rnd (List A1×Y7×Y7×A1×v7) (Y7×Bool×D) (Y7×Y7×A1×D):=if U (x.2.2.2.2.1<(j8 x.1:Int)) then if inb x.2.2.2.2.1 x.1.length then(fW ((rd aIr x.1 x.2.2.2.2.1),())).bind λb=>if !b.1.1 then I (.inr<|.inl (x.2.1,A0,())) else if inb x.2.2.2.2.1 x.1.length then(Q6 ((rd aIr x.1 x.2.2.2.2.1),())).bind λa=>if U (x.2.2.2.1.size+a.1.1.size<=4611686018427387904) then I (.inl (x.1,x.2.1,x.2.2.1,(x.2.2.2.1++a.1.1),(w64<|x.2.2.2.2.1+1),())) else G else G else G else I (.inr<|.inr (x.2.1,x.2.2.1,x.2.2.2.1,()))
def cR:=AT S1
def vd:Loop:=⟨[(1,.sl .str),(2,Z21),(4,Z21),(6,.str),(7,j6)],[(2,Z21),(4,Z21),(6,.str)],0,[(4,Z21),(5,.bool)],cR⟩
def agQ:LF f147 [] [1,1,1,0,1,0,0] vd:=sq (v:= .nil) yP (b:=S1) kN
def S9(x:Y7×List A1×D):Option ((Y7×Bool×D)×D):=(O3 (x.1,())).bind λb=>if !b.1.1 then I (((noB,0,()),A0,()),()) else(AN (cR (x.2.1,x.1,(noB,0,()),noB,0,())) (λa=>I (a,())) λa=>(if U (2400<(a.2.2.1.size:Int)) then I ((a.1,A0,()),()) else I (((a.2.2.1,(a.2.2.1.size:Int),()),Y,()),())))
def uh:Ent:=(147,G,⟨[Z15,.fz .str],[Z15,.bool],S9⟩)
def acf:y7 uh:=sk (v:=t1<|t1<|t1<|.two (t1<|.one<|.loop vd) .nil) (fn:=f147) yP<|kC agQ kN
def aiO:Cx:=cX [OC,jv,W2] [] []
def gG:y9 aiO:=aIe<|gC Pm<|gC xD<|gC cT<|AI
def eW(x:Y3×List A1×v7):Rnd (Y3×List A1×v7) D (List A1×D):=if U (x.2.2.1<(j8 x.1.2.2.2.2.2.1:Int)) then if inb x.2.2.1 x.1.2.2.2.2.2.1.length then(Mi (((rd y5 x.1.2.2.2.2.2.1 x.2.2.1).fr,(rd y5 x.1.2.2.2.2.2.1 x.2.2.1).nu,(rd y5 x.1.2.2.2.2.2.1 x.2.2.1).to,(rd y5 x.1.2.2.2.2.2.1 x.2.2.1).un,(rd y5 x.1.2.2.2.2.2.1 x.2.2.1).tx,()),())).bind λa=>if U ((B [105,110,98,111,120,32]).size+a.1.1.size<=4611686018427387904) then if Ab (x.2.1.length+([((B [105,110,98,111,120,32])++a.1.1)]:List A1).length) then I (.inl (x.1,(x.2.1++([((B [105,110,98,111,120,32])++a.1.1)]:List A1)),(w64<|x.2.2.1+1),())) else G else G else G else I (.inr<|.inr (x.2.1,()))
def cJ:=AT eW
def x9:Loop:=⟨[(1,Z7),(3,.row 9 .str),(7,j6)],[(3,.row 9 .str)],4,[],cJ⟩
def ahm:LF f148 [] [1,1,1,1,1,1,1,0,1,0,0] x9:=sq (v:= .nil) gG (b:=eW) kN
def eX(x:Y3×List A1×v7):Rnd (Y3×List A1×v7) D (Y3×List A1×D):=if U (x.2.2.1<(j8 x.1.2.2.2.1:Int)) then if inb x.2.2.1 x.1.2.2.2.1.length then(Mi (((rd y5 x.1.2.2.2.1 x.2.2.1).fr,(rd y5 x.1.2.2.2.1 x.2.2.1).nu,(rd y5 x.1.2.2.2.1 x.2.2.1).to,(rd y5 x.1.2.2.2.1 x.2.2.1).un,(rd y5 x.1.2.2.2.1 x.2.2.1).tx,()),())).bind λa=>if U ((B [104,101,108,100,32]).size+a.1.1.size<=4611686018427387904) then if Ab (x.2.1.length+([((B [104,101,108,100,32])++a.1.1)]:List A1).length) then I (.inl (x.1,(x.2.1++([((B [104,101,108,100,32])++a.1.1)]:List A1)),(w64<|x.2.2.1+1),())) else G else G else G else I (.inr<|.inr (x.1,x.2.1,()))
def cc:=AT eX
def xB:Loop:=⟨[(1,Z7),(3,.row 9 .str),(6,j6)],[(1,Z7),(3,.row 9 .str)],2,[],cc⟩
def ahp:LF f148 [] [1,1,1,1,1,1,0,1,0,0] xB:=sq (v:= .nil) gG (b:=eX) kN
def eY(x:Y3×List A1×v7):Rnd (Y3×List A1×v7) D (Y3×List A1×D):=if U (x.2.2.1<(j8 x.1.2.2.2.2.1:Int)) then if inb x.2.2.1 x.1.2.2.2.2.1.length then let d:=(rd aIo x.1.2.2.2.2.1 x.2.2.1).mf;let e:=(rd aIo x.1.2.2.2.2.1 x.2.2.1).mn;let f:=(rd aIo x.1.2.2.2.2.1 x.2.2.1).mu;(DT (d,())).bind λa=>if U ((B [109,97,114,107,32]).size+a.1.1.size<=4611686018427387904) then if U (((B [109,97,114,107,32])++a.1.1).size+(B [32]).size<=4611686018427387904) then(DT (e,())).bind λb=>if U ((((B [109,97,114,107,32])++a.1.1)++(B [32])).size+b.1.1.size<=4611686018427387904) then if U (((((B [109,97,114,107,32])++a.1.1)++(B [32]))++b.1.1).size+(B [32]).size<=4611686018427387904) then(DT (f,())).bind λc=>if U ((((((B [109,97,114,107,32])++a.1.1)++(B [32]))++b.1.1)++(B [32])).size+c.1.1.size<=4611686018427387904) then if Ab (x.2.1.length+([((((((B [109,97,114,107,32])++a.1.1)++(B [32]))++b.1.1)++(B [32]))++c.1.1)]:List A1).length) then I (.inl (x.1,(x.2.1++([((((((B [109,97,114,107,32])++a.1.1)++(B [32]))++b.1.1)++(B [32]))++c.1.1)]:List A1)),(w64<|x.2.2.1+1),())) else G else G else G else G else G else G else G else I (.inr<|.inr (x.1,x.2.1,()))
def cd:=AT eY
def xC:Loop:=⟨[(1,Z7),(3,.row 9 .str),(4,j6)],[(1,Z7),(3,.row 9 .str)],0,[],cd⟩
def ahh:LF f148 [] [1,1,1,1,1,0,1,0,0] xC:=sq (v:= .nil) gG (b:=eY) kN
def W7(x:Y3×D):Option ((List A1×D)×D):=(Q7 x).bind λg=>if !g.1.1 then I ((([]:List A1),()),()) else(BT (X:=Y3×List A1×D) (λa=>(BT (X:=Y3×List A1×D) (λd=>(AN (cd (d.1,d.2.1,0,())) (λ_=>G) λe=>(AN (cc (e.1,e.2.1,0,())) (λ_=>G) λf=>(AN (cJ (f.1,f.2.1,0,())) (λ_=>G) λh=>I (h,())))))<|(if U (1<a.1.2.2.1) then(DT (a.1.2.2.1,())).bind λb=>if U ((B [110,101,120,116,32]).size+b.1.1.size<=4611686018427387904) then if Ab (a.2.1.length+([((B [110,101,120,116,32])++b.1.1)]:List A1).length) then I (.inr (a.1,(a.2.1++([((B [110,101,120,116,32])++b.1.1)]:List A1)),())) else G else G else I (.inr a))))<|(if U (0<x.1.2.1) then(DT (x.1.2.1,())).bind λc=>if U ((B [116,105,109,101,32]).size+c.1.1.size<=4611686018427387904) then if Ab (([]:List A1).length+([((B [116,105,109,101,32])++c.1.1)]:List A1).length) then I (.inr (x.1,(([]:List A1)++([((B [116,105,109,101,32])++c.1.1)]:List A1)),())) else G else G else I (.inr (x.1,([]:List A1),()))))
def vI:Ent:=(148,G,⟨[Z8],[.row 9 .str],W7⟩)
def acs:y7 vI:=sk (v:=t1<|t1<|t1<|.join [(1,Z7),(3,.row 9 .str)] .nil<|.join [(1,Z7),(3,.row 9 .str)] .nil<|.two (t1<|.one<|.loop xC)<|.two (t1<|.one<|.loop xB)<|.two (t1<|.one<|.loop x9) .nil) (fn:=f148) gG<|kC ahh<|kC ahp<|kC ahm kN
def afl:Cx:=cX [SX] [] []
def ahA:y9 afl:=aIe<|gC VP<|AI
def Pt(x:Y7×D):Option ((Y7×D)×D):=(O3 x).bind λa=>if !a.1.1 then I (((noB,0,()),()),()) else I (((x.1.1,(x.1.1.size:Int),()),()),())
def db:Ent:=(149,G,⟨[Z15],[Z15],Pt⟩)
def rR:y7 db:=sk (v:= .nil) (fn:=f149) ahA kN
def aiJ:Cx:=cX [SX,vF,ju] [] [(14,21)]
def ajw:y9 aiJ:=aIe<|gC VP<|gC acx<|gC wx<|AI
def SF(x:Y7×A1×D):Option ((Y7×Bool×D)×D):=(O3 (x.1,())).bind λc=>if !c.1.1 then I (((noB,0,()),A0,()),()) else(fW x.2).bind λa=>if Ag (!(!a.1.1)) ((Q6 x.2).isSome) then if(!a.1.1)||(U<|2400<(w64<|(x.1.1.size:Int)+((((Q6 x.2).getD ((noB,()),())).1.1).size:Int))) then I ((x.1,A0,()),()) else(Q6 x.2).bind λb=>if U (x.1.1.size+b.1.1.size<=4611686018427387904) then I ((((x.1.1++b.1.1),x.1.2),Y,()),()) else G else G
def aAG:Ent:=(187,G,⟨[Z15,.str],[Z15,.bool],SF⟩)
def ae5:y7 aAG:=sk (v:= .nil) (fn:=f187) ajw kN
def aiB:Cx:=cX [J3,jy,uh,vI,db,aAG] [] []
def akP:y9 aiB:=aIe<|gC Ji<|gC xF<|gC acf<|gC acs<|gC rR<|gC ae5<|AI
def Kb(x:Y1×A1×Bool×D):Option ((Y1×Bool×D)×D):=(GC (x.1,())).bind λb=>(Sa (b.1.1,x.2.1,())).bind λe=>if !e.1.2.1 then I ((x.1,A0,()),()) else(SF ((x.1.2.2.1,x.1.2.2.2.1,()),x.2.1,())).bind λc=>(BT (X:=Bool×Y1×Y1×Y7×Bool×D) (λa=>if !a.2.2.2.2.1 then I ((a.2.1,A0,()),()) else if a.1 then(Pt (a.2.2.2.1,())).bind λd=>I (((a.2.1.1,a.2.1.2.1,d.1.1.1,d.1.1.2.1,a.2.1.2.2.2.2),Y,()),()) else I (((a.2.1.1,a.2.1.2.1,a.2.2.2.1.1,a.2.2.2.1.2.1,a.2.1.2.2.2.2),Y,()),()))<|(if !c.1.2.1 then(W7 (b.1.1,())).bind λf=>(S9 ((x.1.2.2.1,x.1.2.2.2.1,()),f.1)).bind λg=>(SF (g.1.1,x.2.1,())).bind λh=>I (.inr (x.2.2.1,x.1,(0,A0,noB,0,([]:List AG),()),h.1)) else I (.inr (x.2.2.1,x.1,(0,A0,noB,0,([]:List AG),()),c.1))))
def SN:Ent:=(140,G,⟨[Z12,.str,.bool],[Z12,.bool],Kb⟩)
def VG:y7 SN:=sk (v:=t1<|t1<|t1<|t1<|t1<|.join [(2,.bool),(3,Z19),(6,Z20),(12,Z21),(13,.bool)] .nil .nil) (fn:=f140) akP kN
def agc:Cx:=cX [] [] []
def aip:y9 agc:=aIe<|AI
def eK(x:Int×Y6×D):Option ((Y6×D)×D):=I (((x.1,x.2.1.2.2.1,x.2.1.2.1,x.2.1.2.2.2.1,x.2.1.2.2.2.2.1,x.2.1.2.2.2.2.2.1,x.2.1.2.2.2.2.2.2.1,0,0,noB,()),()),())
def ye:Ent:=(181,G,⟨[j6,Z13],[Z13],eK⟩)
def adL:y7 ye:=sk (v:= .nil) (fn:=f181) aip kN
def akf:Cx:=cX [] [] []
def aok:y9 akf:=aIe<|AI
def Q0(x:List AG×v7):Option ((List AG×D)×D):=if U (0<=x.2.1)&&U (x.2.1<=(j8 x.1:Int)) then if Ab (([]:List AG).length+(BR (AM x.2.1) x.1).length) then if U (0<=(w64<|x.2.1+1))&&U ((w64<|x.2.1+1)<=(j8 x.1:Int)) then if Ab ((([]:List AG)++(BR (AM x.2.1) x.1)).length+(Br (AM<|w64<|x.2.1+1) x.1).length) then I ((((([]:List AG)++(BR (AM x.2.1) x.1))++(Br (AM<|w64<|x.2.1+1) x.1)),()),()) else G else G else G else G
def iv:Ent:=(185,G,⟨[.fz .half,j6],[.row 97 .half],Q0⟩)
def vb:y7 iv:=sk (v:= .nil) (fn:=f185) aok kN
def ake:Cx:=cX [] [] [(22,28)]
def aB6:y9 ake:=aIe<|AI
def gD(x:List AG×aIj):Rnd (List AG×aIj) (v7) D:=if U (x.2.2.2.1<(j8 x.1:Int)) then if inb x.2.2.2.1 x.1.length then if Ag (U<|(rd aIi x.1 x.2.2.2.1).fr=x.2.1) (inb x.2.2.2.1 x.1.length) then if(U<|(rd aIi x.1 x.2.2.2.1).fr=x.2.1)&&(U<|(rd aIi x.1 x.2.2.2.1).nu=x.2.2.1) then I (.inr<|.inl x.2.2.2) else I (.inl (x.1,x.2.1,x.2.2.1,(w64<|x.2.2.2.1+1),())) else G else G else I (.inr<|.inr ())
def tI:=AT gD
def xq:Loop:=⟨[(0,.sl .half),(1,j6),(2,j6),(7,j6)],[],0,[(6,j6)],tI⟩
def ajS:LF f222 [] [1,0,1,0,0] xq:=sq (v:= .nil) aB6 (b:=gD) kN
def gX(x:List AG×aIf):Option ((v7)×D):=(AN (tI (x.1,x.2.1,x.2.2.1,0,())) (λa=>I (a,())) λa=>I (((-1),()),()))
def aBI:Ent:=(222,G,⟨[.fz .half,j6,j6],[j6],gX⟩)
def aet:y7 aBI:=sk (v:=t1<|.two (t1<|.one<|.loop xq) .nil) (fn:=f222) aB6<|kC ajS kN
def ann:Cx:=cX [iv,aBI] [] []
def aBp:y9 ann:=aIe<|gC vb<|gC aet<|AI
def gY(x:Y1×Y6×Y1×Int×Y9×List AQ×v7):Rnd (Y1×Y6×Y1×Int×Y9×List AQ×v7) D (Y1×Y6×Y1×Int×Y9×List AQ×D):=if U (x.2.2.2.2.2.2.1<(j8 x.2.2.2.2.1.2.2.2.2.2.1:Int)) then if inb x.2.2.2.2.2.2.1 x.2.2.2.2.1.2.2.2.2.2.1.length then if !decide ((rd aIt x.2.2.2.2.1.2.2.2.2.2.1 x.2.2.2.2.2.2.1).nu=x.2.1.2.2.2.2.2.2.2.2.1) then if inb x.2.2.2.2.2.2.1 x.2.2.2.2.1.2.2.2.2.2.1.length then if Ab (x.2.2.2.2.2.1.length+([(rd aIt x.2.2.2.2.1.2.2.2.2.2.1 x.2.2.2.2.2.2.1)]:List AQ).length) then let a:=(w64<|x.2.2.2.2.2.2.1+1);I (.inl (x.1,x.2.1,x.2.2.1,x.2.2.2.1,x.2.2.2.2.1,(x.2.2.2.2.2.1++([(rd aIt x.2.2.2.2.1.2.2.2.2.2.1 x.2.2.2.2.2.2.1)]:List AQ)),a,())) else G else G else let b:=(w64<|x.2.2.2.2.2.2.1+1);I (.inl (x.1,x.2.1,x.2.2.1,x.2.2.2.1,x.2.2.2.2.1,x.2.2.2.2.2.1,b,())) else G else I (.inr<|.inr (x.1,x.2.1,x.2.2.1,x.2.2.2.1,x.2.2.2.2.1,x.2.2.2.2.2.1,()))
def dh:=AT gY
def zw:Loop:=⟨[(2,Z20),(3,Z14),(4,Z20),(6,j6),(7,Z17),(8,.row 127 .mixed),(9,j6)],[(2,Z20),(3,Z14),(4,Z20),(6,j6),(7,Z17),(8,.row 127 .mixed)],0,[],dh⟩
def anE:LF f183 [] [1,1,1,1,1,1,0,1,0,0] zw:=sq (v:= .nil) aBp (b:=gY) kN
def iK(x:Y1×Y6×D):Option ((Y1×v7)×D):=(gX (x.1.2.2.2.2.1,x.2.1.2.2.2.1,x.2.1.2.2.2.2.1,())).bind λe=>(BT (X:=Y1×Y6×Y1×v7) (λa=>if inb a.2.2.2.1 a.1.2.2.2.2.1.length then let i:=(rd aIi a.1.2.2.2.2.1 a.2.2.2.1).fr;let j:=(rd aIi a.1.2.2.2.2.1 a.2.2.2.1).nu;let f:=(rd aIi a.1.2.2.2.2.1 a.2.2.2.1).to;let g:=(rd aIi a.1.2.2.2.2.1 a.2.2.2.1).un;let h:=(rd aIi a.1.2.2.2.2.1 a.2.2.2.1).sz;let k:=(rd aIi a.1.2.2.2.2.1 a.2.2.2.1).got;if !decide (f=a.2.1.2.2.2.2.2.1) then I ((a.1,(-1),()),()) else if !decide (g=a.2.1.2.2.2.2.2.2.1) then I ((a.1,(-1),()),()) else if !decide (h=a.2.1.2.2.2.2.2.2.2.1) then I ((a.1,(-1),()),()) else(AN (dh (a.1,a.2.1,a.2.2.1,a.2.2.2.1,(i,j,f,g,h,k,()),([]:List AQ),0,())) (λ_=>G) λd=>(BT (X:=Y1×Y6×Y1×Int×Y9×List AQ×D) (λc=>if Ab (c.2.2.2.2.2.1.length+([(AQ.mk c.2.1.2.2.2.2.2.2.2.2.1 c.2.1.2.2.2.2.2.2.2.2.2.1)]:List AQ).length) then if inb c.2.2.2.1 c.1.2.2.2.2.1.length then I (((c.1.1,c.1.2.1,c.1.2.2.1,c.1.2.2.2.1,(Bq c.1.2.2.2.2.1 (AM c.2.2.2.1)<|AG.mk c.2.2.2.2.1.1 c.2.2.2.2.1.2.1 c.2.2.2.2.1.2.2.1 c.2.2.2.2.1.2.2.2.1 c.2.2.2.2.1.2.2.2.2.1<|c.2.2.2.2.2.1++([(AQ.mk c.2.1.2.2.2.2.2.2.2.2.1 c.2.1.2.2.2.2.2.2.2.2.2.1)]:List AQ)),()),c.2.2.2.1,()),()) else G else G)<|(if U (14<=(j8 d.2.2.2.2.2.1:Int)) then if U (0<=1)&&U (1<=(j8 d.2.2.2.2.2.1:Int)) then if Ab (([]:List AQ).length+(Br (AM 1) d.2.2.2.2.2.1).length) then I (.inr (d.1,d.2.1,d.2.2.1,d.2.2.2.1,d.2.2.2.2.1,(([]:List AQ)++(Br (AM 1) d.2.2.2.2.2.1)),())) else G else G else I (.inr d)))) else G)<|(if U (e.1.1<0) then(BT (X:=Y1×Y6×Y1×D) (λb=>if Ab (b.1.2.2.2.2.1.length+([(AG.mk b.2.1.2.2.2.1 b.2.1.2.2.2.2.1 b.2.1.2.2.2.2.2.1 b.2.1.2.2.2.2.2.2.1 b.2.1.2.2.2.2.2.2.2.1 ([]:List AQ))]:List AG).length) then let l:=(w64<|((b.1.2.2.2.2.1++([(AG.mk b.2.1.2.2.2.1 b.2.1.2.2.2.2.1 b.2.1.2.2.2.2.2.1 b.2.1.2.2.2.2.2.2.1 b.2.1.2.2.2.2.2.2.2.1 ([]:List AQ))]:List AG)).length:Int) - 1);I (.inr ((b.1.1,b.1.2.1,b.1.2.2.1,b.1.2.2.2.1,(b.1.2.2.2.2.1++([(AG.mk b.2.1.2.2.2.1 b.2.1.2.2.2.2.1 b.2.1.2.2.2.2.2.1 b.2.1.2.2.2.2.2.2.1 b.2.1.2.2.2.2.2.2.2.1 ([]:List AQ))]:List AG)),()),b.2.1,b.2.2.1,l,())) else G)<|(if U (3<=(j8 x.1.2.2.2.2.1:Int)) then(Q0 (x.1.2.2.2.2.1,0,())).bind λm=>I (.inr ((x.1.1,x.1.2.1,x.1.2.2.1,x.1.2.2.2.1,m.1),x.2.1,(0,A0,noB,0,([]:List AG),()),())) else I (.inr (x.1,x.2.1,(0,A0,noB,0,([]:List AG),()),())))) else I (.inr (x.1,x.2.1,(0,A0,noB,0,([]:List AG),()),e.1))))
def aC7:Ent:=(183,G,⟨[Z1,Z13],[Z1,j6],iK⟩)
def afT:y7 aC7:=sk (v:=t1<|t1<|.join [(2,Z20),(3,Z14),(4,Z20),(6,j6)] (t1<|.two (.join [(2,Z20),(3,Z14),(4,Z20)] .nil .nil) .nil)<|t1<|t1<|t1<|.two (t1<|.one<|.loop zw)<|.join [(2,Z20),(3,Z14),(4,Z20),(6,j6),(7,Z17),(8,.row 127 .mixed)] .nil .nil) (fn:=f183) aBp<|kC anE kN
def aiK:Cx:=cX [H7] [] []
def ajx:y9 aiK:=aIe<|gC Ha<|AI
def Pv(x:v7):Option ((v7)×D):=(DF (x.1,0,65535,())).bind λa=>if !a.1.1 then I ((0,()),()) else let b:=(BL (w64<|(w64<|x.1 * 25173)+13849) 65536);I ((b,()),())
def vG:Ent:=(224,G,⟨[j6],[j6],Pv⟩)
def acq:y7 vG:=sk (v:= .nil) (fn:=f224) ajx kN
def aiE:Cx:=cX [] [] []
def akS:y9 aiE:=aIe<|AI
def fO(x:aIf):Option ((v7)×D):=if U (x.2.1=1) then if !decide (x.1=0) then let a:=(w64<|(w64<|B1 60 x.1)+10);I ((a,()),()) else G else if !decide ((w64<|x.2.1 * (w64<|x.2.1 - 1))=0) then let b:=(w64<|B1 60<|w64<|x.2.1 * (w64<|x.2.1 - 1));I ((b,()),()) else G
def aAC:Ent:=(237,G,⟨[j6,j6],[j6],fO⟩)
def aeE:y7 aAC:=sk (v:= .nil) (fn:=f237) akS kN
def ahJ:Cx:=cX [XJ,vG,aAC] [] []
def uu:y9 ahJ:=aIe<|gC fP<|gC acq<|gC aeE<|AI
def Ve(x:aIj):Rnd (aIj) (v7) (v7):=if U (x.2.2.1<x.1) then(fO (x.1,x.2.2)).bind λa=>if U ((w64<|x.2.1 - a.1.1)<0) then I (.inr<|.inl x.2.2) else I (.inl (x.1,(w64<|x.2.1 - a.1.1),(w64<|x.2.2.1+1),())) else I (.inr<|.inr (x.1,()))
def cU:=AT Ve
def wX:Loop:=⟨[(0,j6),(7,j6),(8,j6)],[(0,j6)],2,[(4,j6)],cU⟩
def agK:LF f225 [] [1,1,1,1,1,1,0,1,0,0] wX:=sq (v:= .nil) uu (b:=Ve) kN
def wy(x:Int×aIj):Rnd (Int×aIj) D (aIj):=if U (x.2.2.2.1<=x.1) then(fO (x.1,x.2.2.2)).bind λa=>I (.inl (x.1,x.2.1,(w64<|x.2.2.1+a.1.1),(w64<|x.2.2.2.1+1),())) else I (.inr<|.inr (x.1,x.2.1,x.2.2.1,()))
def cV:=AT wy
def wY:Loop:=⟨[(0,j6),(1,j6),(5,j6),(6,j6)],[(0,j6),(1,j6),(5,j6)],0,[],cV⟩
def agS:LF f225 [] [1,1,1,1,0,1,0,0] wY:=sq (v:= .nil) uu (b:=wy) kN
def eR(x:aIf):Option ((v7)×D):=(Mq x).bind λc=>if !c.1.1 then I ((0,()),()) else if U (x.2.1<x.1) then I ((1,()),()) else(AN (cV (x.1,x.2.1,0,1,())) (λ_=>G) (λa=>(Pv ((w64<|(w64<|a.2.1 * 31)+a.1),())).bind λd=>(Pv d.1).bind λe=>if !decide (a.2.2.1=0) then let f:=(BL (w64<|B1 e.1.1 16) a.2.2.1);(AN (cU (a.1,f,1,())) (λb=>I (b,())) λb=>I (b,())) else G))
def yg:Ent:=(225,G,⟨[j6,j6],[j6],eR⟩)
def adN:y7 yg:=sk (v:=t1<|t1<|t1<|t1<|.two (t1<|.one<|.loop wY)<|t1<|.two (t1<|.one<|.loop wX) .nil) (fn:=f225) uu<|kC agS<|kC agK kN
def apJ:Cx:=cX [XJ,vG,yg] [] []
def XP:y9 apJ:=aIe<|gC fP<|gC acq<|gC adN<|AI
def Ws(x:Int×List Int×List Bool×aIj):Rnd (Int×List Int×List Bool×aIj) D (Int×List Int×List Bool×aIj):=if inb x.2.2.2.2.2.1 x.2.2.1.length then if rd aIw x.2.2.1 x.2.2.2.2.2.1 then if !decide (x.1=0) then let a:=(BL (w64<|x.2.2.2.2.2.1+1) x.1);I (.inl (x.1,x.2.1,x.2.2.1,x.2.2.2.1,x.2.2.2.2.1,a,())) else G else I (.inr<|.inr x) else G
def eQ:=AT Ws
def aA4:Loop:=⟨[(0,j6),(5,.row 3 .int),(6,.row 4 .bool),(7,j6),(8,j6),(9,j6)],[(0,j6),(5,.row 3 .int),(6,.row 4 .bool),(7,j6),(8,j6),(9,j6)],2,[],eQ⟩
def apc:LF f189 [] [1,1,1,1,1,1,0,1,0,0,1,0,0,1,1,0,0,0] aA4:=sq (v:= .nil) XP (b:=Ws) kN
def iP(x:Int×List Int×List Bool×v7):Rnd (Int×List Int×List Bool×v7) D (List Int×D):=if U (x.2.2.2.1<x.1) then if inb x.2.2.2.1 x.2.2.1.length then if rd aIw x.2.2.1 x.2.2.2.1 then if Ab (x.2.1.length+([x.2.2.2.1]:List Int).length) then I (.inl (x.1,(x.2.1++([x.2.2.2.1]:List Int)),x.2.2.1,(w64<|x.2.2.2.1+1),())) else G else I (.inl (x.1,x.2.1,x.2.2.1,(w64<|x.2.2.2.1+1),())) else G else I (.inr<|.inr (x.2.1,()))
def vC:=AT iP
def aA3:Loop:=⟨[(0,j6),(5,.row 3 .int),(6,.row 4 .bool),(10,j6)],[(5,.row 3 .int)],4,[],vC⟩
def apZ:LF f189 [] [1,1,1,1,1,1,1,0,1,0,0] aA3:=sq (v:= .nil) XP (b:=iP) kN
def jc(x:Int×List Int×List Bool×aIf):Rnd (Int×List Int×List Bool×aIf) D (Int×List Int×List Bool×D):=if U (0<x.2.2.2.2.1) then(Pv (x.2.2.2.1,())).bind λb=>if !decide (x.1=0) then let c:=(BL (w64<|B1 b.1.1 16) x.1);(AN (eQ (x.1,x.2.1,x.2.2.1,b.1.1,x.2.2.2.2.1,c,())) (λ_=>I<|.inr<|.inl ()) λa=>(if inb a.2.2.2.2.2.1 a.2.2.1.length then let d:=(w64<|a.2.2.2.2.1 - 1);I (.inl (a.1,a.2.1,(Bq a.2.2.1 (AM a.2.2.2.2.2.1) Y),a.2.2.2.1,d,())) else G)) else G else I (.inr<|.inr (x.1,x.2.1,x.2.2.1,()))
def vD:=AT jc
def aA5:Loop:=⟨[(0,j6),(5,.row 3 .int),(6,.row 4 .bool),(7,j6),(8,j6)],[(0,j6),(5,.row 3 .int),(6,.row 4 .bool)],0,[],vD⟩
def aph:LF f189 [] [1,1,1,1,1,1,0,1,0,0] aA5:=sq (v:=t1<|.two (.one<|t1<|t1<|.two (.one<|.loop aA4) .nil) .nil) XP (b:=jc)<|kC apc kN
def X2(x:aIf):Option ((List Int×D)×D):=(Mq x).bind λb=>if !b.1.1 then I ((([]:List Int),()),()) else if U (x.2.1<x.1) then if Ab (([]:List Int).length+([x.2.1]:List Int).length) then I (((([]:List Int)++([x.2.1]:List Int)),()),()) else G else if U (0<=x.1)&&U (x.1<=4294967296) then(Pv ((w64<|(w64<|x.2.1 * 7)+1),())).bind λc=>(eR x).bind λd=>(AN (vD (x.1,([]:List Int),(BS (AM x.1)<|dfl .bool),c.1.1,d.1)) (λ_=>G) λa=>(AN (vC (a.1,a.2.1,a.2.2.1,0,())) (λ_=>G) λe=>I (e,()))) else G
def kZ:Ent:=(189,G,⟨[j6,j6],[.row 3 .int],X2⟩)
def yG:y7 kZ:=sk (v:=t1<|t1<|t1<|t1<|t1<|t1<|.two (t1<|.one<|.loop aA5)<|.two (t1<|.one<|.loop aA3) .nil) (fn:=f189) XP<|kC aph<|kC apZ kN
def apI:Cx:=cX [] [] []
def aCq:y9 apI:=aIe<|AI
def aBc(x:A1×A1×List Int×v7):Rnd (A1×A1×List Int×v7) D (List Int×D):=if U (x.2.2.2.1<4) then if inb x.2.2.2.1 x.1.size then if inb x.2.2.2.1 x.2.1.size then if Ab (x.2.2.1.length+([(Dw .u8 (bt x.1 x.2.2.2.1)<|bt x.2.1 x.2.2.2.1)]:List Int).length) then I (.inl (x.1,x.2.1,(x.2.2.1++([(Dw .u8 (bt x.1 x.2.2.2.1)<|bt x.2.1 x.2.2.2.1)]:List Int)),(w64<|x.2.2.2.1+1),())) else G else G else G else I (.inr<|.inr (x.2.2.1,()))
def vA:=AT aBc
def aAA:Loop:=⟨[(0,.str),(1,.str),(5,.row 5 .u8),(6,j6)],[(5,.row 5 .u8)],0,[],vA⟩
def apg:LF f191 [] [1,1,0,1,0,0] aAA:=sq (v:= .nil) aCq (b:=aBc) kN
def X4(x:A1×A1×D):Option ((A1×D)×D):=(AN (vA (x.1,x.2.1,([]:List Int),0,())) (λ_=>G) λa=>I (((BJ a.1),()),()))
def kY:Ent:=(191,G,⟨[.str,.str],[.str],X4⟩)
def yM:y7 kY:=sk (v:=t1<|t1<|.two (t1<|.one<|.loop aAA) .nil) (fn:=f191) aCq<|kC apg kN
def anl:Cx:=cX [kZ,kY] [] []
def aBo:y9 anl:=aIe<|gC yG<|gC yM<|AI
def WZ(x:List A1×List Int×A1×List Int×v7):Rnd (List A1×List Int×A1×List Int×v7) D (List Int×A1×D):=if U (x.2.2.2.2.1<(j8 x.2.2.2.1:Int)) then if inb x.2.2.2.2.1 x.2.2.2.1.length then if inb (rd aIk x.2.2.2.1 x.2.2.2.2.1) x.1.length then if U ((rd aIr x.1<|rd aIk x.2.2.2.1 x.2.2.2.2.1)=noB) then if inb x.2.2.2.2.1 x.2.2.2.1.length then if Ab (x.2.1.length+([(rd aIk x.2.2.2.1 x.2.2.2.2.1)]:List Int).length) then I (.inl (x.1,(x.2.1++([(rd aIk x.2.2.2.1 x.2.2.2.2.1)]:List Int)),x.2.2.1,x.2.2.2.1,(w64<|x.2.2.2.2.1+1),())) else G else G else if inb x.2.2.2.2.1 x.2.2.2.1.length then if inb (rd aIk x.2.2.2.1 x.2.2.2.2.1) x.1.length then(X4 (x.2.2.1,(rd aIr x.1<|rd aIk x.2.2.2.1 x.2.2.2.2.1),())).bind λa=>I (.inl (x.1,x.2.1,a.1.1,x.2.2.2.1,(w64<|x.2.2.2.2.1+1),())) else G else G else G else G else I (.inr<|.inr (x.2.1,x.2.2.1,()))
def dd:=AT WZ
def zv:Loop:=⟨[(2,.sl .str),(8,.row 3 .int),(9,.str),(10,.row 3 .int),(11,j6)],[(8,.row 3 .int),(9,.str)],0,[],dd⟩
def anD:LF f236 [] [1,1,1,1,0,1,0,0] zv:=sq (v:= .nil) aBo (b:=WZ) kN
def iJ(x:Int×Y8×List A1×D):Option ((List Int×A1×D)×D):=(X2 (x.1,x.2.1.1,())).bind λa=>(AN (dd (x.2.2.1,([]:List Int),x.2.1.2.1,a.1.1,0,())) (λ_=>G) λb=>I (b,()))
def aC6:Ent:=(236,G,⟨[j6,Z16,.fz .str],[.row 3 .int,.str],iJ⟩)
def afS:y7 aC6:=sk (v:=t1<|t1<|t1<|t1<|.two (t1<|.one<|.loop zv) .nil) (fn:=f236) aBo<|kC anD kN
def akr:Cx:=cX [H7,iu,aC6] [] []
def jN:y9 akr:=aIe<|gC Ha<|gC vY<|gC afS<|AI
def Pw(x:Int×List AQ×List A1×Bool×v7):Rnd (Int×List AQ×List A1×Bool×v7) D (Int×List AQ×List A1×Bool×D):=if U (x.2.2.2.2.1<(j8 x.2.1:Int)) then if inb x.2.2.2.2.1 x.2.1.length then(SR (x.1,((rd aIt x.2.1 x.2.2.2.2.1).nu,(rd aIt x.2.1 x.2.2.2.2.1).da,()),())).bind λb=>if !b.1.1 then I (.inl (x.1,x.2.1,x.2.2.1,x.2.2.2.1,(w64<|x.2.2.2.2.1+1),())) else if inb x.2.2.2.2.1 x.2.1.length then(iJ (x.1,((rd aIt x.2.1 x.2.2.2.2.1).nu,(rd aIt x.2.1 x.2.2.2.2.1).da,()),x.2.2.1,())).bind λa=>if U ((j8 a.1.1:Int)=1) then if inb 0 a.1.1.length then if inb (rd aIk a.1.1 0) x.2.2.1.length then I (.inl (x.1,x.2.1,(Bq x.2.2.1 (AM<|rd aIk a.1.1 0) a.1.2.1),Y,(w64<|x.2.2.2.2.1+1),())) else G else G else I (.inl (x.1,x.2.1,x.2.2.1,x.2.2.2.1,(w64<|x.2.2.2.2.1+1),())) else G else G else I (.inr<|.inr (x.1,x.2.1,x.2.2.1,x.2.2.2.1,()))
def VR:=AT Pw
def yE:Loop:=⟨[(0,j6),(1,.sl .mixed),(5,.row 9 .str),(6,.bool),(7,j6)],[(0,j6),(1,.sl .mixed),(5,.row 9 .str),(6,.bool)],2,[],VR⟩
def ajJ:LF f223 [] [1,1,1,1,0,0,0,1,0,1,1,0,0] yE:=sq (v:= .nil) jN (b:=Pw) kN
def vR(x:Int×List AQ×List A1×Bool×D):Rnd (Int×List AQ×List A1×Bool×D) D (List A1×D):=if x.2.2.2.1 then(AN (VR (x.1,x.2.1,x.2.2.1,A0,0,())) (λ_=>I<|.inr<|.inl ()) λa=>I<|.inl a) else I (.inr<|.inr (x.2.2.1,()))
def sn:=AT vR
def yF:Loop:=⟨[(0,j6),(1,.sl .mixed),(5,.row 9 .str),(6,.bool)],[(5,.row 9 .str)],0,[],sn⟩
def ajZ:LF f223 [] [1,1,1,1,0,0,0] yF:=sq (v:=t1<|.one<|t1<|t1<|.one<|.loop yE) jN (b:=vR)<|kC ajJ kN
def gK(x:Int×List AQ×D):Option ((List A1×D)×D):=(DF (x.1,1,6,())).bind λa=>if !a.1.1 then I ((([]:List A1),()),()) else if U (0<=x.1)&&U (x.1<=4294967296) then(AN (sn (x.1,x.2.1,(BS (AM x.1)<|dfl .str),Y,())) (λ_=>G) λb=>I (b,())) else G
def aBP:Ent:=(223,G,⟨[j6,.fz .mixed],[.row 9 .str],gK⟩)
def afN:y7 aBP:=sk (v:=t1<|t1<|t1<|t1<|.two (.one<|.loop yF) .nil) (fn:=f223) jN<|kC ajZ kN
def akq:Cx:=cX [H7,WK,aBP] [] []
def jM:y9 akq:=aIe<|gC Ha<|gC cP<|gC afN<|AI
def fb(x:Int×A1×v7):Rnd (Int×A1×v7) (A1×Bool×D) (Int×A1×D):=if U (x.2.2.1<(x.2.1.size:Int)) then if inb x.2.2.1 x.2.1.size then if !decide ((bt x.2.1 x.2.2.1)=0) then I (.inr<|.inl (noB,A0,())) else I (.inl (x.1,x.2.1,(w64<|x.2.2.1+1),())) else G else I (.inr<|.inr (x.1,x.2.1,()))
def sj:=AT fb
def yC:Loop:=⟨[(0,j6),(7,.str),(9,j6)],[(0,j6),(7,.str)],2,[(4,.str),(5,.bool)],sj⟩
def ajI:LF f184 [] [1,1,1,1,1,0,1,0,0] yC:=sq (v:= .nil) jM (b:=fb) kN
def W6(x:Int×List A1×A1×v7):Rnd (Int×List A1×A1×v7) (A1×Bool×D) (Int×A1×D):=if U (x.2.2.2.1<(j8 x.2.1:Int)) then if inb x.2.2.2.1 x.2.1.length then if U ((rd aIr x.2.1 x.2.2.2.1)=noB) then I (.inr<|.inl (noB,A0,())) else if inb x.2.2.2.1 x.2.1.length then if U (x.2.2.1.size+(rd aIr x.2.1 x.2.2.2.1).size<=4611686018427387904) then let a:=(x.2.2.1++(rd aIr x.2.1 x.2.2.2.1));I (.inl (x.1,x.2.1,a,(w64<|x.2.2.2.1+1),())) else G else G else G else I (.inr<|.inr (x.1,x.2.2.1,()))
def dK:=AT W6
def yD:Loop:=⟨[(0,j6),(6,.row 9 .str),(7,.str),(8,j6)],[(0,j6),(7,.str)],0,[(4,.str),(5,.bool)],dK⟩
def ajY:LF f184 [] [1,1,1,1,0,1,0,0] yD:=sq (v:= .nil) jM (b:=W6) kN
def gJ(x:Int×List AQ×D):Option ((A1×Bool×D)×D):=(DF (x.1,1,24,())).bind λc=>if !c.1.1 then I ((noB,A0,()),()) else(Lh (x.1,())).bind λd=>(gK (d.1.1,x.2)).bind λe=>(AN (dK (x.1,e.1.1,noB,0,())) (λb=>I (b,())) λb=>(AN (sj (b.1,b.2.1,b.1,())) (λa=>I (a,())) λa=>(if U (0<=a.1)&&U (a.1<=(a.2.1.size:Int)) then let f:=(a.2.1.extract (0)<|AM a.1);I ((f,Y,()),()) else G)))
def aBO:Ent:=(184,G,⟨[j6,.fz .mixed],[.str,.bool],gJ⟩)
def afM:y7 aBO:=sk (v:=t1<|t1<|t1<|t1<|.two (t1<|.one<|.loop yD)<|.two (t1<|.one<|.loop yC) .nil) (fn:=f184) jM<|kC ajY<|kC ajI kN
def aiD:Cx:=cX [J3,WK,Mo,SN,db,XJ,ye,Wc,aC7,aBO,iv,W2] [] [(39,46),(62,68)]
def akR:y9 aiD:=aIe<|gC Ji<|gC cP<|gC Ny<|gC VG<|gC rR<|gC fP<|gC adL<|gC dH<|gC afT<|gC afM<|gC vb<|gC cT<|AI
def W4(x:Y1×Y6×D):Option ((Y1×List Frame×D)×D):=(GC (x.1,())).bind λe=>if U (x.2.1.2.2.2.2.2.2.1<=e.1.1.2.1) then(eK (3,x.2)).bind λb=>I ((x.1,([(Frame.mk b.1.1.1 b.1.1.2.1 b.1.1.2.2.1 b.1.1.2.2.2.1 b.1.1.2.2.2.2.1 b.1.1.2.2.2.2.2.1 b.1.1.2.2.2.2.2.2.1 b.1.1.2.2.2.2.2.2.2.1 b.1.1.2.2.2.2.2.2.2.2.1 b.1.1.2.2.2.2.2.2.2.2.2.1)]:List Frame),()),()) else(GB (e.1.1.2.2.2.1,x.2.1.2.2.2.1,x.2.1.2.2.2.2.1,())).bind λh=>if Ag (!(U<|0<=h.1.1)) ((Kg (e.1.1.2.2.2.2.1,x.2.1.2.2.2.1,x.2.1.2.2.2.2.1,())).isSome) then if(U<|0<=h.1.1)||(U<|0<=((Kg (e.1.1.2.2.2.2.1,x.2.1.2.2.2.1,x.2.1.2.2.2.2.1,())).getD ((0,()),())).1.1) then(Pt ((x.1.2.2.1,x.1.2.2.2.1,()),())).bind λi=>(eK (2,x.2)).bind λc=>I (((x.1.1,x.1.2.1,i.1.1.1,i.1.1.2.1,x.1.2.2.2.2),([(Frame.mk c.1.1.1 c.1.1.2.1 c.1.1.2.2.1 c.1.1.2.2.2.1 c.1.1.2.2.2.2.1 c.1.1.2.2.2.2.2.1 c.1.1.2.2.2.2.2.2.1 c.1.1.2.2.2.2.2.2.2.1 c.1.1.2.2.2.2.2.2.2.2.1 c.1.1.2.2.2.2.2.2.2.2.2.1)]:List Frame),()),()) else if Ag (!(U<|x.2.1.2.2.2.1=x.1.1)) ((Lh (x.2.1.2.2.2.2.2.2.2.1,())).isSome) then if Ag (!(U<|x.2.1.2.2.2.1=x.1.1)) ((Mq (((Lh (x.2.1.2.2.2.2.2.2.2.1,())).getD ((0,()),())).1.1,x.2.1.2.2.2.2.2.2.2.2.1,())).isSome) then if(U<|x.2.1.2.2.2.1=x.1.1)||(!(((Mq (((Lh (x.2.1.2.2.2.2.2.2.2.1,())).getD ((0,()),())).1.1,x.2.1.2.2.2.2.2.2.2.2.1,())).getD ((A0,()),())).1.1)) then I ((x.1,([]:List Frame),()),()) else(iK x).bind λa=>if U (a.1.2.1<0) then I ((a.1.1,([]:List Frame),()),()) else if inb a.1.2.1 a.1.1.2.2.2.2.1.length then(gJ (x.2.1.2.2.2.2.2.2.2.1,(rd aIi a.1.1.2.2.2.2.1 a.1.2.1).got,())).bind λj=>if !j.1.2.1 then I ((a.1.1,([]:List Frame),()),()) else(Q0 (a.1.1.2.2.2.2.1,a.1.2)).bind λk=>(Mi ((x.2.1.2.2.2.1,x.2.1.2.2.2.2.1,x.2.1.2.2.2.2.2.1,x.2.1.2.2.2.2.2.2.1,j.1.1,()),())).bind λf=>if U (f.1.1=noB) then I (((a.1.1.1,a.1.1.2.1,a.1.1.2.2.1,a.1.1.2.2.2.1,k.1),([]:List Frame),()),()) else if U ((B [116,97,107,101,32]).size+f.1.1.size<=4611686018427387904) then(Kb ((a.1.1.1,a.1.1.2.1,a.1.1.2.2.1,a.1.1.2.2.2.1,k.1),((B [116,97,107,101,32])++f.1.1),Y,())).bind λg=>if !g.1.2.1 then I ((g.1.1,([]:List Frame),()),()) else(eK (2,x.2)).bind λd=>I ((g.1.1,([(Frame.mk d.1.1.1 d.1.1.2.1 d.1.1.2.2.1 d.1.1.2.2.2.1 d.1.1.2.2.2.2.1 d.1.1.2.2.2.2.2.1 d.1.1.2.2.2.2.2.2.1 d.1.1.2.2.2.2.2.2.2.1 d.1.1.2.2.2.2.2.2.2.2.1 d.1.1.2.2.2.2.2.2.2.2.2.1)]:List Frame),()),()) else G else G else G else G else G
def zM:Ent:=(138,G,⟨[Z1,Z13],[Z12,.fz .frame],W4⟩)
def aeD:y7 zM:=sk (v:= .nil) (fn:=f138) akR kN
def aiC:Cx:=cX [OC] [] []
def akQ:y9 aiC:=aIe<|gC Pm<|AI
def WO(x:aIj):Option ((A1×D)×D):=(DT (x.1,())).bind λa=>if U (a.1.1.size+(B [32]).size<=4611686018427387904) then(DT (x.2.1,())).bind λb=>if U ((a.1.1++(B [32])).size+b.1.1.size<=4611686018427387904) then if U (((a.1.1++(B [32]))++b.1.1).size+(B [32]).size<=4611686018427387904) then(DT x.2.2).bind λc=>if U ((((a.1.1++(B [32]))++b.1.1)++(B [32])).size+c.1.1.size<=4611686018427387904) then let d:=((((a.1.1++(B [32]))++b.1.1)++(B [32]))++c.1.1);I ((d,()),()) else G else G else G else G
def vE:Ent:=(141,G,⟨[j6,j6,j6],[.str],WO⟩)
def acu:y7 vE:=sk (v:= .nil) (fn:=f141) akQ kN
def afq:Cx:=cX [J3,Kc,Mn,iw,zM,Mo,SN,vE] [] []
def ahE:y9 afq:=aIe<|gC Ji<|gC LX<|gC Nw<|gC wZ<|gC aeD<|gC Ny<|gC VG<|gC acu<|AI
def Vj(x:Y1×Y6×D):Option ((Y1×List Frame×D)×D):=(J5 (x.1,())).bind λf=>if !f.1.1 then I (((0,A0,noB,0,([]:List AG),()),([]:List Frame),()),()) else(H6 (x.1,())).bind λa=>if !x.1.2.1 then I ((a.1.1,([]:List Frame),()),()) else(WU x.2).bind λg=>if !g.1.1 then I ((a.1.1,([]:List Frame),()),()) else if !decide (x.2.1.2.2.1=x.1.1) then I ((a.1.1,([]:List Frame),()),()) else if U (x.2.1.1=1) then(W4 (a.1.1,x.2)).bind λd=>(H6 (d.1.1,())).bind λh=>I ((h.1.1,d.1.2),()) else(GC (x.1,())).bind λb=>(GB (b.1.1.2.2.2.1,x.2.1.2.2.2.1,x.2.1.2.2.2.2.1,())).bind λc=>if !decide (x.2.1.1=2) then I ((a.1.1,([]:List Frame),()),()) else if U (c.1.1<0) then I ((a.1.1,([]:List Frame),()),()) else if inb c.1.1 b.1.1.2.2.2.1.length then if !decide ((rd y5 b.1.1.2.2.2.1 c.1.1).un=x.2.1.2.2.2.2.2.2.1) then I ((a.1.1,([]:List Frame),()),()) else if inb c.1.1 b.1.1.2.2.2.1.length then if !decide ((rd y5 b.1.1.2.2.2.1 c.1.1).to=x.2.1.2.2.2.2.2.1) then I ((a.1.1,([]:List Frame),()),()) else(WO (x.2.1.2.2.2.1,x.2.1.2.2.2.2.1,x.2.1.2.2.2.2.2.2.1,())).bind λe=>if U ((B [108,101,116,32]).size+e.1.1.size<=4611686018427387904) then(Kb (a.1.1,((B [108,101,116,32])++e.1.1),A0,())).bind λi=>I ((i.1.1,([]:List Frame),()),()) else G else G else G
def uL:Ent:=(104,G,⟨[Z12,Z13],[Z12,.fz .frame],Vj⟩)
def acS:y7 uL:=sk (v:= .nil) (fn:=f104) ahE kN
def aka:Cx:=cX [um] [] [(11,13)]
def aB4:y9 aka:=aIe<|gC acj<|AI
def WM(x:List AK×List Frame×v7):Rnd (List AK×List Frame×v7) D (List AK×D):=if(U<|x.2.2.1<(j8 x.2.1:Int))&&(U<|(j8 x.1:Int)<30) then if inb x.2.2.1 x.2.1.length then if inb x.2.2.1 x.2.1.length then if inb x.2.2.1 x.2.1.length then(Pn (((rd aIs x.2.1 x.2.2.1).ki,(rd aIs x.2.1 x.2.2.1).src,(rd aIs x.2.1 x.2.2.1).dst,(rd aIs x.2.1 x.2.2.1).fr,(rd aIs x.2.1 x.2.2.1).nu,(rd aIs x.2.1 x.2.2.1).to,(rd aIs x.2.1 x.2.2.1).un,(rd aIs x.2.1 x.2.2.1).sz,(rd aIs x.2.1 x.2.2.1).mix,(rd aIs x.2.1 x.2.2.1).da,()),())).bind λa=>if Ab (x.1.length+([(AK.mk ((rd aIs x.2.1 x.2.2.1).src) ((rd aIs x.2.1 x.2.2.1).dst) (BJ a.1.1) A0)]:List AK).length) then I (.inl ((x.1++([(AK.mk ((rd aIs x.2.1 x.2.2.1).src) ((rd aIs x.2.1 x.2.2.1).dst) (BJ a.1.1) A0)]:List AK)),x.2.1,(w64<|x.2.2.1+1),())) else G else G else G else G else I (.inr<|.inr (x.1,()))
def tH:=AT WM
def yK:Loop:=⟨[(0,.row 52 .Af),(1,.sl .frame),(5,j6)],[(0,.row 52 .Af)],0,[],tH⟩
def ajQ:LF f105 [] [1,0,1,0,0] yK:=sq (v:= .nil) aB4 (b:=WM) kN
def SP(x:List AK×List Frame×D):Option ((List AK×D)×D):=(AN (tH (x.1,x.2.1,0,())) (λ_=>G) λa=>I (a,()))
def iq:Ent:=(105,G,⟨[.row 52 .Af,.fz .frame],[.row 52 .Af],SP⟩)
def vg:y7 iq:=sk (v:=t1<|.two (t1<|.one<|.loop yK) .nil) (fn:=f105) aB4<|kC ajQ kN
def ahK:Cx:=cX [J3,Kc,Mn,SN,W2] [] [(37,38)]
def ais:y9 ahK:=aIe<|gC Ji<|gC LX<|gC Nw<|gC VG<|gC cT<|AI
def Vq(x:Y1×Int×Int×A1×D):Option ((Y1×v7)×D):=(J5 (x.1,())).bind λd=>if !d.1.1 then I (((0,A0,noB,0,([]:List AG),()),0,()),()) else(GC (x.1,())).bind λb=>(Mi ((x.1.1,b.1.1.2.2.1,x.2),())).bind λa=>if(!x.1.2.1)||(U<|a.1.1=noB) then(H6 (x.1,())).bind λe=>I ((e.1.1,0,()),()) else(H6 (x.1,())).bind λf=>if U ((B [111,119,110,32]).size+a.1.1.size<=4611686018427387904) then(Kb (f.1.1,((B [111,119,110,32])++a.1.1),Y,())).bind λc=>if !c.1.2.1 then(H6 (x.1,())).bind λg=>I ((g.1.1,0,()),()) else I ((c.1.1,b.1.1.2.2.1,()),()) else G
def ui:Ent:=(142,G,⟨[Z12,j6,j6,.str],[Z12,j6],Vq⟩)
def acg:y7 ui:=sk (v:= .nil) (fn:=f142) ais kN
def afn:Cx:=cX [J3,Kc,Mn,SN,OC] [] [(19,21)]
def ahB:y9 afn:=aIe<|gC Ji<|gC LX<|gC Nw<|gC VG<|gC Pm<|AI
def Vf(x:Y1×D):Option ((Y1×Bool×D)×D):=(J5 x).bind λc=>if !c.1.1 then I (((0,A0,noB,0,([]:List AG),()),A0,()),()) else(GC x).bind λa=>if(!x.1.2.1)||(U<|999<=a.1.1.2.1) then(H6 x).bind λd=>I ((d.1.1,A0,()),()) else(H6 x).bind λe=>(DT ((w64<|a.1.1.2.1+1),())).bind λb=>if U ((B [116,105,109,101,32]).size+b.1.1.size<=4611686018427387904) then(Kb (e.1.1,((B [116,105,109,101,32])++b.1.1),Y,())).bind λf=>I (f.1,()) else G
def uX:Ent:=(107,G,⟨[Z12],[Z12,.bool],Vf⟩)
def acP:y7 uX:=sk (v:= .nil) (fn:=f107) ahB kN
def anw:Cx:=cX [WK] [] [(12,14)]
def kG:y9 anw:=aIe<|gC cP<|AI
def gM(x:A1×List A1×Int×List Int×v7):Rnd (A1×List A1×Int×List Int×v7) D (A1×List A1×Int×List Int×D):=if U (x.2.2.2.2.1<(w64<|(w64<|x.2.2.1+1) * 4)) then if U (x.2.2.2.2.1<(x.1.size:Int)) then if inb x.2.2.2.2.1 x.1.size then if Ab (x.2.2.2.1.length+([(bt x.1 x.2.2.2.2.1)]:List Int).length) then I (.inl (x.1,x.2.1,x.2.2.1,(x.2.2.2.1++([(bt x.1 x.2.2.2.2.1)]:List Int)),(w64<|x.2.2.2.2.1+1),())) else G else G else if Ab (x.2.2.2.1.length+([0]:List Int).length) then I (.inl (x.1,x.2.1,x.2.2.1,(x.2.2.2.1++([0]:List Int)),(w64<|x.2.2.2.2.1+1),())) else G else I (.inr<|.inr (x.1,x.2.1,x.2.2.1,x.2.2.2.1,()))
def tn:=AT gM
def zO:Loop:=⟨[(0,.str),(3,.row 9 .str),(4,j6),(5,.row 5 .u8),(6,j6)],[(0,.str),(3,.row 9 .str),(4,j6),(5,.row 5 .u8)],2,[],tn⟩
def an7:LF f188 [] [1,1,1,0,1,0,0,1,0,0,1,0,1,0,0] zO:=sq (v:= .nil) kG (b:=gM) kN
def gN(x:A1×List A1×v7):Rnd (A1×List A1×v7) D (List A1×D):=(Lh ((x.1.size:Int),())).bind λb=>if U (x.2.2.1<b.1.1) then(AN (tn (x.1,x.2.1,x.2.2.1,([]:List Int),(w64<|x.2.2.1 * 4),())) (λ_=>I<|.inr<|.inl ()) λa=>(if Ab (a.2.1.length+([(BJ a.2.2.2.1)]:List A1).length) then I (.inl (a.1,(a.2.1++([(BJ a.2.2.2.1)]:List A1)),(w64<|a.2.2.1+1),())) else G)) else I (.inr<|.inr (x.2.1,()))
def tp:=AT gN
def zP:Loop:=⟨[(0,.str),(3,.row 9 .str),(4,j6)],[(3,.row 9 .str)],0,[],tp⟩
def anH:LF f188 [] [1,1,1,0,1,0,0] zP:=sq (v:=t1<|.two (.one<|t1<|.two (t1<|.one<|.loop zO) .nil) .nil) kG (b:=gN)<|kC an7 kN
def iQ(x:A1×D):Option ((List A1×D)×D):=if(U<|(x.1.size:Int)<1)||(U<|24<(x.1.size:Int)) then I ((([]:List A1),()),()) else(AN (tp (x.1,([]:List A1),0,())) (λ_=>G) λa=>I (a,()))
def aCE:Ent:=(188,G,⟨[.str],[.row 9 .str],iQ⟩)
def agU:y7 aCE:=sk (v:=t1<|t1<|t1<|.two (t1<|.one<|.loop zP) .nil) (fn:=f188) kG<|kC anH kN
def aoI:Cx:=cX [] [] []
def ap0:y9 aoI:=aIe<|AI
def jZ(x:D):Option ((A1×D)×D):=if U (0<=4)&&U (4<=4294967296) then let a:=(BJ<|BS (AM 4)<|dfl .u8);I ((a,()),()) else G
def aC5:Ent:=(190,G,⟨[],[.str],jZ⟩)
def afR:y7 aC5:=sk (v:= .nil) (fn:=f190) ap0 kN
def ak4:Cx:=cX [aCE,kZ,aC5,kY] [] [(19,21)]
def aBA:y9 ak4:=aIe<|gC agU<|gC yG<|gC afR<|gC yM<|AI
def fc(x:List A1×List Int×A1×v7):Rnd (List A1×List Int×A1×v7) D (A1×D):=if U (x.2.2.2.1<(j8 x.2.1:Int)) then if inb x.2.2.2.1 x.2.1.length then if inb (rd aIk x.2.1 x.2.2.2.1) x.1.length then(X4 (x.2.2.1,(rd aIr x.1<|rd aIk x.2.1 x.2.2.2.1),())).bind λa=>I (.inl (x.1,x.2.1,a.1.1,(w64<|x.2.2.2.1+1),())) else G else G else I (.inr<|.inr (x.2.2.1,()))
def dL:=AT fc
def yH:Loop:=⟨[(5,.row 9 .str),(6,.row 3 .int),(7,.str),(8,j6)],[(7,.str)],0,[],dL⟩
def aja:LF f145 [] [1,1,1,1,1,0,1,0,0] yH:=sq (v:= .nil) aBA (b:=fc) kN
def gL(x:A1×v7):Option ((A1×D)×D):=(iQ (x.1,())).bind λa=>(X2 ((j8 a.1.1:Int),x.2)).bind λb=>if(U<|(j8 a.1.1:Int)=0)||(U<|(j8 b.1.1:Int)=0) then I ((noB,()),()) else(jZ ()).bind λc=>(AN (dL (a.1.1,b.1.1,c.1.1,0,())) (λ_=>G) λd=>I (d,()))
def aBQ:Ent:=(145,G,⟨[.str,j6],[.str],gL⟩)
def afO:y7 aBQ:=sk (v:=t1<|t1<|t1<|t1<|t1<|.two (t1<|.one<|.loop yH) .nil) (fn:=f145) aBA<|kC aja kN
def ahL:Cx:=cX [J3,H7,Kc,Mo,vH,aBQ] [] [(18,20),(36,38)]
def ait:y9 ahL:=aIe<|gC Ji<|gC Ha<|gC LX<|gC Ny<|gC acr<|gC afO<|AI
def Vr(x:Y1×aIj):Option ((Y6×Bool×D)×D):=(J5 (x.1,())).bind λe=>if(!e.1.1)||(!x.1.2.1) then I (((0,0,0,0,0,0,0,0,0,noB,()),A0,()),()) else(GC (x.1,())).bind λb=>(GB (b.1.1.2.2.2.1,x.2.1,x.2.2.1,())).bind λa=>if Ag (!(U<|a.1.1<0)) ((DF (x.2.2.2.1,0,999,())).isSome) then if(U<|a.1.1<0)||(!(((DF (x.2.2.2.1,0,999,())).getD ((A0,()),())).1.1)) then I (((0,0,0,0,0,0,0,0,0,noB,()),A0,()),()) else if inb a.1.1 b.1.1.2.2.2.1.length then let f:=(rd y5 b.1.1.2.2.2.1 a.1.1).fr;let g:=(rd y5 b.1.1.2.2.2.1 a.1.1).nu;let c:=(rd y5 b.1.1.2.2.2.1 a.1.1).to;let h:=(rd y5 b.1.1.2.2.2.1 a.1.1).un;let d:=(rd y5 b.1.1.2.2.2.1 a.1.1).tx;(SH (x.1.1,c,())).bind λi=>(gL (d,x.2.2.2)).bind λj=>I (((1,x.1.1,i.1.1,f,g,c,h,(d.size:Int),x.2.2.2.1,j.1),Y,()),()) else G else G
def uj:Ent:=(108,G,⟨[Z12,j6,j6,j6],[Z13,.bool],Vr⟩)
def ach:y7 uj:=sk (v:= .nil) (fn:=f108) ait kN
def agf:Cx:=cX [W1,SX] [] []
def aiq:y9 agf:=aIe<|gC cI<|gC VP<|AI
def eP(x:Y7×v7):Option ((Y7×D)×D):=(O3 (x.1,())).bind λd=>if !d.1.1 then I (((noB,0,()),()),()) else(BT (X:=Int×Y7×Y7×v7) (λb=>(BT (X:=Y7×Y7×v7) (λa=>if U (0<=a.2.2.1)&&U (a.2.2.1<=(a.1.1.size:Int)) then(LZ ((a.1.1.extract (0)<|AM a.2.2.1),())).bind λc=>if U (0<=c.1.2.1)&&U (c.1.2.1<=(a.1.1.size:Int)) then let e:=(a.1.1.extract (0)<|AM c.1.2.1);I (((e,c.1.2),()),()) else G else G)<|(if U (0<b.1) then let f:=(w64<|b.2.2.2.1+b.1);I (.inr (b.2.1,b.2.2.1,f,())) else I (.inr b.2))))<|(if U ((w64<|(x.1.1.size:Int) - x.1.2.1)<x.2.1) then let g:=(w64<|(x.1.1.size:Int) - x.1.2.1);I (.inr (g,x.1,(noB,0,()),x.1.2)) else I (.inr (x.2.1,x.1,(noB,0,()),x.1.2))))
def yf:Ent:=(146,G,⟨[Z15,j6],[Z15],eP⟩)
def adM:y7 yf:=sk (v:=t1<|t1<|t1<|.join [(1,j6),(2,Z21),(4,Z21),(5,j6)] .nil<|.join [(2,Z21),(4,Z21),(5,j6)] .nil .nil) (fn:=f146) aiq kN
def afr:Cx:=cX [Kc,yf] [] []
def ahF:y9 afr:=aIe<|gC LX<|gC adM<|AI
def Vk(x:Y1×v7):Option ((Y1×D)×D):=(J5 (x.1,())).bind λb=>if !b.1.1 then I (((0,A0,noB,0,([]:List AG),()),()),()) else(eP ((x.1.2.2.1,x.1.2.2.2.1,()),x.2)).bind λa=>I (((x.1.1,A0,a.1.1.1,a.1.1.2.1,([]:List AG),()),()),())
def uM:Ent:=(109,G,⟨[Z12,j6],[Z1],Vk⟩)
def acT:y7 uM:=sk (v:= .nil) (fn:=f109) ahF kN
def afo:Cx:=cX [Kc,Mn] [] []
def ahC:y9 afo:=aIe<|gC LX<|gC Nw<|AI
def Vg(x:Y1×D):Option ((Y1×D)×D):=(J5 x).bind λa=>if !a.1.1 then I (((0,A0,noB,0,([]:List AG),()),()),()) else if x.1.2.1 then(H6 x).bind λb=>I (b.1,()) else I (((x.1.1,Y,x.1.2.2.1,x.1.2.2.2.1,([]:List AG),()),()),())
def uJ:Ent:=(110,G,⟨[Z12],[Z1],Vg⟩)
def acQ:y7 uJ:=sk (v:= .nil) (fn:=f110) ahC kN
def ahM:Cx:=cX [J3,Kc,Mn,Mo,SN,vE] [] [(33,34)]
def aiu:y9 ahM:=aIe<|gC Ji<|gC LX<|gC Nw<|gC Ny<|gC VG<|gC acu<|AI
def Vs(x:Y1×aIf):Option ((Y1×Y4×Bool×D)×D):=(J5 (x.1,())).bind λe=>if !e.1.1 then I (((0,A0,noB,0,([]:List AG),()),(0,0,0,0,noB,()),A0,()),()) else(GC (x.1,())).bind λa=>(GB (a.1.1.2.2.2.2.2.1,x.2)).bind λb=>if(!x.1.2.1)||(U<|b.1.1<0) then(H6 (x.1,())).bind λf=>I ((f.1.1,(0,0,0,0,noB,()),A0,()),()) else(H6 (x.1,())).bind λg=>if inb b.1.1 a.1.1.2.2.2.2.2.1.length then(WO (x.2.1,x.2.2.1,(rd y5 a.1.1.2.2.2.2.2.1 b.1.1).un,())).bind λc=>if U ((B [101,97,116,32]).size+c.1.1.size<=4611686018427387904) then(Kb (g.1.1,((B [101,97,116,32])++c.1.1),Y,())).bind λd=>if !d.1.2.1 then(H6 (x.1,())).bind λh=>I ((h.1.1,(0,0,0,0,noB,()),A0,()),()) else if inb b.1.1 a.1.1.2.2.2.2.2.1.length then let i:=(rd y5 a.1.1.2.2.2.2.2.1 b.1.1).fr;let j:=(rd y5 a.1.1.2.2.2.2.2.1 b.1.1).nu;let k:=(rd y5 a.1.1.2.2.2.2.2.1 b.1.1).to;let l:=(rd y5 a.1.1.2.2.2.2.2.1 b.1.1).un;let m:=(rd y5 a.1.1.2.2.2.2.2.1 b.1.1).tx;I ((d.1.1,(i,j,k,l,m,()),Y,()),()) else G else G else G
def uk:Ent:=(111,G,⟨[Z12,j6,j6],[Z12,Z6,.bool],Vs⟩)
def aci:y7 uk:=sk (v:= .nil) (fn:=f111) aiu kN
def afp:Cx:=cX [J3,Kc,Mn,uh,vI] [] [(32,33)]
def ahD:y9 afp:=aIe<|gC Ji<|gC LX<|gC Nw<|gC acf<|gC acs<|AI
def Vh(x:Y1×D):Option ((Y1×Bool×D)×D):=(J5 x).bind λc=>if !c.1.1 then I (((0,A0,noB,0,([]:List AG),()),A0,()),()) else(H6 x).bind λa=>(GC x).bind λd=>(W7 (d.1.1,())).bind λe=>(S9 ((x.1.2.2.1,x.1.2.2.2.1,()),e.1)).bind λb=>if(!x.1.2.1)||(!b.1.2.1) then I ((a.1.1,A0,()),()) else I (((a.1.1.1,a.1.1.2.1,b.1.1.1,b.1.1.2.1,a.1.1.2.2.2.2),Y,()),())
def uK:Ent:=(112,G,⟨[Z12],[Z12,.bool],Vh⟩)
def acR:y7 uK:=sk (v:= .nil) (fn:=f112) ahD kN
def aep:Cx:=cX [Kc,Mn,db] [] [(15,22)]
def ag4:y9 aep:=aIe<|gC LX<|gC Nw<|gC rR<|AI
def VU(x:Y1×D):Option ((Y1×Bool×D)×D):=(J5 x).bind λc=>if !c.1.1 then I (((0,A0,noB,0,([]:List AG),()),A0,()),()) else(H6 x).bind λa=>if(!x.1.2.1)||(U<|x.1.2.2.2.1=(x.1.2.2.1.size:Int)) then I ((a.1.1,A0,()),()) else(Pt ((x.1.2.2.1,x.1.2.2.2.1,()),())).bind λb=>I (((a.1.1.1,a.1.1.2.1,b.1.1.1,b.1.1.2.1,a.1.1.2.2.2.2),Y,()),())
def tY:Ent:=(113,G,⟨[Z12],[Z12,.bool],VU⟩)
def acA:y7 tY:=sk (v:= .nil) (fn:=f113) ag4 kN
def aBl:Cx:=cX [Ia,H7,ir,tZ,uL,iq,uX,uj,uM,uJ,uk,uK,tY,ui] [] []
def aqp:OKC prog aBl (NT aBl 2):=abj 2 mixed<|gC J2<|gC Ha<|gC vh<|gC acB<|gC acS<|gC vg<|gC acP<|gC ach<|gC acT<|gC acQ<|gC aci<|gC acR<|gC acA<|gC acg<|AI
abbrev ZE:Type:=Int×Int×Int×Int×Int×Int×Int×Int×Int×A1×D
def Rc{Ω:Type}(a:List A7)(c:List AK)(e:ZE)(p:AK)(K:List A7->List AK->Option Ω):Option Ω:=
 if(U<|e.1=5) then
 K a c
 else
 if Ab p.data.size then
 (dM ((BC p.data),())).bind λr=>
 if(!r.1.2.1) then
 K a c
 else
 if(!decide (r.1.1.2.1=p.src)) then
 K a c
 else
 if(!decide (r.1.1.2.2.1=p.dst)) then
 K a c
 else
 if inb p.dst a.length then
 (Vj (((rd aIh a p.dst).id,(rd aIh a p.dst).up,(rd aIh a p.dst).log,(rd aIh a p.dst).fo,(rd aIh a p.dst).AJ,()),r.1.1,())).bind λq=>
 if inb p.dst a.length then
 (SP (c,q.1.2)).bind λs=>
 K (Bq a (AM p.dst)<|A7.mk q.1.1.1 q.1.1.2.1 q.1.1.2.2.1 q.1.1.2.2.2.1 q.1.1.2.2.2.2.1) s.1.1
 else G
 else G
 else G
def bG{Ω:Type}(a:List A7)(c:List AK)(e:ZE)(p:AK)(K:List A7->List AK->Option Ω):Option Ω:=
 if(U (0<=e.2.2.2.2.1)&&U (e.2.2.2.2.1<=(j8 c:Int))) then
 if Ab (([]:List AK).length+(BR (AM e.2.2.2.2.1) c).length) then
 if(U (0<=(w64<|e.2.2.2.2.1+1))&&U ((w64<|e.2.2.2.2.1+1)<=(j8 c:Int))) then
 if Ab ((([]:List AK)++(BR (AM e.2.2.2.2.1) c)).length+(Br (AM<|w64<|e.2.2.2.2.1+1) c).length) then
 Rc a ((([]:List AK)++(BR (AM e.2.2.2.2.1) c))++(Br (AM<|w64<|e.2.2.2.2.1+1) c)) e p K
 else G
 else G
 else G
 else G
def bF{Ω:Type}(a:List A7)(c:List AK)(e:ZE)(p:AK)(K:List A7->List AK->Option Ω):Option Ω:=
 if(U<|e.1=5) then
 bG a c e p K
 else
 if(U<|e.2.2.2.2.2.2.1=0) then
 bG a c e p K
 else
 Rc a c e p K
def Re{Ω:Type}(a:List A7)(b:List Bool)(c:List AK)(e:ZE)(K:List A7->List AK->Option Ω)(F:Option Ω):Option Ω:=
 (DF (e.2.2.2.2.1,0,(w64<|(j8 c:Int) - 1),())).bind λr=>
 if(!r.1.1) then
 F
 else
 if inb e.2.2.2.2.1 c.length then
 if(U<|e.1=6) then
 if(rd aIl c e.2.2.2.2.1).sp then
 F
 else
 (DF (e.2.2.2.2.2.1,0,(w64<|((rd aIl c e.2.2.2.2.1).data.size:Int) - 1),())).bind λr=>
 if(!r.1.1) then
 F
 else
 (DF (e.2.2.2.2.2.2.1,1,255,())).bind λr=>
 if(!r.1.1) then
 F
 else
 if Ab (rd aIl c e.2.2.2.2.1).data.size then
 if inb e.2.2.2.2.2.1 ((BC (rd aIl c e.2.2.2.2.1).data).length) then
 if inb e.2.2.2.2.2.1 ((BC (rd aIl c e.2.2.2.2.1).data).length) then
 if inb e.2.2.2.2.1 c.length then
 if inb e.2.2.2.2.1 ((Bq c (AM e.2.2.2.2.1)<|AK.mk ((rd aIl c e.2.2.2.2.1).src) ((rd aIl c e.2.2.2.2.1).dst) (BJ<|Bq (BC (rd aIl c e.2.2.2.2.1).data) (AM e.2.2.2.2.2.1)<|Dw .u8 (rd aIp (BC (rd aIl c e.2.2.2.2.1).data) e.2.2.2.2.2.1)<|w8 e.2.2.2.2.2.2.1)<|(rd aIl c e.2.2.2.2.1).sp).length) then
 K a (Bq (Bq c (AM e.2.2.2.2.1)<|AK.mk ((rd aIl c e.2.2.2.2.1).src) ((rd aIl c e.2.2.2.2.1).dst) (BJ<|Bq (BC (rd aIl c e.2.2.2.2.1).data) (AM e.2.2.2.2.2.1)<|Dw .u8 (rd aIp (BC (rd aIl c e.2.2.2.2.1).data) e.2.2.2.2.2.1)<|w8 e.2.2.2.2.2.2.1)<|(rd aIl c e.2.2.2.2.1).sp) (AM e.2.2.2.2.1)<|AK.mk ((rd aIl (Bq c (AM e.2.2.2.2.1)<|AK.mk ((rd aIl c e.2.2.2.2.1).src) ((rd aIl c e.2.2.2.2.1).dst) (BJ<|Bq (BC (rd aIl c e.2.2.2.2.1).data) (AM e.2.2.2.2.2.1)<|Dw .u8 (rd aIp (BC (rd aIl c e.2.2.2.2.1).data) e.2.2.2.2.2.1)<|w8 e.2.2.2.2.2.2.1)<|(rd aIl c e.2.2.2.2.1).sp) e.2.2.2.2.1).src) ((rd aIl (Bq c (AM e.2.2.2.2.1)<|AK.mk ((rd aIl c e.2.2.2.2.1).src) ((rd aIl c e.2.2.2.2.1).dst) (BJ<|Bq (BC (rd aIl c e.2.2.2.2.1).data) (AM e.2.2.2.2.2.1)<|Dw .u8 (rd aIp (BC (rd aIl c e.2.2.2.2.1).data) e.2.2.2.2.2.1)<|w8 e.2.2.2.2.2.2.1)<|(rd aIl c e.2.2.2.2.1).sp) e.2.2.2.2.1).dst) ((rd aIl (Bq c (AM e.2.2.2.2.1)<|AK.mk ((rd aIl c e.2.2.2.2.1).src) ((rd aIl c e.2.2.2.2.1).dst) (BJ<|Bq (BC (rd aIl c e.2.2.2.2.1).data) (AM e.2.2.2.2.2.1)<|Dw .u8 (rd aIp (BC (rd aIl c e.2.2.2.2.1).data) e.2.2.2.2.2.1)<|w8 e.2.2.2.2.2.2.1)<|(rd aIl c e.2.2.2.2.1).sp) e.2.2.2.2.1).data) Y)
 else G
 else G
 else G
 else G
 else G
 else
 if(U<|e.1=4) then
 (gU ((rd aIl c e.2.2.2.2.1).src,(rd aIl c e.2.2.2.2.1).dst,())).bind λr=>
 if inb r.1.1 b.length then
 if(!(rd aIw b r.1.1)) then
 F
 else
 bF a c e (rd aIl c e.2.2.2.2.1) K
 else G
 else
 bF a c e (rd aIl c e.2.2.2.2.1) K
 else G
def Ug{Ω:Type}(b:List Bool)(e:ZE)(K:List Bool->Option Ω)(F:Option Ω):Option Ω:=
 (DF (e.2.1,0,(w64<|(j8 b:Int) - 1),())).bind λr=>
 if(!r.1.1) then
 F
 else
 if inb e.2.1 b.length then
 if(U<|(rd aIw b e.2.1)=(U<|e.1=9)) then
 F
 else
 if inb e.2.1 b.length then
 K (Bq b (AM e.2.1)<|U<|e.1=9)
 else G
 else G
def qI{Ω:Type}(a:List A7)(c:List AK)(d g:List A3)(e:ZE)(K:List A7->List A3->List A3->Option Ω)(F:Option Ω)(Kv:List A7->Bool->Option Ω)(Km:List AK->Bool->Option Ω)(Kz:Bool->Option Ω):Option Ω:=
 (FW (e.2.1,())).bind λr=>
 if(!r.1.1) then
 F
 else
 if inb e.2.1 a.length then
 if(U<|e.1=1) then
 if(U<|6<=(j8 d:Int)) then
 F
 else
 if inb e.2.1 a.length then
 (Vq (((rd aIh a e.2.1).id,(rd aIh a e.2.1).up,(rd aIh a e.2.1).log,(rd aIh a e.2.1).fo,(rd aIh a e.2.1).AJ,()),e.2.2.2.2.2.2.2)).bind λr=>
 if(U<|r.1.2.1=0) then
 F
 else
 if inb e.2.1 a.length then
 if Ab (d.length+([(A3.mk e.2.1 r.1.2.1 e.2.2.2.2.2.2.2.1 e.2.2.2.2.2.2.2.2.1 e.2.2.2.2.2.2.2.2.2.1)]:List A3).length) then
 K (Bq a (AM e.2.1)<|A7.mk r.1.1.1 r.1.1.2.1 r.1.1.2.2.1 r.1.1.2.2.2.1 r.1.1.2.2.2.2.1) (d++([(A3.mk e.2.1 r.1.2.1 e.2.2.2.2.2.2.2.1 e.2.2.2.2.2.2.2.2.1 e.2.2.2.2.2.2.2.2.2.1)]:List A3)) g
 else G
 else G
 else G
 else
 if(U<|e.1=2) then
 (Vf (((rd aIh a e.2.1).id,(rd aIh a e.2.1).up,(rd aIh a e.2.1).log,(rd aIh a e.2.1).fo,(rd aIh a e.2.1).AJ,()),())).bind λr=>
 if inb e.2.1 a.length then
 Kv (Bq a (AM e.2.1)<|A7.mk r.1.1.1 r.1.1.2.1 r.1.1.2.2.1 r.1.1.2.2.2.1 r.1.1.2.2.2.2.1) r.1.2.1
 else G
 else
 if(U<|e.1=3) then
 (Vr (((rd aIh a e.2.1).id,(rd aIh a e.2.1).up,(rd aIh a e.2.1).log,(rd aIh a e.2.1).fo,(rd aIh a e.2.1).AJ,()),e.2.2.1,e.2.2.2.1,e.2.2.2.2.2.1,())).bind λr=>
 if r.1.2.1 then
 (SP (c,([(Frame.mk r.1.1.1 r.1.1.2.1 r.1.1.2.2.1 r.1.1.2.2.2.1 r.1.1.2.2.2.2.1 r.1.1.2.2.2.2.2.1 r.1.1.2.2.2.2.2.2.1 r.1.1.2.2.2.2.2.2.2.1 r.1.1.2.2.2.2.2.2.2.2.1 r.1.1.2.2.2.2.2.2.2.2.2.1)]:List Frame),())).bind λs=>
 Km s.1.1 r.1.2.1
 else
 Kz r.1.2.1
 else
 if(U<|e.1=7) then
 (Vk (((rd aIh a e.2.1).id,(rd aIh a e.2.1).up,(rd aIh a e.2.1).log,(rd aIh a e.2.1).fo,(rd aIh a e.2.1).AJ,()),e.2.2.2.2.2.2.1,())).bind λr=>
 if inb e.2.1 a.length then
 Kv (Bq a (AM e.2.1)<|A7.mk r.1.1.1 r.1.1.2.1 r.1.1.2.2.1 r.1.1.2.2.2.1 r.1.1.2.2.2.2.1) (rd aIh a e.2.1).up
 else G
 else
 if(U<|e.1=8) then
 (Vg (((rd aIh a e.2.1).id,(rd aIh a e.2.1).up,(rd aIh a e.2.1).log,(rd aIh a e.2.1).fo,(rd aIh a e.2.1).AJ,()),())).bind λr=>
 if inb e.2.1 a.length then
 Kv (Bq a (AM e.2.1)<|A7.mk r.1.1.1 r.1.1.2.1 r.1.1.2.2.1 r.1.1.2.2.2.1 r.1.1.2.2.2.2.1) (!(rd aIh a e.2.1).up)
 else G
 else
 if(U<|e.1=11) then
 (Vs (((rd aIh a e.2.1).id,(rd aIh a e.2.1).up,(rd aIh a e.2.1).log,(rd aIh a e.2.1).fo,(rd aIh a e.2.1).AJ,()),e.2.2.1,e.2.2.2.1,())).bind λr=>
 if r.1.2.2.1 then
 if(U<|(j8 g:Int)<6) then
 if inb e.2.1 a.length then
 if Ab (g.length+([(A3.mk r.1.2.1.1 r.1.2.1.2.1 r.1.2.1.2.2.1 r.1.2.1.2.2.2.1 r.1.2.1.2.2.2.2.1)]:List A3).length) then
 K (Bq a (AM e.2.1)<|A7.mk r.1.1.1 r.1.1.2.1 r.1.1.2.2.1 r.1.1.2.2.2.1 r.1.1.2.2.2.2.1) d (g++([(A3.mk r.1.2.1.1 r.1.2.1.2.1 r.1.2.1.2.2.1 r.1.2.1.2.2.2.1 r.1.2.1.2.2.2.2.1)]:List A3))
 else G
 else G
 else
 F
 else
 F
 else
 if(U<|e.1=12) then
 (Vh (((rd aIh a e.2.1).id,(rd aIh a e.2.1).up,(rd aIh a e.2.1).log,(rd aIh a e.2.1).fo,(rd aIh a e.2.1).AJ,()),())).bind λr=>
 if inb e.2.1 a.length then
 Kv (Bq a (AM e.2.1)<|A7.mk r.1.1.1 r.1.1.2.1 r.1.1.2.2.1 r.1.1.2.2.2.1 r.1.1.2.2.2.2.1) r.1.2.1
 else G
 else
 if(U<|e.1=13) then
 (VU (((rd aIh a e.2.1).id,(rd aIh a e.2.1).up,(rd aIh a e.2.1).log,(rd aIh a e.2.1).fo,(rd aIh a e.2.1).AJ,()),())).bind λr=>
 if inb e.2.1 a.length then
 Kv (Bq a (AM e.2.1)<|A7.mk r.1.1.1 r.1.1.2.1 r.1.1.2.2.1 r.1.1.2.2.2.1 r.1.1.2.2.2.2.1) r.1.2.1
 else G
 else
 F
 else G
def doK{Ω:Type}(a:List A7)(b:List Bool)(c:List AK)(d g:List A3)(e:ZE)(K:List A7->List Bool->List AK->List A3->List A3->Option Ω)(F:Option Ω)(Kv:List A7->Bool->Option Ω)(Km:List AK->Bool->Option Ω)(Kz:Bool->Option Ω):Option Ω:=
 if(U<|e.1=4) then
 Re a b c e (λx y=>K x b y d g) F
 else
 if(U<|e.1=5) then
 Re a b c e (λx y=>K x b y d g) F
 else
 if(U<|e.1=6) then
 Re a b c e (λx y=>K x b y d g) F
 else
 if(U<|e.1=9) then
 Ug b e (λy=>K a y c d g) F
 else
 if(U<|e.1=10) then
 Ug b e (λy=>K a y c d g) F
 else
 qI a c d g e (λx y z=>K x b c y z) F Kv Km Kz
def X3(x:Y2×Y6×D):Option ((Y2×Bool×D)×D):=(doK x.1.2.1 x.1.2.2.1 x.1.2.2.2.1 x.1.2.2.2.2.1 x.1.2.2.2.2.2.1 x.2.1 (λk l r s g=>I ((((w64<|x.1.1+1),k,l,r,s,g,()),Y,()),())) (I ((((w64<|x.1.1+1),x.1.2),A0,()),())) (λk b=>I ((((w64<|x.1.1+1),k,x.1.2.2.1,x.1.2.2.2.1,x.1.2.2.2.2.1,x.1.2.2.2.2.2.1,()),b,()),())) (λr b=>I ((((w64<|x.1.1+1),x.1.2.1,x.1.2.2.1,r,x.1.2.2.2.2.1,x.1.2.2.2.2.2.1,()),b,()),())) λb=>I ((((w64<|x.1.1+1),x.1.2.1,x.1.2.2.1,x.1.2.2.2.1,x.1.2.2.2.2.1,x.1.2.2.2.2.2.1,()),b,()),()))
def aCZ:Ent:=(43,G,⟨[Z3,Z13],[Z3,.bool],X3⟩)
def ahs:y7 aCZ:=sk (v:= .nil) (fn:=f43) aqp kN
def S8:Cx:=cX [Ia,H7,ir,tZ,uL,iq,uX,uj,uM,uJ,uk,uK,tY,ui] [] []
def ain:OKC prog S8 (NT S8 3):=abj 3 mixed<|gC J2<|gC Ha<|gC vh<|gC acB<|gC acS<|gC vg<|gC acP<|gC ach<|gC acT<|gC acQ<|gC aci<|gC acR<|gC acA<|gC acg<|AI
def Fq(x:Y10×Y6×D):Option ((Bool×D)×Y10×D):=(doK x.1.2.2.1 x.1.2.2.2.1 x.1.2.2.2.2.1 x.1.2.2.2.2.2.1 x.1.2.2.2.2.2.2.1 x.2.1 (λk l r s g=>if Ab (x.1.2.2.2.2.2.2.2.1.length+([(Event.mk x.2.1.1 x.2.1.2.1 x.2.1.2.2.1 x.2.1.2.2.2.1 x.2.1.2.2.2.2.1 x.2.1.2.2.2.2.2.1 x.2.1.2.2.2.2.2.2.1 x.2.1.2.2.2.2.2.2.2.1 x.2.1.2.2.2.2.2.2.2.2.1 x.2.1.2.2.2.2.2.2.2.2.2.1)]:List Event).length) then I ((Y,()),((x.1.1,(w64<|x.1.2.1+1),k,l,r,s,g,(x.1.2.2.2.2.2.2.2.1++([(Event.mk x.2.1.1 x.2.1.2.1 x.2.1.2.2.1 x.2.1.2.2.2.1 x.2.1.2.2.2.2.1 x.2.1.2.2.2.2.2.1 x.2.1.2.2.2.2.2.2.1 x.2.1.2.2.2.2.2.2.2.1 x.2.1.2.2.2.2.2.2.2.2.1 x.2.1.2.2.2.2.2.2.2.2.2.1)]:List Event)),()),())) else G) (I ((A0,()),(x.1,()))) (λk b=>if b then if Ab (x.1.2.2.2.2.2.2.2.1.length+([(Event.mk x.2.1.1 x.2.1.2.1 x.2.1.2.2.1 x.2.1.2.2.2.1 x.2.1.2.2.2.2.1 x.2.1.2.2.2.2.2.1 x.2.1.2.2.2.2.2.2.1 x.2.1.2.2.2.2.2.2.2.1 x.2.1.2.2.2.2.2.2.2.2.1 x.2.1.2.2.2.2.2.2.2.2.2.1)]:List Event).length) then I ((b,()),((x.1.1,(w64<|x.1.2.1+1),k,x.1.2.2.2.1,x.1.2.2.2.2.1,x.1.2.2.2.2.2.1,x.1.2.2.2.2.2.2.1,(x.1.2.2.2.2.2.2.2.1++([(Event.mk x.2.1.1 x.2.1.2.1 x.2.1.2.2.1 x.2.1.2.2.2.1 x.2.1.2.2.2.2.1 x.2.1.2.2.2.2.2.1 x.2.1.2.2.2.2.2.2.1 x.2.1.2.2.2.2.2.2.2.1 x.2.1.2.2.2.2.2.2.2.2.1 x.2.1.2.2.2.2.2.2.2.2.2.1)]:List Event)),()),())) else G else I ((b,()),((x.1.1,x.1.2.1,k,x.1.2.2.2),()))) (λr b=>if b then if Ab (x.1.2.2.2.2.2.2.2.1.length+([(Event.mk x.2.1.1 x.2.1.2.1 x.2.1.2.2.1 x.2.1.2.2.2.1 x.2.1.2.2.2.2.1 x.2.1.2.2.2.2.2.1 x.2.1.2.2.2.2.2.2.1 x.2.1.2.2.2.2.2.2.2.1 x.2.1.2.2.2.2.2.2.2.2.1 x.2.1.2.2.2.2.2.2.2.2.2.1)]:List Event).length) then I ((b,()),((x.1.1,(w64<|x.1.2.1+1),x.1.2.2.1,x.1.2.2.2.1,r,x.1.2.2.2.2.2.1,x.1.2.2.2.2.2.2.1,(x.1.2.2.2.2.2.2.2.1++([(Event.mk x.2.1.1 x.2.1.2.1 x.2.1.2.2.1 x.2.1.2.2.2.1 x.2.1.2.2.2.2.1 x.2.1.2.2.2.2.2.1 x.2.1.2.2.2.2.2.2.1 x.2.1.2.2.2.2.2.2.2.1 x.2.1.2.2.2.2.2.2.2.2.1 x.2.1.2.2.2.2.2.2.2.2.2.1)]:List Event)),()),())) else G else G) λb=>if b then if Ab (x.1.2.2.2.2.2.2.2.1.length+([(Event.mk x.2.1.1 x.2.1.2.1 x.2.1.2.2.1 x.2.1.2.2.2.1 x.2.1.2.2.2.2.1 x.2.1.2.2.2.2.2.1 x.2.1.2.2.2.2.2.2.1 x.2.1.2.2.2.2.2.2.2.1 x.2.1.2.2.2.2.2.2.2.2.1 x.2.1.2.2.2.2.2.2.2.2.2.1)]:List Event).length) then I ((b,()),((x.1.1,(w64<|x.1.2.1+1),x.1.2.2.1,x.1.2.2.2.1,x.1.2.2.2.2.1,x.1.2.2.2.2.2.1,x.1.2.2.2.2.2.2.1,(x.1.2.2.2.2.2.2.2.1++([(Event.mk x.2.1.1 x.2.1.2.1 x.2.1.2.2.1 x.2.1.2.2.2.1 x.2.1.2.2.2.2.1 x.2.1.2.2.2.2.2.1 x.2.1.2.2.2.2.2.2.1 x.2.1.2.2.2.2.2.2.2.1 x.2.1.2.2.2.2.2.2.2.2.1 x.2.1.2.2.2.2.2.2.2.2.2.1)]:List Event)),()),())) else G else I ((b,()),(x.1,())))
def Lc:Ent:=(67,G,⟨[Z22,Z13],[.bool],Fq⟩)
end Go.VS
end
