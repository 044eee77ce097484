/- Part 2. -/
import Derived.Orders
import Derived.Test.YtlhpnadjdlppaaaGreatDoorQAA
open BitVec renaming ofInt->Ez
open Bool renaming false->A3,true->A1
open Classical renaming choose->OB,choose_spec->Ig
open Decidable renaming decide->A0
open Go.Region renaming binds->FU
open List renaming replicate->BX
open Nat renaming beq->Ag,ble->Dn,blt->I4,land->OY,lor->BN,min->Ei
open Option renaming none->U,some->I
open UInt8 renaming ofNat->Jq
set_option linter.all false
noncomputable section
namespace Go.VS
open Go
def upd{α:Type}(f:Nat->α)(i:Nat)(v:α):Nat->α:=λj=>match Ag j i with
 | true=>v
 | false=>f j
structure S where
 n:Nat
 T:Nat->AV
 H:Hp
 nid:Nat
 st:List (Nat->AV)
 pins:List Nat
 gs:Nat->Bool
def Wm:Value->Bool
 | .agg _=>A3
 | .tuple _=>A3
 | _=>A1
def ofV:Value->AV
 | .agg cs=>match cs.toList.all Wm with
  | true=> .agg (cs.toList.map .lit)
  | false=> .un
 | v=> .lit v
def S.ev(s:S):Operand->AV
 | .tmp t=>s.T t
 | .const v=>ofV v
 | _=> .un
def S.put(s:S)(d:Option Nat)(v:AV):S:=match d with
 | none=>s
 | some t=>{ s with T:=upd s.T t v }
def S.has(s:S)(d:Option Nat):Bool:=match d with
 | none=>A1
 | some t=>I4 t s.n&& !(s.pins.any λp=>Ag p t)&& !(s.gs t)
def EY(H:Hp)(b:Nat):List Ob->Hp
 | []=>H
 | o::os=>EY (upd H b<|I o) (b+1) os
def FP(f:AV->AV):AV->AV
 | .agg cs=> .agg (cs.map f)
 | v=>f v
def Fq(f:AV->AV):AV->AV
 | .tup vs=> .tup (vs.map<|FP f)
 | v=>FP f v
def Er(f:AV->AV):AV->AV
 | .gd g w v=> .gd g w (Fq f v)
 | v=>Fq f v
def CC(f:AV->AV):Option Ob->Option Ob
 | some (.box e cs)=>I (.box e<|cs.map f)
 | o=>o
def S.map(s:S)(f:AV->AV):S:=
 { s with T:=λt=>Er f<|s.T t,H:=λj=>CC f<|s.H j,st:=s.st.map λT t=>Er f (T t) }
def S.Dy(s:S)(id:Nat)(o:Option Ob):S:={ s with H:=upd s.H id o }
def kl1(id:Nat):AV->AV
 | .own j=>match Ag j id with
  | true=> .un
  | false=> .own j
 | .ptr j z i o=>match Ag j id with
  | true=> .un
  | false=> .ptr j z i o
 | v=>v
def fz1(id:Nat)(k:K)(xs:List (Tof k)):AV->AV
 | .own j=>match Ag j id with
  | true=> .sl k xs
  | false=> .own j
 | .ptr j z i o=>match Ag j id with
  | true=> .un
  | false=> .ptr j z i o
 | v=>v
def S.kill(s:S)(id:Nat):S:=(s.map<|kl1 id).Dy id U
def S.freeze(s:S)(id:Nat):S:=match s.H id with
 | some (.row _ _ k xs)=>(s.map<|fz1 id k xs).Dy id U
 | _=>s.kill id
def Ko(P:Program)(t:TypeId):Option Bool:=match P.underlying t with
 | some (.struct _)=>I A1
 | some (.array _ _)=>I A1
 | some _=>I A3
 | none=>U
def KZ(P:Program)(t:TypeId)(f:Nat):Option Field:=match P.underlying t with
 | some (.struct fs)=>fs[f]?
 | _=>U
def GD:AV->Option (List AV)
 | .un=>U
 | .gd _ _ _=>U
 | .lit (.tuple _)=>U
 | .lit (.agg _)=>U
 | .tup _=>U
 | .arr _ _=>U
 | .agg cs=>I cs
 | v=>I [v]
def Hw(P:Program)(t:TypeId):Option (List AV):=(P.info? t).bind λi=>i.zero.bind λz=>match z.cells.toList.all Wm with
 | true=>I (z.cells.toList.map .lit)
 | false=>U
def Xy:AV->AV->Bool
 | .lit (.int k n),.lit (.int k' m)=>A0 (k=k')&&A0 (n=m)
 | .lit (.bool a),.lit (.bool b)=>a == b
 | .lit (.string a),.lit (.string b)=>Ag a.size 0&&Ag b.size 0
 | .lit (.slice U 0 0),.sl _ []=>A1
 | _,_=>A3
def MT:List AV->List AV->Bool
 | [],[]=>A1
 | a::l,b::m=>Xy a b&&MT l m
 | _,_=>A3
def zok(P:Program)(t:TypeId)(k:K):Bool:=match Hw P t with
 | some zs=>MT zs (enc k<|dfl k)
 | none=>A3
def IW(P:Program)(t:TypeId):Option TypeId:=match P.underlying t with
 | some (.slice e)=>I e
 | _=>U
def inb(i:Int)(n:Nat):Bool:=A0 (0<=i)&&A0 (i<(n:Int))
def bt(s:A4)(i:Int):Int:=((s.data.toList.getD i.toNat 0).toNat:Int)
def rd{α:Type}(d:α)(xs:List α)(i:Int):α:=xs.getD i.toNat d
def BB(s:A4):List Int:=s.data.toList.map λb=>(b.toNat:Int)
def BA(xs:List Int):A4:=⟨(xs.map λn=>Jq n.toNat).toArray⟩
def DY(k:IntKind)(a b:Int):Int:=k.wrap ((Ez k.bits a ^^^ Ez k.bits b).toNat:Int)
def qA(k:IntKind)(a b:Int):Int:=k.wrap ((Ez k.bits a &&& Ez k.bits b).toNat:Int)
def ior(k:IntKind)(a b:Int):Int:=k.wrap ((Ez k.bits a ||| Ez k.bits b).toNat:Int)
def w64(n:Int):Int:=IntKind.i64.wrap n
def w8(n:Int):Int:=IntKind.u8.wrap n
def Ab(n:Nat):Bool:=A0<|n<=4294967296
abbrev PR:=Option<|Bool×AV×List Ob
def okA(v:AV):PR:=I (A1,v,[])
def okN:AV->PR
 | .gd _ _ _=>U
 | v=>okA v
def Gz(P:Program)(t:TypeId)(cs:List AV)(o:Nat):Option AV:=match Ko P t with
 | some A1=>match Dn (o+P.cellsOf t) cs.length&&Dn 1 (P.cellsOf t) with
  | true=>I (.agg<|(cs.drop o).take<|P.cellsOf t)
  | false=>U
 | some A3=>cs[o]?
 | none=>U
def KG(P:Program)(H:Hp)(t:TypeId):AV->Option AV
 | .ipt k x o=>Gz P t (enc k x) o
 | .ptr id z i o=>match H id with
  | some (.box _ cs)=>match i with
   | 0=>Gz P t cs o
   | _=>U
  | some (.row _ _ k xs)=>match Ag z (ks k) with
   | true=>Gz P t (enc k<|xs.getD i<|dfl k) o
   | false=>U
  | some (.arr e k xs)=>match P.underlying t with
   | some (.array _ _)=>match Ag e t&&Dn 1 (P.cellsOf t),i,o with
    | true,0,0=>I (.arr k xs)
    | _,_,_=>U
   | _=>match Ag z (ks k) with
    | true=>Gz P t (enc k<|xs.getD i<|dfl k) o
    | false=>U
  | none=>U
 | _=>U
def Uz(op:BinOp)(k:IntKind)(a b:Int):PR:=match op with
 | .add=>okA (.lit<|.int k<|k.wrap<|a+b)
 | .sub=>okA (.lit<|.int k<|k.wrap<|a - b)
 | .mul=>okA (.lit<|.int k<|k.wrap<|a * b)
 | .quo=>I (!decide (b=0),.lit<|.int k<|k.wrap<|a.tdiv b,[])
 | .rem=>I (!decide (b=0),.lit<|.int k<|a.tmod b,[])
 | .xor=>okA (.lit<|.int k<|DY k a b)
 | .and=>okA (.lit<|.int k<|qA k a b)
 | .or=>okA (.lit<|.int k<|ior k a b)
 | .eql=>okA (.b<|A0<|a=b)
 | .neq=>okA (.b<|!decide (a=b))
 | .lss=>okA (.b<|A0<|a<b)
 | .leq=>okA (.b<|A0<|a<=b)
 | .gtr=>okA (.b<|A0<|b<a)
 | .geq=>okA (.b<|A0<|b<=a)
 | _=>U
def Su(op:BinOp)(a b:A4):PR:=match op with
 | .add=>I (A0<|a.size+b.size<=4611686018427387904,.s<|a++b,[])
 | .eql=>okA (.b<|A0<|a=b)
 | .neq=>okA (.b<|!decide (a=b))
 | _=>U
def eqC:List AV->List AV->Option Bool
 | [],[]=>I A1
 | .lit (.int k a)::l,.lit (.int k' b)::m=>match A0 (k=k') with
  | true=>(eqC l m).bind λr=>I<|A0 (a=b)&&r
  | false=>U
 | .lit (.bool a)::l,.lit (.bool b)::m=>(eqC l m).bind λr=>I<|A0 (a=b)&&r
 | .lit (.string a)::l,.lit (.string b)::m=>(eqC l m).bind λr=>I<|A0 (a=b)&&r
 | _,_=>U
def dB(P:Program):Nat->List Field->List AV->Bool
 | _,[],_=>A1
 | n,f::fs,c::cs=>(match P.underlying f.type,c with
  | some .bool,.lit (.bool _)=>A1
  | some (.int _),.lit (.int _ _)=>A1
  | some .string,.lit (.string _)=>A1
  | _,_=>A3)&&Ag f.offset n&& !(f.name == "_")&&dB P (n+1) fs cs
 | _,_,_=>A3
def iL(P:Program)(t:TypeId)(cs:List AV):Bool:=match P.underlying t with
 | some (.struct fs)=>dB P 0 fs.toList cs&&Ag fs.size cs.length&& !P.stoodInHeld t&& !P.eqGuardType P.depth t
 | _=>A3
def OW(P:Program)(op:BinOp)(t:TypeId):AV->AV->PR
 | .lit (.int k a),.lit (.int k' b)=>match A0 (k=k') with
  | true=>Uz op k a b
  | false=>U
 | .lit (.string a),.lit (.string b)=>Su op a b
 | .lit (.bool a),.lit (.bool b)=>match P.underlying t,op with
  | some .bool,.eql=>okA (.b<|A0<|a=b)
  | some .bool,.neq=>okA (.b<|!decide (a=b))
  | _,_=>U
 | .agg a,.agg b=>match iL P t a,Ag a.length b.length,eqC a b,op with
  | true,A1,I r,.eql=>okA (.b r)
  | true,A1,I r,.neq=>okA (.b<|!r)
  | _,_,_,_=>U
 | _,_=>U
def unA:UnOp->AV->PR
 | .not,.lit (.bool b)=>okA (.b<|!b)
 | .neg,.lit (.int k n)=>okA (.lit<|.int k<|k.wrap<|0 - n)
 | _,_=>U
def G3(g:Nat)(w:Bool):AV->AV
 | .gd g' w' v=>match Ag g g',w == w' with
  | true,A1=>v
  | _,_=> .gd g' w' v
 | v=>v
def Ro(w:Bool)(v:AV):Operand->AV
 | .tmp g=>G3 g w v
 | _=>v
def Kg:AV->Option Bool
 | .lit (.bool b)=>I b
 | _=>U
def P3(ρ:Operand->AV)(c a b:Operand):PR:=match ρ c,a,b with
 | .lit (.bool q),.const (.bool A1),b=>match Kg (Ro A3 (ρ b) c) with
  | some y=>okA (.b<|q||y)
  | none=>match q with
   | true=>okA (.b A1)
   | false=>okN (ρ b)
 | .lit (.bool q),a,.const (.bool A3)=>match Kg (Ro A1 (ρ a) c) with
  | some x=>okA (.b<|q&&x)
  | none=>match q with
   | true=>okN (ρ a)
   | false=>okA (.b A3)
 | .lit (.bool q),a,b=>match q with
  | true=>okN (ρ a)
  | false=>okN (ρ b)
 | _,_,_=>U
def He(ρ:Operand->AV):Nat->List (Nat×Operand)->Option (List AV)
 | _,[]=>I []
 | n,(i,x)::l=>match Ag i n with
  | true=>(He ρ (n+1) l).bind λvs=>I<|ρ x::vs
  | false=>U
def Li(k:K):List AV->Option (List<|Tof k)
 | []=>I []
 | v::l=>(GD v).bind λcs=>(dec (λ_=>U) k cs).bind λx=>(Li k l).bind λxs=>I<|x::xs
def GY(cs:List AV)(o:Nat)(ys:List AV):List AV:=cs.take o++ys++cs.drop (o+ys.length)
def HT(P:Program)(ρ:Operand->AV)(t:TypeId):List (Nat×Operand)->List AV->Option (List AV)
 | [],cs=>I cs
 | (i,x)::l,cs=>(KZ P t i).bind λf=>(GD<|ρ x).bind λys=>
  match Ag ys.length (P.cellsOf f.type)&&Dn (f.offset+ys.length) cs.length with
  | true=>HT P ρ t l (GY cs f.offset ys)
  | false=>U
def J0(lo hi:Option AV)(n:Nat):Option (Bool×Int×Int):=match lo,hi with
 | none,U=>I (A1,0,n)
 | some (.lit (.int _ l)),U=>I (A0 (0<=l)&&A0 (l<=(n:Int)),l,n)
 | none,I (.lit (.int _ h))=>I (A0 (0<=h)&&A0 (h<=(n:Int)),0,h)
 | some (.lit (.int _ l)),I (.lit (.int _ h))=>I ((A0 (0<=h)&&A0 (h<=(n:Int)))&&(A0 (0<=l)&&A0 (l<=h)),l,h)
 | _,_=>U
def Ih{α:Type}(lo hi:Option AV)(l h:Int)(xs:List α):List α:=match lo,hi with
 | none,U=>xs
 | some _,U=>xs.drop l.toNat
 | none,I _=>xs.take h.toNat
 | some _,I _=>(xs.take h.toNat).drop l.toNat
def Ir(P:Program)(H:Hp)(t:TypeId)(v:AV):Bool:=match P.underlying t,v with
 | some .string,.lit (.string _)=>A1
 | some (.slice e),.sl k _=>Ag (P.cellsOf e) (ks k)
 | some (.slice e),.lit (.slice _ _ _)=>Dn 1 (P.cellsOf e)
 | some (.slice e),.own id=>match H id with
  | some (.row _ _ k _)=>Ag (P.cellsOf e) (ks k)
  | _=>A3
 | _,_=>A3
def QL(lo hi:Option AV):AV->PR
 | .lit (.string s)=>(J0 lo hi s.size).bind fun(c,l,h)=>I (c,.s<|s.extract l.toNat h.toNat,[])
 | .sl k xs=>(J0 lo hi xs.length).bind fun(c,l,h)=>I (c,.sl k<|Ih lo hi l h xs,[])
 | .lit (.slice U 0 0)=>(J0 lo hi 0).bind fun(c,_,_)=>I (c,.lit<|.slice U 0 0,[])
 | _=>U
def Ik(P:Program)(src dst:TypeId)(b:AV):PR:=match P.underlying src,P.underlying dst,b with
 | some _,I (.int k),.lit (.int _ n)=>okA (.lit<|.int k<|k.wrap n)
 | some .string,I .string,.lit (.string s)=>okA (.s s)
 | some .string,I (.slice e),.lit (.string s)=>match P.underlying e with
  | some (.int .u8)=>I (Ab s.size,.own 0,[.row e A1 .u8 (BB s)])
  | _=>U
 | _,_,_=>U
def Pw(P:Program)(t:TypeId)(i:Int):AV->PR
 | .lit (.string s)=>match P.underlying t with
  | some .string=>I (inb i s.size,.y<|bt s i,[])
  | _=>U
 | .arr k xs=>match P.underlying t with
  | some (.array n e)=>match Ag (ks k) 1&&Ag (P.cellsOf e) 1,Ko P e with
   | true,I A3=>(Gz P e (enc k<|rd (dfl k) xs i) 0).bind λv=>I (inb i xs.length&&inb i n,v,[])
   | _,_=>U
  | _=>U
 | _=>U
def MF(P:Program)(H:Hp)(t:TypeId)(i:Int):AV->PR
 | .sl k xs=>match P.underlying t with
  | some (.slice e)=>match Ag (P.cellsOf e) (ks k) with
   | true=>I (inb i xs.length,.ipt k (rd (dfl k) xs i) 0,[])
   | false=>U
  | _=>U
 | .own id=>match P.underlying t,H id with
  | some (.slice e),I (.row _ _ k xs)=>match Ag (P.cellsOf e) (ks k) with
   | true=>I (inb i xs.length,.ptr id (ks k) i.toNat 0,[])
   | false=>U
  | _,_=>U
 | .ptr id z 0 0=>match P.underlying t,H id with
  | some (.array n e),I (.arr e' k xs)=>match Ag (P.cellsOf e) (ks k)&&Ag (P.cellsOf t) (n * ks k)&&Ag e' t with
   | true=>I (inb i xs.length,.ptr id (ks k) i.toNat 0,[])
   | false=>U
  | _,_=>U
 | _=>U
def JF(P:Program)(ρ:Operand->AV)(H:Hp)(c:Call):PR:=match c.callee,c.args.toList,c.argTypes.toList with
 | .builtin .len,[x],[t]=>match P.underlying t,ρ x with
  | some .string,.lit (.string s)=>okA (.i s.size)
  | some (.slice _),.sl _ xs=>okA (.i xs.length)
  | some (.slice _),.lit (.slice U 0 0)=>okA (.i 0)
  | some (.slice _),.own id=>match H id with
   | some (.row _ _ _ xs)=>okA (.i xs.length)
   | _=>U
  | some (.array n _),_=>okA (.i n)
  | _,_=>U
 | .builtin .min,[x,y],_=>match ρ x,ρ y with
  | .lit (.int k a),.lit (.int k' c)=>match A0 (k=k') with
   | true=>okA (.lit<|.int k<|if c<a then c else a)
   | false=>U
  | _,_=>U
 | .builtin .max,[x,y],_=>match ρ x,ρ y with
  | .lit (.int k a),.lit (.int k' c)=>match A0 (k=k') with
   | true=>okA (.lit<|.int k<|if a<c then c else a)
   | false=>U
  | _,_=>U
 | _,_,_=>U
def C3(P:Program)(kd:TypeId->Option K)(ρ:Operand->AV)(H:Hp)(b:Nat):Op->PR
 | .move x=>okN (ρ x)
 | .assign x=>okN (ρ x)
 | .pick c x y=>P3 ρ c x y
 | .alloc t=>match P.underlying t with
  | some (.array n e)=>(kd e).bind λk=>(Hw P t).bind λzs=>match MT zs ((BX n<|dfl k).flatMap<|enc k)&&Ag (P.cellsOf t) (n * ks k)&&Dn 1 n with
   | true=>I (A1,.ptr b (ks k) 0 0,[.arr t k (BX n<|dfl k)])
   | false=>U
  | _=>(Hw P t).bind λzs=>I (A1,.ptr b zs.length 0 0,[.box t zs])
 | .box t x=>(GD<|ρ x).bind λcs=>I (A1,.ptr b cs.length 0 0,[.box t cs])
 | .build t ps=>(Hw P t).bind λzs=>match P.underlying t with
  | some (.struct fs)=>match fs.toList.all λf=>(P.info? f.type).isSome with
   | true=>(HT P ρ t ps.toList zs).bind λcs=>okA<|.agg cs
   | false=>U
  | _=>U
 | .buildSlice t len ps=>(IW P t).bind λe=>(kd e).bind λk=>(He ρ 0 ps.toList).bind λvs=>(Li k vs).bind λxs=>
  match Ag vs.length len&&Ag (P.cellsOf e) (ks k)&&Dn len 65536&&zok P e k with
  | true=>I (A1,.own b,[.row e A3 k xs])
  | false=>U
 | .load t p=>(KG P H t<|ρ p).bind okA
 | .nilCheck p=>match ρ p with
  | .ptr id z i o=>okA (.ptr id z i o)
  | .ipt k x o=>okA (.ipt k x o)
  | _=>U
 | .binOp op t x y _=>OW P op t (ρ x) (ρ y)
 | .unOp op _ x=>unA op (ρ x)
 | .convert src dst x=>match P.underlying src,P.underlying dst with
  | some (.slice e),I .string=>match P.underlying e with
   | some (.int .u8)=>(C8 H .u8<|ρ x).bind λxs=>okA<|.s<|BA xs
   | _=>U
  | _,_=>match Ik P src dst (ρ x) with
   | some (c,.own _,os)=>I (c,.own b,os)
   | r=>r
 | .makeSlice t l c=>match ρ l,ρ c,(match l,c with
   | .tmp i,.tmp j=>Ag i j
   | _,_=>A3) with
  | .lit (.int .i64 n),_,A1=>(IW P t).bind λe=>(kd e).bind λk=>
   match zok P e k&&Ag (P.cellsOf e) (ks k)&&Dn (P.bytesOf e) 256 with
   | true=>I (A0 (0<=n)&&A0 (n<=4294967296),.own b,[.row e A3 k (BX n.toNat<|dfl k)])
   | false=>U
  | .lit (.int .i64 n),.lit (.int .i64 m),A3=>match A0 (n=m) with
   | true=>(IW P t).bind λe=>(kd e).bind λk=>
    match zok P e k&&Ag (P.cellsOf e) (ks k)&&Dn (P.bytesOf e) 256 with
    | true=>I (A0 (0<=n)&&A0 (n<=4294967296),.own b,[.row e A3 k (BX n.toNat<|dfl k)])
    | false=>U
   | false=>U
  | _,_,_=>U
 | .slice t x lo hi U=>match Ir P H t (ρ x) with
  | true=>QL (lo.map ρ) (hi.map ρ) (ρ x)
  | false=>U
 | .fieldAddr t x f=>(KZ P t f).bind λfd=>match Dn 1 (P.cellsOf fd.type) with
  | true=>match ρ x with
   | .ptr id z i o=>okA (.ptr id z i<|o+fd.offset)
   | .ipt k v o=>okA (.ipt k v<|o+fd.offset)
   | _=>U
  | false=>U
 | .field t x f=>(KZ P t f).bind λfd=>match ρ x with
  | .agg cs=>(Gz P fd.type cs fd.offset).bind okA
  | _=>U
 | .indexAddr t x ix=>match ρ ix with
  | .lit (.int _ i)=>MF P H t i (ρ x)
  | _=>U
 | .index t x ix=>match ρ ix with
  | .lit (.int _ i)=>Pw P t i (ρ x)
  | _=>U
 | .extract x i=>match ρ x with
  | .tup vs=>(vs[i]?).bind okA
  | _=>U
 | .call c=>JF P ρ H c
 | _=>U
abbrev DW:AV:= .lit undef
def Gr:AV->Option Nat
 | .own id=>I id
 | _=>U
def nop:AV->Bool
 | .lit (.pointer (I _))=>A3
 | .lit _=>A1
 | .sl _ _=>A1
 | .own _=>A1
 | _=>A3
def ny(o n:Nat)(cs:List AV):Bool:=Dn (o+n) cs.length&&(Dn 1 o||nop (cs.headD<|.lit<|.bool A3))
def I3(P:Program)(t:TypeId)(s:S):AV->AV->Option S
 | .ptr id z i o,x=>match s.H id with
  | some (.box e cs)=>match i with
   | 0=>(GD x).bind λys=>match Ag ys.length (P.cellsOf t)&&Dn 1 (P.cellsOf t)&&ny o ys.length cs with
    | true=>I (s.Dy id<|I<|.box e<|GY cs o ys)
    | false=>U
   | _=>U
  | some (.row e fz k xs)=>(GD x).bind λys=>match Ag ys.length (P.cellsOf t)&&Dn 1 (P.cellsOf t)&&Dn (o+ys.length) (ks k)&&Ag z (ks k)&& !((ys.filterMap Gr).any λj=>Ag j id) with
   | true=>(dec s.H k<|GY (enc k<|xs.getD i<|dfl k) o ys).bind λy=>
    I (((ys.filterMap Gr).foldl S.freeze s).Dy id<|I<|.row e fz k<|xs.set i y)
   | false=>U
  | some (.arr e k xs)=>(GD x).bind λys=>match Ag ys.length (P.cellsOf t)&&Dn 1 (P.cellsOf t)&&Dn (o+ys.length) (ks k)&&Ag z (ks k) with
   | true=>(dec (λ_=>U) k<|GY (enc k<|xs.getD i<|dfl k) o ys).bind λy=>I<|s.Dy id<|I<|.arr e k<|xs.set i y
   | false=>U
  | none=>U
 | _,_=>U
def KC(H:Hp)(k:K):AV->Option (List<|Tof k)
 | .lit (.string s)=>match k with
  | .u8=>I (BB s)
  | _=>U
 | v=>C8 H k v
def KK(P:Program)(kd:TypeId->Option K)(t t2:TypeId)(s:S)(b:Nat)(x y:AV):Option (Bool×AV×S):=
 (IW P t).bind λe=>(kd e).bind λk=>(KC s.H k y).bind λys=>
 match Ag (P.cellsOf e) (ks k)&&Dn (P.bytesOf e) 256&&zok P e k&&(match P.underlying t2 with
   | some .string=>A1
   | some (.slice _)=>A1
   | _=>A3),x with
 | true,.lit (.slice U 0 0)=>I (Ab ys.length,.own b,s.Dy b<|I<|.row e A3 k ys)
 | true,.own id=>match s.H id,(match y with
   | .own j=>Ag j id
   | _=>A3) with
  | some (.row e' A3 k' xs),A3=>match Ag e e' with
   | true=>(Ij k' k xs).bind λxs=>I (Ab<|xs.length+ys.length,.own id,(s.map<|kl1 id).Dy id<|I<|.row e A3 k<|xs++ys)
   | false=>U
  | _,_=>U
 | _,_=>U
def Ks(P:Program)(t:TypeId)(s:S)(x y:AV):Option (AV×S):=match x with
 | .own id=>match s.H id,(match y with
   | .own j=>Ag j id
   | _=>A3) with
  | some (.row e fz k xs),A3=>(IW P t).bind λe'=>match Ag (P.cellsOf e') (ks k) with
   | true=>(KC s.H k y).bind λys=>I (.i (Ei ys.length xs.length:Nat),s.Dy id<|I<|.row e fz k<|ys.take xs.length++xs.drop ys.length)
   | false=>U
  | _,_=>U
 | _=>U
def K6(s:S)(id:Nat)(z:Bool)(lo hi:Option AV):Option (Bool×AV×S):=match s.H id with
 | some (.row e fz k xs)=>(J0 lo hi xs.length).bind fun(c,l,h)=>match z,hi with
  | true,U=>I (c,.own id,(s.map<|kl1 id).Dy id<|I<|.row e fz k<|Ih lo hi l h xs)
  | true,I _=>U
  | false,_=>I (c,.sl k<|Ih lo hi l h xs,s.freeze id)
 | _=>U
inductive Sh where
 | int (k:IntKind)
 | bool
 | str
 | sl (k:K)
 | row (e:TypeId) (k:K)
 | fz (k:K)
 | agg (l:List Sh)
 | CP (e:TypeId) (k:K)
 | abx (e:TypeId) (k:K)
 | arr (k:K)
 | same (t:Nat)
 | box (e:TypeId) (l:List Sh)
mutual
abbrev LT:Sh->Type
 | .int _=>Int
 | .bool=>Bool
 | .str=>A4
 | .sl k=>List (Tof k)
 | .row _ k=>List (Tof k)
 | .fz k=>List (Tof k)
 | .CP _ k=>List (Tof k)
 | .abx _ k=>List (Tof k)
 | .arr k=>List (Tof k)
 | .same _=>A2
 | .agg l=>LTs l
 | .box _ l=>LTs l
abbrev LTs:List Sh->Type
 | []=>A2
 | h::l=>LT h×LTs l
end
mutual
def Bl (E:Nat->AV) (H:Hp):(h:Sh)->AV->Option (LT h)
 | .int k,.lit (.int k' n)=>match A0 (k=k') with
  | true=>I n
  | false=>U
 | .bool,.lit (.bool b)=>I b
 | .str,.lit (.string s)=>I s
 | .sl k,.sl k' xs=>Ij k' k xs
 | .sl _,.lit (.slice U 0 0)=>I []
 | .row _ _,.lit (.slice U 0 0)=>I []
 | .row e k,.own id=>match H id with
  | some (.row e' A3 k' xs)=>match Ag e e' with
   | true=>Ij k' k xs
   | false=>U
  | _=>U
 | .fz k,v=>C8 H k v
 | .CP e k,.own id=>match H id with
  | some (.row e' A1 k' xs)=>match Ag e e' with
   | true=>Ij k' k xs
   | false=>U
  | _=>U
 | .abx e k,.ptr id z 0 0=>match H id with
  | some (.arr e' k' xs)=>match Ag e e'&&Ag z (ks k) with
   | true=>Ij k' k xs
   | false=>U
  | _=>U
 | .arr k,.arr k' xs=>Ij k' k xs
 | .same t,.ptr id _ 0 0=>match E t with
  | .ptr id' _ 0 0=>match Ag id id' with
   | true=>I ()
   | false=>U
  | _=>U
 | .agg l,.agg cs=>Fu E H l cs
 | .box e l,.ptr id _ 0 0=>match H id with
  | some (.box e' cs)=>match Ag e e' with
   | true=>Fu E H l cs
   | false=>U
  | _=>U
 | _,_=>U
def Fu (E:Nat->AV) (H:Hp):(l:List Sh)->List AV->Option (LTs l)
 | [],[]=>I ()
 | h::l,c::cs=>(Bl E H h c).bind λx=>(Fu E H l cs).bind λxs=>I (x,xs)
 | _,_=>U
end
mutual
def CJ (H:Hp):Sh->AV->List Nat
 | .row _ _,.own id=>[id]
 | .CP _ _,.own id=>[id]
 | .abx _ _,.ptr id _ 0 0=>[id]
 | .agg l,.agg cs=>Bi H l cs
 | .box _ l,.ptr id _ 0 0=>match H id with
  | some (.box _ cs)=>Bi H l cs++[id]
  | _=>[]
 | _,_=>[]
def Bi (H:Hp):List Sh->List AV->List Nat
 | h::l,c::cs=>CJ H h c++Bi H l cs
 | _,_=>[]
end
mutual
def C4 (H:Hp):Sh->AV->List Nat
 | .row _ _,.own id=>[id]
 | .CP _ _,.own id=>[id]
 | .abx _ _,.ptr id _ 0 0=>[id]
 | .agg l,.agg cs=>CK H l cs
 | .box _ l,.ptr id _ 0 0=>match H id with
  | some (.box _ cs)=>CK H l cs
  | _=>[]
 | _,_=>[]
def CK (H:Hp):List Sh->List AV->List Nat
 | h::l,c::cs=>C4 H h c++CK H l cs
 | _,_=>[]
end
mutual
def CW (H:Hp):Sh->AV->List Nat
 | .fz _,.own id=>[id]
 | .agg l,.agg cs=>Cc H l cs
 | .box _ l,.ptr id _ 0 0=>match H id with
  | some (.box _ cs)=>Cc H l cs
  | _=>[]
 | _,_=>[]
def Cc (H:Hp):List Sh->List AV->List Nat
 | h::l,c::cs=>CW H h c++Cc H l cs
 | _,_=>[]
end
def NY:List Nat->Bool
 | []=>A1
 | a::l=> !(l.any λb=>Ag a b)&&NY l
def off(l m:List Nat):Bool:=l.all λa=> !(m.any λb=>Ag a b)
mutual
def BE (E:Nat->AV) (H:Hp) (b:Nat):(h:Sh)->LT h->AV×Hp×Nat
 | .int k,n=>(.lit<|.int k n,H,b)
 | .bool,x=>(.b x,H,b)
 | .str,s=>(.s s,H,b)
 | .sl k,xs=>(.sl k xs,H,b)
 | .row e k,xs=>(.own b,upd H b<|I<|.row e A3 k xs,b+1)
 | .fz k,xs=>(.sl k xs,H,b)
 | .CP e k,xs=>(.own b,upd H b<|I<|.row e A1 k xs,b+1)
 | .abx e k,xs=>(.ptr b (ks k) 0 0,upd H b<|I<|.arr e k xs,b+1)
 | .arr k,xs=>(.arr k xs,H,b)
 | .same t,_=>(E t,H,b)
 | .agg l,x=>match Ai E H b l x with
  | (cs,H,b)=>(.agg cs,H,b)
 | .box e l,x=>match Ai E H b l x with
  | (cs,H,b)=>(.ptr b cs.length 0 0,upd H b<|I<|.box e cs,b+1)
def Ai (E:Nat->AV) (H:Hp) (b:Nat):(l:List Sh)->LTs l->List AV×Hp×Nat
 | [],_=>([],H,b)
 | h::l,x=>match BE E H b h x.1 with
  | (c,H,b)=>match Ai E H b l x.2 with
   | (cs,H,b)=>(c::cs,H,b)
end
mutual
def Cl (E:Nat->AV) (H:Hp) (b:Nat):(h:Sh)->AV->LT h->AV×Hp×Nat
 | .box e l,.ptr id z 0 0,x=>match H id with
  | some (.box _ cs)=>match BQ E H b l cs x with
   | (ds,H,b)=>(.ptr id z 0 0,upd H id<|I<|.box e ds,b)
  | _=>(.un,H,b)
 | .same _,v,_=>(v,H,b)
 | h,_,x=>BE E H b h x
def BQ (E:Nat->AV) (H:Hp) (b:Nat):(l:List Sh)->List AV->LTs l->List AV×Hp×Nat
 | [],_,_=>([],H,b)
 | h::l,cs,x=>match Cl E H b h (cs.headD .un) x.1 with
  | (d,H,b)=>match BQ E H b l cs.tail x.2 with
   | (ds,H,b)=>(d::ds,H,b)
end
def Sg:Sh->Bool
 | .box _ _=>A1
 | _=>A3
abbrev B1:List Sh->List Sh
 | []=>[]
 | .box e l::ps=> .box e l::B1 ps
 | .int _::ps=>B1 ps
 | .bool::ps=>B1 ps
 | .str::ps=>B1 ps
 | .sl _::ps=>B1 ps
 | .row _ _::ps=>B1 ps
 | .fz _::ps=>B1 ps
 | .CP _ _::ps=>B1 ps
 | .abx _ _::ps=>B1 ps
 | .arr _::ps=>B1 ps
 | .same _::ps=>B1 ps
 | .agg _::ps=>B1 ps
def FJ:List Sh->List AV->List AV
 | .box _ _::ps,v::vs=>v::FJ ps vs
 | _::ps,_::vs=>FJ ps vs
 | _,_=>[]
def QX:K->Bool
 | .half=>A3
 | .keep=>A3
 | .AL=>A3
 | _=>A1
mutual
def Ly:Sh->Bool
 | .sl _=>A1
 | .fz _=>A1
 | .row _ k=> !QX k
 | .CP _ k=> !QX k
 | .abx _ k=> !QX k
 | .arr k=> !QX k
 | .agg l=>CG l
 | .box _ l=>CG l
 | _=>A3
def CG:List Sh->Bool
 | []=>A3
 | h::l=>Ly h||CG l
end
structure DK where
 ps:List Sh
 rs:List Sh
 g:LTs ps->Option (LTs rs×LTs (B1 ps))
def Lk:List AV->AV
 | [v]=>v
 | vs=> .tup vs
def G6(q:Bool)(ids:List Nat)(s:S):S:=match q with
 | true=>ids.foldl S.freeze s
 | false=>s
def Hu{Ω:Type}(m:DK)(s:S)(b:Nat)(d:Option Nat)(as:List AV)(k:S->Option Ω):Option Ω:=
 let E:Nat->AV:=λi=>(as[i]?).getD .un
 match Fu E s.H m.ps as,NY (Bi s.H m.ps as)&&off (Cc s.H m.ps as) (Bi s.H m.ps as) with
 | some x,A1=>(m.g x).bind λr=>
  let s1:=(CK s.H m.ps as).foldl S.kill s
  let s2:S:=G6 (CG m.rs||CG (B1 m.ps)) (Cc s.H m.ps as) s1
  match BQ E s2.H b (B1 m.ps) (FJ m.ps as) r.2 with
  | (_,H,b1)=>match Ai E H b1 m.rs r.1 with
   | (vs,H,b2)=>match Dn b2 (b+16) with
    | true=>k ({ s2 with H:=H }.put d<|Lk vs)
    | false=>U
 | _,_=>U
structure Cx where
 P:Program
 kd:TypeId->Option K
 Γ:Nat->Option Nat->Option DK
 cz:Nat->Bool
 sp:Nat->Bool
abbrev Inl(Ω:Type):=Nat->Option Nat->List AV->S->(S->Option Ω)->Option Ω
def LM(ρ:Operand->AV)(ps:List (Nat×Operand)):List Nat:=ps.flatMap λp=>match ρ p.2 with
 | .agg cs=>cs.filterMap Gr
 | v=>(Gr v).toList
def CA{Ω:Type}(C:Cx)(inl:Inl Ω)(o:Oper)(b:Nat)(s:S)(k:S->Option Ω):Option Ω:=
 match s.has o.dst with
 | false=>U
 | true=>match o.op with
  | .store t p x=>match I3 C.P t s (s.ev p) (s.ev x) with
   | some s=>k (s.put o.dst DW)
   | none=>U
  | .call c=>match c.callee,c.args.toList,c.argTypes.toList with
   | .value (.func f),as,_=>match C.Γ f o.dst with
    | some m=>Hu m s b o.dst (as.map s.ev) k
    | none=>inl f o.dst (as.map s.ev) s k
   | .builtin .append,[x,y],[t,u]=>match KK C.P C.kd t u s b (s.ev x) (s.ev y) with
    | some (q,v,s)=>if q then k (s.put o.dst v) else U
    | none=>U
   | .builtin .copy,[x,y],[t,_]=>match Ks C.P t s (s.ev x) (s.ev y) with
    | some (v,s)=>k (s.put o.dst v)
    | none=>U
   | _,_,_=>match C3 C.P C.kd s.ev s.H b o.op with
    | some (q,v,os)=>if q then k ({ s with H:=EY s.H b os }.put o.dst v) else U
    | none=>U
  | .slice t x lo hi U=>match s.ev x with
   | .own id=>match Ir C.P s.H t (.own id) with
    | false=>U
    | true=>match K6 s id (match o.dst with
     | some d=>C.cz d
     | none=>A3) (lo.map s.ev) (hi.map s.ev) with
    | some (c,v,s)=>if c then k (s.put o.dst v) else U
    | none=>U
   | _=>match C3 C.P C.kd s.ev s.H b (.slice t x lo hi U) with
    | some (c,v,os)=>if c then k ({ s with H:=EY s.H b os }.put o.dst v) else U
    | none=>U
  | .buildSlice t n ps=>
   let s:=(LM s.ev ps.toList).foldl S.freeze s
   match C3 C.P C.kd s.ev s.H b (.buildSlice t n ps) with
   | some (c,v,os)=>if c then k ({ s with H:=EY s.H b os }.put o.dst v) else U
   | none=>U
  | op=>match C3 C.P C.kd s.ev s.H b op with
   | some (c,v,os)=>if c then k ({ s with H:=EY s.H b os }.put o.dst v) else U
   | none=>U
mutual
def Fl:Sh->Bool
 | .int _=>A1
 | .bool=>A1
 | .str=>A1
 | .agg l=>N6 l
 | _=>A3
def N6:List Sh->Bool
 | []=>A1
 | h::l=>Fl h&&N6 l
end
mutual
def aus:(h:Sh)->LT h
 | .int _=>(0:Int)
 | .bool=>A3
 | .str=>noB
 | .sl _=>[]
 | .row _ _=>[]
 | .fz _=>[]
 | .CP _ _=>[]
 | .abx _ _=>[]
 | .arr _=>[]
 | .same _=>()
 | .agg l=>M1 l
 | .box _ l=>M1 l
def M1:(l:List Sh)->LTs l
 | []=>()
 | h::l=>(aus h,M1 l)
end
def spA(C:Cx)(b:Nat)(d:Option Nat)(ρ:Operand->AV)(H:Hp):Op->Option (Bool×AV)
 | .call c=>match c.callee,c.args.toList,c.argTypes.toList with
  | .value (.func f),as,_=>(C.Γ f d).bind λm=>
   let E:Nat->AV:=λi=>((as.map ρ)[i]?).getD .un
   match N6 m.rs&&(B1 m.ps).isEmpty&&(CK H m.ps<|as.map ρ).isEmpty&&(Bi H m.ps<|as.map ρ).isEmpty with
   | true=>(Fu E H m.ps<|as.map ρ).bind λx=>I ((m.g x).isSome,Lk (Ai E H b m.rs ((m.g x).getD (M1 m.rs,M1<|B1 m.ps)).1).1)
   | false=>U
  | .builtin .append,_,_=>U
  | .builtin .copy,_,_=>U
  | _,_,_=>match JF C.P ρ H c with
   | some (q,v,[])=>I (q,v)
   | _=>U
 | .store _ _ _=>U
 | .buildSlice _ _ _=>U
 | .slice t x lo hi U=>match ρ x with
  | .own _=>U
  | _=>match C3 C.P C.kd ρ H b (.slice t x lo hi U) with
   | some (q,v,[])=>I (q,v)
   | _=>U
 | op=>match C3 C.P C.kd ρ H b op with
  | some (q,v,[])=>I (q,v)
  | _=>U
def eqW(c want:Bool):Bool:=match want with
 | true=>c
 | false=> !c
def Ah(c q:Bool):Bool:=match q with
 | true=>A1
 | false=> !c
def Mg(ops:Array Oper)(s:S):Nat->Oper->Option Bool
 | 0,_=>U
 | n+1,o=>match o.guard with
  | none=>I A1
  | some (j,want)=>(ops[j]?).bind λoj=>oj.dst.bind λg=>match s.T g with
   | .lit (.bool c)=>I (eqW c want)
   | .lit (.tuple _)=>I A3
   | .gd g' w' (.lit (.bool c))=>match oj.guard with
    | some (j',w2)=>match (ops[j']?).bind (·.dst) with
     | some g2=>match Ag g' g2,w' == w2 with
      | true,A1=>(Mg ops s n oj).bind λb=>I<|b&&eqW c want
      | _,_=>U
     | none=>U
    | none=>U
   | _=>U
def wi(c:Option Bool)(q:Bool):Bool:=match c with
 | some c=>Ah c q
 | none=>q
def oK:AV->Bool
 | .gd _ _ _=>A3
 | _=>A1
def S.narrow(s:S)(g:Nat)(w:Bool):S:={ s with T:=upd (λt=>G3 g w<|s.T t) g (.b w) }
def evG{Ω:Type}(C:Cx)(inl:Inl Ω)(ops:Array Oper)(o:Oper)(b:Nat)(s:S)(k:S->Option Ω):Option Ω:=
 match o.guard with
 | none=>CA C inl o b s k
 | some (j,want)=>match (ops[j]?).bind (·.dst),(match o.dst with
   | some d=>C.sp d
   | none=>A3) with
  | none,_=>U
  | some g,A1=>match { s with gs:=upd s.gs g A1 }.has o.dst,spA C b o.dst (s.narrow g want).ev s.H o.op with
   | true,I (q,v)=>match oK v with
    | true=>if wi (Mg ops s 4 o) q then k { s.put o.dst (.gd g want v) with gs:=upd s.gs g A1 } else U
    | false=>U
   | _,_=>U
  | some g,A3=>match s.T g with
   | .lit (.bool c)=>
    let yes:Option Ω:=CA C inl o b { s with T:=upd s.T g (.b want) } k
    let no:Option Ω:=match s.has o.dst with
     | true=>k ({ s with T:=upd s.T g (.b<|!want) }.put o.dst DW)
     | false=>U
    match want with
    | true=>if c then yes else no
    | false=>if c then no else yes
   | .lit (.tuple _)=>match s.has o.dst with
    | true=>k (s.put o.dst DW)
    | false=>U
   | _=>U
def P4{Ω:Type}(C:Cx)(inl:Inl Ω)(ops:Array Oper):List Oper->S->(S->Option Ω)->Option Ω
 | [],s,k=>k s
 | o::l,s,k=>evG C inl ops o s.nid s λs=>P4 C inl ops l { s with nid:=s.nid+16 } k
def ch(Ω:Type):Inl Ω:=λ_ _ _ _ _=>U
mutual
def Db:Sh->Bool
 | .agg _=>A3
 | .same _=>A3
 | .arr _=>A3
 | .box _ l=>Hm l
 | _=>A1
def Hm:List Sh->Bool
 | []=>A1
 | h::l=>Db h&&Hm l
end
def acK:Sh->Bool
 | .agg l=>Hm l
 | .arr _=>A1
 | h=>Db h
def We:List Sh->Bool
 | []=>A1
 | h::l=>acK h&&We l
def okS(m:DK):Bool:=We m.rs&&Hm (B1 m.ps)
def Pc(H:Hp)(x y:AV):List Nat:=match x with
 | .ptr id _ _ _=>match H id with
  | some (.row _ _ _ _)=>id::((GD y).getD []).filterMap Gr
  | _=>[id]
 | _=>[]
def fzl(q:Bool)(l:List Nat):List Nat:=match q with
 | true=>l
 | false=>[]
def Jp(v:AV):List Nat:=(Gr v).toList
def Dl(C:Cx)(s:S)(o:Oper):Option (List Nat):=match o.op with
 | .store _ p x=>I (Pc s.H (s.ev p)<|s.ev x)
 | .call c=>match c.callee,c.args.toList with
  | .value (.func f),as=>match C.Γ f o.dst with
   | some m=>match (B1 m.ps).isEmpty with
    | true=>I (CK s.H m.ps (as.map s.ev)++fzl (CG m.rs||CG (B1 m.ps)) (Cc s.H m.ps<|as.map s.ev))
    | false=>U
   | none=>U
  | .builtin .append,x::_=>I (Jp<|s.ev x)
  | .builtin .copy,x::_=>I (Jp<|s.ev x)
  | _,_=>I []
 | .slice _ x _ _ U=>I (Jp<|s.ev x)
 | .buildSlice _ _ ps=>I (LM s.ev ps.toList)
 | _=>I []
def JM(C:Cx)(s:S)(o:Oper):List Nat:=match o.op with
 | .call c=>match c.callee,c.args.toList with
  | .value (.func f),as=>match C.Γ f o.dst with
   | some m=>CK s.H m.ps (as.map s.ev)++fzl (CG m.rs||CG (B1 m.ps)) (Cc s.H m.ps<|as.map s.ev)
   | none=>[]
  | _,_=>[]
 | _=>[]
def okO(C:Cx)(o:Oper):Bool:=match o.op with
 | .call c=>match c.callee with
  | .value (.func f)=>match C.Γ f o.dst with
   | some m=>okS m
   | none=>A3
  | _=>A1
 | _=>A1
mutual
def IN:Sh->Bool
 | .agg _=>A3
 | .arr _=>A3
 | .box _ l=>Lo l
 | _=>A1
def Lo:List Sh->Bool
 | []=>A1
 | h::l=>IN h&&Lo l
end
def iq:Sh->Bool
 | .agg l=>Lo l
 | .arr _=>A1
 | h=>IN h
def JZ:List Sh->Bool
 | []=>A1
 | h::l=>iq h&&JZ l
def NG:AV->Option (List Nat)
 | .own id=>I [id]
 | .ptr id _ _ _=>I [id]
 | .agg _=>U
 | .tup _=>U
 | .gd _ _ _=>U
 | _=>I []
def ZU:List AV->Option (List Nat)
 | []=>I []
 | c::cs=>(NG c).bind λa=>(ZU cs).bind λb=>I<|a++b
def Mv:AV->Option (List Nat)
 | .agg cs=>ZU cs
 | v=>NG v
def nG:List AV->Option (List Nat)
 | []=>I []
 | c::cs=>(Mv c).bind λa=>(nG cs).bind λb=>I<|a++b
def YA:AV->Option (List Nat)
 | .tup vs=>nG vs
 | v=>Mv v
def VM:AV->Option (List Nat)
 | .gd _ _ v=>YA v
 | v=>YA v
def bit(i:Nat):Nat:=Nat.shiftLeft 1 i
def msk:List Nat->Nat
 | []=>0
 | i::l=>BN (bit i) (msk l)
def nm(b:Nat):Nat:=Nat.shiftLeft 65535 b
def dsj(a b:Nat):Bool:=Ag (OY a b) 0
def sbs(a b:Nat):Bool:=Ag (OY a b) a
def tst(a i:Nat):Bool:= !(dsj a<|bit i)
def adm(H:Hp)(id:Nat):Option (List Nat):=match H id with
 | some (.box _ cs)=>ZU cs
 | _=>I []
def Xc(H:Hp):List Nat->Option (List Nat)
 | []=>I []
 | i::l=>(adm H i).bind λa=>(Xc H l).bind λb=>I<|a++b
def clo(H:Hp):Nat->List Nat->Option Nat
 | 0,[]=>I 0
 | 0,_::_=>U
 | n+1,l=>match l with
  | []=>I 0
  | i::l=>(Xc H<|i::l).bind λm=>(clo H n m).bind λr=>I<|BN (msk<|i::l) r
def bh(ops:Array Oper):Nat->Oper->List Nat
 | 0,_=>[]
 | n+1,o=>match o.guard with
  | none=>[]
  | some (j,_)=>match ops[j]? with
   | some oj=>oj.dst.toList++bh ops n oj
   | none=>[]
abbrev Cw(ops:Array Oper)(o:Oper):List Nat:=o.looksAt ops++bh ops 4 o
def mov:Op->Bool
 | .move _=>A1
 | .assign _=>A1
 | .nilCheck _=>A1
 | .binOp _ _ _ _ _=>A1
 | .unOp _ _ _=>A1
 | .fieldAddr _ _ _=>A1
 | .field _ _ _=>A1
 | .extract _ _=>A1
 | .index _ _ _=>A1
 | .build _ _=>A1
 | _=>A3
def pur(o:Oper):Bool:=match o.op with
 | .store _ _ _=>A3
 | .call _=>A3
 | .slice _ _ _ _ _=>A3
 | .buildSlice _ _ _=>A3
 | _=>A1
structure Rec where
 i:Nat
 b:Nat
 F:Nat
 N:Nat
 W:Nat
 K:Nat
 anc:Nat
 V:List Nat
 o:Oper
def Hd(i:Nat):List Rec->Option Rec
 | []=>U
 | r::l=>match Ag r.i i with
  | true=>I r
  | false=>Hd i l
def QV(acc:List Rec):List Edge->Option Nat
 | []=>I 0
 | e::l=>match FU .any e with
  | true=>(Hd e.on acc).bind λr=>(QV acc l).bind λm=>I<|BN (BN (bit e.on) r.anc) m
  | false=>QV acc l
def ln(t:Nat):Option Nat->Bool
 | some d=>Ag d t
 | none=>A3
def acw(t:Nat)(l:List Nat):Bool:=l.any λx=>Ag x t
def Oi(d:Option Nat)(l:List Nat):Bool:=match d with
 | some t=> !(acw t l)
 | none=>A1
def nr(d e:Option Nat):Bool:=match d,e with
 | some a,I b=> !(Ag a b)
 | _,_=>A1
def RB(t:Nat):List Rec->Option Rec
 | []=>U
 | r::l=>match ln t r.o.dst with
  | true=>I r
  | false=>RB t l
def db(s0:S)(acc:List Rec):List Nat->Option (List Nat)
 | []=>I []
 | t::l=>(match RB t acc with
  | some r=>I r.V
  | none=>VM (s0.T t)).bind λa=>(db s0 acc l).bind λb=>I<|a++b
def mvO(o:Oper):Bool:=mov o.op&&pur o&&o.guard.isNone
def Of(anc:Nat):List Rec->Nat->Nat
 | [],F=>F
 | r::l,F=>Of anc l (match tst anc r.i&& !(dsj r.W F)&& !(mvO r.o) with
  | true=>BN r.F F
  | false=>F)
def zJ(C:Cx)(ops:Array Oper)(s0:S)(o:Oper)(i b:Nat)(acc:List Rec)(s:S):Option Rec:=
 (QV acc o.after.toList).bind λanc=>(db s0 acc<|Cw ops o).bind λl=>(clo s0.H 4 l).bind λc=>
 let F:=match mvO o with
  | true=>BN (msk l) (nm b)
  | false=>Of anc acc (BN c<|nm b)
 let W:=match Dl C s o with
  | none=>F
  | some l=>BN (msk l) (nm b)
 let K:=match Dl C s o with
  | none=>BN (msk<|JM C s o) (nm b)
  | some l=>BN (msk l) (nm b)
 let N:=match mvO o with
  | true=>nm b
  | false=>match pur o,o.guard with
   | true,U=>BN (msk l) (nm b)
   | _,_=>F
 match sbs W F with
 | true=>I { i:=i,b:=b,F:=F,N:=N,W:=W,K:=K,anc:=anc,V:=[],o:=o }
 | false=>U
def ast:Op->Bool
 | .load _ _=>A1
 | _=>A3
def y6(C:Cx)(ops:Array Oper)(s:S):Nat->Nat->AV
 | 0,t=>s.T t
 | n+1,t=>match ops.toList.find? (λo=>ln t o.dst) with
  | none=>s.T t
  | some o=>match mov o.op||ast o.op with
   | true=>(match C3 C.P C.kd (λx=>match x with
     | .tmp t=>y6 C ops s n t
     | x=>s.ev x) s.H s.nid o.op with
    | some (_,v,_)=>v
    | none=> .un)
   | false=> .un
def ay7(o:Oper):Option Nat:=match o.op with
 | .slice _ (.tmp x) _ _ U=>I x
 | _=>U
def mc:List Nat->List Nat
 | []=>[]
 | i::l=>match l.any (Ag i) with
  | true=>i::mc l
  | false=>mc l
def Qb(C:Cx)(ops:Array Oper)(s:S):List Nat:=match ops.toList.filterMap ay7 with
 | []=>[]
 | [_]=>[]
 | xs=>mc (xs.filterMap λx=>Gr<|y6 C ops s 4 x)
def chk(ops:Array Oper)(x r:Rec):Bool:=
 nr x.o.dst r.o.dst&&match tst r.anc x.i with
  | true=>(dsj x.W r.N||sbs x.F r.F)&&(Oi x.o.dst (Cw ops r.o)||(sbs (msk x.V) r.F&&(mov r.o.op||sbs (msk x.V) r.N)))&&dsj x.F (nm r.b)
  | false=>(dsj x.K r.F&&dsj r.K x.F)&&(dsj x.W r.N&&dsj r.W x.N)&&(dsj x.W r.W&&(dsj x.F (nm r.b)&&dsj r.F (nm x.b)))&&Oi x.o.dst (Cw ops r.o)&&Oi r.o.dst (Cw ops x.o)
def vOf(s:S):Option Nat->Option (List Nat)
 | none=>I []
 | some t=>VM (s.T t)
def evD{Ω:Type}(C:Cx)(ops:Array Oper)(s0:S):List Oper->Nat->Nat->List Rec->S->(S->Option Ω)->Option Ω
 | [],_,b,_,s,k=>k { s with nid:=b }
 | o::l,i,b,acc,s,k=>match zJ C ops s0 o i b acc s with
  | none=>U
  | some r=>match acc.all (λx=>chk ops x r)&&okO C o&&Oi o.dst (Cw ops o) with
   | true=>evG C (ch Ω) ops o b s λs'=>(vOf s' o.dst).bind λV=>evD C ops s0 l (i+1) (b+16) ({ r with V:=V } ::acc) s' k
   | false=>U
abbrev Sch:=List<|Nat×Sh
abbrev Lv(c:Sch):Type:=LTs (c.map (·.2))
def fa(H:Hp)(T:Nat->AV):(c:Sch)->Option (Lv c)
 | []=>I ()
 | (t,h)::c=>(Bl T H h<|T t).bind λx=>(fa H T c).bind λxs=>I (x,xs)
def Oo(H:Hp)(T:Nat->AV):Sch->List Nat
 | []=>[]
 | (t,h)::c=>CJ H h (T t)++Oo H T c
def nI(H:Hp)(T:Nat->AV):Sch->List Nat
 | []=>[]
 | (t,h)::c=>CW H h (T t)++nI H T c
def MA(T:Nat->AV)(H:Hp)(b:Nat):(c:Sch)->Lv c->(Nat->AV)×Hp×Nat
 | [],_=>(T,H,b)
 | (t,h)::c,x=>match BE T H b h x.1 with
  | (v,H,b)=>MA (upd T t v) H b c x.2
def mkS(n:Nat)(p:List Nat)(c:Sch)(x:Lv c):S:=match MA (λ_=> .un) (λ_=>U) 0 c x with
 | (T,H,b)=>{ n:=n,T:=T,H:=H,nid:=b,st:=[],pins:=p,gs:=λ_=>A3 }
def aAC(n:Nat)(c:Sch):Bool:=NY (c.map (·.1))&&JZ (c.map (·.2))&&c.all λx=>I4 x.1 n
def rdS(c:Sch)(s:S):Option (Lv c):=match s.st,NY (Oo s.H s.T c)&&off (nI s.H s.T c) (Oo s.H s.T c),aAC s.n c with
 | [],A1,A1=>fa s.H s.T c
 | _,_,_=>U
structure Loop where
 sch:Sch
 Jn:Sch
 xid:Nat
 Jv:Sch
 run:Lv sch->Option (Lv Jv ⊕ Lv Jn)
inductive Adv where
 | nil
 | one (a:Adv)
 | two (a b:Adv)
 | join (c:Sch) (a b:Adv)
 | loop (l:Loop)
def Adv.a:Adv->Adv
 | .one a=>a
 | .two a _=>a
 | .join _ a _=>a
 | _=> .nil
def Adv.z:Adv->Adv
 | .two _ b=>b
 | .join _ _ b=>b
 | _=> .nil
structure Kt (Ω:Type) where
 nrm:S->Option Ω
 ret:S->Option Ω
 ext:Nat->S->Option Ω
def B8{Ω X:Type}(f:X->Option Ω)(m:Option (Ω ⊕ X)):Option Ω:=m.bind λr=>match r with
 | .inl o=>I o
 | .inr x=>f x
def AS{A D Ω:Type}(m:Option (A ⊕ D))(f:A->Option Ω)(g:D->Option Ω):Option Ω:=m.bind λr=>match r with
 | .inl a=>f a
 | .inr b=>g b
def Hq{X Y:Type}(b:X->Option (X ⊕ Y)):Nat->X->Option Y
 | 0,_=>U
 | n+1,x=>(b x).bind λr=>match r with
  | .inl y=>Hq b n y
  | .inr z=>I z
open Classical in
def AZ {X Y:Type} (b:X->Option (X ⊕ Y)) (x:X):Option Y:=
 if h:∃n y,Hq b n x=I y then I (OB<|Ig h) else U
def evk(C:Cx)(inl:(Ω:Type)->Inl Ω):Code->(Ω:Type)->Adv->Kt Ω->S->Option Ω
 | .skip,_,_,k,s=>k.nrm s
 | .region _ ops A3,Ω,_,k,s=>P4 C (inl Ω) ops ops.toList s k.nrm
 | .region _ ops A1,_,_,k,s=>evD C ops ((Qb C ops s).foldl S.freeze s) ops.toList 0 s.nid [] ((Qb C ops s).foldl S.freeze s) k.nrm
 | .seq a b,Ω,.join c u v,k,s=>
  B8 (λx=>evk C inl b Ω v k<|mkS s.n s.pins c x) (evk C inl a (Ω ⊕ Lv c) u { nrm:=λs=>(rdS c s).bind λx=>I<|.inr x,ret:=λs=>(k.ret s).bind λo=>I<|.inl o,ext:=λj s=>(k.ext j s).bind λo=>I (.inl o) } s)
 | .seq a b,Ω,v,k,s=>evk C inl a Ω v.a { k with nrm:=evk C inl b Ω v.z k } s
 | .cond c x y,Ω,v,k,s=>match s.ev c with
  | .lit (.bool b)=>if b then evk C inl x Ω v.a k s else evk C inl y Ω v.z k s
  | _=>U
 | .block id c,Ω,v,k,s=>evk C inl c Ω v.a { k with ext:=λj s=>match Ag j id with
  | true=>k.nrm s
  | false=>k.ext j s } s
 | .loop _,_,.loop l,k,s=>(rdS l.sch s).bind λx=>AS (l.run x) (λy=>k.ret<|mkS s.n s.pins l.Jv y) λy=>k.ext l.xid (mkS s.n s.pins l.Jn y)
 | .exit id,_,_,k,s=>k.ext id s
 | .ret,_,_,k,s=>k.ret s
 | _,_,_,_,_=>U
def Rb(P:Program)(s:S):List ResultVar->Option (List AV)
 | []=>I []
 | .tmp t::l=>(Rb P s l).bind λvs=>I<|s.T t::vs
 | .cell a t::l=>(KG P s.H t<|s.T a).bind λv=>(Rb P s l).bind λvs=>I<|v::vs
def Dh(i:Nat):List Sh->List Nat
 | []=>[]
 | h::ps=>match Sg h with
  | true=>i::Dh (i+1) ps
  | false=>Dh (i+1) ps
def Px(n:Nat)(ps:List Sh)(x:LTs ps):S:=match Ai (λ_=> .un) (λ_=>U) 0 ps x with
 | (vs,H,b)=>{ n:=n,T:=λt=>(vs[t]?).getD DW,H:=H,nid:=b,st:=[],pins:=Dh 0 ps,gs:=λ_=>A3 }
def fin(P:Program)(fn:Func)(m:DK)(s:S):Option (LTs m.rs×LTs (B1 m.ps)):=
 (Rb P s fn.results.toList).bind λvs=>
 match NY (Bi s.H (m.rs++B1 m.ps)<|vs++(Dh 0 m.ps).map s.T)&&off (Cc s.H (m.rs++B1 m.ps)<|vs++(Dh 0 m.ps).map s.T) (Bi s.H (m.rs++B1 m.ps)<|vs++(Dh 0 m.ps).map s.T) with
 | true=>(Fu s.T s.H m.rs vs).bind λr=>(Fu s.T s.H (B1 m.ps)<|(Dh 0 m.ps).map s.T).bind λq=>I (r,q)
 | false=>U
def evF(C:Cx)(inl:(Ω:Type)->Inl Ω)(fn:Func)(body:Code)(v:Adv)(m:DK)(x:LTs m.ps):Option (LTs m.rs×LTs (B1 m.ps)):=
 evk C inl body _ v { nrm:=fin C.P fn m,ret:=fin C.P fn m,ext:=λ_ _=>U } (Px fn.ntmps m.ps x)
def XX(C:Cx)(inl:(Ω:Type)->Inl Ω)(fn:Func)(v:Adv)(m:DK)(x:LTs m.ps):Option (LTs m.rs×LTs (B1 m.ps)):=
 match fn.body with
 | some b=>evF C inl fn b v m x
 | none=>U
def PS:List Nat->Code->Code
 | [],c=>c
 | 0::l,.seq a _=>PS l a
 | 1::l,.seq _ b=>PS l b
 | 0::l,.cond _ a _=>PS l a
 | 1::l,.cond _ _ b=>PS l b
 | 0::l,.block _ a=>PS l a
 | 0::l,.loop a=>PS l a
 | _::_,c=>c
def L4(fn:Func):Code:=fn.body.getD .skip
def evL(C:Cx)(inl:(Ω:Type)->Inl Ω)(n:Nat)(p:List Nat)(c:Code)(v:Adv)(l:Loop)(x:Lv l.sch):Option (Lv l.sch ⊕ (Lv l.Jv ⊕ Lv l.Jn)):=
 evk C inl c _ v { nrm:=λs=>(rdS l.sch s).bind λy=>I<|.inl y,ret:=λs=>(rdS l.Jv s).bind λy=>I<|.inr<|.inl y,ext:=λj s=>match Ag j l.xid with
  | true=>(rdS l.Jn s).bind λy=>I<|.inr<|.inr y
  | false=>U } (mkS n p l.sch x)
def AF:(Ω:Type)->Inl Ω:=ch
def PU:AV->AV
 | .gd _ _ _=> .un
 | v=>v
def plB:AV->Bool
 | .tup _=>A3
 | .gd _ _ _=>A3
 | _=>A1
def N0(C:Cx):Nat->(Ω:Type)->Inl Ω
 | 0=>AF
 | n+1=>λΩ f d as s k=>match C.P.funcs[f]? with
  | none=>U
  | some fn=>match fn.body,fn.name == "runtime.NumGoroutine" with
   | some body,A3=>
    let back:S->Option Ω:=λs'=>match s'.st,Rb C.P s' fn.results.toList with
     | T::st,I vs=>match vs.all plB with
      | true=>k ({ s' with n:=s.n,T:=λt=>PU<|T t,st:=st,pins:=s.pins,gs:=λ_=>A3 }.put d<|Lk vs)
      | false=>U
     | _,_=>U
    match Ag as.length fn.params.size&&Dn as.length fn.ntmps&&as.all plB with
    | true=>evk C (N0 C n) body Ω .nil { nrm:=back,ret:=back,ext:=λ_ _=>U } { s with n:=fn.ntmps,T:=λt=>(as[t]?).getD DW,st:=s.T::s.st,pins:=[],gs:=λ_=>A3 }
    | false=>U
   | _,_=>U
end Go.VS
end
